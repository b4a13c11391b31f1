/- Contracts: mails spoken, told a second time; their size; boxes. -/
import Derived.Test.YtpmpggihngmnoaaGreatDoorScriptSayC66sessionsZ
namespace Go.Proofs.YtpmpggihngmnoaaGreatDoor.Q
open Go Go.AM
set_option linter.unusedSimpArgs false
set_option linter.unusedVariables false
set_option linter.unusedSectionVars false
theorem spec_SpeakMail_c (m : Mail) (h : SmM m) : pc id_spec_SpeakMail [.agg (cM m)] = some (.tup [.sl true (vT (spokeL m)), .bool (spokeB m)]) := by
 have e0 := spec_MailValid_c m h
 simp only [cM_e] at e0
 have hf := h.1
 have ht := h.2.1.1
 have hl := h.2.2.1
 suffices hg : Gets (cv id_spec_SpeakMail [.agg (cM m)] []) fun r => r.1 = .tup [.sl true (vT (spokeL m)), .bool (spokeB m)] by
  obtain ⟨⟨v, H⟩, e, h⟩ := hg
  have h : v = _ := h
  subst h
  exact pc_of e (by simp only [evv]) (by simp only [evv])
 rw [spec_SpeakMail_eq]
 by_cases hv : mailT m 1 30 = true
 ·have a1 := t_add .str [77, 65, 73, 76, 32, 70, 82, 79, 77, 58, 60] m.from_ (by simp; omega)
  have a2 := t_add .str ([77, 65, 73, 76, 32, 70, 82, 79, 77, 58, 60] ++ m.from_) [62] (by simp; omega)
  simp only [app_cons', app_nil'] at a1 a2
  simp only [evv, e0, hv, a1, a2]
  refine Gets.loop2 (I := fun n st H => ∃ (i : Nat) (out : List Bs), n = m.to.length - i /\ i <= m.to.length /\ st = [.sl true (vT out), .int .i64 (i : Nat), .str m.from_, .sl false (vT m.to), .sl false (vT m.lines)] /\ out = [fromL m.from_] ++ (m.to.take i).map rcptT)
   (P := fun q vs H => ∃ out, q = 0 /\ vs = [.sl true (vT out), .str m.from_, .sl false (vT m.to), .sl false (vT m.lines)] /\ out = [fromL m.from_] ++ m.to.map rcptT) (n := m.to.length) ?_ ⟨0, [fromL m.from_], by omega, by omega, rfl, by simp⟩ ?_
  ·rintro n st H ⟨i, out, rfl, hi, rfl, ho⟩
   have hol : out.length = i + 1 := by rw [ho]; simp; omega
   rw [spec_SpeakMail_l5_eq]
   by_cases hlt : i < m.to.length
   ·have i1 := vT_idx false m.to .i64 i hlt
    have hsm := h.2.1.2 _ (List.getElem_mem hlt)
    have b1 := t_add .str [82, 67, 80, 84, 32, 84, 79, 58, 60] m.to[i] (by simp; omega)
    have b2 := t_add .str ([82, 67, 80, 84, 32, 84, 79, 58, 60] ++ m.to[i]) [62] (by simp; omega)
    have e2 : vBinV (.int .i64) .add (.int .i64 (i : Int)) (.int .i64 1) = some (.int .i64 ((i + 1 : Nat) : Int)) := n_addN _ i 1 (by omega)
    have ap := sl_app1 (l := out) ([82, 67, 80, 84, 32, 84, 79, 58, 60] ++ m.to[i] ++ [62]) (by omega)
    simp only [app_cons', app_nil'] at b1 b2 ap
    simp only [evv, i1, b1, b2, e2, ap, show ((i : Int) < (m.to.length : Int)) from by omega]
    refine ⟨_, rfl, .inr ⟨rfl, m.to.length - (i + 1), by omega, i + 1, _, rfl, by omega, rfl, ?_⟩⟩
    rw [ho, List.take_succ_eq_append_getElem hlt]
    show [fromL m.from_] ++ (m.to.take i).map rcptT ++ [rcptT m.to[i]] = [fromL m.from_] ++ (m.to.take i ++ [m.to[i]]).map rcptT
    rw [List.map_append, List.append_assoc]; rfl
   ·have : i = m.to.length := by omega
    subst this
    simp only [evv, show ¬ ((m.to.length : Int) < (m.to.length : Int)) from by omega]
    exact ⟨_, rfl, .inl ⟨0, rfl, out, rfl, rfl, by rw [ho, List.take_length]; rfl⟩⟩
  rintro _ _ H ⟨out, rfl, rfl, ho⟩
  have hol : out.length = m.to.length + 1 := by rw [ho]; simp
  have ap := sl_app1 (l := out) [68, 65, 84, 65] (by omega)
  simp only [evv, ap]
  refine Gets.loop2 (I := fun n st H => ∃ (i : Nat) (out : List Bs), n = m.lines.length - i /\ i <= m.lines.length /\ st = [.sl true (vT out), .int .i64 (i : Nat), .str m.from_, .sl false (vT m.to), .sl false (vT m.lines)] /\ out = headL m ++ (m.lines.take i).map stuffT /\ ((m.lines.take i).any fun l => !textT (stuffT l)) = false)
   (P := fun q vs H => (q = 0 /\ vs = [.sl true (vT (headL m ++ m.lines.map stuffT))] /\ (m.lines.any fun l => !textT (stuffT l)) = false) ∨ (q = 1 /\ vs = [.sl true [], .bool false] /\ (m.lines.any fun l => !textT (stuffT l)) = true)) (n := m.lines.length) ?_ ⟨0, _, by omega, by omega, rfl, by rw [ho]; simp [headL], rfl⟩ ?_
  ·rintro n st H ⟨i, out, rfl, hi, rfl, ho, hok⟩
   have hol : out.length = m.to.length + 2 + i := by rw [ho]; simp [headL]; omega
   rw [spec_SpeakMail_l10_eq]
   by_cases hlt : i < m.lines.length
   ·have i1 := vT_idx false m.lines .i64 i hlt
    have hsm := h.2.2.2 _ (List.getElem_mem hlt)
    have hsl := stuffT_len m.lines[i]
    have e1 := spec_TextValid_c (stuffT m.lines[i]) (by omega)
    have e2 : vBinV (.int .i64) .add (.int .i64 (i : Int)) (.int .i64 1) = some (.int .i64 ((i + 1 : Nat) : Int)) := n_addN _ i 1 (by omega)
    have ap := sl_app1 (l := out) (stuffT m.lines[i]) (by omega)
    have fin : ∀ H', Gets ((qc id_spec_TextValid [.str (stuffT m.lines[i])]).bind fun x => (vUnV .not x).bind fun y => ifVV y (some (0, [.sl true [], .bool false], H')) ((appV false 1 16 (vT out) (.sl true [[.str (stuffT m.lines[i])]])).bind fun z => some (1, [z, .int .i64 (i : Nat), .str m.from_, .sl false (vT m.to), .sl false (vT m.lines)], H'))) fun r : Nat × List V × VH => (textT (stuffT m.lines[i]) = false /\ r = (0, [.sl true [], .bool false], H')) ∨ (textT (stuffT m.lines[i]) = true /\ r = (1, [.sl true (vT (out ++ [stuffT m.lines[i]])), .int .i64 (i : Nat), .str m.from_, .sl false (vT m.to), .sl false (vT m.lines)], H')) := by
     intro H'
     by_cases ht : textT (stuffT m.lines[i]) = true
     ·simp only [evv, e1, ht, ap]
      exact Gets.here (.inr ⟨trivial, rfl⟩)
     ·have ht' : textT (stuffT m.lines[i]) = false := by simpa using ht
      simp only [evv, e1, ht']
      exact Gets.here (.inl ⟨trivial, rfl⟩)
    have nx : ((m.lines.take (i + 1)).any fun l => !textT (stuffT l)) = !textT (stuffT m.lines[i]) := by rw [List.take_succ_eq_append_getElem hlt, List.any_append, hok, List.any_cons, List.any_nil, Bool.or_false, Bool.false_or]
    have whole : textT (stuffT m.lines[i]) = false -> (m.lines.any fun l => !textT (stuffT l)) = true := fun hq => by
     rw [List.any_eq_true]; exact ⟨m.lines[i], List.getElem_mem hlt, by rw [hq]; rfl⟩
    have nxo : headL m ++ (m.lines.take i).map stuffT ++ [stuffT m.lines[i]] = headL m ++ (m.lines.take (i + 1)).map stuffT := by
     rw [List.take_succ_eq_append_getElem hlt, List.map_append, List.append_assoc]; rfl
    have step : ∀ (K : Option (Nat × List V × VH)), K = ((qc id_spec_TextValid [.str (stuffT m.lines[i])]).bind fun x => (vUnV .not x).bind fun y => ifVV y (some (0, [.sl true [], .bool false], H)) ((appV false 1 16 (vT out) (.sl true [[.str (stuffT m.lines[i])]])).bind fun z => some (1, [z, .int .i64 (i : Nat), .str m.from_, .sl false (vT m.to), .sl false (vT m.lines)], H))) -> ∃ r, K = some r /\ ((textT (stuffT m.lines[i]) = false /\ r = (0, [.sl true [], .bool false], H)) ∨ (textT (stuffT m.lines[i]) = true /\ r = (1, [.sl true (vT (out ++ [stuffT m.lines[i]])), .int .i64 (i : Nat), .str m.from_, .sl false (vT m.to), .sl false (vT m.lines)], H))) := fun K hK => by
     rw [hK]; exact fin H
    by_cases h0 : m.lines[i] = []
    ·have hs : stuffT m.lines[i] = [] := by rw [h0]; rfl
     rw [hs] at e1 ap nx whole nxo
     by_cases ht : textT ([] : Bs) = true
     ·simp only [evv, i1, h0, e1, ht, ap, e2, show ((i : Int) < (m.lines.length : Int)) from by omega]
      exact ⟨_, rfl, .inr ⟨rfl, m.lines.length - (i + 1), by omega, i + 1, _, rfl, by omega, rfl, by rw [ho, nxo], by rw [nx, ht]; rfl⟩⟩
     ·exact absurd rfl ht
    ·have hlen : 0 < m.lines[i].length := List.length_pos_iff.2 h0
     have p1 : vIndexSV (.str m.lines[i]) (.int .i64 0) = some (.int .u8 ((m.lines[i])[0].toNat : Int)) := t_idx m.lines[i] .i64 0 hlen
     have hpre : preT m.lines[i] [46] = decide ((((m.lines[i])[0].toNat : Nat) : Int) = 46) := by
      rw [pre_dot, List.head?_eq_getElem?, List.getElem?_eq_getElem hlen]
      refine decide_eq_decide.2 ⟨fun e => ?_, fun e => ?_⟩
      ·have e := Option.some.inj e; rw [e]; rfl
      ·have : (m.lines[i])[0] = 46 := UInt8.toNat_inj.1 (by show (m.lines[i])[0].toNat = 46; omega)
       rw [this]
     have a1 := t_add .str [46] m.lines[i] (by simp; omega)
     simp only [app_cons', app_nil'] at a1
     by_cases hd : (((m.lines[i])[0].toNat : Nat) : Int) = 46
     ·have hs : stuffT m.lines[i] = 46 :: m.lines[i] := by unfold stuffT; rw [hpre, if_pos (decide_eq_true hd)]
      rw [hs] at e1 ap nx whole nxo
      by_cases ht : textT (46 :: m.lines[i]) = true
      ·simp only [evv, i1, h0, p1, hd, a1, e1, ht, ap, e2, show ((i : Int) < (m.lines.length : Int)) from by omega]
       exact ⟨_, rfl, .inr ⟨rfl, m.lines.length - (i + 1), by omega, i + 1, _, rfl, by omega, rfl, by rw [ho, nxo], by rw [nx, ht]; rfl⟩⟩
      ·have ht' : textT (46 :: m.lines[i]) = false := by simpa using ht
       simp only [evv, i1, h0, p1, hd, a1, e1, ht', show ((i : Int) < (m.lines.length : Int)) from by omega]
       exact ⟨_, rfl, .inl ⟨1, rfl, .inr ⟨rfl, rfl, whole ht'⟩⟩⟩
     ·have hs : stuffT m.lines[i] = m.lines[i] := by unfold stuffT; rw [hpre, if_neg (by simpa using hd)]
      rw [hs] at e1 ap nx whole nxo
      by_cases ht : textT m.lines[i] = true
      ·simp only [evv, i1, h0, p1, hd, e1, ht, ap, e2, show ((i : Int) < (m.lines.length : Int)) from by omega]
       exact ⟨_, rfl, .inr ⟨rfl, m.lines.length - (i + 1), by omega, i + 1, _, rfl, by omega, rfl, by rw [ho, nxo], by rw [nx, ht]; rfl⟩⟩
      ·have ht' : textT m.lines[i] = false := by simpa using ht
       simp only [evv, i1, h0, p1, hd, e1, ht', show ((i : Int) < (m.lines.length : Int)) from by omega]
       exact ⟨_, rfl, .inl ⟨1, rfl, .inr ⟨rfl, rfl, whole ht'⟩⟩⟩
   ·have : i = m.lines.length := by omega
    subst this
    rw [List.take_length] at ho hok
    subst ho
    simp only [evv, show ¬ ((m.lines.length : Int) < (m.lines.length : Int)) from by omega]
    exact ⟨_, rfl, .inl ⟨0, rfl, .inl ⟨rfl, rfl, hok⟩⟩⟩
  rintro _ _ H2 (⟨rfl, rfl, hb⟩ | ⟨rfl, rfl, hb⟩)
  ·have ap2 := sl_app1 (l := headL m ++ m.lines.map stuffT) [46] (by simp [headL]; omega)
   have h1 : spokeB m = true := by unfold spokeB; rw [hb, hv]; rfl
   have h2 : spokeL m = headL m ++ m.lines.map stuffT ++ [[46]] := by unfold spokeL; rw [if_pos h1]
   rw [h1, h2]
   simp only [evv, ap2]
   exact Gets.here rfl
  ·have h1 : spokeB m = false := by unfold spokeB; rw [hb, hv]; rfl
   have h2 : spokeL m = [] := by unfold spokeL; rw [if_neg (by rw [h1]; simp)]
   rw [h1, h2]
   simp only [evv]
   exact Gets.here rfl
 ·have h1 : spokeB m = false := by unfold spokeB; rw [show mailT m 1 30 = false from by simpa using hv]; rfl
  have h2 : spokeL m = [] := by unfold spokeL; rw [if_neg (by rw [h1]; simp)]
  rw [h1, h2]
  simp only [evv, e0, hv]
  exact Gets.here rfl
theorem mwTexts_c (a b : List Bs) (h : a.length <= 4000000) : qc id_laws_mwTexts [.sl false (vT a), .sl false (vT b)] = some (.bool (decide (a = b))) := by
 refine qc_of (H := []) ?_ (by simp only [evv]) rfl
 show cv _ _ _ = _
 rw [laws_mwTexts_eq]
 by_cases hl : a.length = b.length
 ·have loop := lv_eq (B := laws_mwTexts_l4) (S := fun i => [.sl false (vT a), .sl false (vT b), .int .i64 (i : Nat)]) (H := []) (m0 := 0) (m1 := 1) (vs0 := []) (vs1 := [.bool false]) a b hl
   (fun i hi => by
    have i1 := vT_idx false a .i64 i hi
    have i2 := vT_idx false b .i64 i (by omega)
    have e2 : vBinV (.int .i64) .add (.int .i64 (i : Int)) (.int .i64 1) = some (.int .i64 ((i + 1 : Nat) : Int)) := n_addN _ i 1 (by omega)
    rw [laws_mwTexts_l4_eq]
    simp only [evv, i1, i2, e2, show ((i : Int) < (a.length : Int)) from by omega]
    by_cases e : a[i] = b[i] <;> simp only [evv, e])
   (by
    rw [laws_mwTexts_l4_eq]
    simp only [evv, show ¬ ((a.length : Int) < (a.length : Int)) from by omega])
  have loop' : lpW' laws_mwTexts_l4 [.sl false (vT a), .sl false (vT b), .int .i64 0] [] = _ := loop
  simp only [evv, hl, loop']
  by_cases e : a = b <;> simp only [evv, e]
 ·have : a ≠ b := fun e => hl (by rw [e])
  simp only [evv, show ¬ ((a.length : Int) = (b.length : Int)) from by omega, this]
end Go.Proofs.YtpmpggihngmnoaaGreatDoor.Q

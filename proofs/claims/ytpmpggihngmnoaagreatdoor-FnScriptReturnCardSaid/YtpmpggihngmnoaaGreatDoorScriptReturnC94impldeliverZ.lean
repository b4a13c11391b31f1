/- Contracts: mails come to mailboxes, the program's way. -/
import Derived.Test.YtpmpggihngmnoaaGreatDoorScriptReturnC93placeZ
namespace Go.Proofs.YtpmpggihngmnoaaGreatDoor.Q
open Go Go.AM
set_option linter.unusedSimpArgs false
set_option linter.unusedVariables false
set_option linter.unusedSectionVars false
theorem dl1_path (l : List Box) (m : Mail) (to : Bs) (j : Nat) : (boxAt (dl1 l m to).1 j).path = (boxAt l j).path := by
 unfold dl1
 split
 ·rename_i ha
  have hx := findIdx_isP ha
  split
  ·rfl
  ·simp only
   by_cases hj : j = l.findIdx (isP to)
   ·subst hj
    rw [boxAt_get (by simpa using hx), List.getElem_set_self]
   ·unfold boxAt
    rw [List.getD_eq_getElem?_getD, List.getElem?_set_ne (by omega), <- List.getD_eq_getElem?_getD]
 ·rfl
theorem sort_dl1 {l : List Box} (h : SortX l) (m : Mail) (to : Bs) : SortX (dl1 l m to).1 := fun i j hij hj => by
 rw [dl1_path, dl1_path]
 exact h i j hij (by rw [dl1_len] at hj; exact hj)
theorem sort_dlN {m : Mail} : ∀ {tos : List Bs} {s : List Box × List Int}, SortX s.1 -> SortX (dlN m tos s).1
 | [], s, h => h
 | t :: tos, s, h => by
   have := sort_dlN (m := m) (tos := tos) (s := dlS m s t) (sort_dl1 h m t)
   simpa [dlN] using this
theorem impl_Deliver_g (l : List Box) (m : Mail) (h : SmXs l) (hp : ∀ b ∈ l, b.path.length <= 1049600) (hm : SmM m) (ht : ∀ t ∈ m.to, t.length <= 1049600) :
 Gets2 (cv id_impl_DeliverMail [.sl false (vR eX l), .agg (cM m)] []) (fun r H => (dlvB l m = false /\ r = .tup [.sl true [], .sl true [], .bool false]) ∨
  (dlvB l m = true /\ ∃ o, r = .tup [o, .sl true (vI .i64 (dlvR l m).2), .bool true] /\ HoX o H (dlvR l m).1)) := by
 have e1 := impl_BoxesValid_c l h
 have e2 := impl_MailValid_c m hm
 simp only [cM_e] at e2
 refine Gets2.of ?_
 rw [impl_DeliverMail_eq]
 unfold dlvB dlvR
 by_cases hb : boxesT l = true
 ·rw [hb] at e1
  by_cases hv : mailT m 1 30 = true
  ·rw [hv] at e2
   have hok := boxesT_ok h hb hp
   have hto : m.to.length <= 10 := mailT_to hv
   have e3 := copyBoxes_c l h
   have e4 := CloneT_c m.lines (by have := hm.2.2.1; omega)
   simp only [evv, cM_e, qco_d, pco_d, e1, e2, hb, hv, e3]
   have loop : ∀ (o0 : V) (H0 : VH), HoX o0 H0 l -> Gets ((lpW' impl_DeliverMail_l5 [o0, .sl true [], .sl false (vT m.to), .int .i64 (m.to.length : Nat), .int .i64 0, .str m.from_, .sl false (vT m.to), .sl false (vT m.lines)] H0).bind fun r => inN r.1 [gotV 2 r.2.1 fun v => some (V.tup [v 0, v 1, .bool true], r.2.2)])
    (fun r => ∃ o, r.1 = .tup [o, .sl true (vI .i64 (dlN m m.to (l, [])).2), .bool true] /\ HoX o r.2 (dlN m m.to (l, [])).1) := by
    intro o0 H0 h0
    refine Gets.loop2 (I := fun n st H => ∃ (i : Nat) (o : V), n = m.to.length - i /\ i <= m.to.length /\ st = [o, .sl true (vI .i64 (dlN m (m.to.take i) (l, [])).2), .sl false (vT m.to), .int .i64 (m.to.length : Nat), .int .i64 (i : Nat), .str m.from_, .sl false (vT m.to), .sl false (vT m.lines)] /\ HoX o H (dlN m (m.to.take i) (l, [])).1)
     (P := fun q vs H => q = 0 /\ ∃ o, vs = [o, .sl true (vI .i64 (dlN m m.to (l, [])).2)] /\ HoX o H (dlN m m.to (l, [])).1) (n := m.to.length) ?_ ⟨0, o0, by omega, by omega, rfl, h0⟩ ?_
    ·rintro n st H ⟨i, o, rfl, hi, rfl, ho⟩
     rw [impl_DeliverMail_l5_eq]
     by_cases hlt : i < m.to.length
     ·have i1 := vT_idx false m.to .i64 i hlt
      have e5 : vBinV (.int .i64) .add (.int .i64 (i : Int)) (.int .i64 1) = some (.int .i64 ((i + 1 : Nat) : Int)) := n_addN _ i 1 (by omega)
      have hsn := dlN_snoc m (m.to.take i) m.to[i] (l, [])
      rw [<- List.take_succ_eq_append_getElem hlt] at hsn
      have hokI := okx_dlN (tos := m.to.take i) (s := (l, [])) hm hok (fun t hh => ht t (List.mem_of_mem_take hh))
      have hso := sort_dlN (m := m) (tos := m.to.take i) (s := (l, [])) (sort_of hb)
      have hln := dlN_len m (m.to.take i) (l, [])
      have hcl : (dlN m (m.to.take i) (l, [])).2.length <= 1000 := by rw [hln.1]; simp; omega
      have hfin : ∀ (o' : V) (H' : VH), HoX o' H' (dl1 (dlN m (m.to.take i) (l, [])).1 m m.to[i]).1 -> HoX o' H' (dlN m (m.to.take (i + 1)) (l, [])).1 := fun o' H' hh => by rw [hsn]; exact hh
      have hcs : (dlN m (m.to.take (i + 1)) (l, [])).2 = (dlN m (m.to.take i) (l, [])).2 ++ [(dl1 (dlN m (m.to.take i) (l, [])).1 m m.to[i]).2] := by rw [hsn]; rfl
      generalize hL : dlN m (m.to.take i) (l, []) = S at *
      obtain ⟨L, cs⟩ := S
      simp only at hfin hcs ho hcl hokI hso
      have f1 := HoX.q ho id_impl_boxPlace [.str m.to[i]] rfl
      simp only [List.map_cons, List.map_nil, strip] at f1
      obtain ⟨at_, kn, hat1, hbp, hat2, hat3⟩ := boxPlace_g L m.to[i] (by have := hokI.1; omega)
      obtain ⟨q1, q2, _, _⟩ := hat3 hso
      rw [hbp] at f1
      by_cases ha : L.any (isP m.to[i]) = true
      ·have hx := findIdx_isP ha
       have hat := boxAt_get hx
       have hk1 : kn = true := by rw [q1, ha]
       rw [hk1] at f1
       rw [q2 hk1] at f1
       obtain ⟨k, rfl, hk⟩ := HoX.ne ho (fun e => by subst e; simp at hx)
       have hbx := hokI.2 _ (List.getElem_mem hx)
       have g1 : vIdxV 2 (.obs k 0 L.length 2) (.int .i64 (L.findIdx (isP m.to[i]) : Nat)) = some (.ptr k (L.findIdx (isP m.to[i]) * 2)) := vi_obs hx
       have g2 := box_peek hk hx globB
       have g3 := box_take hk hx globB
       simp only [strip] at f1
       unfold dl1 at hfin hcs
       simp only [ha, if_true, hat] at hfin hcs
       by_cases h4 : L[L.findIdx (isP m.to[i])].mails.length = 4
       ·simp only [h4, if_true] at hfin hcs
        have hh4 : ((L[L.findIdx (isP m.to[i])].mails.length : Nat) : Int) = 4 := by omega
        simp only [evv, i1, f1, g1, g2, hh4, ints_app, e5, show ((i : Int) < (m.to.length : Int)) from by omega, show cs.length + 1 <= 4000000 from by omega]
        exact ⟨_, rfl, .inr ⟨rfl, m.to.length - (i + 1), by omega, i + 1, _, by omega, by omega, by rw [hcs], hfin _ _ ho⟩⟩
       ·simp only [h4, if_false] at hfin hcs
        have g4 := mails_appO (l := L[L.findIdx (isP m.to[i])].mails) (put1 m m.to[i]) (by have := hbx.2.1; simp at this; omega)
        have g5 := fun w => box_put hk hx (L[L.findIdx (isP m.to[i])].mails ++ [put1 m m.to[i]]) w
        simp only [put1] at g4 g5 hfin hcs
        have hh4 : ¬ ((L[L.findIdx (isP m.to[i])].mails.length : Int) = 4) := by omega
        have g4' : ∀ H, appO false false 3 64 (.sl true (vO L[L.findIdx (isP m.to[i])].mails)) (.sl true [[.str m.from_, .sl true [[.str m.to[i]]], .sl true (vT m.lines)]]) H = some (.sl true (vO (L[L.findIdx (isP m.to[i])].mails ++ [⟨m.from_, [m.to[i]], m.lines⟩])), H) := g4
        simp only [evv, i1, f1, g1, g2, g3, g4', g5, e4, pco_d, hh4, ints_app, e5, show ((i : Int) < (m.to.length : Int)) from by omega, show cs.length + 1 <= 4000000 from by omega]
        refine ⟨_, rfl, .inr ⟨rfl, m.to.length - (i + 1), by omega, i + 1, _, by omega, by omega, by rw [hcs], hfin _ _ (.inr ⟨fun e => ?_, k, ?_, ?_⟩)⟩⟩
        ·have := congrArg List.length e; simp at this; subst this; simp at hx
        ·rw [List.length_set]
        ·simp [(List.getElem?_eq_some_iff.1 hk).1]
      ·have ha' : L.any (isP m.to[i]) = false := by simpa using ha
       rw [q1, ha'] at f1
       unfold dl1 at hfin hcs
       simp only [ha', Bool.false_eq_true, if_false] at hfin hcs
       simp only [evv, i1, f1, ints_app, e5, show ((i : Int) < (m.to.length : Int)) from by omega, show cs.length + 1 <= 4000000 from by omega]
       exact ⟨_, rfl, .inr ⟨rfl, m.to.length - (i + 1), by omega, i + 1, _, by omega, by omega, by rw [hcs], hfin _ _ ho⟩⟩
     ·have : i = m.to.length := by omega
      subst this
      rw [List.take_length] at ho ⊢
      simp only [evv, show ¬ ((m.to.length : Int) < (m.to.length : Int)) from by omega]
      exact ⟨_, rfl, .inl ⟨0, rfl, rfl, _, rfl, ho⟩⟩
    ·rintro _ _ H ⟨rfl, o, rfl, ho⟩
     simp only [evv]
     exact Gets.here ⟨_, rfl, ho⟩
   by_cases hn : l = []
   ·subst hn
    have := loop (.sl true []) [] (.inl ⟨rfl, rfl⟩)
    refine Gets.mono ?_ (fun r hr => .inr ⟨by first | trivial | rfl, hr⟩)
    show Gets (promB 1 (.sl true []) [] _) _
    rw [promB_nil]
    exact this
   ·have := loop (.obs 0 0 l.length 2) [(vOX l).flatten] (.inr ⟨hn, 0, rfl, rfl⟩)
    refine Gets.mono ?_ (fun r hr => .inr ⟨by first | trivial | rfl, hr⟩)
    rw [promB_one [] _ (fun e => hn (by simpa [vOX] using e)) (vOX_rows l) (vOX_own l), vOX_len]
    exact this
  ·have hv' : mailT m 1 30 = false := by simpa using hv
   rw [hv'] at e2
   simp only [evv, cM_e, qco_d, e1, e2, hb, hv']
   exact Gets.here (.inl ⟨rfl, rfl⟩)
 ·have hb' : boxesT l = false := by simpa using hb
  rw [hb'] at e1
  simp only [evv, cM_e, qco_d, e1, hb']
  exact Gets.here (.inl ⟨rfl, rfl⟩)
theorem impl_Deliver_p (l : List Box) (m : Mail) (h : SmXs l) (hp : ∀ b ∈ l, b.path.length <= 1049600) (hm : SmM m) (ht : ∀ t ∈ m.to, t.length <= 1049600) :
 ∃ o, pc id_impl_DeliverMail [.sl false (vR eX l), .agg (cM m)] = some (.tup [.sl o (vR eX (dlvR l m).1), .sl true (vI .i64 (dlvR l m).2), .bool (dlvB l m)]) := by
 obtain ⟨v, H, e, hq⟩ := impl_Deliver_g l m h hp hm ht
 rcases hq with ⟨hf, rfl⟩ | ⟨hf, o, rfl, ho⟩
 ·refine ⟨true, ?_⟩
  have : dlvR l m = ([], []) := by unfold dlvR; unfold dlvB at hf; rw [hf]; rfl
  rw [this, hf]
  exact pc_of e (by simp only [evv, cM_e]) rfl
 ·rw [hf]
  rcases ho with ⟨hl, rfl⟩ | ⟨hne, k, rfl, hk⟩
  ·refine ⟨true, ?_⟩
   rw [hl]
   exact pc_of e (by simp only [evv, cM_e]) (by simp only [dataL, data, vR_data, vI_data, Bool.and_self, dataLL])
  ·refine ⟨false, pc_un e (by simp only [evv, cM_e]) (by simp only [data, dataL, Bool.false_and]) ?_ (by simp only [data, dataL, vR_data, vI_data, Bool.and_self])⟩
   have := unobs1_obs hk (vOX_rows _)
   rw [vOX_len, vOX_strip] at this
   simp only [unobs, unobsL, this, unobs1_sl, show ∀ b, unobs1 H (.bool b) = some (.bool b) from fun _ => rfl, Option.bind_some, Option.map_some]
end Go.Proofs.YtpmpggihngmnoaaGreatDoor.Q

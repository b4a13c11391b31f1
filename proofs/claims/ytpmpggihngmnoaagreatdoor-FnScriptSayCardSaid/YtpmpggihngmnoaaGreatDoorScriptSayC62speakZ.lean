/- Contracts: mails spoken as lines. -/
import Derived.Test.YtpmpggihngmnoaaGreatDoorScriptSayC60hopsZ
namespace Go.Proofs.YtpmpggihngmnoaaGreatDoor.Q
open Go Go.AM
set_option linter.unusedSimpArgs false
set_option linter.unusedVariables false
set_option linter.unusedSectionVars false
def stuffT (l : Bs) : Bs := if preT l [46] = true then 46 :: l else l
def rcptT (t : Bs) : Bs := [82, 67, 80, 84, 32, 84, 79, 58, 60] ++ t ++ [62]
def fromL (f : Bs) : Bs := [77, 65, 73, 76, 32, 70, 82, 79, 77, 58, 60] ++ f ++ [62]
def headL (m : Mail) : List Bs := [fromL m.from_] ++ m.to.map rcptT ++ [[68, 65, 84, 65]]
def spokeB (m : Mail) : Bool := mailT m 1 30 && !(m.lines.any fun l => !textT (stuffT l))
def spokeL (m : Mail) : List Bs := if spokeB m = true then headL m ++ m.lines.map stuffT ++ [[46]] else []
theorem stuffT_len (l : Bs) : (stuffT l).length <= l.length + 1 := by unfold stuffT; split <;> simp
theorem wr_mem {p : Int -> Bool} {s : Bs} (h : ∀ b ∈ s, p b.toNat = false) : (s.any fun b => p b.toNat) = false := by
 rw [List.any_eq_false]; intro b hb; simp [h b hb]
theorem loc_text {s : Bs} (h : locT s = true) : (∀ b ∈ s, wrB b.toNat = false) /\ s.length <= 30 := by
 simp only [locT, Bool.and_eq_true, Bool.not_eq_true', List.any_eq_false, decide_eq_true_eq] at h
 refine ⟨fun b hb => ?_, h.1⟩
 rcases splitB_mem 46 s b hb with rfl | ⟨t, h1, h2⟩
 ·rfl
 ·have h3 : atomT t = true := by have := h.2 t h1; simpa using this
  simp only [atomT, Bool.and_eq_true, List.all_eq_true] at h3
  have h4 := h3.2 b h2
  simp only [atomB, decide_eq_true_eq] at h4
  exact decide_eq_false (by omega)
theorem dom_text {s : Bs} (h : domT s = true) : (∀ b ∈ s, wrB b.toNat = false) /\ s.length <= 40 := by
 simp only [domT, Bool.and_eq_true, Bool.not_eq_true', List.any_eq_false, decide_eq_true_eq] at h
 refine ⟨fun b hb => ?_, h.1⟩
 rcases splitB_mem 46 s b hb with rfl | ⟨t, h1, h2⟩
 ·rfl
 ·have h3 : labT t = true := by have := h.2 t h1; simpa using this
  simp only [labT, Bool.and_eq_true, List.all_eq_true] at h3
  have h4 := h3.2 b h2
  simp only [labB, decide_eq_true_eq] at h4
  exact decide_eq_false (by omega)
theorem path_text {s : Bs} (h : pathT s = true) : (∀ b ∈ s, wrB b.toNat = false) /\ s.length <= 71 := by
 simp only [pathT, Bool.and_eq_true, decide_eq_true_eq] at h
 have hc := path_cut h.1
 have h1 := loc_text h.2.1
 have h2 := dom_text h.2.2
 constructor
 ·intro b hb
  rw [hc] at hb
  rcases List.mem_append.1 hb with hb | hb
  ·rcases List.mem_append.1 hb with hb | hb
   ·exact h1.1 b hb
   ·simp at hb; subst hb; rfl
  ·exact h2.1 b hb
 ·have := congrArg List.length hc
  simp at this; omega
theorem text_of {s : Bs} (h : ∀ b ∈ s, wrB b.toNat = false) (hl : s.length <= 200) : textT s = true := by
 unfold textT
 rw [wr_mem h, decide_eq_true hl]; rfl
theorem text_wrap {a s z : Bs} (ha : (a.all fun b => !wrB b.toNat) = true) (hz : (z.all fun b => !wrB b.toNat) = true) (h : ∀ b ∈ s, wrB b.toNat = false) (hl : a.length + s.length + z.length <= 200) : textT (a ++ s ++ z) = true := by
 refine text_of (fun b hb => ?_) (by simp; omega)
 rcases List.mem_append.1 hb with hb | hb
 ·rcases List.mem_append.1 hb with hb | hb
  ·have := List.all_eq_true.1 ha b hb; simpa using this
  ·exact h b hb
 ·have := List.all_eq_true.1 hz b hb; simpa using this
theorem head_text {m : Mail} (h : mailT m 1 30 = true) : ((headL m).any fun t => !textT t) = false := by
 simp only [mailT, Bool.and_eq_true, Bool.not_eq_true', List.any_eq_false, fromT, Bool.or_eq_true, decide_eq_true_eq] at h
 rw [List.any_eq_false]
 intro t ht
 have key : textT t = true := by
  simp only [headL, List.mem_append, List.mem_singleton, List.mem_map] at ht
  rcases ht with (rfl | ⟨p, hp, rfl⟩) | rfl
  ·rcases h.1 with h0 | h0
   ·rw [h0]; rfl
   ·have := path_text h0
    exact text_wrap (by decide) (by decide) this.1 (by simp; omega)
  ·have h0 : pathT p = true := by have := h.2.2.2.1 p hp; simpa using this
   have := path_text h0
   exact text_wrap (by decide) (by decide) this.1 (by simp; omega)
  ·rfl
 simp [key]
theorem sl_app {l k : List Bs} (h : l.length + k.length <= 4000000) : appV false 1 16 (vT l) (.sl true (vT k)) = some (.sl true (vT (l ++ k))) := by
 have := v_app 1 16 (vT l) true (vT k) (vT_esz l) (vT_esz k) (by rw [vT_len, vT_len]; omega)
 rw [vT_app] at this
 exact this
theorem sl_app1 {l : List Bs} (s : Bs) (h : l.length + 1 <= 4000000) : appV false 1 16 (vT l) (.sl true [[.str s]]) = some (.sl true (vT (l ++ [s]))) := sl_app (k := [s]) (by simpa using h)
theorem stuffed_c (s : Bs) (hs : s.length <= 1000000000) : qc id_impl_stuffed [.str s] = some (.str (stuffT s)) := by
 have e1 := HasPrefix_c s [46] hs
 have a1 := t_add .str [46] s (by simp; omega)
 refine qc_of (H := []) ?_ (by simp only [evv]) rfl
 show cv _ _ _ = _
 rw [impl_stuffed_eq]
 unfold stuffT
 by_cases h : preT s [46] = true
 ·simp only [evv, e1, h, a1]
  try rfl
 ·simp only [evv, e1, h]
theorem impl_SpeakMail_1_c (s : Bs) (hs : s.length <= 1000000000) : qc id_impl_SpeakMail_1 [.str s] = some (.bool (!textT s)) := by
 have e1 := TextValid_c s hs
 refine qc_of (H := []) ?_ (by simp only [evv]) rfl
 show cv _ _ _ = _
 rw [impl_SpeakMail_1_eq]
 simp only [evv, e1]
theorem impl_SpeakMail_r (m : Mail) (h : SmM m) : ∃ H, cv id_impl_SpeakMail [.agg (cM m)] [] = some (.tup [.sl true (vT (spokeL m)), .bool (spokeB m)], H) := by
 have e0 := impl_MailValid_c m h
 simp only [cM_e] at e0
 have hf := h.1
 have ht := h.2.1.1
 have hl := h.2.2.1
 suffices hg : Gets (cv id_impl_SpeakMail [.agg (cM m)] []) fun r => r.1 = .tup [.sl true (vT (spokeL m)), .bool (spokeB m)] by
  obtain ⟨⟨v, H⟩, e, h⟩ := hg
  have h : v = _ := h
  subst h
  exact ⟨H, e⟩
 rw [impl_SpeakMail_eq]
 by_cases hv : mailT m 1 30 = true
 ·have a1 := t_add .str [77, 65, 73, 76, 32, 70, 82, 79, 77, 58, 60] m.from_ (by simp; omega)
  have a2 := t_add .str ([77, 65, 73, 76, 32, 70, 82, 79, 77, 58, 60] ++ m.from_) [62] (by simp; omega)
  simp only [app_cons', app_nil'] at a1 a2
  simp only [evv, e0, hv, a1, a2]
  refine Gets.loop2 (I := fun n st H => ∃ (i : Nat) (out : List Bs), n = m.to.length - i /\ i <= m.to.length /\ st = [.sl true (vT out), .sl false (vT m.to), .int .i64 (m.to.length : Nat), .int .i64 (i : Nat), .str m.from_, .sl false (vT m.to), .sl false (vT m.lines)] /\ out = [fromL m.from_] ++ (m.to.take i).map rcptT)
   (P := fun q vs H => ∃ out, q = 0 /\ vs = [.sl true (vT out), .str m.from_, .sl false (vT m.to), .sl false (vT m.lines)] /\ out = [fromL m.from_] ++ m.to.map rcptT) (n := m.to.length) ?_ ⟨0, [fromL m.from_], by omega, by omega, rfl, by simp⟩ ?_
  ·rintro n st H ⟨i, out, rfl, hi, rfl, ho⟩
   have hol : out.length = i + 1 := by rw [ho]; simp; omega
   rw [impl_SpeakMail_l5_eq]
   by_cases hlt : i < m.to.length
   ·have i1 := vT_idx false m.to .i64 i hlt
    have hsm := h.2.1.2 _ (List.getElem_mem hlt)
    have b1 := t_add .str [82, 67, 80, 84, 32, 84, 79, 58, 60] m.to[i] (by simp; omega)
    have b2 := t_add .str ([82, 67, 80, 84, 32, 84, 79, 58, 60] ++ m.to[i]) [62] (by simp; omega)
    have e2 : vBinV (.int .i64) .add (.int .i64 (i : Int)) (.int .i64 1) = some (.int .i64 ((i + 1 : Nat) : Int)) := n_addN _ i 1 (by omega)
    have ap := sl_app1 (l := out) ([82, 67, 80, 84, 32, 84, 79, 58, 60] ++ m.to[i] ++ [62]) (by omega)
    simp only [app_cons', app_nil'] at b1 b2 ap
    simp only [evv, i1, b1, b2, e2, ap, show ((i : Int) < (m.to.length : Int)) from by omega]
    refine ⟨_, rfl, .inr ⟨rfl, m.to.length - (i + 1), by omega, i + 1, _, rfl, by omega, rfl, ?_⟩⟩
    rw [ho, List.take_succ_eq_append_getElem hlt]
    show [fromL m.from_] ++ (m.to.take i).map rcptT ++ [rcptT m.to[i]] = [fromL m.from_] ++ (m.to.take i ++ [m.to[i]]).map rcptT
    rw [List.map_append, List.append_assoc]; rfl
   ·have : i = m.to.length := by omega
    subst this
    simp only [evv, show ¬ ((m.to.length : Int) < (m.to.length : Int)) from by omega]
    exact ⟨_, rfl, .inl ⟨0, rfl, out, rfl, rfl, by rw [ho, List.take_length]; rfl⟩⟩
  rintro _ _ H ⟨out, rfl, rfl, ho⟩
  have hol : out.length = m.to.length + 1 := by rw [ho]; simp
  have ap := sl_app1 (l := out) [68, 65, 84, 65] (by omega)
  simp only [evv, ap]
  refine Gets.loop2 (I := fun n st H => ∃ (i : Nat) (out : List Bs), n = m.lines.length - i /\ i <= m.lines.length /\ st = [.sl true (vT out), .sl false (vT m.lines), .int .i64 (m.lines.length : Nat), .int .i64 (i : Nat)] /\ out = headL m ++ (m.lines.take i).map stuffT)
   (P := fun q vs H => ∃ out, q = 0 /\ vs = [.sl true (vT out)] /\ out = headL m ++ m.lines.map stuffT) (n := m.lines.length) ?_ ⟨0, _, by omega, by omega, rfl, by rw [ho]; simp [headL]⟩ ?_
  ·rintro n st H ⟨i, out, rfl, hi, rfl, ho⟩
   have hol : out.length = m.to.length + 2 + i := by rw [ho]; simp [headL]; omega
   rw [impl_SpeakMail_l11_eq]
   by_cases hlt : i < m.lines.length
   ·have i1 := vT_idx false m.lines .i64 i hlt
    have hsm := h.2.2.2 _ (List.getElem_mem hlt)
    have e1 := stuffed_c m.lines[i] (by omega)
    have e2 : vBinV (.int .i64) .add (.int .i64 (i : Int)) (.int .i64 1) = some (.int .i64 ((i + 1 : Nat) : Int)) := n_addN _ i 1 (by omega)
    have ap := sl_app1 (l := out) (stuffT m.lines[i]) (by omega)
    simp only [evv, i1, e1, e2, ap, show ((i : Int) < (m.lines.length : Int)) from by omega]
    refine ⟨_, rfl, .inr ⟨rfl, m.lines.length - (i + 1), by omega, i + 1, _, rfl, by omega, rfl, ?_⟩⟩
    rw [ho, List.take_succ_eq_append_getElem hlt]
    show headL m ++ (m.lines.take i).map stuffT ++ [stuffT m.lines[i]] = headL m ++ (m.lines.take i ++ [m.lines[i]]).map stuffT
    rw [List.map_append, List.append_assoc]; rfl
   ·have : i = m.lines.length := by omega
    subst this
    simp only [evv, show ¬ ((m.lines.length : Int) < (m.lines.length : Int)) from by omega]
    exact ⟨_, rfl, .inl ⟨0, rfl, out, rfl, rfl, by rw [ho, List.take_length]⟩⟩
  rintro _ _ H2 ⟨out, rfl, rfl, ho⟩
  subst ho
  have hany : ((headL m ++ m.lines.map stuffT).any fun t => !textT t) = (m.lines.any fun l => !textT (stuffT l)) := by
   rw [List.any_append, head_text hv, Bool.false_or, List.any_map]; rfl
  have hcf := containsFuncT_c id_impl_SpeakMail_1 (fun t => !textT t) (headL m ++ m.lines.map stuffT) (fun t htm => impl_SpeakMail_1_c t (by
   simp only [headL, List.mem_append, List.mem_singleton, List.mem_map] at htm
   rcases htm with ((rfl | ⟨p, hp, rfl⟩) | rfl) | ⟨p, hp, rfl⟩
   ·simp [fromL]; omega
   ·have := h.2.1.2 p hp; simp [rcptT]; omega
   ·simp
   ·have := h.2.2.2 p hp; have := stuffT_len p; omega)) (by simp [headL]; omega)
  rw [hany] at hcf
  have ap2 := sl_app1 (l := headL m ++ m.lines.map stuffT) [46] (by simp [headL]; omega)
  by_cases hb : (m.lines.any fun l => !textT (stuffT l)) = true
  ·have h1 : spokeB m = false := by unfold spokeB; rw [hb, hv]; rfl
   have h2 : spokeL m = [] := by unfold spokeL; rw [if_neg (by rw [h1]; simp)]
   rw [h1, h2]
   simp only [evv, hcf, hb]
   exact Gets.here rfl
  ·have hb' : (m.lines.any fun l => !textT (stuffT l)) = false := by simpa using hb
   have h1 : spokeB m = true := by unfold spokeB; rw [hb', hv]; rfl
   have h2 : spokeL m = headL m ++ m.lines.map stuffT ++ [[46]] := by unfold spokeL; rw [if_pos h1]
   rw [h1, h2]
   simp only [evv, hcf, hb', ap2]
   exact Gets.here rfl
 ·have h1 : spokeB m = false := by unfold spokeB; rw [show mailT m 1 30 = false from by simpa using hv]; rfl
  have h2 : spokeL m = [] := by unfold spokeL; rw [if_neg (by rw [h1]; simp)]
  rw [h1, h2]
  simp only [evv, e0, hv]
  exact Gets.here rfl
theorem impl_SpeakMail_c (m : Mail) (h : SmM m) : pc id_impl_SpeakMail [.agg (cM m)] = some (.tup [.sl true (vT (spokeL m)), .bool (spokeB m)]) := by
 obtain ⟨H, e⟩ := impl_SpeakMail_r m h
 exact pc_of e (by simp only [evv]) (by simp only [evv])
def longL (l : Bs) : Bool := decide (l.length = 200) && decide (l.head? = some 46)
theorem pre_dot (l : Bs) : preT l [46] = decide (l.head? = some 46) := by
 unfold preT
 cases l with
 | nil => rfl
 | cons b r => simp
end Go.Proofs.YtpmpggihngmnoaaGreatDoor.Q

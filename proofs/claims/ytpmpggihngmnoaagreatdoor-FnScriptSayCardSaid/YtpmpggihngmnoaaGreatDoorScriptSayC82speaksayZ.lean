/- Laws: a mail that is spoken is handed over. -/
import Derived.Test.YtpmpggihngmnoaaGreatDoorScriptSayC80sayallZ
namespace Go.Proofs.YtpmpggihngmnoaaGreatDoor.Q
open Go Go.AM
set_option linter.unusedSimpArgs false
set_option linter.unusedVariables false
set_option linter.unusedSectionVars false
theorem okP_self {p : Bs} (h : fromT p = true) : okP p = some p := by
 have e : pathF p = p := by
  unfold pathF
  split
  ·rename_i hm
   have hp : p ≠ [] := fun e => by rw [e] at hm; simp at hm
   unfold fromT pathT at h
   rw [decide_eq_false hp, Bool.false_or, Bool.and_eq_true, Bool.and_eq_true] at h
   rw [dom_low h.2.2]
   exact (path_cut hm).symm
  ·rfl
 unfold okP
 rw [e, if_pos h]
theorem innP_angle (p : Bs) : innP ([60] ++ p ++ [62]) = some p := by
 unfold innP
 rw [if_pos ⟨by simp, by simp, by rw [List.getLast?_append]; rfl⟩]
 simp
theorem argP_angle {w v p : Bs} (hv : lowT v = w) (h : fromT p = true) : argP w (v ++ ([60] ++ p ++ [62])) = some p := by
 have hl : w.length = v.length := by rw [<- hv]; simp [lowT]
 unfold argP
 rw [hl, List.take_left, List.drop_left, if_pos ⟨by simp, hv⟩, innP_angle, Option.bind_some, okP_self h]
theorem word_cut {a z : Bs} (h : (32 : UInt8) ∉ a) : cutA 32 (a ++ [32] ++ z) = a /\ cutZ 32 (a ++ [32] ++ z) = z := cut_app h
theorem say_from (h : Bs) (d : List Mail) (p : Bs) (hp : fromT p = true) : sayF ⟨1, h, noM, d⟩ (fromL p) = (⟨2, h, ⟨p, [], []⟩, d⟩, 250) := by
 have e : fromL p = [77, 65, 73, 76] ++ [32] ++ ([70, 82, 79, 77, 58] ++ ([60] ++ p ++ [62])) := by simp [fromL]
 have hc := word_cut (a := [77, 65, 73, 76]) (z := [70, 82, 79, 77, 58] ++ ([60] ++ p ++ [62])) (by decide)
 have ha := argP_angle (w := [102, 114, 111, 109, 58]) (v := [70, 82, 79, 77, 58]) rfl hp
 unfold sayF
 rw [if_neg (show ¬ ((1 : Int) = 4) by decide), e]
 unfold cmdF
 rw [hc.1, hc.2, if_neg (by decide), if_pos (by decide), ha]
 rfl
theorem say_to (st : Int) (h f : Bs) (pre : List Bs) (d : List Mail) (p : Bs) (hst : st = 2 ∨ st = 3) (hp : pathT p = true) (hn : pre.length < 10) : sayF ⟨st, h, ⟨f, pre, []⟩, d⟩ (rcptT p) = (⟨3, h, ⟨f, pre ++ [p], []⟩, d⟩, 250) := by
 have e : rcptT p = [82, 67, 80, 84] ++ [32] ++ ([84, 79, 58] ++ ([60] ++ p ++ [62])) := by simp [rcptT]
 have hc := word_cut (a := [82, 67, 80, 84]) (z := [84, 79, 58] ++ ([60] ++ p ++ [62])) (by decide)
 have hpn : p ≠ [] := fun e => by rw [e] at hp; exact absurd hp (by decide)
 have ha := argP_angle (w := [116, 111, 58]) (v := [84, 79, 58]) rfl (show fromT p = true by unfold fromT; rw [hp, Bool.or_true])
 unfold sayF
 rw [if_neg (show ¬ (st = 4) by omega), e]
 unfold cmdF
 rw [hc.1, hc.2, if_neg (by decide), if_neg (by decide), if_pos (by decide), ha]
 unfold toF
 simp only
 rw [if_neg hpn, if_pos hst, if_neg (by omega)]
theorem ok_st {s : Session} {line : Bs} (h : s.state ≠ 5) (ht : textT line = true) : okB s line = true := by
 unfold okB
 rw [decide_eq_false h, ht]; rfl
theorem run_to (h f : Bs) (d : List Mail) : ∀ (l pre : List Bs) (st : Int) (cs : List Int), (st = 2 ∨ st = 3) -> (∀ t ∈ l, pathT t = true /\ textT (rcptT t) = true) -> pre.length + l.length <= 10 →
 runF ⟨st, h, ⟨f, pre, []⟩, d⟩ cs (l.map rcptT) = some (⟨if l = [] then st else 3, h, ⟨f, pre ++ l, []⟩, d⟩, cs ++ List.replicate l.length 250)
 | [], pre, st, cs, hst, hl, hn => by simp [runF]
 | t :: l, pre, st, cs, hst, hl, hn => by
   obtain ⟨h1, h2⟩ := hl t (by simp)
   have ih := run_to h f d l (pre ++ [t]) 3 (cs ++ [250]) (.inr rfl) (fun q hq => hl q (by simp [hq])) (by simp at hn ⊢; omega)
   simp only [List.map_cons, runF]
   rw [if_pos (ok_st (by show st ≠ 5; omega) h2), say_to st h f pre d t hst h1 (by simp at hn; omega)]
   simp only [show ¬ ((250 : Int) = 0) from by decide, if_false]
   rw [ih]
   have e : (if l = [] then (3 : Int) else 3) = 3 := by split <;> rfl
   rw [e]
   simp [List.replicate_succ]
theorem unst_stuff (l : Bs) : unst (stuffT l) = l /\ stuffT l ≠ [46] := by
 unfold stuffT
 rw [pre_dot]
 by_cases h : l.head? = some 46
 ·rw [if_pos (decide_eq_true h)]
  refine ⟨by simp [unst], fun e => ?_⟩
  have : l = [] := by simpa using e
  rw [this] at h; cases h
 ·rw [if_neg (by simpa using h)]
  refine ⟨by unfold unst; rw [if_neg h], fun e => ?_⟩
  rw [e] at h; exact h rfl
theorem run_lines (h f : Bs) (to : List Bs) (d : List Mail) (cs : List Int) : ∀ (l pre : List Bs), (∀ t ∈ l, textT (stuffT t) = true) -> pre.length + l.length <= 30 →
 runF ⟨4, h, ⟨f, to, pre⟩, d⟩ cs (l.map stuffT) = some (⟨4, h, ⟨f, to, pre ++ l⟩, d⟩, cs)
 | [], pre, hl, hn => by simp [runF]
 | t :: l, pre, hl, hn => by
   have ih := run_lines h f to d cs l (pre ++ [t]) (fun q hq => hl q (by simp [hq])) (by simp at hn ⊢; omega)
   obtain ⟨u1, u2⟩ := unst_stuff t
   have hF : sayF ⟨4, h, ⟨f, to, pre⟩, d⟩ (stuffT t) = (⟨4, h, ⟨f, to, pre ++ [t]⟩, d⟩, 0) := by
    unfold sayF
    rw [if_pos rfl]
    unfold dataF
    rw [if_neg u2, if_pos (by show pre.length <= 30; simp at hn; omega), u1]
   simp only [List.map_cons, runF]
   rw [if_pos (ok_st (by show (4 : Int) ≠ 5; decide) (hl t (by simp))), hF]
   simp only [if_true]
   rw [ih]
   simp
def spokeC (m : Mail) : List Int := [250] ++ List.replicate m.to.length 250 ++ [354] ++ [250]
theorem run_spoke {m : Mail} {h : Bs} {d : List Mail} {cs : List Int} (hb : spokeB m = true) (hd : d.length < 5) : runF ⟨1, h, noM, d⟩ cs (spokeL m) = some (⟨1, h, noM, d ++ [m]⟩, cs ++ spokeC m) := by
 have hb' := hb
 unfold spokeB at hb'
 rw [Bool.and_eq_true] at hb'
 obtain ⟨hv, hl⟩ := hb'
 have hm := (mOk_iff m 1 30).1 hv
 have ht := head_text hv
 rw [List.any_eq_false] at ht
 have htx : ∀ t ∈ headL m, textT t = true := fun t q => by have := ht t q; simpa using this
 have hlx : ∀ t ∈ m.lines, textT (stuffT t) = true := by simpa using hl
 have e1 : textT (fromL m.from_) = true := htx _ (by simp [headL])
 have hto : ∀ t ∈ m.to, pathT t = true /\ textT (rcptT t) = true := fun t q => ⟨hm.2.2.2.1 t q, htx _ (by simp only [headL, List.mem_append, List.mem_map]; exact .inl (.inr ⟨t, q, rfl⟩))⟩
 have hne : m.to ≠ [] := fun e => by have := hm.2.1; rw [e] at this; simp at this
 have hL : spokeL m = [fromL m.from_] ++ (m.to.map rcptT ++ ([[68, 65, 84, 65]] ++ (m.lines.map stuffT ++ [[46]]))) := by
  unfold spokeL; rw [if_pos hb]; simp [headL]
 have r1 : runF ⟨1, h, noM, d⟩ cs [fromL m.from_] = some (⟨2, h, ⟨m.from_, [], []⟩, d⟩, cs ++ [250]) := by
  simp only [runF]
  rw [if_pos (ok_st (by show (1 : Int) ≠ 5; decide) e1), say_from h d _ hm.1]
  simp
 have r2 := run_to h m.from_ d m.to [] 2 (cs ++ [250]) (.inl rfl) hto (by have := hm.2.2.1; simp; omega)
 rw [if_neg hne, List.nil_append] at r2
 have r3 : runF ⟨3, h, ⟨m.from_, m.to, []⟩, d⟩ (cs ++ [250] ++ List.replicate m.to.length 250) [[68, 65, 84, 65]] = some (⟨4, h, ⟨m.from_, m.to, []⟩, d⟩, cs ++ [250] ++ List.replicate m.to.length 250 ++ [354]) := by
  have hF : sayF ⟨3, h, ⟨m.from_, m.to, []⟩, d⟩ [68, 65, 84, 65] = (⟨4, h, ⟨m.from_, m.to, []⟩, d⟩, 354) := rfl
  simp only [runF]
  rw [if_pos (ok_st (by show (3 : Int) ≠ 5; decide) (by decide)), hF]
  simp
 have r4 := run_lines h m.from_ m.to d (cs ++ [250] ++ List.replicate m.to.length 250 ++ [354]) m.lines [] hlx (by have := hm.2.2.2.2.1; simp; omega)
 rw [List.nil_append] at r4
 have r5 : runF ⟨4, h, ⟨m.from_, m.to, m.lines⟩, d⟩ (cs ++ [250] ++ List.replicate m.to.length 250 ++ [354]) [[46]] = some (⟨1, h, noM, d ++ [m]⟩, cs ++ [250] ++ List.replicate m.to.length 250 ++ [354] ++ [250]) := by
  have hF : sayF ⟨4, h, ⟨m.from_, m.to, m.lines⟩, d⟩ [46] = (⟨1, h, noM, d ++ [m]⟩, 250) := by
   unfold sayF
   rw [if_pos rfl]
   unfold dataF
   rw [if_pos rfl, if_neg (by have := hm.2.2.2.2.1; show ¬ 30 < m.lines.length; omega), if_neg (by show ¬ d.length = 5; omega)]
  simp only [runF]
  rw [if_pos (ok_st (by show (4 : Int) ≠ 5; decide) (by decide)), hF]
  simp
 rw [hL, runF_app, r1, Option.bind_some, runF_app, r2, Option.bind_some, runF_app, r3, Option.bind_some, runF_app, r4, Option.bind_some, r5]
 unfold spokeC
 simp only [List.append_assoc]
theorem spokeL_len {m : Mail} (h : TnM m) : (spokeL m).length <= 203 /\ ∀ l ∈ spokeL m, l.length <= 1000 := by
 have h1 := h.1
 have h2 := h.2.1.1
 have h3 := h.2.2.1
 unfold spokeL
 split
 ·refine ⟨by simp [headL]; omega, fun l hl => ?_⟩
  simp only [headL, List.mem_append, List.mem_singleton, List.mem_map] at hl
  rcases hl with (((rfl | ⟨p, hp, rfl⟩) | rfl) | ⟨p, hp, rfl⟩) | rfl
  ·simp [fromL]; omega
  ·have := h.2.1.2 p hp; simp [rcptT]; omega
  ·simp
  ·have := h.2.2.2 p hp; have := stuffT_len p; omega
  ·simp
 ·simp
theorem noS_ok : sessT noS = true := by decide
end Go.Proofs.YtpmpggihngmnoaaGreatDoor.Q

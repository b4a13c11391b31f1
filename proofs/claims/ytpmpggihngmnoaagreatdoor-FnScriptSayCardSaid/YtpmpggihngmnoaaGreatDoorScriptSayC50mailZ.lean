/- Contracts: valid mails. -/
import Derived.Test.YtpmpggihngmnoaaGreatDoorScriptSayC40sessionZ
namespace Go.Proofs.YtpmpggihngmnoaaGreatDoor.Q
open Go Go.AM
set_option linter.unusedSimpArgs false
set_option linter.unusedVariables false
set_option linter.unusedSectionVars false
def mailT (m : Mail) (least most : Int) : Bool := fromT m.from_ && (decide ((m.to.length : Int) ≥ least) && (decide ((m.to.length : Int) <= 10) && (!(m.to.any fun t => !pathT t) && (decide ((m.lines.length : Int) <= most) && !m.lines.any fun t => !textT t))))
theorem draftValid_1_c (s : Bs) (hs : s.length <= 1000000000) : qc id_impl_draftValid_1 [.str s] = some (.bool (!pathT s)) := by
 have e1 := isPath_c s hs
 refine qc_of (H := []) ?_ (by simp only [evv]) rfl
 show cv _ _ _ = _
 rw [impl_draftValid_1_eq]
 simp only [evv, e1]
theorem draftValid_c (m : Mail) (least most : Int) (h : SmM m) : qc id_impl_draftValid [.agg (cM m), .int .i64 least, .int .i64 most] = some (.bool (mailT m least most)) := by
 have e1 := isFrom_c m.from_ (by have := h.1; omega)
 have hl := h.2.1.1
 have e2 := containsFuncT_c id_impl_draftValid_1 (fun t => !pathT t) m.to (fun t ht => draftValid_1_c t (by have := h.2.1.2 t ht; omega)) (by omega)
 have e3 := areTexts_c m.lines most (by have := h.2.2.1; omega) (fun t ht => by have := h.2.2.2 t ht; omega)
 refine qc_of (H := []) ?_ (by simp only [evv]) rfl
 show cv _ _ _ = _
 rw [impl_draftValid_eq]
 simp only [evv, e1, e2, e3, mailT]
 by_cases h1 : fromT m.from_ = true <;> by_cases h2 : (m.to.length : Int) ≥ least <;> by_cases h3 : (m.to.length : Int) <= 10 <;> by_cases h4 : (m.to.any fun t => !pathT t) = true <;> simp [h1, h2, h3, h4]
theorem impl_MailValid_c (m : Mail) (h : SmM m) : qc id_impl_MailValid [.agg (cM m)] = some (.bool (mailT m 1 30)) := by
 have e1 := draftValid_c m 1 30 h
 simp only [cM_e] at e1
 refine qc_of (H := []) ?_ (by simp only [evv]) rfl
 show cv _ _ _ = _
 rw [impl_MailValid_eq]
 simp only [evv, e1]
def draftT (m : Mail) : Bool := (decide (m.from_ = []) || pathT m.from_) && (decide (m.to.length <= 10) && (decide (m.lines.length <= 31) && (!(m.to.any fun t => !pathT t) && !m.lines.any fun t => !textT t)))
theorem l10Draft_c (m : Mail) (h : SmM m) : qc id_spec_l10Draft [.agg (cM m)] = some (.bool (draftT m)) := by
 have e1 := l10Box_c m.from_ (by have := h.1; omega)
 have ht := h.2.1.1
 have hl := h.2.2.1
 refine qc_of (H := []) ?_ (by simp only [evv]) rfl
 show cv _ _ _ = _
 rw [spec_l10Draft_eq]
 have loop1 := lv_any (B := spec_l10Draft_l4) (S := fun i => [.int .i64 (i : Nat), .str m.from_, .sl false (vT m.to), .sl false (vT m.lines)]) (H := []) (m0 := 0) (m1 := 1) (vs0 := [.str m.from_, .sl false (vT m.to), .sl false (vT m.lines)]) (vs1 := [.bool false]) m.to (fun t => !pathT t)
  (fun i hi => by
   have i1 := vT_idx false m.to .i64 i hi
   have e3 := l10Box_c m.to[i] (by have := h.2.1.2 _ (List.getElem_mem hi); omega)
   have e2 : vBinV (.int .i64) .add (.int .i64 (i : Int)) (.int .i64 1) = some (.int .i64 ((i + 1 : Nat) : Int)) := n_addN _ i 1 (by omega)
   rw [spec_l10Draft_l4_eq]
   simp only [evv, i1, e3, e2, show ((i : Int) < (m.to.length : Int)) from by omega])
  (by
   rw [spec_l10Draft_l4_eq]
   simp only [evv, show ¬ ((m.to.length : Int) < (m.to.length : Int)) from by omega])
 have loop1' : lpW' spec_l10Draft_l4 [.int .i64 0, .str m.from_, .sl false (vT m.to), .sl false (vT m.lines)] [] = _ := loop1
 have loop2 := lv_any (B := spec_l10Draft_l9) (S := fun i => [.int .i64 (i : Nat), .str m.from_, .sl false (vT m.to), .sl false (vT m.lines)]) (H := []) (m0 := 0) (m1 := 1) (vs0 := []) (vs1 := [.bool false]) m.lines (fun t => !textT t)
  (fun i hi => by
   have i1 := vT_idx false m.lines .i64 i hi
   have e3 := spec_TextValid_c m.lines[i] (by have := h.2.2.2 _ (List.getElem_mem hi); omega)
   have e2 : vBinV (.int .i64) .add (.int .i64 (i : Int)) (.int .i64 1) = some (.int .i64 ((i + 1 : Nat) : Int)) := n_addN _ i 1 (by omega)
   rw [spec_l10Draft_l9_eq]
   simp only [evv, i1, e3, e2, show ((i : Int) < (m.lines.length : Int)) from by omega])
  (by
   rw [spec_l10Draft_l9_eq]
   simp only [evv, show ¬ ((m.lines.length : Int) < (m.lines.length : Int)) from by omega])
 have loop2' : lpW' spec_l10Draft_l9 [.int .i64 0, .str m.from_, .sl false (vT m.to), .sl false (vT m.lines)] [] = _ := loop2
 have rest : ∀ (c : Prop) [Decidable c], c -> True := fun _ _ _ => trivial
 by_cases h1 : m.from_ = []
 ·by_cases h2 : m.to.length <= 10
  ·by_cases h3 : m.lines.length <= 31
   ·simp only [evv, h1, show ¬ ((m.to.length : Int) > 10) from by omega, show ¬ ((m.lines.length : Int) > 31) from by omega]
    simp only [h1] at loop1' loop2'
    simp only [evv, loop1', draftT, h1, h2, h3, Bool.true_or, Bool.true_and]
    by_cases h4 : (m.to.any fun t => !pathT t) = true
    ·simp only [evv, h4]; try simp
    ·simp only [evv, h4, loop2']
     by_cases h5 : (m.lines.any fun t => !textT t) = true
     ·simp only [evv, h5]; try simp
     ·simp only [evv, h5]; try simp
   ·simp only [evv, h1, draftT, h2, h3, show ¬ ((m.to.length : Int) > 10) from by omega, show ((m.lines.length : Int) > 31) from by omega]; simp
  ·simp only [evv, h1, draftT, h2, show ((m.to.length : Int) > 10) from by omega]; simp
 ·by_cases h6 : pathT m.from_ = true
  ·by_cases h2 : m.to.length <= 10
   ·by_cases h3 : m.lines.length <= 31
    ·simp only [evv, h1, e1, h6, show ¬ ((m.to.length : Int) > 10) from by omega, show ¬ ((m.lines.length : Int) > 31) from by omega]
     simp only [evv, loop1', draftT, h1, h2, h3, h6, Bool.or_true, Bool.true_and]
     by_cases h4 : (m.to.any fun t => !pathT t) = true
     ·simp only [evv, h4]; try simp
     ·simp only [evv, h4, loop2']
      by_cases h5 : (m.lines.any fun t => !textT t) = true
      ·simp only [evv, h5]; try simp
      ·simp only [evv, h5]; try simp
    ·simp only [evv, h1, e1, h6, draftT, h2, h3, show ¬ ((m.to.length : Int) > 10) from by omega, show ((m.lines.length : Int) > 31) from by omega]; simp
   ·simp only [evv, h1, e1, h6, draftT, h2, show ((m.to.length : Int) > 10) from by omega]; simp
  ·simp only [evv, h1, e1, h6, draftT]; try simp
theorem spec_MailValid_c (m : Mail) (h : SmM m) : qc id_spec_MailValid [.agg (cM m)] = some (.bool (mailT m 1 30)) := by
 have e1 := l10Draft_c m h
 simp only [cM_e] at e1
 refine qc_of (H := []) ?_ (by simp only [evv]) rfl
 show cv _ _ _ = _
 rw [spec_MailValid_eq]
 simp only [evv, e1]
 have key : mailT m 1 30 = (draftT m && (decide ((m.to.length : Int) > 0) && decide ((m.lines.length : Int) <= 30))) := by
  unfold mailT draftT fromT
  rw [Bool.eq_iff_iff]
  simp only [Bool.and_eq_true, decide_eq_true_eq]
  constructor
  ·rintro ⟨h1, h2, h3, h4, h5, h6⟩
   exact ⟨⟨h1, by omega, by omega, h4, h6⟩, by omega, h5⟩
  ·rintro ⟨⟨h1, h2, h3, h4, h6⟩, h7, h5⟩
   exact ⟨h1, by omega, by omega, h4, h5, h6⟩
 rw [key]
 by_cases h1 : draftT m = true
 ·by_cases h2 : (m.to.length : Int) > 0
  ·simp only [evv, h1, h2, Bool.true_and]
  ·simp only [evv, h1, h2, Bool.true_and, Bool.false_and]
 ·simp only [evv, h1, Bool.false_and]
  try simp
theorem argB {u : V} (h : HasArg (.sl (.int .u8)) u) : ∃ xs : Bs, u = .sl false (vB xs) := by
 obtain ⟨xs, h, -⟩ := arg_bytes h
 exact ⟨xs, h⟩
end Go.Proofs.YtpmpggihngmnoaaGreatDoor.Q

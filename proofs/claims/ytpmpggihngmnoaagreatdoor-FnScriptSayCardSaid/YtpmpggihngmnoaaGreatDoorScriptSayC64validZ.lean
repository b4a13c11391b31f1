/- Contracts: rows of valid mails. -/
import Derived.Test.YtpmpggihngmnoaaGreatDoorScriptSayC62speakZ
namespace Go.Proofs.YtpmpggihngmnoaaGreatDoor.Q
open Go Go.AM
set_option linter.unusedSimpArgs false
set_option linter.unusedVariables false
set_option linter.unusedSectionVars false
theorem indexFuncM_c (g : Nat) (p : Mail -> Bool) (l : List Mail) (hg : ∀ s ∈ l, qc g [.agg (cM s)] = some (.bool (p s))) (hl : l.length <= 1000000000) : qc id_slices_IndexFunc___impl_Mail_impl_Mail_ [.sl false (vR eM l), .fn g []] = some (.int .i64 (if l.any p = true then ((l.findIdx p : Nat) : Int) else -1)) := by
 refine qc_of (H := []) ?_ (by simp only [evv]) rfl
 show cv _ _ _ = _
 rw [slices_IndexFunc___impl_Mail_impl_Mail__eq]
 have loop := lv_first (B := slices_IndexFunc___impl_Mail_impl_Mail__l2) (S := fun i => [.sl false (vR eM l), .fn g [], .int .i64 l.length, .int .i64 (i : Nat)]) (H := []) (m0 := 0) (m1 := 1) (vs0 := []) l p
  (fun i hi => by
   have i1 := vM_idx false l .i64 i hi
   have e1 := hg l[i] (List.getElem_mem hi)
   simp only [cM_e] at e1
   have e2 : vBinV (.int .i64) .add (.int .i64 (i : Int)) (.int .i64 1) = some (.int .i64 ((i + 1 : Nat) : Int)) := n_addN _ i 1 (by omega)
   rw [slices_IndexFunc___impl_Mail_impl_Mail__l2_eq]
   simp only [evv, i1, e1, e2, show ((i : Int) < (l.length : Int)) from by omega])
  (by
   rw [slices_IndexFunc___impl_Mail_impl_Mail__l2_eq]
   simp only [evv, show ¬ ((l.length : Int) < (l.length : Int)) from by omega])
 have loop' : lpW' slices_IndexFunc___impl_Mail_impl_Mail__l2 [.sl false (vR eM l), .fn g [], .int .i64 l.length, .int .i64 0] [] = _ := loop
 simp only [evv, loop']
 by_cases h : l.any p = true <;> simp only [evv, h]
theorem containsFuncM_c (g : Nat) (p : Mail -> Bool) (l : List Mail) (hg : ∀ s ∈ l, qc g [.agg (cM s)] = some (.bool (p s))) (hl : l.length <= 1000000000) : qc id_slices_ContainsFunc___impl_Mail_impl_Mail_ [.sl false (vR eM l), .fn g []] = some (.bool (l.any p)) := by
 have e1 := indexFuncM_c g p l hg hl
 refine qc_of (H := []) ?_ (by simp only [evv]) rfl
 show cv _ _ _ = _
 rw [slices_ContainsFunc___impl_Mail_impl_Mail__eq]
 simp only [evv, e1]
 by_cases h : l.any p = true
 ·simp only [h, if_true]
  rw [decide_eq_true (show (((l.findIdx p : Nat) : Int) ≥ 0) from by omega)]
 ·have h' : l.any p = false := by simpa using h
  simp [h']
theorem mailsValid_1_c (m : Mail) (h : SmM m) : qc id_impl_mailsValid_1 [.agg (cM m)] = some (.bool (!mailT m 1 30)) := by
 have e1 := impl_MailValid_c m h
 simp only [cM_e] at e1
 refine qc_of (H := []) ?_ (by simp only [evv]) rfl
 show cv _ _ _ = _
 rw [impl_mailsValid_1_eq]
 simp only [evv, e1]
theorem mailsValid_c (l : List Mail) (n : Int) (h : SmMs l) : qc id_impl_mailsValid [.sl false (vR eM l), .int .i64 n] = some (.bool (decide ((l.length : Int) <= n) && !l.any fun m => !mailT m 1 30)) := by
 have hl := h.1
 have e2 := containsFuncM_c id_impl_mailsValid_1 (fun m => !mailT m 1 30) l (fun m hm => mailsValid_1_c m (h.2 m hm)) (by omega)
 refine qc_of (H := []) ?_ (by simp only [evv]) rfl
 show cv _ _ _ = _
 rw [impl_mailsValid_eq]
 by_cases h : (l.length : Int) <= n
 ·simp only [evv, e2, h, Bool.true_and]
 ·simp only [evv, h, Bool.false_and]
end Go.Proofs.YtpmpggihngmnoaaGreatDoor.Q

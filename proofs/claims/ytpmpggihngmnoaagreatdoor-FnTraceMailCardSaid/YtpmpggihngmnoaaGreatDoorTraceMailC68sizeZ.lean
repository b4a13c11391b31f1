/- Contracts: mails spoken, told a second time; their size; boxes. -/
import Derived.Test.YtpmpggihngmnoaaGreatDoorTraceMailC66sessionsZ
namespace Go.Proofs.YtpmpggihngmnoaaGreatDoor.Q
open Go Go.AM
set_option linter.unusedSimpArgs false
set_option linter.unusedVariables false
set_option linter.unusedSectionVars false
theorem mwTexts_c (a b : List Bs) (h : a.length <= 4000000) : qc id_laws_mwTexts [.sl false (vT a), .sl false (vT b)] = some (.bool (decide (a = b))) := by
 refine qc_of (H := []) ?_ (by simp only [evv]) rfl
 show cv _ _ _ = _
 rw [laws_mwTexts_eq]
 by_cases hl : a.length = b.length
 ·have loop := lv_eq (B := laws_mwTexts_l4) (S := fun i => [.sl false (vT a), .sl false (vT b), .int .i64 (i : Nat)]) (H := []) (m0 := 0) (m1 := 1) (vs0 := []) (vs1 := [.bool false]) a b hl
   (fun i hi => by
    have i1 := vT_idx false a .i64 i hi
    have i2 := vT_idx false b .i64 i (by omega)
    have e2 : vBinV (.int .i64) .add (.int .i64 (i : Int)) (.int .i64 1) = some (.int .i64 ((i + 1 : Nat) : Int)) := n_addN _ i 1 (by omega)
    rw [laws_mwTexts_l4_eq]
    simp only [evv, i1, i2, e2, show ((i : Int) < (a.length : Int)) from by omega]
    by_cases e : a[i] = b[i] <;> simp only [evv, e])
   (by
    rw [laws_mwTexts_l4_eq]
    simp only [evv, show ¬ ((a.length : Int) < (a.length : Int)) from by omega])
  have loop' : lpW' laws_mwTexts_l4 [.sl false (vT a), .sl false (vT b), .int .i64 0] [] = _ := loop
  simp only [evv, hl, loop']
  by_cases e : a = b <;> simp only [evv, e]
 ·have : a ≠ b := fun e => hl (by rw [e])
  simp only [evv, show ¬ ((a.length : Int) = (b.length : Int)) from by omega, this]
end Go.Proofs.YtpmpggihngmnoaaGreatDoor.Q

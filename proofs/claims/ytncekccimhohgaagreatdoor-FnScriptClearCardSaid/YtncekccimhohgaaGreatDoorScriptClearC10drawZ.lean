/- Contracts: drawing. -/
import Derived.Test.YtncekccimhohgaaGreatDoorScriptClearRunsZ
import Derived.Test.YtncekccimhohgaaGreatDoorFnScriptClearK5
namespace Go.Proofs.YtncekccimhohgaaGreatDoor.Q
open Go Go.AM
set_option linter.unusedSimpArgs false
set_option linter.unusedVariables false
set_option linter.unusedSectionVars false
theorem l13Open_c (xs : List UInt8) (H : VH) : cv id_spec_l13Open [.sl false (vB xs)] H = some (.ptr H.length 0, H ++ [rdr false (xs.take 2000) 0]) := by
 rw [spec_l13Open_eq]
 by_cases h : xs.length > 2000
 ·have h1 : vSliceVV 1 (.sl false (vB xs)) none (some (.int .i64 2000)) = some (.sl false (stripLL ((vB xs).take 2000))) := v_pre 1 false (vB xs) .i64 2000 (vB_esz xs) (by rw [vB_len]; omega)
  rw [vB_take, vB_strip] at h1
  simp only [evv, decide_true, h1, show ((xs.length : Int) > 2000) from by omega]
  rfl
 ·have h2 : xs.take 2000 = xs := List.take_of_length_le (by omega)
  simp only [evv, show ¬ ((xs.length : Int) > 2000) from by omega, decide_false]
  simp only [evv, Bool.false_eq_true, if_false, h2]
  rfl
theorem pick_c {H : VH} {k p n : Nat} {o : Bool} {xs : List UInt8} (h : H[k]? = some (rdr o xs p)) (hn : 1 <= n) (hn2 : n <= 1000000000) (hp : p <= 1000000000) (hx : xs.length <= 2000) :
 cv id_spec_l13Rd_pick [.ptr k 0, .int .i64 (n : Int)] H = some (.int .i64 (pickN xs p n : Nat), H.set k (rdr o xs (p + 1))) := by
 have hk : k < H.length := (List.getElem?_eq_some_iff.1 h).1
 have l1 : ldO globB false false 1 (.ptr k 1) H = some (.int .i64 (p : Int), H) := lp_cell h rfl rfl
 have hst : stO (.ptr k 1) [.int .i64 ((p : Int) + 1)] H = some (H.set k (rdr o xs (p + 1))) := by
  rw [sp_cell h (by simp [rdr])]; simp [rdr]
 generalize hH : H.set k (rdr o xs (p + 1)) = H2 at *
 have h2 : H2[k]? = some (rdr o xs (p + 1)) := by rw [<- hH, List.getElem?_set]; simp [hk]
 have m0 : ldO globB false false 1 (.ptr k 0) H2 = some (.sl false (vB xs), H2) := lp_cell h2 rfl (by simp only [strip, vB_strip])
 have m1 : ldO globB false false 1 (.ptr k 1) H2 = some (.int .i64 ((p : Int) + 1), H2) := lp_cell h2 rfl (by simp [strip])
 have hadd := n_add (.int .i64) (p : Int) 1 (by omega) (by omega)
 have hsub : vBinV (.int .i64) .sub (.int .i64 ((p : Int) + 1)) (.int .i64 1) = some (.int .i64 (p : Int)) := by
  rw [n_sub _ _ _ (by omega) (by omega)]; congr 2; omega
 rw [spec_l13Rd_pick_eq]
 by_cases h0 : xs.length = 0
 ·have : pickN xs p n = 0 := by simp [pickN, h0]
  simp only [evv, l1, hadd, hst, m0, h0, show ¬ ((n : Int) < 1) from by omega, Int.ofNat_zero, this]
 ·by_cases hlt : p < xs.length
  ·have hidx := vB_idx false xs .i64 p hlt
   have hpn : pickN xs p n = (xs[p]).toNat % n := by
    unfold pickN
    rw [if_neg h0, if_pos hlt, List.getD_eq_getElem?_getD, List.getElem?_eq_getElem hlt]; rfl
   simp only [evv, l1, hadd, hst, m0, m1, hsub, show ¬ ((n : Int) < 1) from by omega, show ¬ ((xs.length : Int) = 0) from by omega, decide_false, Bool.false_eq_true, if_false,
    show ((p : Int) < (xs.length : Int)) from by omega, hidx, c_u8i64 _ (show (xs[p]).toNat <= 255 from by have := (xs[p]).toNat_lt; omega), n_rem _ _ _ _ (show (n : Int) ≠ 0 from by omega), nat_tmod, hpn]
  ·have hm : 0 < xs.length := by omega
   have hA := Nat.mod_lt p hm
   have hB := Nat.mod_lt (p * 7 + 3) hm
   have ga : xs.getD (p % xs.length) 0 = xs[p % xs.length] := by rw [List.getD_eq_getElem?_getD, List.getElem?_eq_getElem hA]; rfl
   have gb : xs.getD ((p * 7 + 3) % xs.length) 0 = xs[(p * 7 + 3) % xs.length] := by rw [List.getD_eq_getElem?_getD, List.getElem?_eq_getElem hB]; rfl
   have la : (xs[p % xs.length]).toNat <= 255 := by have := (xs[p % xs.length]).toNat_lt; omega
   have lb : (xs[(p * 7 + 3) % xs.length]).toNat <= 255 := by have := (xs[(p * 7 + 3) % xs.length]).toNat_lt; omega
   have iA := vB_idx false xs .i64 (p % xs.length) hA
   have iB := vB_idx false xs .i64 ((p * 7 + 3) % xs.length) hB
   have hq : p / xs.length <= p := Nat.div_le_self _ _
   have hpn : pickN xs p n = (((xs[p % xs.length]).toNat * 131 + (xs[(p * 7 + 3) % xs.length]).toNat * 1117 + p * 29 + p / xs.length * 53) ^^^ ((xs[p % xs.length]).toNat * 131 + (xs[(p * 7 + 3) % xs.length]).toNat * 1117 + p * 29 + p / xs.length * 53) / 64) % n := by
    unfold pickN
    rw [if_neg h0, if_neg hlt, ga, gb]
   generalize (xs[p % xs.length]).toNat = a at *
   generalize (xs[(p * 7 + 3) % xs.length]).toNat = b at *
   have s1 := n_remN (.int .i64) p xs.length hm
   have s2 : vBinV (.int .i64) .mul (.int .i64 (a : Int)) (.int .i64 131) = some (.int .i64 ((a * 131 : Nat) : Int)) := n_mulN _ a 131 (by omega)
   have s3 : vBinV (.int .i64) .mul (.int .i64 (p : Int)) (.int .i64 7) = some (.int .i64 ((p * 7 : Nat) : Int)) := n_mulN _ p 7 (by omega)
   have s4 : vBinV (.int .i64) .add (.int .i64 ((p * 7 : Nat) : Int)) (.int .i64 3) = some (.int .i64 ((p * 7 + 3 : Nat) : Int)) := n_addN _ (p * 7) 3 (by omega)
   have s5 := n_remN (.int .i64) (p * 7 + 3) xs.length hm
   have s6 : vBinV (.int .i64) .mul (.int .i64 (b : Int)) (.int .i64 1117) = some (.int .i64 ((b * 1117 : Nat) : Int)) := n_mulN _ b 1117 (by omega)
   have s7 := n_addN (.int .i64) (a * 131) (b * 1117) (by omega)
   have s8 : vBinV (.int .i64) .mul (.int .i64 (p : Int)) (.int .i64 29) = some (.int .i64 ((p * 29 : Nat) : Int)) := n_mulN _ p 29 (by omega)
   have s9 := n_addN (.int .i64) (a * 131 + b * 1117) (p * 29) (by omega)
   have s10 := n_quoN (.int .i64) p xs.length hm (by omega)
   have s11 : vBinV (.int .i64) .mul (.int .i64 ((p / xs.length : Nat) : Int)) (.int .i64 53) = some (.int .i64 ((p / xs.length * 53 : Nat) : Int)) := n_mulN _ (p / xs.length) 53 (by omega)
   have s12 := n_addN (.int .i64) (a * 131 + b * 1117 + p * 29) (p / xs.length * 53) (by omega)
   have s13 : vBinV (.int .i64) .quo (.int .i64 ((a * 131 + b * 1117 + p * 29 + p / xs.length * 53 : Nat) : Int)) (.int .i64 64) = some (.int .i64 (((a * 131 + b * 1117 + p * 29 + p / xs.length * 53) / 64 : Nat) : Int)) := n_quoN _ _ 64 (by omega) (by omega)
   have hdl : (a * 131 + b * 1117 + p * 29 + p / xs.length * 53) / 64 <= a * 131 + b * 1117 + p * 29 + p / xs.length * 53 := Nat.div_le_self _ _
   obtain ⟨s14, _⟩ := n_xor (.int .i64) (a * 131 + b * 1117 + p * 29 + p / xs.length * 53) ((a * 131 + b * 1117 + p * 29 + p / xs.length * 53) / 64) (by omega) (by omega)
   have s15 := n_remN (.int .i64) ((a * 131 + b * 1117 + p * 29 + p / xs.length * 53) ^^^ (a * 131 + b * 1117 + p * 29 + p / xs.length * 53) / 64) n hn
   simp only [evv, l1, hadd, hst, m0, m1, hsub, show ¬ ((n : Int) < 1) from by omega, show ¬ ((xs.length : Int) = 0) from by omega,
    show ¬ ((p : Int) < (xs.length : Int)) from by omega, s1, iA, c_u8i64 a la, s2, s3, s4, s5, iB, c_u8i64 b lb, s6, s7, s8, s9, s10, s11, s12, s13, s14, s15, hpn]
theorem num_c {H : VH} {k p : Nat} {o o' : Bool} {xs : List UInt8} {l : List Int} (h : H[k]? = some (rdr o xs p)) (hl : 1 <= l.length) (hl2 : l.length <= 1000000) (hp : p <= 1000000000) (hx : xs.length <= 2000) :
 cv id_spec_l13Rd_num [.ptr k 0, .sl o' (vI .i64 l)] H = some (.int .i64 (l.getD (pickN xs p l.length) 0), H.set k (rdr o xs (p + 1))) := by
 have hp := pick_c h hl (by omega) hp hx
 have hlt := pickN_lt xs p l.length hl
 have hi := vI_idx o' .i64 l .i64 (pickN xs p l.length) hlt
 have hi2 := vI_idx false .i64 l .i64 (pickN xs p l.length) hlt
 have hg : l.getD (pickN xs p l.length) 0 = l[pickN xs p l.length] := by rw [List.getD_eq_getElem?_getD, List.getElem?_eq_getElem hlt]; rfl
 rw [spec_l13Rd_num_eq]
 simp only [evv, hp, hi, hi2, hg]
end Go.Proofs.YtncekccimhohgaaGreatDoor.Q

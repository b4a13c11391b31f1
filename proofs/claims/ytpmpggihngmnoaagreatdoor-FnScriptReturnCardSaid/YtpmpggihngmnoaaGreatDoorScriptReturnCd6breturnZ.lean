/- The run of a script that lets a mail go round. -/
import Derived.Test.YtpmpggihngmnoaaGreatDoorScriptReturnCd6returnZ
namespace Go.Proofs.YtpmpggihngmnoaaGreatDoor.Q
open Go Go.AM
set_option linter.unusedSimpArgs false
set_option linter.unusedVariables false
set_option linter.unusedSectionVars false
theorem recvs : ∀ k, k < 8 -> ∃ out, out.length = 2 * k /\ Steps (List.replicate k lnRecv) [cG B0 (sD 0) dt0] out [cG B0 (sD k) dt0] := by
 intro k
 induction k with
 | zero => intro _; exact ⟨[], rfl, .nil _⟩
 | succ k ih =>
   intro hk
   obtain ⟨out, h1, h2⟩ := ih (by omega)
   have h3 := h2.app (.step (l := lnRecv) (by simp [lnRecv]) (sl6 k (by omega)) (.nil _))
   refine ⟨out ++ ([45, 10] ++ []), by simp; omega, ?_⟩
   have e : List.replicate (k + 1) lnRecv = List.replicate k lnRecv ++ [lnRecv] := List.replicate_succ'
   rw [e]; exact h3
def mK (k : Nat) : Mail := ⟨[], [abT], List.replicate k rcT⟩
def lB : List Box := [⟨abT, []⟩]
theorem rowK_e : ∀ k, stripL (rowK k) = cM (mK k) := fun k => by
 have : ∀ k, stripLL (List.replicate k [V.str rcT]) = vT (List.replicate k rcT) := fun k => by
  induction k with
  | zero => rfl
  | succ k ih => rw [List.replicate_succ, List.replicate_succ]; show [V.str rcT] :: stripLL (List.replicate k [V.str rcT]) = _; rw [ih]; rfl
 rw [cM_e]
 unfold rowK mK
 simp only [stripL, strip, this]
 rfl
theorem mK_sm (k : Nat) (hk : k < 8) : SmM (mK k) := ⟨by simp [mK], ⟨by simp [mK], by simp [mK, abT]⟩, ⟨by simp [mK]; omega, fun s hs => by obtain ⟨_, rfl⟩ := List.mem_replicate.1 hs; simp [rcT]⟩⟩
theorem lB_sm : SmXs lB := ⟨by simp [lB], fun b hb => by
 simp only [lB, List.mem_singleton] at hb
 subst hb
 exact ⟨by simp [abT], by simp, by simp⟩⟩
set_option maxRecDepth 100000 in
theorem tr_yes : ∀ k : Nat, k < 5 -> traceB (mK k) gateH dt0 = true := by decide +kernel
set_option maxRecDepth 100000 in
theorem tr_no : ∀ k : Nat, k < 8 -> 5 <= k -> traceB (mK k) gateH dt0 = false := by decide +kernel
set_option maxRecDepth 100000 in
theorem dl_yes : ∀ k : Nat, k < 5 -> (dlvR lB (norM (traceM (mK k) gateH dt0))).2 = [250] /\ cheldN (dlvR lB (norM (traceM (mK k) gateH dt0))).1 = 1 := by decide +kernel
set_option maxRecDepth 100000 in
theorem dl_sm : ∀ k : Nat, k < 5 -> SmXs (dlvR lB (norM (traceM (mK k) gateH dt0))).1 := by
 unfold SmXs SmX SmMs SmM SmT
 decide +kernel
theorem held0 : cheldN lB = 0 := by decide
def T0 : Bs := [98, 111, 120, 32, 97, 64, 98, 10, 115, 97, 121, 32, 72, 69, 76, 79, 32, 120, 10, 115, 97, 121, 32, 77, 65, 73, 76, 32, 70, 82, 79, 77, 58, 60, 62, 10, 115, 97, 121, 32, 82, 67, 80, 84, 32, 84, 79, 58, 60, 97, 64, 98, 62, 10, 115, 97, 121, 32, 68, 65, 84, 65, 10]
def RR : Nat -> Bs
 | 0 => []
 | k + 1 => RR k ++ [115, 97, 121, 32, 114, 101, 99, 101, 105, 118, 101, 100, 58, 32, 120, 10]
def TE : Bs := [115, 97, 121, 32, 46, 10, 112, 97, 115, 115, 10, 104, 101, 108, 100, 10]
set_option maxRecDepth 100000 in
theorem splits : ∀ k : Nat, k < 8 -> splitB 10 (T0 ++ RR k ++ TE) = [lnBox, lnHelo, lnMail, lnRcpt, lnData] ++ (List.replicate k lnRecv ++ [lnDot, lnPass, heldT, []]) := by decide +kernel
def endY : Bs := [112, 97, 115, 115, 101, 100, 32, 50, 53, 48, 10, 101, 110, 100, 10, 104, 101, 108, 100, 32, 49, 10]
def endN : Bs := [114, 101, 116, 117, 114, 110, 101, 100, 10, 101, 110, 100, 10, 104, 101, 108, 100, 32, 48, 10]
theorem passL (bv s0 s1 s2 s3 s4 s5 : V) (d : Dt) (H : VH) (r : V × VH) (h : cv id_impl_gate_pass [.ptr 0 0] (cG bv [s0, s1, s2, s3, s4, s5] d :: H) = some r) : cv id_impl_gate_line [.ptr 0 0, .str lnPass] (cG bv [s0, s1, s2, s3, s4, s5] d :: H) = some r := by
 have e1 : qc id_strings_Cut [.str lnPass, .str [32]] = some (.tup [.str lnPass, .str [], .bool false]) := qcE_of 100 (by kernel_rfl)
 rw [impl_gate_line_eq]
 simp only [evv, e1]
 rw [impl_gate_wordLine_eq]
 simp only [evv, show decide (lnPass = [115, 97, 121]) = false from rfl, show decide (lnPass = [111, 112, 101, 110]) = false from rfl, show decide (lnPass = [99, 108, 101, 97, 114]) = false from rfl, show decide (lnPass = [112, 97, 115, 115]) = true from rfl, h]
theorem ret_run (k : Nat) (hk : k < 8) : ∃ A, A ≠ [] /\ A.length <= 1000 /\ qc id_impl_RunScript [.str (T0 ++ RR k ++ TE)] = some (.str (A ++ if 5 <= k then endN else endY)) := by
 obtain ⟨outR, hR, sR⟩ := recvs k hk
 have s5 : Steps [lnBox, lnHelo, lnMail, lnRcpt, lnData] [cG (.sl true []) sess0 dt0] (okL ++ (ok250 ++ (ok250 ++ (ok250 ++ (go354 ++ []))))) [cG B0 (sD 0) dt0] :=
  .step (by simp [lnBox]) sl1 (.step (by simp [lnHelo]) sl2 (.step (by simp [lnMail]) sl3 (.step (by simp [lnRcpt]) sl4 (.step (by simp [lnData]) sl5 (.nil _)))))
 obtain ⟨p1, p2⟩ := pass_one lB (mK k) dt0 B0 (.int .i64 1) (.str [120]) (.str []) (.sl true []) (.sl true []) true (rowK k) rfl (rowK_e k) (mK_sm k hk) (by simp [mK]; omega) lB_sm (by simp [lB, abT]) (by simp [mK, abT]) (by simp [mK])
 have hl1 : (T0 ++ RR k ++ TE).length <= 20000 := by
  have : ∀ j, (RR j).length = 16 * j := fun j => by
   induction j with
   | zero => rfl
   | succ j ih => simp only [RR, List.length_append, ih, List.length_cons, List.length_nil]; omega
  simp only [List.length_append, this, T0, TE, List.length_cons, List.length_nil]; omega
 have hA : (okL ++ (ok250 ++ (ok250 ++ (ok250 ++ (go354 ++ []))))).length = 34 := rfl
 by_cases h5 : 5 <= k
 ·obtain ⟨z, e⟩ := p1 (tr_no k hk h5)
  have hh := held_c lB B0 (.int .i64 1) (.str [120]) (.str []) (.sl true []) (.sl true []) (.sl true []) dt0 z rfl lB_sm (by rw [held0]; omega)
  rw [held0] at hh
  have s8 : Steps [lnDot, lnPass, heldT, []] [cG B0 (sD k) dt0] (ok250 ++ ((retT ++ endT) ++ (([104, 101, 108, 100, 32] ++ decT 0 1 ++ [10]) ++ []))) (cG B0 [.int .i64 1, .str [120], .str [], .sl true [], .sl true [], .sl true []] dt0 :: z) :=
   .step (by simp [lnDot]) (sl7 k hk) (.step (by simp [lnPass]) (passL _ _ _ _ _ _ _ _ _ _ e) (.step (by simp [heldT]) hh (.skip (.nil _))))
  have all := s5.app (sR.app s8)
  have hE : (retT ++ endT) ++ (([104, 101, 108, 100, 32] ++ decT 0 1 ++ [10]) ++ []) = endN := by decide +kernel
  rw [hE] at all
  refine ⟨(okL ++ (ok250 ++ (ok250 ++ (ok250 ++ (go354 ++ []))))) ++ (outR ++ ok250), by simp [okL], by simp only [List.length_append, hR] at hA ⊢; simp [ok250] at hA ⊢; omega, ?_⟩
  rw [if_pos h5]
  have := RunScript_c (splits k hk) hl1 (by simp; omega) all (by simp only [List.length_append, hR] at hA ⊢; simp [ok250, endN] at hA ⊢; omega)
  rw [this]
  simp only [List.append_assoc]
 ·obtain ⟨d1, d2⟩ := dl_yes k (by omega)
  obtain ⟨o, z, e⟩ := p2 (tr_yes k (by omega)) (by rw [d1]; simp) (by rw [d1]; simp)
  rw [d1] at e
  have smD := dl_sm k (by omega)
  have hh := held_c (dlvR lB (norM (traceM (mK k) gateH dt0))).1 (.sl o (vR eX (dlvR lB (norM (traceM (mK k) gateH dt0))).1)) (.int .i64 1) (.str [120]) (.str []) (.sl true []) (.sl true []) (.sl true []) dt0 z (by simp only [strip, vR_strip]) smD (by rw [d2]; omega)
  rw [d2] at hh
  have s8 : Steps [lnDot, lnPass, heldT, []] [cG B0 (sD k) dt0] (ok250 ++ ((pssT ++ tellC [250] ++ [10] ++ endT) ++ (([104, 101, 108, 100, 32] ++ decT 1 1 ++ [10]) ++ []))) (cG (.sl o (vR eX (dlvR lB (norM (traceM (mK k) gateH dt0))).1)) [.int .i64 1, .str [120], .str [], .sl true [], .sl true [], .sl true []] dt0 :: z) :=
   .step (by simp [lnDot]) (sl7 k hk) (.step (by simp [lnPass]) (passL _ _ _ _ _ _ _ _ _ _ e) (.step (by simp [heldT]) hh (.skip (.nil _))))
  have all := s5.app (sR.app s8)
  have hE : (pssT ++ tellC [250] ++ [10] ++ endT) ++ (([104, 101, 108, 100, 32] ++ decT 1 1 ++ [10]) ++ []) = endY := by decide +kernel
  rw [hE] at all
  refine ⟨(okL ++ (ok250 ++ (ok250 ++ (ok250 ++ (go354 ++ []))))) ++ (outR ++ ok250), by simp [okL], by simp only [List.length_append, hR] at hA ⊢; simp [ok250] at hA ⊢; omega, ?_⟩
  rw [if_neg h5]
  have := RunScript_c (splits k hk) hl1 (by simp; omega) all (by simp only [List.length_append, hR] at hA ⊢; simp [ok250, endY] at hA ⊢; omega)
  rw [this]
  simp only [List.append_assoc]
end Go.Proofs.YtpmpggihngmnoaaGreatDoor.Q

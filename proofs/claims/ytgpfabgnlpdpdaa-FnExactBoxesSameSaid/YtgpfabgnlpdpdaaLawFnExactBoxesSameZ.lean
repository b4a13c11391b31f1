/- The law FnExactBoxesSame of the seat's program returns true for every argument, and the argument reads afterwards as it read before; no condition. -/
import Derived.Test.YtgpfabgnlpdpdaaRows
import Derived.Test.YtgpfabgnlpdpdaaExactBoxesSameC40sessionZ
import Derived.Test.YtgpfabgnlpdpdaaK4
import Derived.WalkKit
import Derived.ProofKit
import Derived.OpenShut
import Derived.ShutString
import Derived.ChangeOld
import Derived.Below
import Derived.SizedLaws
namespace Go.Proofs.Ytgpfabgnlpdpdaa.fnExactBoxesSame
open Go.ChangeShapes Go.WideShapes Go.ChangeAt Go.RowKit Go.AM
set_option linter.unusedVariables false
theorem own : ownKnob Try.prog.godebug = none := by kernel_rfl
theorem laidOut : laidOutB Try.prog = true := by kernel_rfl
set_option maxRecDepth 100000 in
theorem lifted (os : Os) (started : os.Started) (H : Type) (enc : TypeId × Value → H) :
    ReturnsInHanded {} Try.checked os 6 .any (Rows.fnExactBoxesSameSpec.pre6 enc Try.prog Try.f6 Rows.fnExactBoxesSameRow.domain false) (Rows.fnExactBoxesSameSpec.post enc Try.prog Try.f6 false true false false) := by
  refine returnsInHanded_of_change_sized (C := Try.checked) own started (by kernel_rfl) Try.func6
    (ChangeSpec.witness6 (enc := enc) (C := Try.checked) false ⟨#[], #[.slice none 0 0, .slice none 0 0], []⟩ 8 (by kernel_rfl) (by kernel_rfl) (by kernel_rfl) (by kernel_rfl)) ?_
  intro W base args ds gs before hval0 hW hcnd hsz0 _
  have hval : ∀ (j : Nat) t v, Try.f6.params[j]? = some t → args[j]? = some v → Value.okWide Try.prog W .any base t v := hval0
  have hW' := hW
  obtain ⟨p, q, hA0, hV, rfl, hfz, hnd⟩ := hW
  have hA : DataW.TrodAll enc Try.prog W 0 (fun _ => true) true Try.f6.params.toList args.toList ds p := hA0
  rw [Try.params6] at hA hval
  obtain ⟨v0, vs0, d0, ds0, p0, q0, hargs, rfl, rfl, h0, r0⟩ := trodAll_cons hA
  obtain ⟨v1, vs1, d1, ds1, p1, q1, rfl, rfl, rfl, h1, r1⟩ := trodAll_cons r0
  obtain ⟨rfl, rfl, rfl⟩ := trodAll_nil r1
  obtain rfl : args = #[v0, v1] := by cases args; simp_all
  obtain ⟨rfl, rfl⟩ := trodVars_none hV
  have lt0 : ∀ x ∈ p0, x.block < W.heap.size := by obtain ⟨m, hm⟩ := h0; exact DataW.trod_lt m _ _ _ hm
  have lt1 : ∀ x ∈ p1, x.block < W.heap.size := by obtain ⟨m, hm⟩ := h1; exact DataW.trod_lt m _ _ _ hm
  obtain ⟨new0, ι0, x0, u0, io0, su0, vr0, rv0, ty0⟩ := arg_in (τ := .sl (.st [.str, (.sl (.st [.str, (.sl .str), (.sl .str)]))])) (by kernel_rfl) h0 (hval 0 44 v0 rfl rfl) (InOk.nil W)
  obtain ⟨new1, ι1, x1, u1, io1, su1, vr1, rv1, ty1⟩ := arg_in (τ := .sl (.st [.str, (.sl (.st [.str, (.sl .str), (.sl .str)]))])) (by kernel_rfl) h1 (hval 1 44 v1 rfl rfl) io0
  clear hA0 hval0 hsz0
  obtain ⟨H', run⟩ := Q.FnExactBoxesSame_v u0 u1 ty0 ty1
  refine (callV_true Q.vb_ok Q.base_ok (args := [u0, u1]) (vs := [x0, x1]) (args' := #[v0, v1]) run io1.hw (fun g cs e => by cases e) ⟨_, _, fun _ => 0, fun _ => 0, rfl, (RV.more rv0), ⟨_, _, fun _ => 0, fun _ => 0, rfl, rv1, ⟨rfl, by simp⟩, by simp⟩, by simp⟩ io1.rel (.cons (vr0.mono su1) (.cons vr1 .nil)) io1.noRw).mono fun e W' ⟨he, bel⟩ => ?_
  subst he
  exact ⟨_, rfl, _, _, _, [], _, [], hW', trodAll_mk1 (shut_bool Try.underlying4 _), (trodAll_cons_mk (Below.trod laidOut (by kernel_rfl) (of_decide_eq_true (by kernel_rfl)) h0 bel lt0) (trodAll_cons_mk (Below.trod laidOut (by kernel_rfl) (of_decide_eq_true (by kernel_rfl)) h1 bel lt1) trodAll_mk0)), rfl, bel.frame _, fun h => by cases h⟩
theorem over : Rows.fnExactBoxesSameRow.holds Try.pinned (OpenSpec.ofChange Rows.fnExactBoxesSameSpec) :=
  OpenClaim.holds_of_wide 6 Try.f6 rfl rfl rfl rfl rfl rfl rfl ⟨rfl, rfl, rfl, rfl, rfl⟩ rfl rfl rfl rfl rfl (by kernel_rfl) Try.func6 (by kernel_rfl)
    (of_decide_eq_true (by kernel_rfl)) (by unfold Func.isWrapper; first | (rw [if_pos (by decide +kernel)]; kernel_rfl) | (rw [if_neg (by decide +kernel)]; exact ⟨rfl, rfl⟩))
    (fun os started H enc _ => lifted os started H enc)
theorem proved : Rows.FnExactBoxesSameSaid := over
#print axioms proved
end Go.Proofs.Ytgpfabgnlpdpdaa.fnExactBoxesSame
namespace Go.Proofs.Ytgpfabgnlpdpdaa
/-- The row, under a short name, for the claim. -/
theorem fnExactBoxesSame_holds : Rows.FnExactBoxesSameSaid := fnExactBoxesSame.proved
end Go.Proofs.Ytgpfabgnlpdpdaa


/- The law FnExactSplitMail of the seat's program returns true for every argument, and the argument reads afterwards as it read before; no condition. -/
import Derived.Test.YtpbgpeojlfdpoaaDoorRows
import Derived.Test.YtpbgpeojlfdpoaaDoorCards
import Derived.Test.YtpbgpeojlfdpoaaDoorTie
import Derived.LaidMore
import Derived.Lay
import Derived.SevenTiedAt
import Derived.Stop.Joined
import Derived.Test.YtpbgpeojlfdpoaaDoorExactSplitMailCk0splitexactZ
import Derived.Test.YtpbgpeojlfdpoaaDoorFnExactSplitMailK4
import Derived.WalkKit
import Derived.ProofKit
import Derived.OpenShut
import Derived.ShutString
import Derived.ChangeOld
import Derived.Below
import Derived.SizedLaws
namespace Go.Proofs.YtpbgpeojlfdpoaaDoor.fnExactSplitMail
open Go.ChangeShapes Go.WideShapes Go.ChangeAt Go.RowKit Go.AM
set_option linter.unusedVariables false
theorem own:ownKnob Tryd.prog.godebug=none:=by kernel_rfl
theorem laidOut:laidOutB Tryd.prog=true:=by kernel_rfl
def laid:List (String × DataW Unit):=[("unicode/utf8.acceptRanges",Rows.laid_unicode_utf8_acceptRanges),("unicode/utf8.first",Rows.laid_unicode_utf8_first)]
set_option maxRecDepth 100000 in
theorem lifted (os:Os) (started:os.Started) (H:Type) (enc:TypeId × Value->H) :
 ReturnsInHanded {} Tryd.checked os 3 .any (fun w args=>(Rows.fnExactSplitMailSpec.pre enc Tryd.prog Tryd.f3 Rows.fnExactSplitMailRow.domain false w args/\laidMetH Tryd.prog laid w)/\sizedMet enc Tryd.prog Tryd.f3 (OpenSpec.ofChange Rows.fnExactSplitMailSpec) false w args)
  (Rows.fnExactSplitMailSpec.post enc Tryd.prog Tryd.f3 false true false false):=by
 refine returnsInHanded_of_change_and (C:=Tryd.checked) (X:=fun w _=>laidMetH Tryd.prog laid w) (fun _ _ _ hh h=>h.of_heap hh) own started (by kernel_rfl) Tryd.func3
  (ChangeSpec.witness_shaped (enc:=enc) (C:=Tryd.checked) (os:=os) (X:=fun w _=>laidMetH Tryd.prog laid w) false (World.laidAll Tryd.prog os laid) #[.agg #[.string ByteArray.empty,.slice none 0 0,.slice none 0 0]] 8 (World.laidAll_os _ _ _)
   (World.shaped_of_ZipB (by kernel_rfl) (by kernel_rfl)) (by kernel_rfl) (by kernel_rfl) (by kernel_rfl)
   (by rw [MakeChecks.laidMetH_plain _ _ _ (by kernel_rfl)]; exact laidMet_laidAll _ (by kernel_rfl) (by kernel_rfl))) ?_
 intro W base args ds gs before hval0 hW hcnd _ hsz0 _
 have hval:∀ (j:Nat) t v,Tryd.f3.params[j]? = some t->args[j]? = some v->Value.okWide Tryd.prog W .any base t v:=hval0
 have hW':=hW
 obtain ⟨p,q,hA0,hV,rfl,hfz,hnd⟩:=hW
 have hA:DataW.TrodAll enc Tryd.prog W 0 (fun _=>true) true Tryd.f3.params.toList args.toList ds p:=hA0
 rw [Tryd.params3] at hA hval
 obtain ⟨v0,vs0,d0,ds0,p0,q0,hargs,rfl,rfl,h0,r0⟩:=trodAll_cons hA
 obtain ⟨rfl,rfl,rfl⟩:=trodAll_nil r0
 obtain rfl:args = #[v0]:=by cases args; simp_all
 obtain ⟨rfl,rfl⟩:=trodVars_none hV
 have lt0:∀ x ∈ p0,x.block<W.heap.size:=by obtain ⟨m,hm⟩:=h0; exact DataW.trod_lt m _ _ _ hm
 obtain ⟨new0,ι0,x0,u0,io0,su0,vr0,rv0,ty0⟩:=awn (τ := .st [.str,(.sl .str),(.sl .str)]) (by kernel_rfl) h0 (hval 0 24 v0 rfl rfl) (T6.nil W)
 clear hA0 hval0 hsz0
 obtain ⟨H',run⟩:=Q.ahs u0 ty0
 refine (aqt Q.axH Q.avo (args:=[u0]) (vs:=[x0]) (args' := #[v0]) run io0.hw (fun g cs e=>by cases e) ⟨_,_,fun _=>0,fun _=>0,rfl,rv0,⟨rfl,by simp⟩,by simp⟩ (io0.rel (GOk.zero _)) (.cons vr0 .nil) io0.ax1).mono fun e W' ⟨he,bel⟩=>?_
 subst he
 exact ⟨_,rfl,_,_,_,[],_,[],hW',trodAll_mk1 (shut_bool Tryd.underlying4 _),(trodAll_cons_mk (Below.trod laidOut (by kernel_rfl) (of_decide_eq_true (by kernel_rfl)) h0 bel lt0) trodAll_mk0),rfl,bel.frame _,fun h=>by cases h⟩
theorem over:Rows.fnExactSplitMailRow.holds Tryd.pinned (OpenSpec.ofChange Rows.fnExactSplitMailSpec) :=
 OpenClaim.holds_of_wide 3 Tryd.f3 rfl rfl rfl rfl rfl rfl rfl ⟨rfl,rfl,rfl,rfl,rfl⟩ rfl rfl rfl rfl rfl (by kernel_rfl) Tryd.func3 (by kernel_rfl)
  (of_decide_eq_true (by kernel_rfl)) (by unfold Func.isWrapper; first | (rw [if_pos (by decide +kernel)]; kernel_rfl) | (rw [if_neg (by decide +kernel)]; exact ⟨rfl,rfl⟩))
  (fun os started H enc _=>lifted os started H enc)
/-- The tied card of the row. -/
theorem card:Rows.FnExactSplitMailCardSaid :=
 Claim7.holds_tied_plain_at .later [] [.data,.pinned] true (true,"92d3dd1d5283e6803f822a030bd1d96115c287442605f8d7bf599df64a5b1035") false
  over (fun _ h=>by cases h) (by kernel_rfl) (fun _ h=>by cases h) fnExactSplitMail_row_tie rfl ⟨rfl,rfl⟩ (by kernel_rfl) rfl
  (fun f fn hf hfn=>by
   obtain rfl:f=3:=Option.some.inj ((show Tryd.prog.funcNamed "loop.example/mailwire/laws.FnExactSplitMail"=some 3 by kernel_rfl).symm.trans hf) |>.symm
   obtain rfl:fn=Tryd.f3:=(Option.some.inj (Tryd.func3.symm.trans hfn)).symm
   exact ⟨by kernel_rfl,fun j t ht=>by
    rw [Tryd.params3] at ht
    have hm:t ∈ [24]:=by simpa using Array.mem_of_getElem? ht
    have hall:([24].all fun u => !Tryd.prog.wantsStandIn u)=true:=by kernel_rfl
    exact (show Tryd.prog.wantsStandIn t=false by simpa using List.all_eq_true.1 hall t hm)⟩)
  (by kernel_rfl)
#print axioms card
end Go.Proofs.YtpbgpeojlfdpoaaDoor.fnExactSplitMail
namespace Go.Proofs.YtpbgpeojlfdpoaaDoor
/-- The card,under a short name,for the claim. -/
theorem fnExactSplitMail_holds:Rows.FnExactSplitMailCardSaid:=fnExactSplitMail.card
end Go.Proofs.YtpbgpeojlfdpoaaDoor


/- The law FnExactTraceMail of the seat's program returns true for every argument, and the argument reads afterwards as it read before; no condition. -/
import Derived.Test.YtpbgpeojlfdpoaaGreatDoorRows
import Derived.Test.YtpbgpeojlfdpoaaGreatDoorCards
import Derived.Test.YtpbgpeojlfdpoaaGreatDoorTie
import Derived.LaidMore
import Derived.Lay
import Derived.SevenTiedAt
import Derived.Stop.Joined
import Derived.Test.YtpbgpeojlfdpoaaGreatDoorExactTraceMailCj0traceexactZ
import Derived.Test.YtpbgpeojlfdpoaaGreatDoorFnExactTraceMailK4
import Derived.WalkKit
import Derived.ProofKit
import Derived.OpenShut
import Derived.ShutString
import Derived.ChangeOld
import Derived.Below
import Derived.SizedLaws
import Derived.OpenVars
import Derived.ChangeVars
namespace Go.Proofs.YtpbgpeojlfdpoaaGreatDoor.fnExactTraceMail
open Go.ChangeShapes Go.WideShapes Go.ChangeAt Go.RowKit Go.AM
set_option linter.unusedVariables false
theorem own:ownKnob Tryz.prog.godebug=none:=by kernel_rfl
theorem laidOut:laidOutB Tryz.prog=true:=by kernel_rfl
def laid:List (String × DataW Unit):=[("unicode/utf8.acceptRanges",Rows.laid_unicode_utf8_acceptRanges),("loop.example/mailwire/impl.monthNames",Rows.laid_loop_example_mailwire_impl_monthNames),("unicode/utf8.first",Rows.laid_unicode_utf8_first)]
set_option maxRecDepth 100000 in
theorem lifted (os:Os) (started:os.Started) (H:Type) (enc:TypeId × Value->H) :
 ReturnsInHanded {} Tryz.checked os 3 .any (fun w args=>(Rows.fnExactTraceMailSpec.pre enc Tryz.prog Tryz.f3 Rows.fnExactTraceMailRow.domain false w args/\laidMetH Tryz.prog laid w)/\sizedMet enc Tryz.prog Tryz.f3 (OpenSpec.ofChange Rows.fnExactTraceMailSpec) false w args)
  (Rows.fnExactTraceMailSpec.post enc Tryz.prog Tryz.f3 false true false false):=by
 refine returnsInHanded_of_change_and (C:=Tryz.checked) (X:=fun w _=>laidMetH Tryz.prog laid w) (fun _ _ _ hh h=>h.of_heap hh) own started (by kernel_rfl) Tryz.func3
  (ChangeSpec.witness_shaped (enc:=enc) (C:=Tryz.checked) (os:=os) (X:=fun w _=>laidMetH Tryz.prog laid w) false (World.laidAll Tryz.prog os laid) #[.agg #[.string ByteArray.empty,.slice none 0 0,.slice none 0 0],.string ByteArray.empty,.agg #[.int .i64 0,.int .i64 0,.int .i64 0,.int .i64 0,.int .i64 0,.int .i64 0,.int .i64 0]] 8 (World.laidAll_os _ _ _)
   (World.shaped_of_ZipB (by kernel_rfl) (by kernel_rfl)) (by kernel_rfl) (by kernel_rfl) (by kernel_rfl)
   (by rw [MakeChecks.laidMetH_plain _ _ _ (by kernel_rfl)]; exact laidMet_laidAll _ (by kernel_rfl) (by kernel_rfl))) ?_
 intro W base args ds gs before hval0 hW hcnd _ hsz0 _
 have hval:∀ (j:Nat) t v,Tryz.f3.params[j]? = some t->args[j]? = some v->Value.okWide Tryz.prog W .any base t v:=hval0
 have hW':=hW
 obtain ⟨p,q,hA0,hV,rfl,hfz,hnd⟩:=hW
 have hA:DataW.TrodAll enc Tryz.prog W 0 (fun _=>true) true Tryz.f3.params.toList args.toList ds p:=hA0
 rw [Tryz.params3] at hA hval
 obtain ⟨v0,vs0,d0,ds0,p0,q0,hargs,rfl,rfl,h0,r0⟩:=trodAll_cons hA
 obtain ⟨v1,vs1,d1,ds1,p1,q1,rfl,rfl,rfl,h1,r1⟩:=trodAll_cons r0
 obtain ⟨v2,vs2,d2,ds2,p2,q2,rfl,rfl,rfl,h2,r2⟩:=trodAll_cons r1
 obtain ⟨rfl,rfl,rfl⟩:=trodAll_nil r2
 obtain rfl:args = #[v0,v1,v2]:=by cases args; simp_all
 obtain ⟨_,_,_,_,g1,_,rfl,_⟩:=trodVars_one hV
 have lt0:∀ x ∈ p0,x.block<W.heap.size:=by obtain ⟨m,hm⟩:=h0; exact DataW.trod_lt m _ _ _ hm
 have lt1:∀ x ∈ p1,x.block<W.heap.size:=by obtain ⟨m,hm⟩:=h1; exact DataW.trod_lt m _ _ _ hm
 have lt2:∀ x ∈ p2,x.block<W.heap.size:=by obtain ⟨m,hm⟩:=h2; exact DataW.trod_lt m _ _ _ hm
 obtain ⟨gcs,gel,gfr,gb,gc⟩:=asG (w:=W) (n := "loop.example/mailwire/impl.monthNames") (d:=Rows.laid_loop_example_mailwire_impl_monthNames) (g:=0) (t:=116) (e:=9) (k:=12) (ss:=Q.aqG) (show laidMetH Tryz.prog laid W from hsz0) (List.mem_of_getElem? (i:=1) rfl) rfl (by kernel_rfl) rfl (by kernel_rfl) (by kernel_rfl) (by kernel_rfl) (by kernel_rfl) rfl
 obtain ⟨gio,gok⟩:=S4.ayQ gb gc
 obtain ⟨new0,ι0,x0,u0,io0,su0,vr0,rv0,ty0⟩:=anY (τ := .st [.str,(.sl .str),(.sl .str)]) (by kernel_rfl) h0 (hval 0 24 v0 rfl rfl) gio
 obtain ⟨new1,ι1,x1,u1,io1,su1,vr1,rv1,ty1⟩:=anY (τ := .str) (by kernel_rfl) h1 (hval 1 9 v1 rfl rfl) io0
 obtain ⟨new2,ι2,x2,u2,io2,su2,vr2,rv2,ty2⟩:=anY (τ := .st [(.int .i64),(.int .i64),(.int .i64),(.int .i64),(.int .i64),(.int .i64),(.int .i64)]) (by kernel_rfl) h2 (hval 2 26 v2 rfl rfl) io1
 clear hA0 hval0 hsz0
 obtain ⟨H',run⟩:=Q.aiu u0 u1 u2 ty0 ty1 ty2
 refine (arS Q.ayN Q.awO (args:=[u0,u1,u2]) (vs:=[x0,x1,x2]) (args' := #[v0,v1,v2]) run io2.hw (I2.mono (agC _ _) (I2.mono (agC _ _) (I2.start rfl _))) ⟨_,_,fun _=>0,fun _=>0,rfl,(RV.more (RV.more rv0)),⟨_,_,fun _=>0,fun _=>0,rfl,(RV.more rv1),⟨_,_,fun _=>0,fun _=>0,rfl,rv2,⟨rfl,by simp⟩,by simp⟩,by simp⟩,by simp⟩ (io2.rel (gok.mono ((su0.trans su1).trans su2))) (.cons ((vr0.mono su1).mono su2) (.cons (vr1.mono su2) (.cons vr2 .nil))) io2.azk).mono fun e W' ⟨he,bel⟩=>?_
 subst he
 exact ⟨_,rfl,_,_,_,[],_,_,hW',trodAll_mk1 (shut_bool Tryz.underlying4 _),(trodAll_cons_mk (Below.trod laidOut (by kernel_rfl) (of_decide_eq_true (by kernel_rfl)) h0 bel lt0) (trodAll_cons_mk (Below.trod laidOut (by kernel_rfl) (of_decide_eq_true (by kernel_rfl)) h1 bel lt1) (trodAll_cons_mk (Below.trod laidOut (by kernel_rfl) (of_decide_eq_true (by kernel_rfl)) h2 bel lt2) trodAll_mk0))),(Below.trodVars laidOut bel (by kernel_rfl) hV),bel.frame _,fun h=>by cases h⟩
theorem over:Rows.fnExactTraceMailRow.holds Tryz.pinned (OpenSpec.ofChange Rows.fnExactTraceMailSpec) :=
 OpenClaim.holds_of_wide 3 Tryz.f3 rfl rfl rfl rfl rfl rfl rfl ⟨rfl,rfl,rfl,rfl,rfl⟩ rfl rfl rfl rfl rfl (by kernel_rfl) Tryz.func3 (by kernel_rfl)
  (of_decide_eq_true (by kernel_rfl)) (by unfold Func.isWrapper; first | (rw [if_pos (by decide +kernel)]; kernel_rfl) | (rw [if_neg (by decide +kernel)]; exact ⟨rfl,rfl⟩))
  (fun os started H enc _=>lifted os started H enc)
/-- The tied card of the row. -/
theorem card:Rows.FnExactTraceMailCardSaid :=
 Claim7.holds_tied_plain_at .later [] [.data,.widerDeep,.pinned] true (true,"f14b7e9a560aa80472b80236e3148d13534426e8c3bb16ea8ba9077e7dcb89dc") false
  over (fun _ h=>by cases h) (by kernel_rfl) (fun _ h=>by cases h) fnExactTraceMail_row_tie rfl ⟨rfl,rfl⟩ (by kernel_rfl) rfl
  (fun f fn hf hfn=>by
   obtain rfl:f=3:=Option.some.inj ((show Tryz.prog.funcNamed "loop.example/mailwire/laws.FnExactTraceMail"=some 3 by kernel_rfl).symm.trans hf) |>.symm
   obtain rfl:fn=Tryz.f3:=(Option.some.inj (Tryz.func3.symm.trans hfn)).symm
   exact ⟨by kernel_rfl,fun j t ht=>by
    rw [Tryz.params3] at ht
    have hm:t ∈ [24,9,26]:=by simpa using Array.mem_of_getElem? ht
    have hall:([24,9,26].all fun u => !Tryz.prog.wantsStandIn u)=true:=by kernel_rfl
    exact (show Tryz.prog.wantsStandIn t=false by simpa using List.all_eq_true.1 hall t hm)⟩)
  (by kernel_rfl)
#print axioms card
end Go.Proofs.YtpbgpeojlfdpoaaGreatDoor.fnExactTraceMail
namespace Go.Proofs.YtpbgpeojlfdpoaaGreatDoor
/-- The card,under a short name,for the claim. -/
theorem fnExactTraceMail_holds:Rows.FnExactTraceMailCardSaid:=fnExactTraceMail.card
end Go.Proofs.YtpbgpeojlfdpoaaGreatDoor


/- The law FnScriptName of the seat's program returns true for every argument, and the argument reads afterwards as it read before; no condition. -/
import Derived.Test.YtmokcpfbeggigaaGreatDoorRows
import Derived.Test.YtmokcpfbeggigaaGreatDoorCards
import Derived.Test.YtmokcpfbeggigaaGreatDoorTie
import Derived.LaidMore
import Derived.Lay
import Derived.SevenTiedAt
import Derived.Stop.Joined
import Derived.Test.YtmokcpfbeggigaaGreatDoorScriptNameCm3namelawZ
import Derived.Test.YtmokcpfbeggigaaGreatDoorFnScriptNameK4
import Derived.WalkKit
import Derived.ProofKit
import Derived.OpenShut
import Derived.ShutString
import Derived.ChangeOld
import Derived.Below
import Derived.SizedLaws
import Derived.OpenVars
import Derived.ChangeVars
namespace Go.Proofs.YtmokcpfbeggigaaGreatDoor.fnScriptName
open Go.ChangeShapes Go.WideShapes Go.ChangeAt Go.RowKit Go.AM
set_option linter.unusedVariables false
theorem own:ownKnob Tryz.prog.godebug=none:=by kernel_rfl
theorem laidOut:laidOutB Tryz.prog=true:=by kernel_rfl
def laid:List (String × DataW Unit):=[("unicode/utf8.acceptRanges",Rows.laid_unicode_utf8_acceptRanges),("loop.example/mailwire/impl.monthNames",Rows.laid_loop_example_mailwire_impl_monthNames),("unicode/utf8.first",Rows.laid_unicode_utf8_first)]
set_option maxRecDepth 100000 in
theorem lifted (os:Os) (started:os.Started) (H:Type) (enc:TypeId × Value->H) :
 ReturnsInHanded {} Tryz.checked os 3 .any (fun w args=>(Rows.fnScriptNameSpec.pre enc Tryz.prog Tryz.f3 Rows.fnScriptNameRow.domain false w args/\laidMetH Tryz.prog laid w)/\sizedMet enc Tryz.prog Tryz.f3 (OpenSpec.ofChange Rows.fnScriptNameSpec) false w args)
  (Rows.fnScriptNameSpec.post enc Tryz.prog Tryz.f3 false true false false):=by
 refine apb (C:=Tryz.checked) (X:=fun w _=>laidMetH Tryz.prog laid w) (fun _ _ _ hh h=>h.of_heap hh) own started (by kernel_rfl) Tryz.func3
  (ChangeSpec.witness_shaped (enc:=enc) (C:=Tryz.checked) (os:=os) (X:=fun w _=>laidMetH Tryz.prog laid w) false (World.laidAll Tryz.prog os laid) #[.slice none 0 0] 8 (World.laidAll_os _ _ _)
   (World.shaped_of_ZipB (by kernel_rfl) (by kernel_rfl)) (by kernel_rfl) (by kernel_rfl) (by kernel_rfl)
   (by rw [MakeChecks.laidMetH_plain _ _ _ (by kernel_rfl)]; exact laidMet_laidAll _ (by kernel_rfl) (by kernel_rfl))) ?_
 intro W base args ds gs before hsh hval0 hW hsz0
 have hval:∀ (j:Nat) t v,Tryz.f3.params[j]? = some t->args[j]? = some v->Value.okWide Tryz.prog W .any base t v:=hval0
 have hW':=hW
 obtain ⟨p,q,hA0,hV,rfl,hfz,hnd⟩:=hW
 have hA:DataW.TrodAll enc Tryz.prog W 0 (fun _=>true) true Tryz.f3.params.toList args.toList ds p:=hA0
 rw [Tryz.params3] at hA hval
 obtain ⟨v0,vs0,d0,ds0,p0,q0,hargs,rfl,rfl,h0,r0⟩:=trodAll_cons hA
 obtain ⟨rfl,rfl,rfl⟩:=trodAll_nil r0
 obtain rfl:args = #[v0]:=by cases args; simp_all
 obtain ⟨_,_,_,_,g1,_,rfl,_⟩:=trodVars_one hV
 have lt0:∀ x ∈ p0,x.block<W.heap.size:=by obtain ⟨m,hm⟩:=h0; exact DataW.trod_lt m _ _ _ hm
 obtain ⟨gcs,gel,gfr,gm,gb,gc⟩:=alz (P:=Tryz.prog) (g:=1) (t:=3) (zero := #[.int .i64 0]) hsh (of_decide_eq_true (by kernel_rfl)) (by kernel_rfl) rfl (by kernel_rfl) (by kernel_rfl) rfl
 obtain ⟨gio,gok⟩:=N1.avI gb gc
 obtain ⟨new0,ι0,x0,u0,io0,su0,vr0,rv0,ty0⟩:=avC (τ := .sl (.int .u8)) (by kernel_rfl) h0 (hval 0 22 v0 rfl rfl) gio
 clear hA0 hval0 hsz0
 obtain ⟨H',run⟩:=Q.akg u0 ty0
 refine (aoE Q.avF Q.atA (args:=[u0]) (vs:=[x0]) (args' := #[v0]) run io0.hw (E6.avo rfl rfl _) ⟨_,_,fun _=>0,fun _=>0,rfl,rv0,⟨rfl,by simp⟩,by simp⟩ (io0.rel (gok.mono su0)) (.cons vr0 .nil) io0.av4).mono fun e W' ⟨he,bel⟩=>?_
 subst he
 exact ⟨_,rfl,_,_,_,[],_,_,hW',trodAll_mk1 (shut_bool Tryz.underlying4 _),(trodAll_cons_mk (Below.trod laidOut (by kernel_rfl) (of_decide_eq_true (by kernel_rfl)) h0 bel lt0) trodAll_mk0),(Below.trodVars laidOut bel (by kernel_rfl) hV),bel.frame _,fun h=>by cases h⟩
theorem over:Rows.fnScriptNameRow.holds Tryz.pinned (OpenSpec.ofChange Rows.fnScriptNameSpec) :=
 OpenClaim.holds_of_wide 3 Tryz.f3 rfl rfl rfl rfl rfl rfl rfl ⟨rfl,rfl,rfl,rfl,rfl⟩ rfl rfl rfl rfl rfl (by kernel_rfl) Tryz.func3 (by kernel_rfl)
  (of_decide_eq_true (by kernel_rfl)) (by unfold Func.isWrapper; first | (rw [if_pos (by decide +kernel)]; kernel_rfl) | (rw [if_neg (by decide +kernel)]; exact ⟨rfl,rfl⟩))
  (fun os started H enc _=>lifted os started H enc)
/-- The tied card of the row. -/
theorem card:Rows.FnScriptNameCardSaid :=
 Claim7.holds_tied_plain_at .later [] [.data,.widerDeep,.pinned] true (true,"b5e30f906013e7eef882929d6e05e2c033c289c154ed7a2e18e39aa1b236c3ba") false
  over (fun _ h=>by cases h) (by kernel_rfl) (fun _ h=>by cases h) fnScriptName_row_tie rfl ⟨rfl,rfl⟩ (by kernel_rfl) rfl
  (fun f fn hf hfn=>by
   obtain rfl:f=3:=Option.some.inj ((show Tryz.prog.funcNamed "loop.example/mailwire/laws.FnScriptName"=some 3 by kernel_rfl).symm.trans hf) |>.symm
   obtain rfl:fn=Tryz.f3:=(Option.some.inj (Tryz.func3.symm.trans hfn)).symm
   exact ⟨by kernel_rfl,fun j t ht=>by
    rw [Tryz.params3] at ht
    have hm:t ∈ [22]:=by simpa using Array.mem_of_getElem? ht
    have hall:([22].all fun u => !Tryz.prog.wantsStandIn u)=true:=by kernel_rfl
    exact (show Tryz.prog.wantsStandIn t=false by simpa using List.all_eq_true.1 hall t hm)⟩)
  (by kernel_rfl)
#print axioms card
end Go.Proofs.YtmokcpfbeggigaaGreatDoor.fnScriptName
namespace Go.Proofs.YtmokcpfbeggigaaGreatDoor
/-- The card,under a short name,for the claim. -/
theorem fnScriptName_holds:Rows.FnScriptNameCardSaid:=fnScriptName.card
end Go.Proofs.YtmokcpfbeggigaaGreatDoor


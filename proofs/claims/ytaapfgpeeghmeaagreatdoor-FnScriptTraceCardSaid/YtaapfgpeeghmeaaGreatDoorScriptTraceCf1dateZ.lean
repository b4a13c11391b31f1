/- Contracts: what FormatDate writes is what ParseDate reads. -/
import Derived.Test.YtaapfgpeeghmeaaGreatDoorScriptTraceCf0parseZ
import Derived.Test.YtaapfgpeeghmeaaGreatDoorFnScriptTraceK5
namespace Go.Proofs.YtaapfgpeeghmeaaGreatDoor.Q
open Go Go.AM
set_option linter.unusedSimpArgs false
set_option linter.unusedVariables false
set_option linter.unusedSectionVars false
theorem abp {a z:Bs} {c:UInt8} (h:c ∉ a):A0 c (a++c::z)=a::A0 c z:=by
 induction a with
 | nil=>simp [A0]
 | cons b a ih =>
   simp only [List.mem_cons,not_or] at h
   have ih:=ih h.2
   simp only [List.cons_append,A0,if_neg (Ne.symm h.1),ih]
theorem V9 {s:Bs} {c:UInt8} (h:(s.all fun b=>acY b.toNat)=true) (hc:acY c.toNat=false):c ∉ s:=fun hm=>by
 have:=List.all_eq_true.1 h c hm
 rw [hc] at this; cases this
theorem asA (h m s:Nat) (hh:h<100) (hm:m<100) (hs:s<100) :
 pc ac0 [.str (l5 h 2++58::(l5 m 2++58::l5 s 2))]=some (.A4 [.agg [.int .i64 (h:Nat),.int .i64 (m:Nat),.int .i64 (s:Nat)],.bool true]):=by
 have d1:=adu h hh
 have d2:=adu m hm
 have d3:=adu s hs
 simp only [Bool.and_eq_true,decide_eq_true_eq] at d1 d2 d3
 obtain ⟨⟨l1,a1⟩,v1⟩:=d1
 obtain ⟨⟨l2,a2⟩,v2⟩:=d2
 obtain ⟨⟨l3,a3⟩,v3⟩:=d3
 have g1:=adD (l5 h 2) 2 2 (by omega) a1 (by omega) (by omega)
 have g2:=adD (l5 m 2) 2 2 (by omega) a2 (by omega) (by omega)
 have g3:=adD (l5 s 2) 2 2 (by omega) a3 (by omega) (by omega)
 rw [v1] at g1
 rw [v2] at g2
 rw [v3] at g3
 have hsp:A0 58 (l5 h 2++58::(l5 m 2++58::l5 s 2))=[l5 h 2,l5 m 2,l5 s 2]:=by
  rw [abp (V9 a1 (by decide)),abp (V9 a2 (by decide)),adT _ _ (V9 a3 (by decide))]
 have e0:=akF (l5 h 2++58::(l5 m 2++58::l5 s 2)) 58 (by simp; omega)
 rw [hsp] at e0
 generalize l5 h 2++58::(l5 m 2++58::l5 s 2)=T at e0 ⊢
 generalize l5 h 2=A at *
 generalize l5 m 2=B at *
 generalize l5 s 2=C at *
 have e1:qc H4 [.int .i64 3,.int .i64 2,.int .i64 3]=some (.bool true):=aaD 3 2 3
 have o0:K8 (.ptr 0 0) [.int .i64 0,.int .i64 0,.int .i64 0] [[.int .i64 0,.int .i64 0,.int .i64 0]]=some [[.int .i64 0,.int .i64 0,.int .i64 0]]:=rfl
 have j0:A6 1 (.sl false (vT [A,B,C])) (.int .i64 0)=some (.I8 [.str A] 0):=rfl
 have j1:A6 1 (.sl false (vT [A,B,C])) (.int .i64 1)=some (.I8 [.str B] 0):=rfl
 have j2:A6 1 (.sl false (vT [A,B,C])) (.int .i64 2)=some (.I8 [.str C] 0):=rfl
 have x0:X9 3 1 (.ptr 0 0) (.int .i64 0)=some (.ptr 0 0):=rfl
 have x1:X9 3 1 (.ptr 0 0) (.int .i64 1)=some (.ptr 0 1):=rfl
 have x2:X9 3 1 (.ptr 0 0) (.int .i64 2)=some (.ptr 0 2):=rfl
 have st0:∀ a b c v:V,K8 (.ptr 0 0) [v] [[a,b,c]]=some [[v,b,c]]:=fun _ _ _ _=>rfl
 have st1:∀ a b c v:V,K8 (.ptr 0 1) [v] [[a,b,c]]=some [[a,v,c]]:=fun _ _ _ _=>rfl
 have st2:∀ a b c v:V,K8 (.ptr 0 2) [v] [[a,b,c]]=some [[a,b,v]]:=fun _ _ _ _=>rfl
 have p0:b7 (.int .i64) .add (.int .i64 0) (.int .i64 1)=some (.int .i64 1):=C6 _ 0 1 (by omega)
 have p1:b7 (.int .i64) .add (.int .i64 1) (.int .i64 1)=some (.int .i64 2):=C6 _ 1 1 (by omega)
 have p2:b7 (.int .i64) .add (.int .i64 2) (.int .i64 1)=some (.int .i64 3):=C6 _ 2 1 (by omega)
 have le3:B2 o6 false true 3 (.ptr 0 0) [[.int .i64 (h:Nat),.int .i64 (m:Nat),.int .i64 (s:Nat)]]=some (.agg [.int .i64 (h:Nat),.int .i64 (m:Nat),.int .i64 (s:Nat)],[[.int .i64 (h:Nat),.int .i64 (m:Nat),.int .i64 (s:Nat)]]):=rfl
 have lp:z8 O0 [.ptr 0 0,.sl false (vT [A,B,C]),.int .i64 3,.int .i64 0,.int .i64 0,.int .i64 0,.int .i64 0] [[.int .i64 0,.int .i64 0,.int .i64 0]]=some (0,[.ptr 0 0,.int .i64 0,.int .i64 0,.int .i64 0],[[.int .i64 (h:Nat),.int .i64 (m:Nat),.int .i64 (s:Nat)]]):=by
  have r0:O0 [.ptr 0 0,.sl false (vT [A,B,C]),.int .i64 3,.int .i64 0,.int .i64 0,.int .i64 0,.int .i64 0] [[.int .i64 0,.int .i64 0,.int .i64 0]]=some (none,[.ptr 0 0,.sl false (vT [A,B,C]),.int .i64 3,.int .i64 1,.int .i64 0,.int .i64 0,.int .i64 0],[[.int .i64 (h:Nat),.int .i64 0,.int .i64 0]]):=by
   rw [Z1]
   simp only [j3,j0,g1,x0,st0,p0,Q1,show (0:Int)<3 from by omega]
  have r1:O0 [.ptr 0 0,.sl false (vT [A,B,C]),.int .i64 3,.int .i64 1,.int .i64 0,.int .i64 0,.int .i64 0] [[.int .i64 (h:Nat),.int .i64 0,.int .i64 0]]=some (none,[.ptr 0 0,.sl false (vT [A,B,C]),.int .i64 3,.int .i64 2,.int .i64 0,.int .i64 0,.int .i64 0],[[.int .i64 (h:Nat),.int .i64 (m:Nat),.int .i64 0]]):=by
   rw [Z1]
   simp only [j3,j1,g2,x1,st1,p1,Q1,show (1:Int)<3 from by omega]
  have r2:O0 [.ptr 0 0,.sl false (vT [A,B,C]),.int .i64 3,.int .i64 2,.int .i64 0,.int .i64 0,.int .i64 0] [[.int .i64 (h:Nat),.int .i64 (m:Nat),.int .i64 0]]=some (none,[.ptr 0 0,.sl false (vT [A,B,C]),.int .i64 3,.int .i64 3,.int .i64 0,.int .i64 0,.int .i64 0],[[.int .i64 (h:Nat),.int .i64 (m:Nat),.int .i64 (s:Nat)]]):=by
   rw [Z1]
   simp only [j3,j2,g3,x2,st2,p2,Q1,show (2:Int)<3 from by omega]
  have r3:O0 [.ptr 0 0,.sl false (vT [A,B,C]),.int .i64 3,.int .i64 3,.int .i64 0,.int .i64 0,.int .i64 0] [[.int .i64 (h:Nat),.int .i64 (m:Nat),.int .i64 (s:Nat)]]=some (some 0,[.ptr 0 0,.int .i64 0,.int .i64 0,.int .i64 0],[[.int .i64 (h:Nat),.int .i64 (m:Nat),.int .i64 (s:Nat)]]):=by
   rw [Z1]
   simp only [j3,show ¬ ((3:Int)<3) from by omega]
  rw [aeI r0,aeI r1,aeI r2,aeS r3]
 have hl:(([A,B,C]:List Bs).length:Int)=3:=rfl
 refine abJ (H:=[[.int .i64 (h:Nat),.int .i64 (m:Nat),.int .i64 (s:Nat)]]) ?_ (by simp only [j3]) (by simp only [j3])
 show cv _ _ _=_
 rw [ak3]
 have h0:([]:VH).length=0:=rfl
 simp only [j3,e0,h0,List.nil_append,o0,hl,e1]
 rw [lp]
 simp only [j3,le3]
end Go.Proofs.YtaapfgpeeghmeaaGreatDoor.Q

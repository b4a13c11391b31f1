/- The law: names that a script codes. -/
import Derived.Test.YtmokcpfbeggigaaGreatDoorScriptNameCm2namesZ
import Derived.Test.YtmokcpfbeggigaaGreatDoorFnScriptNameK4
namespace Go.Proofs.YtmokcpfbeggigaaGreatDoor.Q
open Go Go.AM
set_option linter.unusedSimpArgs false
set_option linter.unusedVariables false
set_option linter.unusedSectionVars false
theorem aif (xs:Bs):∃ s:Bs,qc F3 [.sl false (vB xs)]=some (.str s)/\s.length<=2000:=by
 suffices h:k9 (cv F3 [.sl false (vB xs)] []) fun r=>∃ s:Bs,r.1 = .str s/\s.length<=2000 by
  obtain ⟨⟨v,H⟩,e,s,h,h1⟩:=h
  have h:v=_:=h
  subst h
  exact ⟨s,y5 e (by simp only [j0]) rfl,h1⟩
 have hd:aaQ (cv F3 [.sl false (vB xs)] []) fun v _=>∃ s:Bs,v = .str s/\s.length<=2000:=by
  refine aaQ.of ?_
  rw [adL]
  refine avl.bind ?_
  rintro _ H0 ⟨rfl,R0⟩
  simp only [j0]
  have hg:aaQ (cv abt [.ptr 0 0] H0) fun v _=>∃ s:Bs,v = .str s/\s.length<=2000:=by
   refine aaQ.of ?_
   rw [ako]
   simp only [j0]
   refine (avS R0 (by omega) (by decide)).bind ?_
   rintro _ H3 ⟨n,rfl,hn,R3⟩
   obtain ⟨c,rfl,hc⟩:∃ c:Nat,n=(c:Int)/\c<=6:=by
    simp only [unI,List.mem_cons,List.not_mem_nil,or_false] at hn
    rcases hn with rfl | rfl | rfl | rfl | rfl
    ·exact ⟨2,rfl,by omega⟩
    ·exact ⟨1,rfl,by omega⟩
    ·exact ⟨3,rfl,by omega⟩
    ·exact ⟨0,rfl,by omega⟩
    ·exact ⟨6,rfl,by omega⟩
   simp only [j0]
   refine k9.P6 (I:=fun n st H=>∃ (s:Bs),st=[.ptr 0 0,.str s,.int .i64 (n:Nat)]/\n<=6/\s.length+200*n<=1200/\Rd 0 (1+1*(6-n)) H)
    (P:=fun q vs H=>q=0/\∃ s:Bs,vs=[.str s]/\s.length<=2000) (n:=c) ?_ ⟨[],rfl,hc,by simp; omega,R3.le (by omega)⟩ ?_
   ·rintro n st H ⟨s,rfl,hn,hs,R⟩
    rw [aha]
    by_cases h0:n=0
    ·subst h0
     simp only [j0,show ¬ (((0:Nat):Int)>0) from by omega]
     exact ⟨_,rfl,.inl ⟨0,rfl,rfl,s,rfl,by omega⟩⟩
    ·have e2:a8 (.int .i64) .sub (.int .i64 (n:Int)) (.int .i64 1)=some (.int .i64 ((n-1:Nat):Int)):=af2 _ n 1 (by omega) (by omega)
     simp only [j0,show ((n:Int)>0) from by omega]
     refine (av7 R (by omega) (by decide)).bind ?_
     rintro _ G1 ⟨a,rfl,-,a2,Q1⟩
     have a3:=F1 .str s a (by omega)
     simp only [j0,a3,e2]
     exact k9.here (.inr ⟨rfl,n-1,by omega,s++a,rfl,by omega,by simp; omega,Q1.le (by omega)⟩)
   rintro _ _ H ⟨rfl,s,rfl,hl⟩
   simp only [j0]
   exact k9.here ⟨s,rfl,hl⟩
  refine hg.bind ?_
  rintro _ H2 ⟨s,rfl,hs⟩
  exact k9.here ⟨s,rfl,hs⟩
 obtain ⟨v,H,e,s,rfl,hs⟩:=hd
 exact ⟨_,e,s,rfl,hs⟩
theorem aoO {b s:Bs} (h:V0 b=some s):cv F8 [.str [110,97,109,101],.str s] []=some (.o8 [.str s,.bool true],[]):=by
 have hl:=ajE h
 have hd:=atG h
 have e1:=alx s (by omega)
 have hb:b.length<=1000:=by
  unfold V0 at h
  split at h
  ·cases h
  ·omega
 have e2:=af7 b (by omega)
 rw [hd] at e1
 rw [h] at e2
 simp only [enT] at e1 e2
 rw [ail]
 simp only [j0,e1,e2]
 try rfl
theorem akg (u:V) (h:adZ (.sl (.int .u8)) u):∃ H,cv T8 [u] []=some (.bool true,H):=by
 obtain ⟨xs,rfl⟩:=(aqw h).imp fun _ q=>q.1
 suffices hg:k9 (cv T8 [.sl false (vB xs)] []) fun r=>r.1 = .bool true by
  obtain ⟨⟨v,H⟩,e,h⟩:=hg
  cases h
  exact ⟨H,e⟩
 rw [afh]
 simp only [j0,decide_eq_true_eq]
 refine k9.ite (fun h=>?_) (fun h=>?_)
 ·exact k9.here rfl
 ·obtain ⟨b,e0,bl⟩:=aif xs
  have e1:=af7 b (by omega)
  have e2:=ag8 b (by omega)
  cases hb:V0 b with
  | none =>
    rw [hb] at e1 e2
    simp only [enT] at e1 e2
    simp only [j0,e0,e1,e2]
    exact k9.here rfl
  | some s =>
    rw [hb] at e1 e2
    simp only [enT] at e1 e2
    by_cases hs:s=[]
    ·subst hs
     simp only [j0,e0,e1,e2]
     exact k9.here rfl
    ·have hl:=ajE hb
     have n10:=au6 hb
     have fin:=am9 (w:=[110,97,109,101]) (by decide) (by decide) n10 (by simp; omega) (by omega) (by decide) (by decide) (by decide) (by decide) (aoO hb)
     have fin':qc I4 [.str ([110,97,109,101,32]++s++[10])]=some (.str ([61,32]++s++[10])):=fin
     have t1:=F1 .str [110,97,109,101,32] s (by simp; omega)
     have t2:=F1 .str ([110,97,109,101,32]++s) [10] (by simp; omega)
     have t3:=F1 .str [61,32] s (by simp; omega)
     have t4:=F1 .str ([61,32]++s) [10] (by simp; omega)
     simp only [List.cons_append,List.nil_append] at t1 t2 t3 t4 fin'
     simp only [j0,e0,e1,e2,hs,t1,t2,t3,t4,fin']
     exact k9.here rfl
end Go.Proofs.YtmokcpfbeggigaaGreatDoor.Q

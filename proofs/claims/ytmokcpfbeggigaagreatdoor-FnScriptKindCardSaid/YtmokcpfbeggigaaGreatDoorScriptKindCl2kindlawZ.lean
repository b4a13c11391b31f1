/- The law: kinds that a script reads. -/
import Derived.Test.YtmokcpfbeggigaaGreatDoorScriptKindCl1speckindZ
import Derived.Test.YtmokcpfbeggigaaGreatDoorFnScriptKindK4
namespace Go.Proofs.YtmokcpfbeggigaaGreatDoor.Q
open Go Go.AM
set_option linter.unusedSimpArgs false
set_option linter.unusedVariables false
set_option linter.unusedSectionVars false
theorem aoy {s:Bs} (h:N3 s=true):(10:UInt8) ∉ s:=fun hm=>by
 unfold N3 S7 at h
 simp only [Bool.and_eq_true,List.all_eq_true] at h
 exact absurd (h.1.2.2 10 hm) (by decide)
theorem ax5 {s:Bs} (h:u7 s=true):(10:UInt8) ∉ s:=fun hm=>by
 unfold u7 at h
 simp only [Bool.and_eq_true,Bool.not_eq_true',List.any_eq_false] at h
 exact absurd (h.1 10 hm) (by decide)
theorem aye (k:Knd):(10:UInt8) ∉ fmK k:=by
 unfold fmK
 split
 ·rename_i h
  unfold L9 at h
  simp only [Bool.and_eq_true,decide_eq_true_eq,List.all_eq_true] at h
  obtain ⟨h1,h2,h3,h4,h5⟩:=h
  unfold I9
  simp only [List.mem_append,not_or]
  refine ⟨⟨⟨aoy h1,by decide⟩,aoy h2⟩,fun hm=>?_⟩
  obtain ⟨x,hx,hm⟩:=List.mem_flatten.1 hm
  obtain ⟨p,hp,rfl⟩:=List.mem_map.1 hx
  obtain ⟨i,hi,rfl⟩:=List.getElem_of_mem hp
  have h6:=h4 i (by simpa using hi)
  unfold X4 at h6
  rw [List.getElem?_eq_getElem hi] at h6
  simp only [Bool.and_eq_true,decide_eq_true_eq] at h6
  simp only [List.mem_append] at hm
  rcases hm with ((hm | hm) | hm) | hm
  ·exact absurd hm (by decide)
  ·exact aoy h6.1 hm
  ·exact absurd hm (by decide)
  ·exact awD (ax5 h6.2.1) hm
 ·simp
theorem aqT (k:Knd):(fmK k).length<=150:=by
 unfold fmK
 split
 ·rename_i h; exact (agL h).2.2.2.2
 ·simp
def TnK (q:Knd):Prop:=q.1.length<=1000/\q.2.1.length<=1000/\q.2.2.length<=1000/\∀ p ∈ q.2.2,p.1.length<=1000/\p.2.length<=1000
theorem atY {k b:Nat} {H:VH} (hR:Rd k b H) (hb:b<=800000000):aa2 (cv acx [.ptr k 0] H) (fun v H'=>∃ q:Knd,v = .agg [.str q.1,.str q.2.1,.sl true (vF q.2.2)]/\TnK q/\Rd k (b+9) H'):=by
 refine aa2.of ?_
 rw [al9]
 simp only [b8]
 refine (aod hR (by omega) (by decide)).bind ?_
 rintro _ H1 ⟨m,rfl,-,m2,R1⟩
 simp only [b8]
 refine (aod R1 (by omega) (by decide)).bind ?_
 rintro _ H2 ⟨s,rfl,-,s2,R2⟩
 simp only [b8]
 refine (ayq R2 (by omega) (by decide)).bind ?_
 rintro _ H3 ⟨n,rfl,hn,R3⟩
 obtain ⟨c,rfl,hc⟩:∃ c:Nat,n=(c:Int)/\c<=3:=by
  simp only [unI,List.mem_cons,List.not_mem_nil,or_false] at hn
  rcases hn with rfl | rfl | rfl | rfl
  ·exact ⟨1,rfl,by omega⟩
  ·exact ⟨0,rfl,by omega⟩
  ·exact ⟨2,rfl,by omega⟩
  ·exact ⟨3,rfl,by omega⟩
 simp only [b8]
 refine j2.H5 (I:=fun n st H=>∃ (j:Nat) (ps:List F2),n=j/\st=[.ptr k 0,.int .i64 (j:Nat),.str [],.str [],.sl true [],.str m,.str s,.sl true (vF ps)]/\j<=3/\ps.length+j<=3/\(∀ p ∈ ps,p.1.length<=200/\p.2.length<=200)/\Rd k (b+3+2*(3-j)) H)
  (P:=fun q vs H=>q=0/\∃ ps:List F2,vs=[.str [],.str [],.sl true [],.str m,.str s,.sl true (vF ps)]/\ps.length<=3/\(∀ p ∈ ps,p.1.length<=200/\p.2.length<=200)/\Rd k (b+9) H) (n:=c) ?_ ⟨c,[],rfl,rfl,hc,by simpa using hc,by simp,R3.le (by omega)⟩ ?_
 ·rintro n st H ⟨j,ps,rfl,rfl,hj,hp,ha,R⟩
  rw [ajn]
  by_cases h0:n=0
  ·subst h0
   simp only [b8,show ¬ (((0:Nat):Int)>0) from by omega]
   exact ⟨_,rfl,.inl ⟨0,rfl,rfl,ps,rfl,by omega,ha,R.le (by omega)⟩⟩
  ·have e2:a8 (.int .i64) .sub (.int .i64 (n:Int)) (.int .i64 1)=some (.int .i64 ((n-1:Nat):Int)):=aij _ n 1 (by omega) (by omega)
   simp only [b8,show ((n:Int)>0) from by omega]
   rw [Option.bind_assoc]
   refine (aod R (by omega) (by decide)).bind ?_
   rintro _ G1 ⟨a,rfl,-,a2,Q1⟩
   simp only [b8]
   rw [Option.bind_assoc]
   refine (aod Q1 (by omega) (by decide)).bind ?_
   rintro _ G2 ⟨d,rfl,-,d2,Q2⟩
   have f1:=ao9 ps a (by omega) (fun p hp'=>by have:=ha p hp'; omega) (by omega)
   have ap:=al4 ps (a,d) (by omega)
   cases hf:acd ps a with
   | true =>
     rw [hf,if_pos rfl] at f1
     simp only [b8,p5,f1,e2,show ¬ (((ps.findIdx (fun p=>decide (m7 p.1=m7 a)):Nat):Int)<0) from by omega]
     exact j2.here (.inr ⟨rfl,n-1,by omega,n-1,ps,rfl,rfl,by omega,by omega,ha,Q2.le (by omega)⟩)
   | false =>
     rw [hf,if_neg (by decide)] at f1
     simp only [b8,p5,f1,e2,ap,show ((-1:Int)<0) from by decide]
     refine j2.here (.inr ⟨rfl,n-1,by omega,n-1,ps++[(a,d)],rfl,rfl,by omega,by simp; omega,fun x hx=>?_,Q2.le (by omega)⟩)
     rcases List.mem_append.1 hx with hx | hx
     ·exact ha x hx
     ·simp only [List.mem_singleton] at hx; subst hx; exact ⟨a2,d2⟩
 rintro _ _ H ⟨rfl,ps,rfl,hl,ha,R⟩
 simp only [b8]
 exact j2.here ⟨(m,s,ps),rfl,⟨by show m.length<=1000; omega,by show s.length<=1000; omega,by show ps.length<=1000; omega,fun p hp=>by have:=ha p hp; omega⟩,R⟩
theorem akX (xs:Bs):∃ s:Bs,qc O0 [.sl false (vB xs)]=some (.str s)/\(10:UInt8) ∉ s/\s.length<=400:=by
 suffices h:j2 (cv O0 [.sl false (vB xs)] []) fun r=>∃ s:Bs,r.1 = .str s/\(10:UInt8) ∉ s/\s.length<=400 by
  obtain ⟨⟨v,H⟩,e,s,h,h1,h2⟩:=h
  have h:v=_:=h
  subst h
  exact ⟨s,u3 e (by simp only [b8]) rfl,h1,h2⟩
 rw [afE]
 refine ax6.bind ?_
 rintro _ H0 ⟨rfl,R0⟩
 simp only [b8]
 refine (ali (n:=4) R0 (by omega) (by omega) (by omega)).bind ?_
 rintro _ H1 ⟨i,rfl,hi,R1⟩
 simp only [b8,decide_eq_true_eq]
 refine j2.ite (fun h=>?_) (fun h=>?_)
 ·refine (axK R1 (by omega) (by decide) (by decide)).bind ?_
  rintro _ H2 ⟨s,rfl,s1,s2,R2⟩
  simp only [b8]
  exact j2.here ⟨s,rfl,s1,by omega⟩
 ·refine (atY R1 (by omega)).bind ?_
  rintro _ H2 ⟨q,rfl,⟨q1,q2,q3,q4⟩,R2⟩
  have e1:=ajd q q1 q2 q3 q4
  have hf:=aye q
  have hl:=aqT q
  simp only [b8,p5,e1]
  refine (auZ R2 (by omega) (by decide) (by decide) (fmK q) hf (by omega)).bind ?_
  rintro _ H3 ⟨t,rfl,t1,t2,-⟩
  simp only [b8]
  exact j2.here ⟨t,rfl,t1,by omega⟩
theorem amL (u:V) (h:af3 (.sl (.int .u8)) u):∃ H,cv X8 [u] []=some (.bool true,H):=by
 obtain ⟨xs,rfl⟩:=(asu h).imp fun _ q=>q.1
 suffices hg:j2 (cv X8 [.sl false (vB xs)] []) fun r=>r.1 = .bool true by
  obtain ⟨⟨v,H⟩,e,h⟩:=hg
  cases h
  exact ⟨H,e⟩
 rw [agT]
 simp only [b8,decide_eq_true_eq]
 refine j2.ite (fun h=>?_) (fun h=>?_)
 ·exact j2.here rfl
 ·obtain ⟨s,e0,s10,sl⟩:=akX xs
  have e1:=ajA s (by omega)
  have e2:=akg s (by omega)
  have t1:=G3 .str [107,105,110,100,32] s (by simp; omega)
  have t2:=G3 .str ([107,105,110,100,32]++s) [10] (by simp; omega)
  have fin:=apH (w:=[107,105,110,100]) (by decide) (by decide) s10 (by simp; omega) (by have:=awr s; omega) (by decide) (by decide) (by decide) (by decide) (arR s (by omega))
  have fin':qc G7 [.str ([107,105,110,100,32]++s++[10])]=some (.str (ahJ (Y4 s).isSome (kdO s))):=fin
  clear fin
  simp only [List.cons_append,List.nil_append] at t1 t2 fin'
  cases ha:Y4 s with
  | none =>
    have e4:qc W8 [.agg [.str [],.str [],.sl false []],.agg [.str [],.str [],.sl false []]]=some (.bool true):=alv [] [] [] (by simp)
    rw [ha] at e1 e2 fin'
    simp only [kn3] at e1 e2
    simp only [ahJ,Option.isSome_none,Bool.false_eq_true,if_false,arL] at fin'
    simp only [b8,e0,e1,e2,e4,t1,t2,fin']
    exact j2.here rfl
  | some k =>
    have hl:=agL (aiT ha)
    have e3:=adY k (by omega) (by omega) (by omega) (fun p hp=>by have:=hl.2.2.2.1 p hp; omega)
    have e4:=alv k.1 k.2.1 k.2.2 (by omega)
    have hO:kdO s=fmK k:=by unfold kdO; rw [ha]
    have hfl:=aqT k
    have t3:=G3 .str [61,32] (fmK k) (by simp; omega)
    have t4:=G3 .str ([61,32]++fmK k) [10] (by simp; omega)
    rw [hO,ha] at fin'
    rw [ha] at e1 e2
    simp only [kn3] at e1 e2
    simp only [ahJ,Option.isSome_some,if_true] at fin'
    simp only [List.cons_append,List.nil_append] at t3 t4 fin'
    simp only [b8,p5,e0,e1,e2,e3,e4,t1,t2,t3,t4,fin']
    exact j2.here rfl
end Go.Proofs.YtmokcpfbeggigaaGreatDoor.Q

/- Contracts: dates are drawn. -/
import Derived.Test.YtaapfgpeeghmeaaGreatDoorScriptTraceCc3formatZ
namespace Go.Proofs.YtaapfgpeeghmeaaGreatDoor.Q
open Go Go.AM
set_option linter.unusedSimpArgs false
set_option linter.unusedVariables false
set_option linter.unusedSectionVars false
theorem axN:E2 130=47482:=by decide +kernel
theorem aww {k:Nat} (hk:k<130):E2 k+D8 (1970+k) 11+O2 (1970+k) 12=E2 (k+1):=by
 have:=anW (y:=1970+k) (by omega)
 have e:D8 (1970+(k:Int)) 12=D8 (1970+k) 11+O2 (1970+k) 12:=rfl
 rw [e] at this
 simp only [E2]
 rw [<-this]; omega
theorem apB (s z:Int) (hs : -10000000000<=s/\s<=10000000000) (hz : -10000<=z/\z<=10000):∃ d ok,pc acD [.int .i64 s,.int .i64 z]=some (.A4 [.agg (cD d),.bool ok]):=by
 suffices h:l7 (cv acD [.int .i64 s,.int .i64 z] []) fun r=>∃ d ok,r.1 = .A4 [.agg (cD d),.bool ok] by
  obtain ⟨⟨v,H⟩,e,d,ok,h⟩:=h
  have h:v=_:=h
  subst h
  exact ⟨d,ok,abJ e (by simp only [j3]) (by simp only [C4,j3])⟩
 have zero:∀ H:VH,l7 (some (V.A4 [.agg [.int .i64 0,.int .i64 0,.int .i64 0,.int .i64 0,.int .i64 0,.int .i64 0,.int .i64 0],.bool false],H)) fun r=>∃ d ok,r.1 = .A4 [.agg (cD d),.bool ok]:=fun H=>l7.here ⟨⟨0,0,0,0,0,0,0⟩,false,rfl⟩
 have e0:=aqq z
 rw [aoQ]
 by_cases h1:s<0
 ·simp only [j3,h1]; exact zero _
 ·by_cases h2:s>=4102444800
  ·simp only [j3,h1,h2]; exact zero _
  ·by_cases h3 : -720<=z/\z<=840
   ·have e1:=aeg (.int .i64) z 60 (by omega) (by omega)
    have e2:=W9 (.int .i64) s (z*60) (by omega) (by omega)
    rw [decide_eq_true h3] at e0
    by_cases h4:s+z*60<0
    ·simp only [j3,h1,h2,e0,e1,e2,h4]; exact zero _
    ·by_cases h5:s+z*60>=4102444800
     ·simp only [j3,h1,h2,e0,e1,e2,h4,h5]; exact zero _
     ·obtain ⟨l,hl⟩:∃ l:Nat,s+z*60=l:=⟨_,(Int.toNat_of_nonneg (by omega)).symm⟩
      rw [hl] at e2 h4 h5
      have q1:b7 (.int .i64) .quo (.int .i64 (l:Nat)) (.int .i64 86400)=some (.int .i64 ((l / 86400:Nat):Int)):=aaE _ l 86400 (by omega) (by omega)
      have q2:b7 (.int .i64) .rem (.int .i64 (l:Nat)) (.int .i64 86400)=some (.int .i64 ((l % 86400:Nat):Int)):=X8 _ l 86400 (by omega)
      have q3:b7 (.int .i64) .quo (.int .i64 ((l % 86400:Nat):Int)) (.int .i64 3600)=some (.int .i64 ((l % 86400 / 3600:Nat):Int)):=aaE _ _ 3600 (by omega) (by omega)
      have q4:b7 (.int .i64) .quo (.int .i64 ((l % 86400:Nat):Int)) (.int .i64 60)=some (.int .i64 ((l % 86400 / 60:Nat):Int)):=aaE _ _ 60 (by omega) (by omega)
      have q5:b7 (.int .i64) .rem (.int .i64 ((l % 86400 / 60:Nat):Int)) (.int .i64 60)=some (.int .i64 ((l % 86400 / 60 % 60:Nat):Int)):=X8 _ _ 60 (by omega)
      have q6:b7 (.int .i64) .rem (.int .i64 ((l % 86400:Nat):Int)) (.int .i64 60)=some (.int .i64 ((l % 86400 % 60:Nat):Int)):=X8 _ _ 60 (by omega)
      simp only [j3,h1,h2,e0,e1,e2,h4,h5,q1,q2,q3,q4,q5,q6,Q1]
      generalize ((l % 86400 / 3600:Nat):Int)=a1
      generalize ((l % 86400 / 60 % 60:Nat):Int)=a2
      generalize ((l % 86400 % 60:Nat):Int)=a3
      have hT:l / 86400<47482:=by omega
      generalize l / 86400=T at hT
      clear q1 q2 q3 q4 q5 q6
      refine l7.Y5 (I:=fun n st H=>∃ k j:Nat,n=1560-(12*k+j)/\k<130/\j<12/\0<=T-E2 k-D8 (1970+k) j ∧
       st=[.int .i64 (T-E2 k-D8 (1970+k) j),.int .i64 0,.int .i64 0,.int .i64 0,.int .i64 0,.int .i64 0,.int .i64 0,.int .i64 0,.int .i64 (1970+k),.int .i64 ((j+1:Nat):Int),.int .i64 0,.int .i64 a1,.int .i64 a2,.int .i64 a3,.int .i64 z])
       (P:=fun q vs H=>q=0/\∃ (x:Int) (k j:Nat),0<=x/\x<=100000/\vs=[.int .i64 x,.int .i64 0,.int .i64 0,.int .i64 0,.int .i64 0,.int .i64 0,.int .i64 0,.int .i64 0,.int .i64 (1970+k),.int .i64 ((j+1:Nat):Int),.int .i64 0,.int .i64 a1,.int .i64 a2,.int .i64 a3,.int .i64 z]) (n:=1560) ?_ ⟨0,0,by omega,by omega,by omega,by simp [E2,D8],by simp [E2,D8]⟩ ?_
      ·rintro n st H ⟨k,j,rfl,hk,hj,h0,rfl⟩
       have f0:=afq (1970+k) ((j+1:Nat):Int)
       have b0:=S9 (1970+k) ((j+1:Nat):Int)
       have b1:=aew k
       have b2:=age (1970+k) j
       rw [alk]
       by_cases hge:T-E2 k-D8 (1970+k) j>=O2 (1970+k) ((j+1:Nat):Int)
       ·have f1:=afS (.int .i64) (T-E2 k-D8 (1970+k) j) (O2 (1970+k) ((j+1:Nat):Int)) (by omega) (by omega)
        have f2:b7 (.int .i64) .add (.int .i64 ((j+1:Nat):Int)) (.int .i64 1)=some (.int .i64 ((j+1+1:Nat):Int)):=C6 _ (j+1) 1 (by omega)
        have f3:=W9 (.int .i64) (1970+(k:Int)) 1 (by omega) (by omega)
        by_cases h12:j=11
        ·subst h12
         have hst:=aww hk
         have hk2:k+1<130:=by
          rcases Nat.lt_or_ge (k+1) 130 with h | h
          ·exact h
          ·have:k+1=130:=by omega
           rw [this,axN] at hst
           have:((11+1:Nat):Int)=12:=rfl
           rw [this] at hge
           omega
         have hd:((11+1:Nat):Int)=12:=rfl
         rw [hd] at f1 hge
         have hx:T-E2 k-D8 (1970+(k:Int)) 11-O2 (1970+k) 12=T-E2 (k+1)-D8 (1970+((k+1:Nat):Int)) 0:=by
          rw [<-hst]; simp only [D8]; omega
         rw [hx] at f1
         rw [show (1970+(k:Int))+1=1970+((k+1:Nat):Int) by omega] at f3
         simp only [hd] at f0 f2
         simp only [j3,hd,f0,f1,f2,f3,hge,Q1,show (((11+1+1:Nat):Int)=13) from rfl]
         refine l7.here (.inr ⟨rfl,1560-(12*(k+1)+0),by omega,k+1,0,rfl,hk2,by omega,by rw [<-hx]; omega,rfl⟩)
        ·have hx:T-E2 k-D8 (1970+(k:Int)) j-O2 (1970+k) ((j+1:Nat):Int)=T-E2 k-D8 (1970+(k:Int)) (j+1):=by
          simp only [D8]
          rw [show ((j:Int)+1)=((j+1:Nat):Int) by omega]; omega
         rw [hx] at f1
         simp only [j3,f0,f1,f2,hge,Q1,show ¬ (((j+1+1:Nat):Int)=13) from by omega]
         exact l7.here (.inr ⟨rfl,1560-(12*k+(j+1)),by omega,k,j+1,rfl,hk,by omega,by rw [<-hx]; omega,rfl⟩)
       ·simp only [j3,f0,hge]
        exact l7.here (.inl ⟨0,rfl,rfl,_,k,j,h0,by omega,rfl⟩)
      ·rintro _ _ H ⟨rfl,x,k,j,hx0,hx1,rfl⟩
       have f1:=W9 (.int .i64) x 1 (by omega) (by omega)
       simp only [j3,f1,Q1]
       exact l7.here ⟨⟨1970+k,((j+1:Nat):Int),x+1,a1,a2,a3,z⟩,true,rfl⟩
   ·rw [decide_eq_false h3] at e0
    simp only [j3,h1,h2,e0]; exact zero _
theorem axt {k b:Nat} {H:VH} (hR:Rd k b H) (hb:b<=800000000):Y9 (cv aeH [.ptr k 0] H) (fun v H'=>∃ d,v = .agg (cD d)/\Rd k (b+3) H'):=by
 refine Y9.of ?_
 rw [aoM]
 simp only [j3]
 refine (aha hR (by omega) (by decide)).bind ?_
 rintro _ H1 ⟨s,rfl,hs,R1⟩
 have bs:0<=s/\s<=5000000000:=by
  simp only [unI,List.mem_cons,List.not_mem_nil,or_false] at hs
  omega
 simp only [j3]
 refine (au2 (n:=100000) R1 (by omega) (by omega) (by omega)).bind ?_
 rintro _ H2 ⟨i,rfl,hi,R2⟩
 have e1:=W9 (.int .i64) s (i:Nat) (by omega) (by omega)
 simp only [j3,e1]
 refine (aha R2 (by omega) (by decide)).bind ?_
 rintro _ H3 ⟨z,rfl,hz,R3⟩
 have bz : -1000<=z/\z<=1000:=by
  simp only [unI,List.mem_cons,List.not_mem_nil,or_false] at hz
  omega
 obtain ⟨d,ok,e2⟩:=apB (s+i) z (by omega) (by omega)
 simp only [j3,e2,C4]
 exact l7.here ⟨d,rfl,R3⟩
theorem apn {k b:Nat} {H:VH} (d:Dt) (hR:Rd k b H) (hb:b<=800000000):Y9 (cv ab3 [.ptr k 0,.agg (cD d)] H) (fun v H'=>∃ d',v = .agg (cD d')/\Rd k (b+2) H'):=by
 refine Y9.of ?_
 rw [amK]
 simp only [C4,j3]
 refine (au2 (n:=24) hR (by omega) (by omega) (by omega)).bind ?_
 rintro _ H1 ⟨i,rfl,hi,R1⟩
 simp only [j3,decide_eq_true_eq]
 refine l7.ite (fun h=>?_) (fun h=>?_)
 ·refine (aha R1 (by omega) (by decide)).bind ?_
  rintro _ H2 ⟨s,rfl,-,R2⟩
  simp only [j3,Q1]
  exact l7.here ⟨⟨d.y,d.mo,s,d.h,d.mi,d.s,d.z⟩,rfl,R2⟩
 refine l7.ite (fun h=>?_) (fun h=>?_)
 ·refine (aha R1 (by omega) (by decide)).bind ?_
  rintro _ H2 ⟨s,rfl,-,R2⟩
  simp only [j3,Q1]
  exact l7.here ⟨⟨d.y,s,d.d,d.h,d.mi,d.s,d.z⟩,rfl,R2⟩
 refine l7.ite (fun h=>?_) (fun h=>?_)
 ·refine (aha R1 (by omega) (by decide)).bind ?_
  rintro _ H2 ⟨s,rfl,-,R2⟩
  simp only [j3,Q1]
  exact l7.here ⟨⟨s,d.mo,d.d,d.h,d.mi,d.s,d.z⟩,rfl,R2⟩
 refine l7.ite (fun h=>?_) (fun h=>?_)
 ·refine (aha R1 (by omega) (by decide)).bind ?_
  rintro _ H2 ⟨s,rfl,-,R2⟩
  simp only [j3,Q1]
  exact l7.here ⟨⟨d.y,d.mo,d.d,s,d.mi,d.s,d.z⟩,rfl,R2⟩
 refine l7.ite (fun h=>?_) (fun h=>?_)
 ·refine (aha R1 (by omega) (by decide)).bind ?_
  rintro _ H2 ⟨s,rfl,-,R2⟩
  simp only [j3,Q1]
  exact l7.here ⟨⟨d.y,d.mo,d.d,d.h,d.mi,d.s,s⟩,rfl,R2⟩
 refine l7.ite (fun h=>?_) (fun h=>?_)
 ·refine (aha R1 (by omega) (by decide)).bind ?_
  rintro _ H2 ⟨s,rfl,-,R2⟩
  simp only [j3,Q1]
  exact l7.here ⟨⟨d.y,d.mo,d.d,d.h,d.mi,s,d.z⟩,rfl,R2⟩
 ·exact l7.here ⟨d,rfl,R1.le (by omega)⟩
end Go.Proofs.YtaapfgpeeghmeaaGreatDoor.Q

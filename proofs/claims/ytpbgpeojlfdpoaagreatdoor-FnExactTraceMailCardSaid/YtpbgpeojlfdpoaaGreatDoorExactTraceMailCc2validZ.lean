/- Contracts: dates are valid, seconds of dates. -/
import Derived.Test.YtpbgpeojlfdpoaaGreatDoorExactTraceMailCc1daysZ
namespace Go.Proofs.YtpbgpeojlfdpoaaGreatDoor.Q
open Go Go.AM
set_option linter.unusedSimpArgs false
set_option linter.unusedVariables false
set_option linter.unusedSectionVars false
theorem acC (n a b:Int):qc J2 [.int .i64 n,.int .i64 a,.int .i64 b]=some (.bool (decide (a<=n/\n<=b))):=by
 refine o7 (H:=[]) ?_ (by simp only [g9]) rfl
 show cv _ _ _=_
 rw [alZ]
 by_cases h1:a<=n<;>by_cases h2:n<=b<;>simp [g9,h1,h2]
theorem ava (n:Int):qc adx [.int .i64 n]=some (.bool (decide (-720<=n/\n<=840))):=by
 have e1:=acC n (-720) 840
 refine o7 (H:=[]) ?_ (by simp only [g9]) rfl
 show cv _ _ _=_
 rw [amo]
 simp only [g9,e1]
theorem ah7 (y m d:Int) (hy:1970<=y/\y<=2099) (hm:1<=m/\m<=12) (hd:1<=d/\d<=31):qc O6 [.int .i64 y,.int .i64 m,.int .i64 d]=some (.int .i64 (dbI y m d)):=by
 obtain ⟨k,rfl⟩:∃ k:Nat,y=1970+k:=⟨(y-1970).toNat,by omega⟩
 have inner:∀ (i:Nat) (s:Int) (L:Nat) (H:VH),i<=130->0<=s->s<=60000->L<=12->(∀ j:Nat,1<=j->((j:Int)<=12/\((1970+i:Int)<1970+k\/(j:Int)<m)<->j<=L)) →
  p9 (m9 abf [.int .i64 (1970+k),.int .i64 m,.int .i64 s,.int .i64 (1970+i),.int .i64 1] H) fun r=>r.1=0/\r.2.1=[.int .i64 (1970+k),.int .i64 m,.int .i64 (s+O1 (1970+i) L),.int .i64 (1970+i)]:=by
  intro i s L H hi hs1 hs2 hL hc
  refine p9.loop (I:=fun n st H=>∃ j:Nat,n=L+1-j/\1<=j/\j<=L+1/\st=[.int .i64 (1970+k),.int .i64 m,.int .i64 (s+O1 (1970+i) (j-1)),.int .i64 (1970+i),.int .i64 (j:Nat)])
   (Q:=fun r=>r.1=0/\r.2.1=[.int .i64 (1970+k),.int .i64 m,.int .i64 (s+O1 (1970+i) L),.int .i64 (1970+i)]) ?_ L _ H ⟨1,by omega,by omega,by omega,by simp [O1]⟩
  rintro n st H ⟨j,rfl,hj1,hj2,rfl⟩
  rw [agm]
  have hcj:=hc j hj1
  by_cases hlt:j<=L
  ·have e1:=ahr (1970+i) j
   have b1:=aaJ (1970+i) j
   have b2:=aiM (1970+i) (j-1)
   have e2:=aaO (.int .i64) (s+O1 (1970+i) (j-1)) (Y8 (1970+i) j) (by omega) (by omega)
   have e3:b9 (.int .i64) .add (.int .i64 (j:Int)) (.int .i64 1)=some (.int .i64 ((j+1:Nat):Int)):=A6 _ j 1 (by omega)
   have hcm:s+O1 (1970+i) (j-1)+Y8 (1970+i) j=s+O1 (1970+i) (j+1-1):=by
    obtain ⟨q,rfl⟩:∃ q,j=q+1:=⟨j-1,by omega⟩
    simp only [Nat.add_sub_cancel,O1]
    rw [Int.add_assoc]; rfl
   rw [hcm] at e2
   obtain ⟨c1,c2⟩:=hcj.2 hlt
   have fin:p9 (some ((none:Option Nat),[V.int .i64 (1970+(k:Int)),.int .i64 m,.int .i64 (s+O1 (1970+i) (j+1-1)),.int .i64 (1970+(i:Int)),.int .i64 ((j+1:Nat):Int)],H)) fun r=>match r.1 with | some m'=>(m',r.2).1=0/\(m',r.2).2.1=[V.int .i64 (1970+(k:Int)),.int .i64 m,.int .i64 (s+O1 (1970+i) L),.int .i64 (1970+(i:Int))] | none=>∃ n',n'<L+1-j/\∃ j':Nat,n'=L+1-j'/\1<=j'/\j'<=L+1/\r.2.1=[V.int .i64 (1970+(k:Int)),.int .i64 m,.int .i64 (s+O1 (1970+i) (j'-1)),.int .i64 (1970+(i:Int)),.int .i64 (j':Nat)] :=
    p9.here ⟨L+1-(j+1),by omega,j+1,rfl,by omega,by omega,rfl⟩
   by_cases h1:(1970+(i:Int))<1970+(k:Int)
   ·simp only [g9,c1,h1,e1,e2,e3]
    exact fin
   ·have h2:(j:Int)<m:=by rcases c2 with c2 | c2; exact absurd c2 h1; exact c2
    simp only [g9,c1,h1,h2,e1,e2,e3]
    exact fin
  ·have hj:j=L+1:=by omega
   subst hj
   have hn:¬ ((((L+1:Nat):Int)<=12)/\((1970+(i:Int))<1970+(k:Int)\/((L+1:Nat):Int)<m)):=fun h=>hlt (hcj.1 h)
   by_cases h0:((L+1:Nat):Int)<=12
   ·have h1:¬ (1970+(i:Int))<1970+(k:Int):=fun h=>hn ⟨h0,.inl h⟩
    have h2:¬ ((L+1:Nat):Int)<m:=fun h=>hn ⟨h0,.inr h⟩
    simp only [g9,h0,h1,h2]
    exact p9.here ⟨rfl,rfl⟩
   ·simp only [g9,h0]
    exact p9.here ⟨rfl,rfl⟩
 suffices h:p9 (cv O6 [.int .i64 (1970+k),.int .i64 m,.int .i64 d] []) fun r=>r.1 = .int .i64 (dbI (1970+k) m d) by
  obtain ⟨⟨v,H⟩,e,h⟩:=h
  have h:v=_:=h
  subst h
  exact o7 e (by simp only [g9]) rfl
 have e0:=aeD (.int .i64) d 1 (by omega) (by omega)
 rw [ah6]
 simp only [g9,e0]
 refine p9.T6 (I:=fun n st H=>∃ i:Nat,n=k+1-i/\i<=k+1/\st=[.int .i64 (1970+k),.int .i64 m,.int .i64 (if i<=k then d-1+L3 i else dbI (1970+k) m d),.int .i64 (1970+i)])
  (P:=fun q vs H=>q=0/\vs=[.int .i64 (dbI (1970+k) m d)]) (n:=k+1) ?_ ⟨0,by omega,by omega,by simp [L3]⟩ ?_
 ·rintro n st H ⟨i,rfl,hi,rfl⟩
  rw [af5]
  by_cases hlt:i<=k
  ·have b1:=agb i
   have e3:=aaO (.int .i64) (1970+(i:Int)) 1 (by omega) (by omega)
   have hnext:(1970+(i:Int))+1=1970+((i+1:Nat):Int):=by omega
   rw [hnext] at e3
   simp only [g9,hlt,show (1970+(i:Int))<=1970+(k:Int) from by omega]
   by_cases hik:i=k
   ·subst hik
    refine (inner i (d-1+L3 i) (m-1).toNat H (by omega) (by omega) (by omega) (by omega) (fun j hj=>by omega)).bind ?_
    rintro ⟨q,vs,H'⟩ ⟨rfl,rfl⟩
    simp only [g9,e3]
    refine p9.here (.inr ⟨rfl,0,by omega,i+1,by omega,by omega,?_⟩)
    have:¬ i+1<=i:=by omega
    rw [if_neg this]
    have hd:dbI (1970+i) m d=d-1+L3 i+O1 (1970+i) (m-1).toNat:=by
     unfold dbI
     rw [show ((1970+(i:Int))-1970).toNat=i by omega]
    rw [hd]
   ·refine (inner i (d-1+L3 i) 12 H (by omega) (by omega) (by omega) (by omega) (fun j hj=>by omega)).bind ?_
    rintro ⟨q,vs,H'⟩ ⟨rfl,rfl⟩
    simp only [g9,e3]
    refine p9.here (.inr ⟨rfl,k+1-(i+1),by omega,i+1,rfl,by omega,?_⟩)
    rw [if_pos (by omega:i+1<=k),awv (y:=1970+i) (by omega)]
    rw [show d-1+L3 i+(if adO (1970+(i:Int))=true then 366 else 365)=d-1+L3 (i+1) by simp only [L3]; omega]
  ·have hik:i=k+1:=by omega
   subst hik
   simp only [g9,hlt,show ¬ (1970+((k+1:Nat):Int))<=1970+(k:Int) from by omega]
   exact p9.here (.inl ⟨0,rfl,rfl,rfl⟩)
 rintro _ _ H ⟨rfl,rfl⟩
 simp only [g9]
 exact p9.here rfl
theorem axd (d:Dt) (hy:1970<=d.y/\d.y<=2099) (hm:1<=d.mo/\d.mo<=12) (hd:1<=d.d/\d.d<=31) (h1:0<=d.h/\d.h<=23) (h2:0<=d.mi/\d.mi<=59) (h3:0<=d.s/\d.s<=59) (h4 : -720<=d.z/\d.z<=840) :
 qc aax [.agg (cD d)]=some (.int .i64 (abb d)):=by
 have e0:=ah7 d.y d.mo d.d hy hm hd
 have b0:=al6 hy hm hd
 have e1:=aeC (.int .i64) (dbI d.y d.mo d.d) 86400 (by omega) (by omega)
 have e2:=aeC (.int .i64) d.h 3600 (by omega) (by omega)
 have e3:=aaO (.int .i64) (dbI d.y d.mo d.d*86400) (d.h*3600) (by omega) (by omega)
 have e4:=aeC (.int .i64) d.mi 60 (by omega) (by omega)
 have e5:=aaO (.int .i64) (dbI d.y d.mo d.d*86400+d.h*3600) (d.mi*60) (by omega) (by omega)
 have e6:=aaO (.int .i64) (dbI d.y d.mo d.d*86400+d.h*3600+d.mi*60) d.s (by omega) (by omega)
 have e7:=aeC (.int .i64) d.z 60 (by omega) (by omega)
 have e8:=aeD (.int .i64) (dbI d.y d.mo d.d*86400+d.h*3600+d.mi*60+d.s) (d.z*60) (by omega) (by omega)
 refine o7 (H:=[]) ?_ (by simp only [y9,g9]) rfl
 show cv _ _ _=_
 rw [ahf]
 simp only [y9,g9,e0,e1,e2,e3,e4,e5,e6,e7,e8]
 rfl
theorem acs (d:Dt):qc Q4 [.agg (cD d)]=some (.bool (L7 d)):=by
 have e0:=ahr d.y d.mo
 have e1:=acC d.d 1 (Y8 d.y d.mo)
 have e2:=acC d.h 0 23
 have e3:=acC d.mi 0 59
 have e4:=acC d.s 0 59
 have e5:=ava d.z
 refine o7 (H:=[]) ?_ (by simp only [y9,g9]) rfl
 show cv _ _ _=_
 rw [ajd]
 unfold L7 abG
 by_cases c1:1<=d.d/\d.d<=Y8 d.y d.mo
 ·have p1:=ajT (y:=d.y) (m:=d.mo) (by omega)
  have p2:=aaJ d.y d.mo
  by_cases c2:0<=d.h/\d.h<=23
  ·by_cases c3:0<=d.mi/\d.mi<=59
   ·by_cases c4:0<=d.s/\d.s<=59
    ·by_cases c5 : -720<=d.z/\d.z<=840
     ·have e6:=axd d p1.1 p1.2 (by omega) c2 c3 c4 c5
      have e7:=acC (abb d) 0 4102444799
      simp only [y9] at e6
      simp only [y9,g9,e0,e1,e2,e3,e4,e5,e6,e7,c1,c2,c3,c4,c5]
      by_cases c6:0<=abb d/\abb d<4102444800
      ·simp [c6,show abb d<=4102444799 from by omega]
      ·have:¬ (0<=abb d/\abb d<=4102444799):=by omega
       simp [c6,this]
     ·simp [y9,g9,e0,e1,e2,e3,e4,e5,c1,c2,c3,c4,c5]
    ·simp [y9,g9,e0,e1,e2,e3,e4,c1,c2,c3,c4]
     intros; omega
   ·simp [y9,g9,e0,e1,e2,e3,c1,c2,c3]
    intros; omega
  ·simp [y9,g9,e0,e1,e2,c1,c2]
   intros; omega
 ·simp [y9,g9,e0,e1,c1]
  intros; omega
theorem at6 (n:Int):qc adA [.int .i64 n]=some (.bool (decide (-720<=n/\n<=840))):=by
 refine o7 (H:=[]) ?_ (by simp only [g9]) rfl
 show cv _ _ _=_
 rw [ami]
 by_cases h1 : -720<=n<;>by_cases h2:n<=840<;>simp [g9,h1,h2]
theorem ar2 (d:Dt):qc acu [.agg (cD d)]=some (.bool (abG d)):=by
 have e0:=ahv d.y d.mo
 have e1:=at6 d.z
 refine o7 (H:=[]) ?_ (by simp only [y9,g9]) rfl
 show cv _ _ _=_
 rw [akf]
 unfold abG
 by_cases c1:1<=d.d<;>by_cases c2:d.d<=Y8 d.y d.mo<;>by_cases c3:0<=d.h<;>by_cases c4:d.h<=23<;>simp [y9,g9,e0,e1,c1,c2,c3,c4]
 by_cases c5:0<=d.mi<;>by_cases c6:d.mi<=59<;>by_cases c7:0<=d.s<;>by_cases c8:d.s<=59<;>simp [g9,c5,c6,c7,c8]
theorem aju (d:Dt) (hf:abG d=true):qc Q5 [.agg (cD d)]=some (.int .i64 (abb d)):=by
 unfold abG at hf
 simp only [decide_eq_true_eq] at hf
 obtain ⟨hd1,hd2,h1,h2,h3,h4,h5,h6,h7,h8⟩:=hf
 obtain ⟨hy,hm⟩:=ajT (y:=d.y) (m:=d.mo) (by omega)
 have p2:=aaJ d.y d.mo
 have b0:=al6 hy hm (d:=d.d) (by omega)
 obtain ⟨k,hk⟩:∃ k:Nat,d.y=1970+k:=⟨(d.y-1970).toNat,by omega⟩
 have hdb:dbI d.y d.mo d.d=d.d-1+L3 k+O1 d.y (d.mo-1).toNat:=by
  unfold dbI; rw [hk,show ((1970+(k:Int))-1970).toNat=k by omega]
 have bk:=agb k
 have e0:=aeD (.int .i64) d.d 1 (by omega) (by omega)
 suffices h:p9 (cv Q5 [.agg (cD d)] []) fun r=>r.1 = .int .i64 (abb d) by
  obtain ⟨⟨v,H⟩,e,h⟩:=h
  have h:v=_:=h
  subst h
  exact o7 e (by simp only [y9,g9]) rfl
 have e1:=aeC (.int .i64) (dbI d.y d.mo d.d) 86400 (by omega) (by omega)
 have e2:=aeC (.int .i64) d.h 3600 (by omega) (by omega)
 have e3:=aaO (.int .i64) (dbI d.y d.mo d.d*86400) (d.h*3600) (by omega) (by omega)
 have e4:=aeC (.int .i64) d.mi 60 (by omega) (by omega)
 have e5:=aaO (.int .i64) (dbI d.y d.mo d.d*86400+d.h*3600) (d.mi*60) (by omega) (by omega)
 have e6:=aaO (.int .i64) (dbI d.y d.mo d.d*86400+d.h*3600+d.mi*60) d.s (by omega) (by omega)
 have e7:=aeC (.int .i64) d.z 60 (by omega) (by omega)
 have e8:=aeD (.int .i64) (dbI d.y d.mo d.d*86400+d.h*3600+d.mi*60+d.s) (d.z*60) (by omega) (by omega)
 rw [ajb]
 simp only [y9,g9,e0]
 refine p9.T6 (I:=fun n st H=>∃ i:Nat,n=k-i/\i<=k/\st = .int .i64 (d.d-1+L3 i) :: .int .i64 (1970+i)::cD d)
  (P:=fun q vs H=>q=0/\vs = .int .i64 (d.d-1+L3 k)::cD d) (n:=k) ?_ ⟨0,by omega,by omega,by simp [L3,y9]⟩ ?_
 ·rintro n st H ⟨i,rfl,hi,rfl⟩
  simp only [y9]
  rw [agR]
  by_cases hlt:i<k
  ·have b1:=agb i
   have c1:=aaO (.int .i64) (d.d-1+L3 i) 365 (by omega) (by omega)
   have c2:=aaO (.int .i64) (d.d-1+L3 i+365) 1 (by omega) (by omega)
   have c3:=aaO (.int .i64) (1970+(i:Int)) 1 (by omega) (by omega)
   rw [show (1970+(i:Int))+1=1970+((i+1:Nat):Int) by omega] at c3
   have c4:=aoL (1970+i)
   by_cases hl:adO (1970+(i:Int))=true
   ·have:d.d-1+L3 i+365+1=d.d-1+L3 (i+1):=by simp only [L3,hl,if_true]; omega
    rw [this] at c2
    simp only [g9,c1,c2,c3,c4,hl,show (1970+(i:Int))<d.y from by omega]
    exact p9.here (.inr ⟨rfl,k-(i+1),by omega,i+1,rfl,by omega,rfl⟩)
   ·have:d.d-1+L3 i+365=d.d-1+L3 (i+1):=by simp only [L3,hl]; simp; omega
    rw [this] at c1
    simp only [g9,c1,c3,c4,hl,show (1970+(i:Int))<d.y from by omega]
    exact p9.here (.inr ⟨rfl,k-(i+1),by omega,i+1,rfl,by omega,rfl⟩)
  ·have:i=k:=by omega
   subst this
   simp only [g9,show ¬ (1970+(i:Int))<d.y from by omega]
   exact p9.here (.inl ⟨0,rfl,rfl,rfl⟩)
 rintro _ _ H ⟨rfl,rfl⟩
 simp only [y9,g9]
 refine p9.T6 (I:=fun n st H=>∃ j:Nat,n=(d.mo-1).toNat+1-j/\1<=j/\j<=(d.mo-1).toNat+1/\st = .int .i64 (d.d-1+L3 k+O1 d.y (j-1)) :: .int .i64 (j:Nat)::cD d)
  (P:=fun q vs H=>q=0/\vs = .int .i64 (dbI d.y d.mo d.d)::cD d) (n:=(d.mo-1).toNat) ?_ ⟨1,by omega,by omega,by omega,by simp [O1,y9]⟩ ?_
 ·rintro n st H ⟨j,rfl,hj1,hj2,rfl⟩
  simp only [y9]
  rw [agK]
  by_cases hlt:(j:Int)<d.mo
  ·have f1:=ahv d.y j
   have b1:=aaJ d.y j
   have b2:=aiM d.y (j-1)
   have f2:=aaO (.int .i64) (d.d-1+L3 k+O1 d.y (j-1)) (Y8 d.y j) (by omega) (by omega)
   have f3:b9 (.int .i64) .add (.int .i64 (j:Int)) (.int .i64 1)=some (.int .i64 ((j+1:Nat):Int)):=A6 _ j 1 (by omega)
   have hcm:d.d-1+L3 k+O1 d.y (j-1)+Y8 d.y j=d.d-1+L3 k+O1 d.y (j+1-1):=by
    obtain ⟨q,rfl⟩:∃ q,j=q+1:=⟨j-1,by omega⟩
    simp only [Nat.add_sub_cancel,O1]
    rw [Int.add_assoc]; rfl
   rw [hcm] at f2
   simp only [g9,f1,f2,f3,hlt]
   exact p9.here (.inr ⟨rfl,(d.mo-1).toNat+1-(j+1),by omega,j+1,rfl,by omega,by omega,rfl⟩)
  ·have:j-1=(d.mo-1).toNat:=by omega
   rw [this,<-hdb]
   simp only [g9,hlt]
   exact p9.here (.inl ⟨0,rfl,rfl,rfl⟩)
 rintro _ _ H ⟨rfl,rfl⟩
 simp only [y9,g9,e1,e2,e3,e4,e5,e6,e7,e8]
 exact p9.here rfl
theorem aci (d:Dt):qc Q6 [.agg (cD d)]=some (.bool (L7 d)):=by
 have e0:=ar2 d
 refine o7 (H:=[]) ?_ (by simp only [y9,g9]) rfl
 show cv _ _ _=_
 rw [ai5]
 unfold L7
 by_cases hf:abG d=true
 ·have e1:=aju d hf
  simp only [y9] at e0 e1
  by_cases h1:0<=abb d<;>by_cases h2:abb d<4102444800<;>simp [y9,g9,e0,e1,hf,h1,h2]
 ·simp only [y9] at e0
  simp [y9,g9,e0,hf]
end Go.Proofs.YtpbgpeojlfdpoaaGreatDoor.Q

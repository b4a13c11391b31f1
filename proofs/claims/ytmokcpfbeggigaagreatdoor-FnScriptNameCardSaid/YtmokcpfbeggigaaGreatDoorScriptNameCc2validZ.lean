/- Contracts: dates are valid, seconds of dates. -/
import Derived.Test.YtmokcpfbeggigaaGreatDoorScriptNameCc1daysZ
namespace Go.Proofs.YtmokcpfbeggigaaGreatDoor.Q
open Go Go.AM
set_option linter.unusedSimpArgs false
set_option linter.unusedVariables false
set_option linter.unusedSectionVars false
theorem W5 (n a b:Int):qc D5 [.int .i64 n,.int .i64 a,.int .i64 b]=some (.bool (decide (a<=n/\n<=b))):=by
 refine y5 (H:=[]) ?_ (by simp only [j0]) rfl
 show cv _ _ _=_
 rw [aiQ]
 by_cases h1:a<=n<;>by_cases h2:n<=b<;>simp [j0,h1,h2]
theorem alA (n:Int):qc Y4 [.int .i64 n]=some (.bool (decide (-720<=n/\n<=840))):=by
 have e1:=W5 n (-720) 840
 refine y5 (H:=[]) ?_ (by simp only [j0]) rfl
 show cv _ _ _=_
 rw [ajD]
 simp only [j0,e1]
theorem amz (y m d:Int) (hy:1970<=y/\y<=2099) (hm:1<=m/\m<=12) (hd:1<=d/\d<=31):qc P5 [.int .i64 y,.int .i64 m,.int .i64 d]=some (.int .i64 (dbI y m d)):=by
 obtain ⟨k,rfl⟩:∃ k:Nat,y=1970+k:=⟨(y-1970).toNat,by omega⟩
 have inner:∀ (i:Nat) (s:Int) (L:Nat) (H:VH),i<=130->0<=s->s<=60000->L<=12->(∀ j:Nat,1<=j->((j:Int)<=12/\((1970+i:Int)<1970+k\/(j:Int)<m)<->j<=L)) →
  k9 (p5 W4 [.int .i64 (1970+k),.int .i64 m,.int .i64 s,.int .i64 (1970+i),.int .i64 1] H) fun r=>r.1=0/\r.2.1=[.int .i64 (1970+k),.int .i64 m,.int .i64 (s+C6 (1970+i) L),.int .i64 (1970+i)]:=by
  intro i s L H hi hs1 hs2 hL hc
  refine k9.loop (I:=fun n st H=>∃ j:Nat,n=L+1-j/\1<=j/\j<=L+1/\st=[.int .i64 (1970+k),.int .i64 m,.int .i64 (s+C6 (1970+i) (j-1)),.int .i64 (1970+i),.int .i64 (j:Nat)])
   (Q:=fun r=>r.1=0/\r.2.1=[.int .i64 (1970+k),.int .i64 m,.int .i64 (s+C6 (1970+i) L),.int .i64 (1970+i)]) ?_ L _ H ⟨1,by omega,by omega,by omega,by simp [C6]⟩
  rintro n st H ⟨j,rfl,hj1,hj2,rfl⟩
  rw [aea]
  have hcj:=hc j hj1
  by_cases hlt:j<=L
  ·have e1:=aci (1970+i) j
   have b1:=aeu (1970+i) j
   have b2:=agU (1970+i) (j-1)
   have e2:=acw (.int .i64) (s+C6 (1970+i) (j-1)) (Q6 (1970+i) j) (by omega) (by omega)
   have e3:a8 (.int .i64) .add (.int .i64 (j:Int)) (.int .i64 1)=some (.int .i64 ((j+1:Nat):Int)):=C0 _ j 1 (by omega)
   have hcm:s+C6 (1970+i) (j-1)+Q6 (1970+i) j=s+C6 (1970+i) (j+1-1):=by
    obtain ⟨q,rfl⟩:∃ q,j=q+1:=⟨j-1,by omega⟩
    simp only [Nat.add_sub_cancel,C6]
    rw [Int.add_assoc]; rfl
   rw [hcm] at e2
   obtain ⟨c1,c2⟩:=hcj.2 hlt
   have fin:k9 (some ((none:Option Nat),[V.int .i64 (1970+(k:Int)),.int .i64 m,.int .i64 (s+C6 (1970+i) (j+1-1)),.int .i64 (1970+(i:Int)),.int .i64 ((j+1:Nat):Int)],H)) fun r=>match r.1 with | some m'=>(m',r.2).1=0/\(m',r.2).2.1=[V.int .i64 (1970+(k:Int)),.int .i64 m,.int .i64 (s+C6 (1970+i) L),.int .i64 (1970+(i:Int))] | none=>∃ n',n'<L+1-j/\∃ j':Nat,n'=L+1-j'/\1<=j'/\j'<=L+1/\r.2.1=[V.int .i64 (1970+(k:Int)),.int .i64 m,.int .i64 (s+C6 (1970+i) (j'-1)),.int .i64 (1970+(i:Int)),.int .i64 (j':Nat)] :=
    k9.here ⟨L+1-(j+1),by omega,j+1,rfl,by omega,by omega,rfl⟩
   by_cases h1:(1970+(i:Int))<1970+(k:Int)
   ·simp only [j0,c1,h1,e1,e2,e3]
    exact fin
   ·have h2:(j:Int)<m:=by rcases c2 with c2 | c2; exact absurd c2 h1; exact c2
    simp only [j0,c1,h1,h2,e1,e2,e3]
    exact fin
  ·have hj:j=L+1:=by omega
   subst hj
   have hn:¬ ((((L+1:Nat):Int)<=12)/\((1970+(i:Int))<1970+(k:Int)\/((L+1:Nat):Int)<m)):=fun h=>hlt (hcj.1 h)
   by_cases h0:((L+1:Nat):Int)<=12
   ·have h1:¬ (1970+(i:Int))<1970+(k:Int):=fun h=>hn ⟨h0,.inl h⟩
    have h2:¬ ((L+1:Nat):Int)<m:=fun h=>hn ⟨h0,.inr h⟩
    simp only [j0,h0,h1,h2]
    exact k9.here ⟨rfl,rfl⟩
   ·simp only [j0,h0]
    exact k9.here ⟨rfl,rfl⟩
 suffices h:k9 (cv P5 [.int .i64 (1970+k),.int .i64 m,.int .i64 d] []) fun r=>r.1 = .int .i64 (dbI (1970+k) m d) by
  obtain ⟨⟨v,H⟩,e,h⟩:=h
  have h:v=_:=h
  subst h
  exact y5 e (by simp only [j0]) rfl
 have e0:=ajj (.int .i64) d 1 (by omega) (by omega)
 rw [agh]
 simp only [j0,e0]
 refine k9.P6 (I:=fun n st H=>∃ i:Nat,n=k+1-i/\i<=k+1/\st=[.int .i64 (1970+k),.int .i64 m,.int .i64 (if i<=k then d-1+I9 i else dbI (1970+k) m d),.int .i64 (1970+i)])
  (P:=fun q vs H=>q=0/\vs=[.int .i64 (dbI (1970+k) m d)]) (n:=k+1) ?_ ⟨0,by omega,by omega,by simp [I9]⟩ ?_
 ·rintro n st H ⟨i,rfl,hi,rfl⟩
  rw [aep]
  by_cases hlt:i<=k
  ·have b1:=agC i
   have e3:=acw (.int .i64) (1970+(i:Int)) 1 (by omega) (by omega)
   have hnext:(1970+(i:Int))+1=1970+((i+1:Nat):Int):=by omega
   rw [hnext] at e3
   simp only [j0,hlt,show (1970+(i:Int))<=1970+(k:Int) from by omega]
   by_cases hik:i=k
   ·subst hik
    refine (inner i (d-1+I9 i) (m-1).toNat H (by omega) (by omega) (by omega) (by omega) (fun j hj=>by omega)).bind ?_
    rintro ⟨q,vs,H'⟩ ⟨rfl,rfl⟩
    simp only [j0,e3]
    refine k9.here (.inr ⟨rfl,0,by omega,i+1,by omega,by omega,?_⟩)
    have:¬ i+1<=i:=by omega
    rw [if_neg this]
    have hd:dbI (1970+i) m d=d-1+I9 i+C6 (1970+i) (m-1).toNat:=by
     unfold dbI
     rw [show ((1970+(i:Int))-1970).toNat=i by omega]
    rw [hd]
   ·refine (inner i (d-1+I9 i) 12 H (by omega) (by omega) (by omega) (by omega) (fun j hj=>by omega)).bind ?_
    rintro ⟨q,vs,H'⟩ ⟨rfl,rfl⟩
    simp only [j0,e3]
    refine k9.here (.inr ⟨rfl,k+1-(i+1),by omega,i+1,rfl,by omega,?_⟩)
    rw [if_pos (by omega:i+1<=k),anP (y:=1970+i) (by omega)]
    rw [show d-1+I9 i+(if aeG (1970+(i:Int))=true then 366 else 365)=d-1+I9 (i+1) by simp only [I9]; omega]
  ·have hik:i=k+1:=by omega
   subst hik
   simp only [j0,hlt,show ¬ (1970+((k+1:Nat):Int))<=1970+(k:Int) from by omega]
   exact k9.here (.inl ⟨0,rfl,rfl,rfl⟩)
 rintro _ _ H ⟨rfl,rfl⟩
 simp only [j0]
 exact k9.here rfl
theorem auE (d:Dt) (hy:1970<=d.y/\d.y<=2099) (hm:1<=d.mo/\d.mo<=12) (hd:1<=d.d/\d.d<=31) (h1:0<=d.h/\d.h<=23) (h2:0<=d.mi/\d.mi<=59) (h3:0<=d.s/\d.s<=59) (h4 : -720<=d.z/\d.z<=840) :
 qc T9 [.agg (cD d)]=some (.int .i64 (afk d)):=by
 have e0:=amz d.y d.mo d.d hy hm hd
 have b0:=auW hy hm hd
 have e1:=agR (.int .i64) (dbI d.y d.mo d.d) 86400 (by omega) (by omega)
 have e2:=agR (.int .i64) d.h 3600 (by omega) (by omega)
 have e3:=acw (.int .i64) (dbI d.y d.mo d.d*86400) (d.h*3600) (by omega) (by omega)
 have e4:=agR (.int .i64) d.mi 60 (by omega) (by omega)
 have e5:=acw (.int .i64) (dbI d.y d.mo d.d*86400+d.h*3600) (d.mi*60) (by omega) (by omega)
 have e6:=acw (.int .i64) (dbI d.y d.mo d.d*86400+d.h*3600+d.mi*60) d.s (by omega) (by omega)
 have e7:=agR (.int .i64) d.z 60 (by omega) (by omega)
 have e8:=ajj (.int .i64) (dbI d.y d.mo d.d*86400+d.h*3600+d.mi*60+d.s) (d.z*60) (by omega) (by omega)
 refine y5 (H:=[]) ?_ (by simp only [aaf,j0]) rfl
 show cv _ _ _=_
 rw [aeF]
 simp only [aaf,j0,e0,e1,e2,e3,e4,e5,e6,e7,e8]
 rfl
theorem ahS (d:Dt):qc R1 [.agg (cD d)]=some (.bool (al1 d)):=by
 have e0:=aci d.y d.mo
 have e1:=W5 d.d 1 (Q6 d.y d.mo)
 have e2:=W5 d.h 0 23
 have e3:=W5 d.mi 0 59
 have e4:=W5 d.s 0 59
 have e5:=alA d.z
 refine y5 (H:=[]) ?_ (by simp only [aaf,j0]) rfl
 show cv _ _ _=_
 rw [ag4]
 unfold al1 anI
 by_cases c1:1<=d.d/\d.d<=Q6 d.y d.mo
 ·have p1:=arE (y:=d.y) (m:=d.mo) (by omega)
  have p2:=aeu d.y d.mo
  by_cases c2:0<=d.h/\d.h<=23
  ·by_cases c3:0<=d.mi/\d.mi<=59
   ·by_cases c4:0<=d.s/\d.s<=59
    ·by_cases c5 : -720<=d.z/\d.z<=840
     ·have e6:=auE d p1.1 p1.2 (by omega) c2 c3 c4 c5
      have e7:=W5 (afk d) 0 4102444799
      simp only [aaf] at e6
      simp only [aaf,j0,e0,e1,e2,e3,e4,e5,e6,e7,c1,c2,c3,c4,c5]
      by_cases c6:0<=afk d/\afk d<4102444800
      ·simp [c6,show afk d<=4102444799 from by omega]
      ·have:¬ (0<=afk d/\afk d<=4102444799):=by omega
       simp [c6,this]
     ·simp [aaf,j0,e0,e1,e2,e3,e4,e5,c1,c2,c3,c4,c5]
    ·simp [aaf,j0,e0,e1,e2,e3,e4,c1,c2,c3,c4]
     intros; omega
   ·simp [aaf,j0,e0,e1,e2,e3,c1,c2,c3]
    intros; omega
  ·simp [aaf,j0,e0,e1,e2,c1,c2]
   intros; omega
 ·simp [aaf,j0,e0,e1,c1]
  intros; omega
end Go.Proofs.YtmokcpfbeggigaaGreatDoor.Q

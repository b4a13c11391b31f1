/- Contracts: a path's place among mailboxes in order. -/
import Derived.Test.YtaapfgpeeghmeaaGreatDoorScriptMailC92deliverZ
namespace Go.Proofs.YtaapfgpeeghmeaaGreatDoor.Q
open Go Go.AM
set_option linter.unusedSimpArgs false
set_option linter.unusedVariables false
set_option linter.unusedSectionVars false
theorem axo (tk:TK) (s t:Bs):b7 tk .lss (.str s) (.str t)=some (.bool (W2 s t)):=by
 simp only [b7,toA,V6,afs,ofA,Option.bind_some,ByteArray.toList_eq]
 rfl
theorem awL (tk:TK) (s t:Bs):b7 tk .gtr (.str s) (.str t)=some (.bool (!(W2 s t||decide (s=t)))):=by
 simp only [b7,toA,V6,afs,ofA,Option.bind_some,ByteArray.toList_eq]
 have:(s==t)=decide (s=t):=by rw [Bool.eq_iff_iff,beq_iff_eq,decide_eq_true_iff]
 show some (V.bool (!(Op.bytesLess s t||s==t)))=_
 rw [this]; rfl
def aq5 (s t:Bs):Int:=if W2 s t=true then -1 else if s=t then 0 else 1
def afm (l:List y0):Prop:=∀ i j,i<j->j<l.length->W2 (C8 l i).path (C8 l j).path=true
theorem amJ {l:List y0} (h:Q3 l=true):afm l:=by
 unfold Q3 at h
 rw [Bool.and_eq_true,Bool.not_eq_true'] at h
 have step:∀ j,0<j->j<l.length->W2 (C8 l (j-1)).path (C8 l j).path=true:=fun j h0 hj=>by
  have:=List.any_eq_false.1 h.2 j (by simpa using hj)
  unfold ajY at this
  simp only [Bool.or_eq_true,not_or,Bool.and_eq_true,decide_eq_true_eq,Bool.not_eq_true'] at this
  have:=this.2.2.1
  cases hq:W2 (C8 l (j-1)).path (C8 l j).path with
  | true=>rfl
  | false=>exact absurd ⟨h0,hq⟩ this
 intro i j hij hj
 induction j with
 | zero=>omega
 | succ j ih =>
   have s:=step (j+1) (by omega) hj
   rw [Nat.add_sub_cancel] at s
   by_cases e:i=j
   ·subst e; exact s
   ·exact ahV (ih (by omega) (by omega)) s
theorem aCb (n:Nat) (h:n<=4611686018427387904):b7 (.int .u64) .shr (.int .u64 (n:Int)) (.int .u64 1)=some (.int .u64 ((n / 2:Nat):Int)):=by
 have:Int.fdiv (n:Int) 2=((n / 2:Nat):Int):=by
  rw [Int.fdiv_eq_ediv_of_nonneg _ (by omega)]; omega
 simp only [b7,toA,V6,Option.bind_some]
 rw [if_pos (by omega)]
 show some (V.int .u64 (Int.fdiv (n:Int) (2 ^ 1)))=_
 rw [show ((2:Int) ^ 1)=2 from rfl,this]
theorem aFv (n:Nat) (h:n<=4611686018427387904):aaX .u64 (.int .i64 (n:Int))=some (.int .u64 (n:Int)):=by
 simp [aaX,IntWalk.u64_in (n:Int) ⟨by omega,by omega⟩]
theorem aFC (n:Nat) (h:n<=4611686018427387904):aaX .i64 (.int .u64 (n:Int))=some (.int .i64 (n:Int)):=by
 simp [aaX,IntWalk.i64_in (n:Int) ⟨by omega,by omega⟩]
theorem avq (s:Bs):qc aag [.str s]=some (.bool false):=by
 refine y4 (H:=[]) ?_ (by simp only [c9]) rfl
 show cv _ _ _=_
 rw [ajQ]
 simp only [c9,ne_eq,not_true_eq_false]
theorem ayC (s t:Bs):qc abk [.str s,.str t]=some (.int .i64 (aq5 s t)):=by
 have e1:=avq s
 have e2:=avq t
 refine y4 (H:=[]) ?_ (by simp only [c9]) rfl
 show cv _ _ _=_
 rw [aiU]
 unfold aq5
 by_cases h1:W2 s t=true
 ·simp only [c9,e1,e2,axo,awL,h1]
 ·have h1':W2 s t=false:=by simpa using h1
  by_cases h2:s=t
  ·simp only [c9,e1,e2,axo,awL,h1',h2,Bool.or_true]
   subst h2
   simp only [h1',c9,Bool.or_true]
  ·simp only [c9,e1,e2,axo,awL,h1',h2,Bool.or_self]
theorem alu (b:y0) (p:Bs):qc K7 [.agg (eX.e b),.str p]=some (.int .i64 (aq5 b.path p)):=by
 have e1:=ayC b.path p
 rw [arf]
 refine y4 (H:=[]) ?_ (by simp only [c9]) rfl
 show cv _ _ _=_
 rw [alT]
 simp only [c9,e1]
theorem avf (l:List y0) (p:Bs) (hl:l.length<=1000000000):∃ i:Nat,i<=l.length/\qc D3 [.sl false (vR eX l),.str p,.fn K7 []]=some (.n9 [.int .i64 (i:Nat),.bool (decide (i<l.length)&&decide ((C8 l i).path=p))]) ∧
 (afm l->(∀ j,j<i->W2 (C8 l j).path p=true)/\(i<l.length->W2 (C8 l i).path p=false)):=by
 suffices hg:j8 (cv D3 [.sl false (vR eX l),.str p,.fn K7 []] []) fun r=>∃ i:Nat,i<=l.length/\r.1 = .n9 [.int .i64 (i:Nat),.bool (decide (i<l.length)&&decide ((C8 l i).path=p))] ∧
  (afm l->(∀ j,j<i->W2 (C8 l j).path p=true)/\(i<l.length->W2 (C8 l i).path p=false)) by
  obtain ⟨⟨v,H⟩,e,i,hi,h,h3⟩:=hg
  have h:v=_:=h
  subst h
  exact ⟨i,hi,y4 e (by simp only [c9]) rfl,h3⟩
 rw [X7]
 simp only [c9]
 refine j8.N1 (I:=fun n st H=>∃ lo hi:Nat,n=hi-lo/\lo<=hi/\hi<=l.length/\st=[.sl false (vR eX l),.str p,.fn K7 [],.int .i64 (l.length:Nat),.int .i64 (lo:Nat),.int .i64 (hi:Nat)] ∧
  (afm l->(∀ j,j<lo->W2 (C8 l j).path p=true)/\(∀ j,hi<=j->j<l.length->W2 (C8 l j).path p=false)))
  (P:=fun q vs H=>q=0/\∃ lo:Nat,lo<=l.length/\vs=[.sl false (vR eX l),.str p,.fn K7 [],.int .i64 (l.length:Nat),.int .i64 (lo:Nat)] ∧
   (afm l->(∀ j,j<lo->W2 (C8 l j).path p=true)/\(∀ j,lo<=j->j<l.length->W2 (C8 l j).path p=false))) (n:=l.length) ?_ ⟨0,l.length,by omega,by omega,by omega,rfl,fun _=>⟨fun j hj=>by omega,fun j h1 h2=>by omega⟩⟩ ?_
 ·rintro n st H ⟨lo,hi,rfl,hlh,hhl,rfl,hs⟩
  rw [V0]
  by_cases hlt:lo<hi
  ·have a1:b7 (.int .i64) .add (.int .i64 (lo:Int)) (.int .i64 (hi:Int))=some (.int .i64 ((lo+hi:Nat):Int)):=A0 _ lo hi (by omega)
   have a2:=aFv (lo+hi) (by omega)
   have a3:=aCb (lo+hi) (by omega)
   have a4:=aFC ((lo+hi) / 2) (by omega)
   have hm:(lo+hi) / 2<l.length:=by omega
   generalize hmm:(lo+hi) / 2=mid at *
   have i1:=ajj false l .i64 mid hm
   have e1:=alu l[mid] p
   have a5:b7 (.int .i64) .add (.int .i64 (mid:Int)) (.int .i64 1)=some (.int .i64 ((mid+1:Nat):Int)):=A0 _ mid 1 (by omega)
   have hat:=K6 hm
   rw [arf] at e1 i1
   unfold aq5 at e1
   by_cases h1:W2 l[mid].path p=true
   ·simp only [h1,if_true] at e1
    simp only [c9,a1,a2,a3,a4,a5,i1,e1,show ((lo:Int)<(hi:Int)) from by omega,show ((-1:Int)<0) from by omega]
    refine ⟨_,rfl,.inr ⟨rfl,hi-(mid+1),by omega,mid+1,hi,rfl,by omega,by omega,rfl,fun so=>⟨fun j hj=>?_,(hs so).2⟩⟩⟩
    by_cases hje:j=mid
    ·subst hje; rw [hat]; exact h1
    ·have:=so j mid (by omega) hm
     rw [hat] at this
     exact ahV this h1
   ·have h1':W2 l[mid].path p=false:=by simpa using h1
    have hge:∃ c:Int,0<=c/\qc K7 [.agg [.str l[mid].path,.sl false (vR eM l[mid].o8)],.str p]=some (.int .i64 c):=by
     rw [e1]
     simp only [h1',Bool.false_eq_true,if_false]
     split
     ·exact ⟨0,by omega,rfl⟩
     ·exact ⟨1,by omega,rfl⟩
    obtain ⟨c,hc,e1'⟩:=hge
    simp only [c9,a1,a2,a3,a4,a5,i1,e1',show ((lo:Int)<(hi:Int)) from by omega,show ¬ (c<0) from by omega]
    refine ⟨_,rfl,.inr ⟨rfl,mid-lo,by omega,lo,mid,rfl,by omega,by omega,rfl,fun so=>⟨(hs so).1,fun j h2 h3=>?_⟩⟩⟩
    by_cases hje:j=mid
    ·subst hje; rw [hat]; exact h1'
    ·have hlt2:=so mid j (by omega) h3
     rw [hat] at hlt2
     cases hq:W2 (C8 l j).path p with
     | false=>rfl
     | true=>exact absurd (ahV hlt2 hq) h1
  ·have:lo=hi:=by omega
   subst this
   simp only [c9,show ¬ ((lo:Int)<(lo:Int)) from by omega]
   exact ⟨_,rfl,.inl ⟨0,rfl,rfl,lo,hhl,rfl,hs⟩⟩
 rintro _ _ H ⟨rfl,lo,hlo,rfl,hs⟩
 by_cases hlt:lo<l.length
 ·have i1:=ajj false l .i64 lo hlt
  have e1:=alu l[lo] p
  have hat:=K6 hlt
  rw [arf] at e1 i1
  have hdec:(aq5 l[lo].path p=0)<->((C8 l lo).path=p):=by
   rw [hat]
   unfold aq5
   by_cases h1:W2 l[lo].path p=true
   ·simp only [h1,if_true]
    constructor
    ·intro h; omega
    ·intro h
     rw [h] at h1
     have:=aqf p
     unfold W2 at h1
     rw [this] at h1; cases h1
   ·simp only [h1,if_false]
    by_cases h2:l[lo].path=p
    ·simp [h2]
    ·simp [h2]
  simp only [c9,i1,e1,show ((lo:Int)<(l.length:Int)) from by omega]
  refine j8.here ⟨lo,hlo,?_,fun so=>⟨(hs so).1,fun h=>(hs so).2 lo (Nat.le_refl _) h⟩⟩
  rw [decide_eq_true hlt,Bool.true_and,<-decide_eq_decide.2 hdec]
 ·simp only [c9,show ¬ ((lo:Int)<(l.length:Int)) from by omega]
  refine j8.here ⟨lo,hlo,?_,fun so=>⟨(hs so).1,fun h=>(hs so).2 lo (Nat.le_refl _) h⟩⟩
  rw [decide_eq_false hlt,Bool.false_and]
theorem ajP (l:List y0) (p:Bs) (hl:l.length<=1000000000):∃ (i:Nat) (k:Bool),i<=l.length/\qc V9 [.sl false (vR eX l),.str p]=some (.n9 [.int .i64 (i:Nat),.bool k])/\(k=true->i<l.length) ∧
 (afm l->k=l.any (G4 p)/\(k=true->i=l.findIdx (G4 p))/\(∀ j,j<i->W2 (C8 l j).path p=true)/\(i<l.length->W2 (C8 l i).path p=false)):=by
 obtain ⟨i,hi,e,hs⟩:=avf l p hl
 refine ⟨i,decide (i<l.length)&&decide ((C8 l i).path=p),hi,y4 (H:=[]) ?_ (by simp only [c9]) rfl,fun h=>by rw [Bool.and_eq_true,decide_eq_true_eq] at h; exact h.1,fun so=>?_⟩
 ·show cv _ _ _=_
  rw [aow]
  simp only [c9,e]
 ·obtain ⟨h1,h2⟩:=hs so
  have hin:∀ (j:Nat) (hj:j<l.length),G4 p l[j]=true->j=i:=fun j hj hp=>by
   have hp:l[j].path=p:=of_decide_eq_true hp
   have hjat:=K6 hj
   rcases Nat.lt_trichotomy j i with h | h | h
   ·have:=h1 j h
    rw [hjat,hp] at this
    unfold W2 at this; rw [aqf] at this; cases this
   ·exact h
   ·have hi':i<l.length:=by omega
    have a:=h2 hi'
    have b:=so i j h hj
    rw [hjat,hp] at b
    rw [b] at a; cases a
  have hk:(decide (i<l.length)&&decide ((C8 l i).path=p))=l.any (G4 p):=by
   rw [Bool.eq_iff_iff,Bool.and_eq_true,decide_eq_true_eq,decide_eq_true_eq,List.any_eq_true]
   constructor
   ·rintro ⟨h,g⟩
    exact ⟨l[i],List.getElem_mem h,by rw [K6 h] at g; exact decide_eq_true g⟩
   ·rintro ⟨b,hb,g⟩
    obtain ⟨j,hj,rfl⟩:=List.getElem_of_mem hb
    have:=hin j hj g
    subst this
    exact ⟨hj,by rw [K6 hj]; exact of_decide_eq_true g⟩
  refine ⟨hk,fun h=>?_,h1,h2⟩
  rw [hk] at h
  have hx:=aao h
  exact (hin _ hx (List.findIdx_getElem (w:=hx))).symm
end Go.Proofs.YtaapfgpeeghmeaaGreatDoor.Q

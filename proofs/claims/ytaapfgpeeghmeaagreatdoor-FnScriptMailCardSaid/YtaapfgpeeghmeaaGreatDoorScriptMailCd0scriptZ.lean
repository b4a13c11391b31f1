/- Contracts: scripts, line by line. -/
import Derived.Test.YtaapfgpeeghmeaaGreatDoorScriptMailCc6tracelawsZ
import Derived.Test.YtaapfgpeeghmeaaGreatDoorFnScriptMailK5
namespace Go.Proofs.YtaapfgpeeghmeaaGreatDoor.Q
open Go Go.AM
set_option linter.unusedSimpArgs false
set_option linter.unusedVariables false
set_option linter.unusedSectionVars false
theorem ayc (y:Int):∀ {i j:Nat},i<=j->K8 y i<=K8 y j:=by
 intro i j h
 induction h with
 | refl=>exact Int.le_refl _
 | step h ih=>rename_i m; have:=adC y (m+1); simp only [K8]; omega
theorem ayY:∀ {i j:Nat},i<=j->U4 i<=U4 j:=by
 intro i j h
 induction h with
 | refl=>exact Int.le_refl _
 | step h ih=>simp only [U4]; split<;>omega
theorem avo:U4 56=20454:=by decide +kernel
def W3:Dt:=⟨2026,1,5,7,8,9,60⟩
theorem atX:aaD W3=true:=by decide +kernel
theorem asn:pc adD [.int .i64 1767593289,.int .i64 60]=some (.n9 [.agg (cD W3),.bool true]):=by
 suffices h:j8 (cv adD [.int .i64 1767593289,.int .i64 60] []) fun r=>r.1 = .n9 [.agg (cD W3),.bool true] by
  obtain ⟨⟨v,H⟩,e,h⟩:=h
  have h:v=_:=h
  subst h
  exact Y9 e (by simp only [c9]) (by simp only [L3,c9])
 have e0:=ac0 1767593289 0 4102444799
 have e1:=atB 60
 rw [decide_eq_true (by omega)] at e0 e1
 have q0:b7 (.int .i64) .mul (.int .i64 60) (.int .i64 60)=some (.int .i64 3600):=ajo _ 60 60 (by omega)
 have q00:b7 (.int .i64) .add (.int .i64 1767593289) (.int .i64 3600)=some (.int .i64 1767596889):=A0 _ 1767593289 3600 (by omega)
 have q1:b7 (.int .i64) .quo (.int .i64 1767596889) (.int .i64 86400)=some (.int .i64 20458):=ahS _ 1767596889 86400 (by omega) (by omega)
 have q2:b7 (.int .i64) .rem (.int .i64 1767596889) (.int .i64 86400)=some (.int .i64 25689):=afq _ 1767596889 86400 (by omega)
 have q3:b7 (.int .i64) .quo (.int .i64 25689) (.int .i64 3600)=some (.int .i64 7):=ahS _ 25689 3600 (by omega) (by omega)
 have q4:b7 (.int .i64) .quo (.int .i64 25689) (.int .i64 60)=some (.int .i64 428):=ahS _ 25689 60 (by omega) (by omega)
 have q5:b7 (.int .i64) .rem (.int .i64 428) (.int .i64 60)=some (.int .i64 8):=afq _ 428 60 (by omega)
 have q6:b7 (.int .i64) .rem (.int .i64 25689) (.int .i64 60)=some (.int .i64 9):=afq _ 25689 60 (by omega)
 have e9:=ab9 W3
 rw [atX] at e9
 have e9':qc O8 [.agg [.int .i64 2026,.int .i64 1,.int .i64 5,.int .i64 7,.int .i64 8,.int .i64 9,.int .i64 60]]=some (.bool true):=e9
 have f9:b7 (.int .i64) .add (.int .i64 4) (.int .i64 1)=some (.int .i64 5):=A0 _ 4 1 (by omega)
 rw [aqy]
 simp only [c9,e0,e1,q0,q00,q1,q2,q3,q4,q5,q6,ao3,show ¬ ((1767596889:Int)<0) from by omega]
 refine j8.N1 (I:=fun n st H=>∃ k j:Nat,n=1560-(12*k+j)/\k<=56/\j<12/\(k=56->j=0) ∧
  st=[.int .i64 (20458-U4 k-K8 (1970+k) j),.int .i64 0,.int .i64 0,.int .i64 0,.int .i64 0,.int .i64 0,.int .i64 0,.int .i64 0,.int .i64 (1970+k),.int .i64 ((j+1:Nat):Int),.int .i64 0,.int .i64 7,.int .i64 8,.int .i64 9,.int .i64 60])
  (P:=fun q vs H=>q=0/\vs=[.int .i64 4,.int .i64 0,.int .i64 0,.int .i64 0,.int .i64 0,.int .i64 0,.int .i64 0,.int .i64 0,.int .i64 2026,.int .i64 1,.int .i64 0,.int .i64 7,.int .i64 8,.int .i64 9,.int .i64 60]) (n:=1560) ?_ ⟨0,0,by omega,by omega,by omega,by omega,by simp [U4,K8]⟩ ?_
 ·rintro n st H ⟨k,j,rfl,hk,hj,h56,rfl⟩
  have f0:=agG (1970+k) ((j+1:Nat):Int)
  have b0:=adC (1970+k) ((j+1:Nat):Int)
  have b1:=amv k
  have b2:=amt (1970+k) j
  rw [am6]
  by_cases hlt:k<56
  ·have hstep:=avH (y:=1970+k) (by omega)
   have hm:=ayc (1970+(k:Int)) (i:=j+1) (j:=12) (by omega)
   have hy:=ayY (i:=k+1) (j:=56) (by omega)
   rw [avo] at hy
   have hj1:K8 (1970+(k:Int)) (j+1)=K8 (1970+(k:Int)) j+aaU (1970+k) ((j+1:Nat):Int):=by
    simp only [K8]
    rw [show ((j:Int)+1)=((j+1:Nat):Int) by omega]
   have hk1:U4 (k+1)=U4 k+(if akN (1970+(k:Int))=true then 366 else 365):=rfl
   have hge:20458-U4 k-K8 (1970+k) j>=aaU (1970+k) ((j+1:Nat):Int):=by omega
   have f1:=amq (.int .i64) (20458-U4 k-K8 (1970+k) j) (aaU (1970+k) ((j+1:Nat):Int)) (by omega) (by omega)
   have f2:b7 (.int .i64) .add (.int .i64 ((j+1:Nat):Int)) (.int .i64 1)=some (.int .i64 ((j+1+1:Nat):Int)):=A0 _ (j+1) 1 (by omega)
   have f3:=ah6 (.int .i64) (1970+(k:Int)) 1 (by omega) (by omega)
   by_cases h12:j=11
   ·subst h12
    have hx:20458-U4 k-K8 (1970+(k:Int)) 11-aaU (1970+k) ((11+1:Nat):Int)=20458-U4 (k+1)-K8 (1970+((k+1:Nat):Int)) 0:=by
     have hj2:K8 (1970+(k:Int)) 12=K8 (1970+(k:Int)) 11+aaU (1970+k) ((11+1:Nat):Int):=hj1
     simp only [K8] at hj2 ⊢
     rw [hk1,<-hstep]
     simp only [K8]
     omega
    rw [hx] at f1
    rw [show (1970+(k:Int))+1=1970+((k+1:Nat):Int) by omega] at f3
    simp only [c9,f0,f1,f2,f3,hge,ao3,show (1970+(k:Int))<=2099 from by omega,show (((11+1+1:Nat):Int)>12) from by omega]
    exact j8.here (.inr ⟨rfl,1560-(12*(k+1)+0),by omega,k+1,0,rfl,by omega,by omega,fun _=>rfl,rfl⟩)
   ·have hx:20458-U4 k-K8 (1970+(k:Int)) j-aaU (1970+k) ((j+1:Nat):Int)=20458-U4 k-K8 (1970+(k:Int)) (j+1):=by omega
    rw [hx] at f1
    simp only [c9,f0,f1,f2,hge,ao3,show (1970+(k:Int))<=2099 from by omega,show ¬ (((j+1+1:Nat):Int)>12) from by omega]
    exact j8.here (.inr ⟨rfl,1560-(12*k+(j+1)),by omega,k,j+1,rfl,by omega,by omega,fun e=>by omega,rfl⟩)
  ·have hk56:k=56:=by omega
   subst hk56
   have:=h56 rfl
   subst this
   have hd:aaU (1970+((56:Nat):Int)) ((0+1:Nat):Int)=31:=by decide +kernel
   rw [hd] at f0
   rw [avo]
   simp only [K8] at *
   simp only [c9,f0,show (1970+((56:Nat):Int))<=2099 from by omega,show ¬ ((20458-20454-0:Int)>=31) from by omega]
   exact j8.here (.inl ⟨0,rfl,rfl,rfl⟩)
 rintro _ _ H ⟨rfl,rfl⟩
 simp only [c9,f9,ao3,e9']
 exact j8.here rfl
def cG (b:V) (s:List V) (d:Dt):List V:=b::s++cD d
def abx:List V:=[.int .i64 0,.str [],.str [],.sl true [],.sl true [],.sl true []]
theorem ay0:pc acP []=some (.agg (cG (.sl true []) abx W3)):=by
 have e0:=asn
 rw [L3] at e0
 refine Y9 (H:=[]) ?_ (by simp only [c9]) (by simp only [cG,abx,L3,U3,Z1,c9])
 show cv _ _ _=_
 rw [apa]
 simp only [cG,abx,L3,U3,Z1,c9,e0]
def bxT:Bs:=[98,111,120,32]
def tkT:Bs:=[116,97,107,101,32]
def okL:Bs:=[111,107,10]
inductive Steps:List Bs->VH->Bs->VH->Prop
 | nil (H:VH):Steps [] H [] H
 | skip {ls:List Bs} {H:VH} {out:Bs} {H':VH}:Steps ls H out H'->Steps ([]::ls) H out H'
 | step {l:Bs} {ls:List Bs} {H H1 H':VH} {o out:Bs}:l ≠ []->cv O4 [.ptr 0 0,.str l] H=some (.str o,H1)->Steps ls H1 out H'->Steps (l::ls) H (o++out) H'
theorem Steps.app {a b:List Bs} {H H1 H':VH} {o p:Bs} (h:Steps a H o H1) (g:Steps b H1 p H'):Steps (a++b) H (o++p) H':=by
 induction h with
 | nil H=>exact g
 | skip _ ih=>exact .skip (ih g)
 | step h1 h2 _ ih=>rw [List.append_assoc]; exact .step h1 h2 (ih g)
theorem aFg (v0 v1 v2 v3 v4 v5 v6 v7 v8 v9 v10 v11 v12 v13:V):C5 14 (.agg [v0,v1,v2,v3,v4,v5,v6,v7,v8,v9,v10,v11,v12,v13])=some [v0,v1,v2,v3,v4,v5,v6,v7,v8,v9,v10,v11,v12,v13]:=by exact id rfl
theorem au1 {text:Bs} {ls:List Bs} {out:Bs} {H':VH} (hs:j7 10 text=ls) (ht:text.length<=20000) (hl:ls.length<=200) (hst:Steps ls [cG (.sl true []) abx W3] out H') (ho:out.length<=40000) :
 qc Z4 [.str text]=some (.str out):=by
 suffices h:j8 (cv Z4 [.str text] []) fun r=>r.1 = .str out by
  obtain ⟨⟨v,H⟩,e,h⟩:=h
  have h:v=_:=h
  subst h
  exact y4 e (by simp only [c9]) rfl
 have e0:=ay0
 have e1:=arj text 10 (by omega)
 rw [hs] at e1
 have s0:∀ (z:List V),z.length=14->E1 (.ptr 0 0) (cG (.sl true []) abx W3) ([]++[z])=some [cG (.sl true []) abx W3]:=fun z hz=>by
  simp only [E1,List.nil_append,List.getElem?_cons_zero]
  have hl:(cG (.sl true []) abx W3).length=14:=rfl
  rw [hz,hl]
  simp only [show Nat.ble (0+14) 14=true from rfl,F7,hl,List.take_zero,List.nil_append]
  rw [List.drop_eq_nil_of_le (by omega)]
  rfl
 simp only [cG,abx,L3,U3,Z1] at e0 s0
 rw [am7]
 simp only [c9,e0,aFg,List.length_nil,List.nil_append,show ¬ ((text.length:Int)>20000) from by omega]
 skip
 rw [s0 _ rfl]
 simp only [c9,e1]
 refine j8.N1 (I:=fun n st H=>∃ (i:Nat) (acc rest:Bs),n=ls.length-i/\i<=ls.length/\acc++rest=out/\Steps (ls.drop i) H rest H'/\st=[.ptr 0 0,.str acc,.sl false (vT ls),.int .i64 (ls.length:Nat),.int .i64 (i:Nat)])
  (P:=fun q vs H=>q=0/\vs=[.str out]) (n:=ls.length) ?_ ⟨0,[],out,by omega,by omega,rfl,by simpa [cG,abx,L3] using hst,rfl⟩ ?_
 ·rintro n st H ⟨i,acc,rest,rfl,hi,hacc,hst,rfl⟩
  rw [aj9]
  by_cases hlt:i<ls.length
  ·have i1:=P8 false ls .i64 i hlt
   have a1:b7 (.int .i64) .add (.int .i64 (i:Nat)) (.int .i64 1)=some (.int .i64 ((i+1:Nat):Int)):=A0 _ i 1 (by omega)
   have hal:acc.length<=40000:=by rw [<-hacc] at ho; simp at ho; omega
   rw [List.drop_eq_getElem_cons hlt] at hst
   generalize hx:ls[i]=x at hst i1
   cases hst with
   | skip h =>
     simp only [c9,i1,a1,show ((i:Nat):Int)<(ls.length:Int) from by omega]
     exact j8.here (.inr ⟨rfl,ls.length-(i+1),by omega,i+1,acc,rest,rfl,by omega,hacc,h,rfl⟩)
   | step hne hcv h =>
     rename_i H1 o rest
     have a2:=D9 .str acc o (by rw [<-hacc] at ho; simp at ho; omega)
     simp only [c9,i1,a1,hne,hcv,a2,show ((i:Nat):Int)<(ls.length:Int) from by omega,show ¬ (((i:Nat):Int)>=200) from by omega,show ¬ ((acc.length:Int)>40000) from by omega]
     exact j8.here (.inr ⟨rfl,ls.length-(i+1),by omega,i+1,acc++o,rest,rfl,by omega,by rw [List.append_assoc]; exact hacc,h,rfl⟩)
  ·have:i=ls.length:=by omega
   subst this
   rw [List.drop_length] at hst
   cases hst
   rw [List.append_nil] at hacc
   subst hacc
   simp only [c9,show ¬ ((ls.length:Int)<(ls.length:Int)) from by omega]
   exact j8.here (.inl ⟨0,rfl,rfl,rfl⟩)
 rintro _ _ H ⟨rfl,rfl⟩
 simp only [c9]
 exact j8.here rfl
end Go.Proofs.YtaapfgpeeghmeaaGreatDoor.Q

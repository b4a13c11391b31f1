/- Contracts: scripts, line by line. -/
import Derived.Test.YtmokcpfbeggigaaGreatDoorScriptListCc2validZ
import Derived.Test.YtmokcpfbeggigaaGreatDoorFnScriptListK4
namespace Go.Proofs.YtmokcpfbeggigaaGreatDoor.Q
open Go Go.AM
set_option linter.unusedSimpArgs false
set_option linter.unusedVariables false
set_option linter.unusedSectionVars false
theorem atG (y:Int):∀ {i j:Nat},i<=j->E7 y i<=E7 y j:=by
 intro i j h
 induction h with
 | refl=>exact Int.le_refl _
 | step h ih=>rename_i m; have:=afW y (m+1); simp only [E7]; omega
theorem atu:∀ {i j:Nat},i<=j->N5 i<=N5 j:=by
 intro i j h
 induction h with
 | refl=>exact Int.le_refl _
 | step h ih=>simp only [N5]; split<;>omega
theorem aqW:N5 56=20454:=by decide +kernel
def dt0:Dt:=⟨2026,1,5,7,8,9,60⟩
theorem aye:anU dt0=true:=by decide +kernel
theorem ang:pc aa2 [.int .i64 1767593289,.int .i64 60]=some (.w5 [.agg (cD dt0),.bool true]):=by
 suffices h:l3 (cv aa2 [.int .i64 1767593289,.int .i64 60] []) fun r=>r.1 = .w5 [.agg (cD dt0),.bool true] by
  obtain ⟨⟨v,H⟩,e,h⟩:=h
  have h:v=_:=h
  subst h
  exact adY e (by simp only [b8]) (by simp only [abo,b8])
 have e0:=aaT 1767593289 0 4102444799
 have e1:=an3 60
 rw [decide_eq_true (by omega)] at e0 e1
 have q0:a8 (.int .i64) .mul (.int .i64 60) (.int .i64 60)=some (.int .i64 3600):=af5 _ 60 60 (by omega)
 have q00:a8 (.int .i64) .add (.int .i64 1767593289) (.int .i64 3600)=some (.int .i64 1767596889):=y4 _ 1767593289 3600 (by omega)
 have q1:a8 (.int .i64) .quo (.int .i64 1767596889) (.int .i64 86400)=some (.int .i64 20458):=aii _ 1767596889 86400 (by omega) (by omega)
 have q2:a8 (.int .i64) .rem (.int .i64 1767596889) (.int .i64 86400)=some (.int .i64 25689):=aga _ 1767596889 86400 (by omega)
 have q3:a8 (.int .i64) .quo (.int .i64 25689) (.int .i64 3600)=some (.int .i64 7):=aii _ 25689 3600 (by omega) (by omega)
 have q4:a8 (.int .i64) .quo (.int .i64 25689) (.int .i64 60)=some (.int .i64 428):=aii _ 25689 60 (by omega) (by omega)
 have q5:a8 (.int .i64) .rem (.int .i64 428) (.int .i64 60)=some (.int .i64 8):=aga _ 428 60 (by omega)
 have q6:a8 (.int .i64) .rem (.int .i64 25689) (.int .i64 60)=some (.int .i64 9):=aga _ 25689 60 (by omega)
 have e9:=ajR dt0
 rw [aye] at e9
 have e9':qc X2 [.agg [.int .i64 2026,.int .i64 1,.int .i64 5,.int .i64 7,.int .i64 8,.int .i64 9,.int .i64 60]]=some (.bool true):=e9
 have f9:a8 (.int .i64) .add (.int .i64 4) (.int .i64 1)=some (.int .i64 5):=y4 _ 4 1 (by omega)
 rw [amh]
 simp only [b8,e0,e1,q0,q00,q1,q2,q3,q4,q5,q6,akZ,show ¬ ((1767596889:Int)<0) from by omega]
 refine l3.V3 (I:=fun n st H=>∃ k j:Nat,n=1560-(12*k+j)/\k<=56/\j<12/\(k=56->j=0) ∧
  st=[.int .i64 (20458-N5 k-E7 (1970+k) j),.int .i64 0,.int .i64 0,.int .i64 0,.int .i64 0,.int .i64 0,.int .i64 0,.int .i64 0,.int .i64 (1970+k),.int .i64 ((j+1:Nat):Int),.int .i64 0,.int .i64 7,.int .i64 8,.int .i64 9,.int .i64 60])
  (P:=fun q vs H=>q=0/\vs=[.int .i64 4,.int .i64 0,.int .i64 0,.int .i64 0,.int .i64 0,.int .i64 0,.int .i64 0,.int .i64 0,.int .i64 2026,.int .i64 1,.int .i64 0,.int .i64 7,.int .i64 8,.int .i64 9,.int .i64 60]) (n:=1560) ?_ ⟨0,0,by omega,by omega,by omega,by omega,by simp [N5,E7]⟩ ?_
 ·rintro n st H ⟨k,j,rfl,hk,hj,h56,rfl⟩
  have f0:=adM (1970+k) ((j+1:Nat):Int)
  have b0:=afW (1970+k) ((j+1:Nat):Int)
  have b1:=aiO k
  have b2:=aiE (1970+k) j
  rw [ai0]
  by_cases hlt:k<56
  ·have hstep:=aqt (y:=1970+k) (by omega)
   have hm:=atG (1970+(k:Int)) (i:=j+1) (j:=12) (by omega)
   have hy:=atu (i:=k+1) (j:=56) (by omega)
   rw [aqW] at hy
   have hj1:E7 (1970+(k:Int)) (j+1)=E7 (1970+(k:Int)) j+V5 (1970+k) ((j+1:Nat):Int):=by
    simp only [E7]
    rw [show ((j:Int)+1)=((j+1:Nat):Int) by omega]
   have hk1:N5 (k+1)=N5 k+(if agY (1970+(k:Int))=true then 366 else 365):=rfl
   have hge:20458-N5 k-E7 (1970+k) j>=V5 (1970+k) ((j+1:Nat):Int):=by omega
   have f1:=alK (.int .i64) (20458-N5 k-E7 (1970+k) j) (V5 (1970+k) ((j+1:Nat):Int)) (by omega) (by omega)
   have f2:a8 (.int .i64) .add (.int .i64 ((j+1:Nat):Int)) (.int .i64 1)=some (.int .i64 ((j+1+1:Nat):Int)):=y4 _ (j+1) 1 (by omega)
   have f3:=afl (.int .i64) (1970+(k:Int)) 1 (by omega) (by omega)
   by_cases h12:j=11
   ·subst h12
    have hx:20458-N5 k-E7 (1970+(k:Int)) 11-V5 (1970+k) ((11+1:Nat):Int)=20458-N5 (k+1)-E7 (1970+((k+1:Nat):Int)) 0:=by
     have hj2:E7 (1970+(k:Int)) 12=E7 (1970+(k:Int)) 11+V5 (1970+k) ((11+1:Nat):Int):=hj1
     simp only [E7] at hj2 ⊢
     rw [hk1,<-hstep]
     simp only [E7]
     omega
    rw [hx] at f1
    rw [show (1970+(k:Int))+1=1970+((k+1:Nat):Int) by omega] at f3
    simp only [b8,f0,f1,f2,f3,hge,akZ,show (1970+(k:Int))<=2099 from by omega,show (((11+1+1:Nat):Int)>12) from by omega]
    exact l3.here (.inr ⟨rfl,1560-(12*(k+1)+0),by omega,k+1,0,rfl,by omega,by omega,fun _=>rfl,rfl⟩)
   ·have hx:20458-N5 k-E7 (1970+(k:Int)) j-V5 (1970+k) ((j+1:Nat):Int)=20458-N5 k-E7 (1970+(k:Int)) (j+1):=by omega
    rw [hx] at f1
    simp only [b8,f0,f1,f2,hge,akZ,show (1970+(k:Int))<=2099 from by omega,show ¬ (((j+1+1:Nat):Int)>12) from by omega]
    exact l3.here (.inr ⟨rfl,1560-(12*k+(j+1)),by omega,k,j+1,rfl,by omega,by omega,fun e=>by omega,rfl⟩)
  ·have hk56:k=56:=by omega
   subst hk56
   have:=h56 rfl
   subst this
   have hd:V5 (1970+((56:Nat):Int)) ((0+1:Nat):Int)=31:=by decide +kernel
   rw [hd] at f0
   rw [aqW]
   simp only [E7] at *
   simp only [b8,f0,show (1970+((56:Nat):Int))<=2099 from by omega,show ¬ ((20458-20454-0:Int)>=31) from by omega]
   exact l3.here (.inl ⟨0,rfl,rfl,rfl⟩)
 rintro _ _ H ⟨rfl,rfl⟩
 simp only [b8,f9,akZ,e9']
 exact l3.here rfl
def cG (b:V) (s:List V) (d:Dt):List V:=b::s++cD d
def ac7:List V:=[.int .i64 0,.str [],.str [],.sl true [],.sl true [],.sl true []]
theorem asl:pc acq []=some (.agg (cG (.sl true []) ac7 dt0)):=by
 have e0:=ang
 rw [abo] at e0
 refine adY (H:=[]) ?_ (by simp only [b8]) (by simp only [cG,ac7,abo,adf,aeH,b8])
 show cv _ _ _=_
 rw [akJ]
 simp only [cG,ac7,abo,adf,aeH,b8,e0]
def avK:Bs:=[119,104,97,116,10]
inductive Steps:List Bs->VH->Bs->VH->Prop
 | nil (H:VH):Steps [] H [] H
 | skip {ls:List Bs} {H:VH} {out:Bs} {H':VH}:Steps ls H out H'->Steps ([]::ls) H out H'
 | step {l:Bs} {ls:List Bs} {H H1 H':VH} {o out:Bs}:l ≠ []->cv V9 [.ptr 0 0,.str l] H=some (.str o,H1)->Steps ls H1 out H'->Steps (l::ls) H (o++out) H'
theorem Steps.app {a b:List Bs} {H H1 H':VH} {o p:Bs} (h:Steps a H o H1) (g:Steps b H1 p H'):Steps (a++b) H (o++p) H':=by
 induction h with
 | nil H=>exact g
 | skip _ ih=>exact .skip (ih g)
 | step h1 h2 _ ih=>rw [List.append_assoc]; exact .step h1 h2 (ih g)
theorem ayL (v0 v1 v2 v3 v4 v5 v6 v7 v8 v9 v10 v11 v12 v13:V):F8 14 (.agg [v0,v1,v2,v3,v4,v5,v6,v7,v8,v9,v10,v11,v12,v13])=some [v0,v1,v2,v3,v4,v5,v6,v7,v8,v9,v10,v11,v12,v13]:=by exact id rfl
theorem apF {text:Bs} {ls:List Bs} {out:Bs} {H':VH} (hs:j4 10 text=ls) (ht:text.length<=20000) (hl:ls.length<=200) (hst:Steps ls [cG (.sl true []) ac7 dt0] out H') (ho:out.length<=40000) :
 qc G0 [.str text]=some (.str out):=by
 suffices h:l3 (cv G0 [.str text] []) fun r=>r.1 = .str out by
  obtain ⟨⟨v,H⟩,e,h⟩:=h
  have h:v=_:=h
  subst h
  exact y1 e (by simp only [b8]) rfl
 have e0:=asl
 have e1:=al6 text 10 (by omega)
 rw [hs] at e1
 have s0:∀ (z:List V),z.length=14->stO (.ptr 0 0) (cG (.sl true []) ac7 dt0) ([]++[z])=some [cG (.sl true []) ac7 dt0]:=fun z hz=>by
  simp only [stO,List.nil_append,List.getElem?_cons_zero]
  have hl:(cG (.sl true []) ac7 dt0).length=14:=rfl
  rw [hz,hl]
  simp only [show Nat.ble (0+14) 14=true from rfl,Q1,hl,List.take_zero,List.nil_append]
  rw [List.drop_eq_nil_of_le (by omega)]
  rfl
 simp only [cG,ac7,abo,adf,aeH] at e0 s0
 rw [ajf]
 simp only [b8,e0,ayL,List.length_nil,List.nil_append,show ¬ ((text.length:Int)>20000) from by omega]
 skip
 rw [s0 _ rfl]
 simp only [b8,e1]
 refine l3.V3 (I:=fun n st H=>∃ (i:Nat) (acc rest:Bs),n=ls.length-i/\i<=ls.length/\acc++rest=out/\Steps (ls.drop i) H rest H'/\st=[.ptr 0 0,.str acc,.sl false (vT ls),.int .i64 (ls.length:Nat),.int .i64 (i:Nat)])
  (P:=fun q vs H=>q=0/\vs=[.str out]) (n:=ls.length) ?_ ⟨0,[],out,by omega,by omega,rfl,by simpa [cG,ac7,abo] using hst,rfl⟩ ?_
 ·rintro n st H ⟨i,acc,rest,rfl,hi,hacc,hst,rfl⟩
  rw [agV]
  by_cases hlt:i<ls.length
  ·have i1:=aeA false ls .i64 i hlt
   have a1:a8 (.int .i64) .add (.int .i64 (i:Nat)) (.int .i64 1)=some (.int .i64 ((i+1:Nat):Int)):=y4 _ i 1 (by omega)
   have hal:acc.length<=40000:=by rw [<-hacc] at ho; simp at ho; omega
   rw [List.drop_eq_getElem_cons hlt] at hst
   generalize hx:ls[i]=x at hst i1
   cases hst with
   | skip h =>
     simp only [b8,i1,a1,show ((i:Nat):Int)<(ls.length:Int) from by omega]
     exact l3.here (.inr ⟨rfl,ls.length-(i+1),by omega,i+1,acc,rest,rfl,by omega,hacc,h,rfl⟩)
   | step hne hcv h =>
     rename_i H1 o rest
     have a2:=J0 .str acc o (by rw [<-hacc] at ho; simp at ho; omega)
     simp only [b8,i1,a1,hne,hcv,a2,show ((i:Nat):Int)<(ls.length:Int) from by omega,show ¬ (((i:Nat):Int)>=200) from by omega,show ¬ ((acc.length:Int)>40000) from by omega]
     exact l3.here (.inr ⟨rfl,ls.length-(i+1),by omega,i+1,acc++o,rest,rfl,by omega,by rw [List.append_assoc]; exact hacc,h,rfl⟩)
  ·have:i=ls.length:=by omega
   subst this
   rw [List.drop_length] at hst
   cases hst
   rw [List.append_nil] at hacc
   subst hacc
   simp only [b8,show ¬ ((ls.length:Int)<(ls.length:Int)) from by omega]
   exact l3.here (.inl ⟨0,rfl,rfl,rfl⟩)
 rintro _ _ H ⟨rfl,rfl⟩
 simp only [b8]
 exact l3.here rfl
end Go.Proofs.YtmokcpfbeggigaaGreatDoor.Q

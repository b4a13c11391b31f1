/- Contracts: scripts, line by line. -/
import Derived.Test.YtmokcpfbeggigaaGreatDoorScriptNameCc2validZ
import Derived.Test.YtmokcpfbeggigaaGreatDoorFnScriptNameK4
namespace Go.Proofs.YtmokcpfbeggigaaGreatDoor.Q
open Go Go.AM
set_option linter.unusedSimpArgs false
set_option linter.unusedVariables false
set_option linter.unusedSectionVars false
theorem ap5 (y:Int):∀ {i j:Nat},i<=j->C6 y i<=C6 y j:=by
 intro i j h
 induction h with
 | refl=>exact Int.le_refl _
 | step h ih=>rename_i m; have:=aeu y (m+1); simp only [C6]; omega
theorem aqc:∀ {i j:Nat},i<=j->I9 i<=I9 j:=by
 intro i j h
 induction h with
 | refl=>exact Int.le_refl _
 | step h ih=>simp only [I9]; split<;>omega
theorem anF:I9 56=20454:=by decide +kernel
def dt0:Dt:=⟨2026,1,5,7,8,9,60⟩
theorem auG:al1 dt0=true:=by decide +kernel
theorem akZ:pc Y0 [.int .i64 1767593289,.int .i64 60]=some (.o8 [.agg (cD dt0),.bool true]):=by
 suffices h:k9 (cv Y0 [.int .i64 1767593289,.int .i64 60] []) fun r=>r.1 = .o8 [.agg (cD dt0),.bool true] by
  obtain ⟨⟨v,H⟩,e,h⟩:=h
  have h:v=_:=h
  subst h
  exact aog e (by simp only [j0]) (by simp only [aaf,j0])
 have e0:=W5 1767593289 0 4102444799
 have e1:=alA 60
 rw [decide_eq_true (by omega)] at e0 e1
 have q0:a8 (.int .i64) .mul (.int .i64 60) (.int .i64 60)=some (.int .i64 3600):=adV _ 60 60 (by omega)
 have q00:a8 (.int .i64) .add (.int .i64 1767593289) (.int .i64 3600)=some (.int .i64 1767596889):=C0 _ 1767593289 3600 (by omega)
 have q1:a8 (.int .i64) .quo (.int .i64 1767596889) (.int .i64 86400)=some (.int .i64 20458):=agq _ 1767596889 86400 (by omega) (by omega)
 have q2:a8 (.int .i64) .rem (.int .i64 1767596889) (.int .i64 86400)=some (.int .i64 25689):=adY _ 1767596889 86400 (by omega)
 have q3:a8 (.int .i64) .quo (.int .i64 25689) (.int .i64 3600)=some (.int .i64 7):=agq _ 25689 3600 (by omega) (by omega)
 have q4:a8 (.int .i64) .quo (.int .i64 25689) (.int .i64 60)=some (.int .i64 428):=agq _ 25689 60 (by omega) (by omega)
 have q5:a8 (.int .i64) .rem (.int .i64 428) (.int .i64 60)=some (.int .i64 8):=adY _ 428 60 (by omega)
 have q6:a8 (.int .i64) .rem (.int .i64 25689) (.int .i64 60)=some (.int .i64 9):=adY _ 25689 60 (by omega)
 have e9:=ahS dt0
 rw [auG] at e9
 have e9':qc R1 [.agg [.int .i64 2026,.int .i64 1,.int .i64 5,.int .i64 7,.int .i64 8,.int .i64 9,.int .i64 60]]=some (.bool true):=e9
 have f9:a8 (.int .i64) .add (.int .i64 4) (.int .i64 1)=some (.int .i64 5):=C0 _ 4 1 (by omega)
 rw [akl]
 simp only [j0,e0,e1,q0,q00,q1,q2,q3,q4,q5,q6,ajm,show ¬ ((1767596889:Int)<0) from by omega]
 refine k9.P6 (I:=fun n st H=>∃ k j:Nat,n=1560-(12*k+j)/\k<=56/\j<12/\(k=56->j=0) ∧
  st=[.int .i64 (20458-I9 k-C6 (1970+k) j),.int .i64 0,.int .i64 0,.int .i64 0,.int .i64 0,.int .i64 0,.int .i64 0,.int .i64 0,.int .i64 (1970+k),.int .i64 ((j+1:Nat):Int),.int .i64 0,.int .i64 7,.int .i64 8,.int .i64 9,.int .i64 60])
  (P:=fun q vs H=>q=0/\vs=[.int .i64 4,.int .i64 0,.int .i64 0,.int .i64 0,.int .i64 0,.int .i64 0,.int .i64 0,.int .i64 0,.int .i64 2026,.int .i64 1,.int .i64 0,.int .i64 7,.int .i64 8,.int .i64 9,.int .i64 60]) (n:=1560) ?_ ⟨0,0,by omega,by omega,by omega,by omega,by simp [I9,C6]⟩ ?_
 ·rintro n st H ⟨k,j,rfl,hk,hj,h56,rfl⟩
  have f0:=aci (1970+k) ((j+1:Nat):Int)
  have b0:=aeu (1970+k) ((j+1:Nat):Int)
  have b1:=agC k
  have b2:=agU (1970+k) j
  rw [ahj]
  by_cases hlt:k<56
  ·have hstep:=anP (y:=1970+k) (by omega)
   have hm:=ap5 (1970+(k:Int)) (i:=j+1) (j:=12) (by omega)
   have hy:=aqc (i:=k+1) (j:=56) (by omega)
   rw [anF] at hy
   have hj1:C6 (1970+(k:Int)) (j+1)=C6 (1970+(k:Int)) j+Q6 (1970+k) ((j+1:Nat):Int):=by
    simp only [C6]
    rw [show ((j:Int)+1)=((j+1:Nat):Int) by omega]
   have hk1:I9 (k+1)=I9 k+(if aeG (1970+(k:Int))=true then 366 else 365):=rfl
   have hge:20458-I9 k-C6 (1970+k) j>=Q6 (1970+k) ((j+1:Nat):Int):=by omega
   have f1:=ajj (.int .i64) (20458-I9 k-C6 (1970+k) j) (Q6 (1970+k) ((j+1:Nat):Int)) (by omega) (by omega)
   have f2:a8 (.int .i64) .add (.int .i64 ((j+1:Nat):Int)) (.int .i64 1)=some (.int .i64 ((j+1+1:Nat):Int)):=C0 _ (j+1) 1 (by omega)
   have f3:=acw (.int .i64) (1970+(k:Int)) 1 (by omega) (by omega)
   by_cases h12:j=11
   ·subst h12
    have hx:20458-I9 k-C6 (1970+(k:Int)) 11-Q6 (1970+k) ((11+1:Nat):Int)=20458-I9 (k+1)-C6 (1970+((k+1:Nat):Int)) 0:=by
     have hj2:C6 (1970+(k:Int)) 12=C6 (1970+(k:Int)) 11+Q6 (1970+k) ((11+1:Nat):Int):=hj1
     simp only [C6] at hj2 ⊢
     rw [hk1,<-hstep]
     simp only [C6]
     omega
    rw [hx] at f1
    rw [show (1970+(k:Int))+1=1970+((k+1:Nat):Int) by omega] at f3
    simp only [j0,f0,f1,f2,f3,hge,ajm,show (1970+(k:Int))<=2099 from by omega,show (((11+1+1:Nat):Int)>12) from by omega]
    exact k9.here (.inr ⟨rfl,1560-(12*(k+1)+0),by omega,k+1,0,rfl,by omega,by omega,fun _=>rfl,rfl⟩)
   ·have hx:20458-I9 k-C6 (1970+(k:Int)) j-Q6 (1970+k) ((j+1:Nat):Int)=20458-I9 k-C6 (1970+(k:Int)) (j+1):=by omega
    rw [hx] at f1
    simp only [j0,f0,f1,f2,hge,ajm,show (1970+(k:Int))<=2099 from by omega,show ¬ (((j+1+1:Nat):Int)>12) from by omega]
    exact k9.here (.inr ⟨rfl,1560-(12*k+(j+1)),by omega,k,j+1,rfl,by omega,by omega,fun e=>by omega,rfl⟩)
  ·have hk56:k=56:=by omega
   subst hk56
   have:=h56 rfl
   subst this
   have hd:Q6 (1970+((56:Nat):Int)) ((0+1:Nat):Int)=31:=by decide +kernel
   rw [hd] at f0
   rw [anF]
   simp only [C6] at *
   simp only [j0,f0,show (1970+((56:Nat):Int))<=2099 from by omega,show ¬ ((20458-20454-0:Int)>=31) from by omega]
   exact k9.here (.inl ⟨0,rfl,rfl,rfl⟩)
 rintro _ _ H ⟨rfl,rfl⟩
 simp only [j0,f9,ajm,e9']
 exact k9.here rfl
def cG (b:V) (s:List V) (d:Dt):List V:=b::s++cD d
def abF:List V:=[.int .i64 0,.str [],.str [],.sl true [],.sl true [],.sl true []]
theorem aqz:pc aaS []=some (.agg (cG (.sl true []) abF dt0)):=by
 have e0:=akZ
 rw [aaf] at e0
 refine aog (H:=[]) ?_ (by simp only [j0]) (by simp only [cG,abF,aaf,ab2,ac1,j0])
 show cv _ _ _=_
 rw [ajc]
 simp only [cG,abF,aaf,ab2,ac1,j0,e0]
def asl:Bs:=[119,104,97,116,10]
inductive Steps:List Bs->VH->Bs->VH->Prop
 | nil (H:VH):Steps [] H [] H
 | skip {ls:List Bs} {H:VH} {out:Bs} {H':VH}:Steps ls H out H'->Steps ([]::ls) H out H'
 | step {l:Bs} {ls:List Bs} {H H1 H':VH} {o out:Bs}:l ≠ []->cv S0 [.ptr 0 0,.str l] H=some (.str o,H1)->Steps ls H1 out H'->Steps (l::ls) H (o++out) H'
theorem Steps.app {a b:List Bs} {H H1 H':VH} {o p:Bs} (h:Steps a H o H1) (g:Steps b H1 p H'):Steps (a++b) H (o++p) H':=by
 induction h with
 | nil H=>exact g
 | skip _ ih=>exact .skip (ih g)
 | step h1 h2 _ ih=>rw [List.append_assoc]; exact .step h1 h2 (ih g)
theorem avZ (v0 v1 v2 v3 v4 v5 v6 v7 v8 v9 v10 v11 v12 v13:V):P9 14 (.agg [v0,v1,v2,v3,v4,v5,v6,v7,v8,v9,v10,v11,v12,v13])=some [v0,v1,v2,v3,v4,v5,v6,v7,v8,v9,v10,v11,v12,v13]:=by exact id rfl
theorem am5 {text:Bs} {ls:List Bs} {out:Bs} {H':VH} (hs:j9 10 text=ls) (ht:text.length<=20000) (hl:ls.length<=200) (hst:Steps ls [cG (.sl true []) abF dt0] out H') (ho:out.length<=40000) :
 qc I4 [.str text]=some (.str out):=by
 suffices h:k9 (cv I4 [.str text] []) fun r=>r.1 = .str out by
  obtain ⟨⟨v,H⟩,e,h⟩:=h
  have h:v=_:=h
  subst h
  exact y5 e (by simp only [j0]) rfl
 have e0:=aqz
 have e1:=an7 text 10 (by omega)
 rw [hs] at e1
 have s0:∀ (z:List V),z.length=14->stO (.ptr 0 0) (cG (.sl true []) abF dt0) ([]++[z])=some [cG (.sl true []) abF dt0]:=fun z hz=>by
  simp only [stO,List.nil_append,List.getElem?_cons_zero]
  have hl:(cG (.sl true []) abF dt0).length=14:=rfl
  rw [hz,hl]
  simp only [show Nat.ble (0+14) 14=true from rfl,L6,hl,List.take_zero,List.nil_append]
  rw [List.drop_eq_nil_of_le (by omega)]
  rfl
 simp only [cG,abF,aaf,ab2,ac1] at e0 s0
 rw [ahc]
 simp only [j0,e0,avZ,List.length_nil,List.nil_append,show ¬ ((text.length:Int)>20000) from by omega]
 skip
 rw [s0 _ rfl]
 simp only [j0,e1]
 refine k9.P6 (I:=fun n st H=>∃ (i:Nat) (acc rest:Bs),n=ls.length-i/\i<=ls.length/\acc++rest=out/\Steps (ls.drop i) H rest H'/\st=[.ptr 0 0,.str acc,.sl false (vT ls),.int .i64 (ls.length:Nat),.int .i64 (i:Nat)])
  (P:=fun q vs H=>q=0/\vs=[.str out]) (n:=ls.length) ?_ ⟨0,[],out,by omega,by omega,rfl,by simpa [cG,abF,aaf] using hst,rfl⟩ ?_
 ·rintro n st H ⟨i,acc,rest,rfl,hi,hacc,hst,rfl⟩
  rw [ae7]
  by_cases hlt:i<ls.length
  ·have i1:=aiR false ls .i64 i hlt
   have a1:a8 (.int .i64) .add (.int .i64 (i:Nat)) (.int .i64 1)=some (.int .i64 ((i+1:Nat):Int)):=C0 _ i 1 (by omega)
   have hal:acc.length<=40000:=by rw [<-hacc] at ho; simp at ho; omega
   rw [List.drop_eq_getElem_cons hlt] at hst
   generalize hx:ls[i]=x at hst i1
   cases hst with
   | skip h =>
     simp only [j0,i1,a1,show ((i:Nat):Int)<(ls.length:Int) from by omega]
     exact k9.here (.inr ⟨rfl,ls.length-(i+1),by omega,i+1,acc,rest,rfl,by omega,hacc,h,rfl⟩)
   | step hne hcv h =>
     rename_i H1 o rest
     have a2:=F1 .str acc o (by rw [<-hacc] at ho; simp at ho; omega)
     simp only [j0,i1,a1,hne,hcv,a2,show ((i:Nat):Int)<(ls.length:Int) from by omega,show ¬ (((i:Nat):Int)>=200) from by omega,show ¬ ((acc.length:Int)>40000) from by omega]
     exact k9.here (.inr ⟨rfl,ls.length-(i+1),by omega,i+1,acc++o,rest,rfl,by omega,by rw [List.append_assoc]; exact hacc,h,rfl⟩)
  ·have:i=ls.length:=by omega
   subst this
   rw [List.drop_length] at hst
   cases hst
   rw [List.append_nil] at hacc
   subst hacc
   simp only [j0,show ¬ ((ls.length:Int)<(ls.length:Int)) from by omega]
   exact k9.here (.inl ⟨0,rfl,rfl,rfl⟩)
 rintro _ _ H ⟨rfl,rfl⟩
 simp only [j0]
 exact k9.here rfl
end Go.Proofs.YtmokcpfbeggigaaGreatDoor.Q

/- Contracts: bytes, words, texts cut at a byte. -/
import Derived.Test.YtmokcpfbeggigaaGreatDoorScriptListC10drawZ
import Derived.Test.YtmokcpfbeggigaaGreatDoorFnScriptListK4
namespace Go.Proofs.YtmokcpfbeggigaaGreatDoor.Q
open Go Go.AM
set_option linter.unusedSimpArgs false
set_option linter.unusedVariables false
set_option linter.unusedSectionVars false
def arK (c:Int):Bool:=decide (48<=c/\c<=57)
def aul (c:Int):Bool:=decide (97<=c/\c<=122\/65<=c/\c<=90)
def N9 (c:Int):Bool:=decide (97<=c/\c<=122\/65<=c/\c<=90\/48<=c/\c<=57\/c=33\/35<=c/\c<=39\/c=42\/c=43\/c=45\/c=47\/c=61\/c=63\/94<=c/\c<=96\/123<=c/\c<=126)
def abl (c:Int):Bool:=decide (97<=c/\c<=122\/48<=c/\c<=57\/c=45)
def wrB (c:Int):Bool:=decide (c<32\/126<c)
def N7 (s:Bs):Bool:=decide (1<=s.length/\s.length<=40)&&s.all fun b=>N9 b.toNat
def abr (s:Bs):Bool:=decide (s ≠ []/\s.head? ≠ some 45/\s.getLast? ≠ some 45)&&s.all fun b=>abl b.toNat
def A9 (s:Bs):Bool := !(s.any fun b=>wrB b.toNat)&&decide (s.length<=200)
def aaE (s:Bs):Bool:=decide (s.length<=30) && !(j4 46 s).any fun t => !N7 t
def aaD (s:Bs):Bool:=decide (s.length<=40) && !(j4 46 s).any fun t => !abr t
theorem am3 (c:Int):qc U8 [.int .u8 c]=some (.bool (arK c)):=by
 refine y1 (H:=[]) ?_ rfl rfl
 show cv _ _ _=_
 rw [alc]
 simp only [b8,decide_eq_true_eq,arK]
 by_cases h1:48<=c<;>by_cases h2:c<=57<;>simp [h1,h2]
theorem arb (c:Int):qc abP [.int .u8 c]=some (.bool (aul c)):=by
 refine y1 (H:=[]) ?_ rfl rfl
 show cv _ _ _=_
 rw [ajA]
 simp only [b8,decide_eq_true_eq,aul]
 by_cases h1:97<=c<;>by_cases h2:c<=122<;>by_cases h3:65<=c<;>by_cases h4:c<=90<;>simp [h1,h2,h3,h4]
theorem ahq (c:Int):qc P4 [.int .u8 c]=some (.bool (N9 c)):=by
 refine y1 (H:=[]) ?_ rfl rfl
 show cv _ _ _=_
 rw [aib]
 simp only [b8,arb,am3,decide_eq_true_eq,aul,arK,N9]
 repeat' (first | (exact congrArg (fun b=>some (V.bool b,([]:VH))) (decide_eq_true (by omega)).symm) | (exact congrArg (fun b=>some (V.bool b,([]:VH))) (decide_eq_false (by omega)).symm) | (exact congrArg (fun b=>some (V.bool b,([]:VH))) (decide_eq_decide.2 (by omega))) | (refine akr (fun h=>?_) (fun h=>?_)))
theorem apC (c:Int):qc W2 [.int .u8 c]=some (.bool (abl c)):=by
 refine y1 (H:=[]) ?_ rfl rfl
 show cv _ _ _=_
 rw [aiZ]
 simp only [b8,am3,decide_eq_true_eq,arK,abl]
 repeat' (first | (exact congrArg (fun b=>some (V.bool b,([]:VH))) (decide_eq_true (by omega)).symm) | (exact congrArg (fun b=>some (V.bool b,([]:VH))) (decide_eq_false (by omega)).symm) | (exact congrArg (fun b=>some (V.bool b,([]:VH))) (decide_eq_decide.2 (by omega))) | (refine akr (fun h=>?_) (fun h=>?_)))
theorem ak9 (g:Nat) (p:Int->Bool) (hg:∀ c,qc g [.int .u8 c]=some (.bool (p c))) (s:Bs) (hs:s.length<=1000000000):qc Z5 [.str s,.fn g []]=some (.bool (s.all fun b=>p b.toNat)):=by
 refine y1 (H:=[]) ?_ (by simp only [b8]) rfl
 show cv _ _ _=_
 rw [akm]
 have loop:=adl (B:=Z3) (S:=fun i=>[.str s,.fn g [],.int .i64 s.length,.int .i64 (i:Nat)]) (H:=[]) (m0:=0) (m1:=1) (vs0:=[]) (vs1:=[.bool false]) s (fun b => !p b.toNat)
  (fun i hi=>by
   have i1:=N8 s .i64 i hi
   have e2:a8 (.int .i64) .add (.int .i64 (i:Int)) (.int .i64 1)=some (.int .i64 ((i+1:Nat):Int)):=y4 _ i 1 (by omega)
   rw [acA]
   simp only [b8,i1,e2,hg,show ((i:Int)<(s.length:Int)) from by omega]
   try (by_cases e:p s[i].toNat=true<;>simp [e]))
  (by
   rw [acA]
   simp only [b8,show ¬ ((s.length:Int)<(s.length:Int)) from by omega])
 have loop':o6 Z3 [.str s,.fn g [],.int .i64 s.length,.int .i64 0] []=_:=loop
 have e:(s.all fun b=>p b.toNat) = !(s.any fun b => !p b.toNat):=by rw [List.not_any_eq_all_not]; simp
 simp only [b8,loop',e]
 by_cases h:(s.any fun b => !p b.toNat)=true<;>simp only [b8,h]
theorem ajt (s:Bs) (hs:s.length<=1000000000):qc W3 [.str s]=some (.bool (N7 s)):=by
 have e1:=ak9 P4 N9 ahq s hs
 refine y1 (H:=[]) ?_ (by simp only [b8]) rfl
 show cv _ _ _=_
 rw [aje]
 simp only [b8,e1,decide_eq_true_eq,N7]
 by_cases h1:1<=s.length
 ·by_cases h2:s.length<=40
  ·rw [if_pos (by omega),if_pos (by omega),decide_eq_true (show 1<=s.length/\s.length<=40 from ⟨h1,h2⟩),Bool.true_and]
  ·rw [if_pos (by omega),if_neg (by omega),decide_eq_false (show ¬ (1<=s.length/\s.length<=40) from fun h=>h2 h.2),Bool.false_and]
 ·rw [if_neg (by omega),decide_eq_false (show ¬ (1<=s.length/\s.length<=40) from fun h=>h1 h.1),Bool.false_and]
theorem asw (s:Bs) (hs:s.length<=1000000000):qc ab3 [.str s]=some (.bool (abr s)):=by
 have e1:=ak9 W2 abl apC s hs
 refine y1 (H:=[]) ?_ (by simp only [b8]) rfl
 show cv _ _ _=_
 rw [alH]
 by_cases h0:s=[]
 ·subst h0; simp only [b8]; rfl
 ·have hl:0<s.length:=List.length_pos_iff.2 h0
  have i1:o7 (.str s) (.int .i64 0)=some (.int .u8 (s[0].toNat:Int)):=N8 s .i64 0 hl
  have e2:a8 (.int .i64) .sub (.int .i64 (s.length:Int)) (.int .i64 1)=some (.int .i64 ((s.length-1:Nat):Int)):=adC _ s.length 1 (by omega) (by omega)
  have i2:=N8 s .i64 (s.length-1) (by omega)
  have hd:s.head? = some s[0]:=by rw [List.head?_eq_getElem?,List.getElem?_eq_getElem hl]
  have hz:s.getLast? = some s[s.length-1]:=by rw [List.getLast?_eq_getElem?,List.getElem?_eq_getElem (by omega)]
  have k:∀ b:UInt8,((b.toNat:Int)=45)<->b=45:=fun b=>by
   constructor
   ·intro h
    have:b.toNat=45:=by omega
    exact UInt8.toNat_inj.1 (by rw [this]; rfl)
   ·intro h; subst h; rfl
  simp only [b8,h0,i1,e2,i2,e1,abr,hd,hz,k]
  by_cases h1:s[0]=45<;>by_cases h2:s[s.length-1]=45<;>simp [h0,h1,h2]
theorem abu (s:Bs) (hs:s.length<=1000000000):qc I8 [.str s]=some (.bool (A9 s)):=by
 refine y1 (H:=[]) ?_ (by simp only [b8]) rfl
 show cv _ _ _=_
 rw [ai1]
 have loop:=adl (B:=X3) (S:=fun i=>[.str s,.int .i64 s.length,.int .i64 (i:Nat)]) (H:=[]) (m0:=0) (m1:=1) (vs0:=[.str s]) (vs1:=[.bool false]) s (fun b=>wrB b.toNat)
  (fun i hi=>by
   have i1:=N8 s .i64 i hi
   have e2:a8 (.int .i64) .add (.int .i64 (i:Int)) (.int .i64 1)=some (.int .i64 ((i+1:Nat):Int)):=y4 _ i 1 (by omega)
   rw [ab8]
   simp only [b8,i1,e2,wrB,show ((i:Int)<(s.length:Int)) from by omega]
   by_cases e:(s[i].toNat:Int)<32<;>by_cases e3:(s[i].toNat:Int)>126<;>simp [b8,e,e3])
  (by
   rw [ab8]
   simp only [b8,show ¬ ((s.length:Int)<(s.length:Int)) from by omega])
 have loop':o6 X3 [.str s,.int .i64 s.length,.int .i64 0] []=_:=loop
 simp only [b8,loop',A9]
 by_cases h:(s.any fun b=>wrB b.toNat)=true
 ·simp only [b8,h]; rfl
 ·simp only [b8,h]
  by_cases h2:s.length<=200
  ·rw [decide_eq_true h2,decide_eq_true (show (s.length:Int)<=200 from by omega)]; simp [h]
  ·rw [decide_eq_false h2,decide_eq_false (show ¬ (s.length:Int)<=200 from by omega)]; simp
theorem anL (g:Nat) (p:Bs->Bool) (l:List Bs) (hg:∀ s ∈ l,qc g [.str s]=some (.bool (p s))) (hl:l.length<=1000000000):qc I4 [.sl false (vT l),.fn g []]=some (.int .i64 (if l.any p=true then ((l.findIdx p:Nat):Int) else -1)):=by
 refine y1 (H:=[]) ?_ (by simp only [b8]) rfl
 show cv _ _ _=_
 rw [aaK]
 have loop:=aoq (B:=D6) (S:=fun i=>[.sl false (vT l),.fn g [],.int .i64 l.length,.int .i64 (i:Nat)]) (H:=[]) (m0:=0) (m1:=1) (vs0:=[]) l p
  (fun i hi=>by
   have i1:=aeA false l .i64 i hi
   have e1:=hg l[i] (List.getElem_mem hi)
   have e2:a8 (.int .i64) .add (.int .i64 (i:Int)) (.int .i64 1)=some (.int .i64 ((i+1:Nat):Int)):=y4 _ i 1 (by omega)
   rw [N4]
   simp only [b8,i1,e1,e2,show ((i:Int)<(l.length:Int)) from by omega])
  (by
   rw [N4]
   simp only [b8,show ¬ ((l.length:Int)<(l.length:Int)) from by omega])
 have loop':o6 D6 [.sl false (vT l),.fn g [],.int .i64 l.length,.int .i64 0] []=_:=loop
 simp only [b8,loop']
 by_cases h:l.any p=true<;>simp only [b8,h]
theorem afe (g:Nat) (p:Bs->Bool) (l:List Bs) (hg:∀ s ∈ l,qc g [.str s]=some (.bool (p s))) (hl:l.length<=1000000000):qc C5 [.sl false (vT l),.fn g []]=some (.bool (l.any p)):=by
 have e1:=anL g p l hg hl
 refine y1 (H:=[]) ?_ (by simp only [b8]) rfl
 show cv _ _ _=_
 rw [aak]
 simp only [b8,e1]
 by_cases h:l.any p=true
 ·simp only [h,if_true]
  rw [decide_eq_true (show (((l.findIdx p:Nat):Int)>=0) from by omega)]
 ·have h':l.any p=false:=by simpa using h
  simp [h']
theorem apJ (s:Bs) (c:UInt8):qc J8 [.str s,.int .u8 (c.toNat:Int)]=some (.int .i64 (if c ∈ s then ((s.idxOf c:Nat):Int) else -1)):=by
 refine y1 (H:=[]) ?_ (by simp only [b8]) rfl
 show cv _ _ _=_
 rw [abv]
 have:((c.toNat:Int).toNat).toUInt8=c:=by simp
 simp only [b8,this,ayI]
theorem aqG (s:Bs) (c:UInt8):qc H7 [.str s,.str [c]]=some (.int .i64 (if c ∈ s then ((s.idxOf c:Nat):Int) else -1)):=by
 have e1:=apJ s c
 have i1:o7 (.str [c]) (.int .i64 0)=some (.int .u8 (c.toNat:Int)):=N8 [c] .i64 0 (by simp)
 refine y1 (H:=[]) ?_ (by simp only [b8]) rfl
 show cv _ _ _=_
 rw [acy]
 simp only [b8,List.length_cons,List.length_nil,i1,e1]
 by_cases h:[c]=s
 ·subst h; simp [b8]
 ·simp [b8,h,i1,e1]
theorem amx (s:Bs) (c:UInt8):qc abN [.str s,.str [c]]=some (.int .i64 (if c ∈ s then ((s.idxOf c:Nat):Int) else -1)):=by
 have e1:=aqG s c
 refine y1 (H:=[]) ?_ (by simp only [b8]) rfl
 show cv _ _ _=_
 rw [aj1]
 simp only [b8,e1]
theorem axJ (s:Bs) (c:UInt8) (hs:s.length<=1000000000):qc P5 [.str s,.str [c]]=some (.w5 [.str (al9 c s),.str (alU c s),.bool (decide (c ∈ s))]):=by
 have e1:=aqG s c
 refine y1 (H:=[]) ?_ (by simp only [b8]) (by simp only [b8])
 show cv _ _ _=_
 rw [adw]
 by_cases h:c ∈ s
 ·have hlt:=List.idxOf_lt_length_iff.2 h
  have p1:=agp s .i64 (s.idxOf c) (by omega)
  have e2:a8 (.int .i64) .add (.int .i64 ((s.idxOf c:Nat):Int)) (.int .i64 (([c]:Bs).length:Nat))=some (.int .i64 ((s.idxOf c+1:Nat):Int)):=y4 _ _ 1 (by omega)
  have p2:=ade s .i64 (s.idxOf c+1) (by omega)
  simp only [h,if_true] at e1
  simp only [b8,e1,p1,e2,p2,h,al9,alU,show (((s.idxOf c:Nat):Int)>=0) from by omega]
 ·simp only [h,if_false] at e1
  simp only [b8,e1,h,al9,alU,show ¬ ((-1:Int)>=0) from by omega]
theorem ayS (s:Bs) (c:UInt8) (hs:s.length<=1000000000):qc acO [.str s,.str [c]]=some (.w5 [.str (al9 c s),.str (alU c s),.bool (decide (c ∈ s))]):=by
 have e1:=axJ s c hs
 refine y1 (H:=[]) ?_ (by simp only [b8]) (by simp only [b8])
 show cv _ _ _=_
 rw [al7]
 simp only [b8,e1]
theorem awl (s:Bs) (c:UInt8):qc abR [.str s,.str [c]]=some (.int .i64 (s.count c:Nat)):=by
 have i1:o7 (.str [c]) (.int .i64 0)=some (.int .u8 (c.toNat:Int)):=N8 [c] .i64 0 (by simp)
 have:((c.toNat:Int).toNat).toUInt8=c:=by simp
 refine y1 (H:=[]) ?_ (by simp only [b8]) rfl
 show cv _ _ _=_
 rw [aka]
 simp only [b8,List.length_cons,List.length_nil]
 simp [b8,i1,this,Go.Lib.countByte]
theorem arc (s:Bs) (c:UInt8) (hs:s.length<=1000000):∃ H,cv T9 [.str s,.str [c],.int .i64 0,.int .i64 (-1)] []=some (.A0 0 0 (j4 c s).length 1,H)/\H[0]? = some (vR eT (j4 c s)).flatten:=by
 have hcount:=awl s c
 have hle:s.count c<=s.length:=List.count_le_length
 have hlen:=aa8 c s
 have hmk:=ayr 16 (j4 c s).length (by omega) (by omega)
 have h0:([]++[aaQ (j4 c s).length [V.str []]]:VH)[0]? = some (L0 eT (j4 c s) [.str []] 0):=by simp [L0,vR]
 have rest:∀ (i:Nat) (hi:i<(j4 c s).length),(j4 c s)[i]=if i<s.count c then (G8 c s i).take ((G8 c s i).idxOf c) else G8 c s i:=by
  intro i hi
  have h1:=afy c s i hi
  rw [List.drop_eq_getElem_cons hi] at h1
  split
  ·by_cases hm:c ∈ G8 c s i
   ·rw [adV c _ hm] at h1
    exact (List.cons.inj h1).1.symm
   ·rw [ae5 c _ hm] at h1
    have:=congrArg List.length h1
    simp at this; omega
  ·by_cases hm:c ∈ G8 c s i
   ·rw [adV c _ hm] at h1
    have:=congrArg List.length h1
    have h3:=abY c ((G8 c s i).drop ((G8 c s i).idxOf c+1))
    have h4:=List.length_pos_iff.2 h3
    simp at this; omega
   ·rw [ae5 c _ hm] at h1
    exact (List.cons.inj h1).1.symm
 have mem:∀ i,i<s.count c->c ∈ G8 c s i:=by
  intro i hi
  by_cases hm:c ∈ G8 c s i
  ·exact hm
  ·have h1:=afy c s i (by omega)
   rw [ae5 c _ hm] at h1
   have:=congrArg List.length h1
   simp at this; omega
 obtain ⟨H1,h1,h2⟩:=atz (B:=R9) (S:=fun i=>[.str (G8 c s i),.str [c],.int .i64 0,.int .i64 (s.count c:Nat),.A0 0 0 (j4 c s).length 1,.int .i64 (i:Nat)]) (m:=0) (t:=s.count c) (vs:=[.str (G8 c s (s.count c)),.A0 0 0 (j4 c s).length 1,.int .i64 (s.count c:Nat)]) eT (l:=j4 c s) (by omega) h0
  (fun i hi H hk=>by
   have hi':i<(j4 c s).length:=by omega
   have hm:=mem i hi
   have hlt:=List.idxOf_lt_length_iff.2 hm
   have hrl:=amC c s i
   have e1:=amx (G8 c s i) c
   simp only [hm,if_true] at e1
   have e3:a8 (.int .i64) .add (.int .i64 (((G8 c s i).idxOf c:Nat):Int)) (.int .i64 0)=some (.int .i64 (((G8 c s i).idxOf c:Nat):Int)):=y4 _ _ 0 (by omega)
   have p1:=agp (G8 c s i) .i64 ((G8 c s i).idxOf c) (by omega)
   have e4:a8 (.int .i64) .add (.int .i64 (((G8 c s i).idxOf c:Nat):Int)) (.int .i64 (([c]:Bs).length:Nat))=some (.int .i64 (((G8 c s i).idxOf c+1:Nat):Int)):=y4 _ _ 1 (by omega)
   have p2:=ade (G8 c s i) .i64 ((G8 c s i).idxOf c+1) (by omega)
   have ho:=alw 0 0 (j4 c s).length 1 .i64 i hi'
   have hr:=rest i hi'
   rw [if_pos hi] at hr
   have hst:stO (.ptr 0 (0+i*1)) [.str (j4 c s)[i]] H=some (H.set 0 (L0 eT (j4 c s) [.str []] (i+1))):=akK eT rfl hi' hk
   have e2:a8 (.int .i64) .add (.int .i64 (i:Int)) (.int .i64 1)=some (.int .i64 ((i+1:Nat):Int)):=y4 _ i 1 (by omega)
   simp only [Nat.zero_add,hr] at ho hst
   rw [abh]
   simp only [b8,e1,e3,p1,e4,p2,ho,hst,e2,show ((i:Int)<((s.count c:Nat):Int)) from by omega,show ¬ ((((G8 c s i).idxOf c:Nat):Int)<0) from by omega]
   rfl)
  (fun H hk=>by
   rw [abh]
   simp only [b8,show ¬ (((s.count c:Nat):Int)<((s.count c:Nat):Int)) from by omega])
 have hk':s.count c<(j4 c s).length:=by omega
 have hr:=rest (s.count c) hk'
 rw [if_neg (by omega)] at hr
 have hst:stO (.ptr 0 (0+s.count c*1)) [.str (j4 c s)[s.count c]] H1=some (H1.set 0 (L0 eT (j4 c s) [.str []] (s.count c+1))):=akK eT rfl hk' h2
 have ho:=alw 0 0 (j4 c s).length 1 .i64 (s.count c) hk'
 have hop:=ayv 1 0 0 (j4 c s).length (j4 c s).length .i64 (Nat.le_refl _)
 have hfin:L0 eT (j4 c s) [.str []] (s.count c+1)=(vR eT (j4 c s)).flatten:=by rw [<-hlen,auR]
 refine ⟨H1.set 0 (L0 eT (j4 c s) [.str []] (s.count c+1)),?_,by rw [List.getElem?_set,if_pos rfl,if_pos (List.getElem?_eq_some_iff.1 h2).1,hfin]⟩
 have h1':o6 R9 [.str s,.str [c],.int .i64 0,.int .i64 (s.count c:Nat),.A0 ([]:VH).length 0 (j4 c s).length 1,.int .i64 0] [aaQ (j4 c s).length [V.str []]]=_:=h1
 have a1:a8 (.int .i64) .add (.int .i64 ((s.count c:Nat):Int)) (.int .i64 1)=some (.int .i64 ((j4 c s).length:Int)):=by rw [hlen]; exact y4 _ (s.count c) 1 (by omega)
 have a2:a8 (.int .i64) .add (.int .i64 (s.length:Int)) (.int .i64 1)=some (.int .i64 ((s.length+1:Nat):Int)):=y4 _ s.length 1 (by omega)
 have a3:a8 (.int .i64) .sub (.int .i64 ((j4 c s).length:Int)) (.int .i64 1)=some (.int .i64 ((s.count c:Nat):Int)):=by rw [hlen]; exact adC _ (s.count c+1) 1 (by omega) (by omega)
 have a4:=ayY .i64 ((j4 c s).length:Int) ((s.length+1:Nat):Int) (by omega)
 simp only [Nat.zero_add,hr] at ho hst
 rw [ahj]
 simp only [b8,hcount,a1,a2,a3,a4,hmk,h1',ho,hst,hop,show ¬ ((-1:Int)=0) from by omega,show ((-1:Int)<0) from by omega,show ¬ (([c]:Bs)=[]) from by simp]
theorem ayb {f:FuncId} {args:List V} {G H:VH} {k off n e:Nat} {cs:List V} (hd:B5 args=true) (hs:args.map strip=args) (hp:w9 args=true) (h:cv f args []=some (.A0 k off n e,H)) (hk:H[k]? = some cs) (ht:agt cs=true) (hne:cs ≠ []) :
 pcg f G args=some (.A0 G.length off n e,G++[cs]):=by
 have hb:(agt cs && !cs.isEmpty)=true:=by cases cs with | nil=>exact absurd rfl hne | cons=>rw [ht]; rfl
 have e:args.map (frD 3 G)=args:=by rw [aqC hd,hs]
 show acx cv f G args=_
 simp only [acx,e,hp,h,Option.bind_some,hk,hb]
theorem am1:∀ l:List Bs,agt (vR eT l).flatten=true
 | []=>rfl
 | s::l=>am1 l
theorem awC {l:List Bs} (h:l ≠ []):(vR eT l).flatten ≠ []:=by
 cases l with
 | nil=>exact absurd rfl h
 | cons s l=>intro e; cases e
theorem arI (s:Bs) (c:UInt8) (G:VH) (hs:s.length<=1000000):pcg T9 G [.str s,.str [c],.int .i64 0,.int .i64 (-1)]=some (.A0 G.length 0 (j4 c s).length 1,G++[(vR eT (j4 c s)).flatten]):=by
 obtain ⟨H,h1,h2⟩:=arc s c hs
 exact ayb rfl rfl rfl h1 h2 (am1 _) (awC (abY c s))
theorem awM (s:Bs) (c:UInt8) (G:VH) (hs:s.length<=1000000):cv O5 [.str s,.str [c]] G=some (.A0 G.length 0 (j4 c s).length 1,G++[(vR eT (j4 c s)).flatten]):=by
 have e1:=arI s c G hs
 rw [akc]
 simp only [b8,e1]
theorem al6 (s:Bs) (c:UInt8) (hs:s.length<=1000000):pc O5 [.str s,.str [c]]=some (.sl false (vT (j4 c s))) :=
 ayq eT (k:=0) (H:=[(vR eT (j4 c s)).flatten]) (awM s c [] hs) rfl rfl
theorem apA (s:Bs) (hs:s.length<=1000000000):qc W6 [.str s]=some (.bool (!N7 s)):=by
 have e1:=ajt s hs
 refine y1 (H:=[]) ?_ (by simp only [b8]) rfl
 show cv _ _ _=_
 rw [ai4]
 simp only [b8,e1]
theorem atk (s:Bs) (hs:s.length<=1000000000):qc acm [.str s]=some (.bool (aaE s)):=by
 refine y1 (H:=[]) ?_ (by simp only [b8]) rfl
 show cv _ _ _=_
 rw [alF]
 by_cases h:s.length<=30
 ·have e1:=al6 s 46 (by omega)
  have hlen:=aa8 46 s
  have hle:s.count 46<=s.length:=List.count_le_length
  have e2:=afe W6 (fun t => !N7 t) (j4 46 s) (fun t ht=>apA t (by have:=acw 46 s t ht; omega)) (by omega)
  simp only [b8,e1,e2,aaE,h,show ((s.length:Int)<=30) from by omega,Bool.true_and]
 ·simp only [b8,aaE,h,show ¬ ((s.length:Int)<=30) from by omega,Bool.false_and]
theorem aoe (s:Bs) (hs:s.length<=1000000000):qc V2 [.str s]=some (.bool (!abr s)):=by
 have e1:=asw s hs
 refine y1 (H:=[]) ?_ (by simp only [b8]) rfl
 show cv _ _ _=_
 rw [ah7]
 simp only [b8,e1]
theorem arp (s:Bs) (hs:s.length<=1000000000):qc abQ [.str s]=some (.bool (aaD s)):=by
 refine y1 (H:=[]) ?_ (by simp only [b8]) rfl
 show cv _ _ _=_
 rw [aku]
 by_cases h:s.length<=40
 ·have e1:=al6 s 46 (by omega)
  have hlen:=aa8 46 s
  have hle:s.count 46<=s.length:=List.count_le_length
  have e2:=afe V2 (fun t => !abr t) (j4 46 s) (fun t ht=>aoe t (by have:=acw 46 s t ht; omega)) (by omega)
  simp only [b8,e1,e2,aaD,h,show ((s.length:Int)<=40) from by omega,Bool.true_and]
 ·simp only [b8,aaD,h,show ¬ ((s.length:Int)<=40) from by omega,Bool.false_and]
theorem awJ {c:UInt8} {a z:Bs} (h:c ∉ a):al9 c (a++[c]++z)=a/\alU c (a++[c]++z)=z:=by
 have hm:c ∈ a++[c]++z:=by simp
 have hi:(a++[c]++z).idxOf c=a.length:=by
  rw [List.append_assoc,List.idxOf_append,if_neg h]; simp
 unfold al9 alU
 rw [if_pos hm,if_pos hm,hi]
 simp
end Go.Proofs.YtmokcpfbeggigaaGreatDoor.Q

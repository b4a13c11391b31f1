/- Contracts: bytes, words, texts cut at a byte. -/
import Derived.Test.YtaapfgpeeghmeaaGreatDoorScriptTraceC10drawZ
import Derived.Test.YtaapfgpeeghmeaaGreatDoorFnScriptTraceK5
import Derived.Test.YtaapfgpeeghmeaaGreatDoorFnScriptTraceK4
namespace Go.Proofs.YtaapfgpeeghmeaaGreatDoor.Q
open Go Go.AM
set_option linter.unusedSimpArgs false
set_option linter.unusedVariables false
set_option linter.unusedSectionVars false
def acY (c:Int):Bool:=decide (48<=c/\c<=57)
def ayb (c:Int):Bool:=decide (97<=c/\c<=122\/65<=c/\c<=90)
def apZ (c:Int):Bool:=decide (97<=c/\c<=122\/65<=c/\c<=90\/48<=c/\c<=57\/c=33\/35<=c/\c<=39\/c=42\/c=43\/c=45\/c=47\/c=61\/c=63\/94<=c/\c<=96\/123<=c/\c<=126)
def aut (c:Int):Bool:=decide (97<=c/\c<=122\/48<=c/\c<=57\/c=45)
def wrB (c:Int):Bool:=decide (c<32\/126<c)
def anG (s:Bs):Bool:=decide (1<=s.length/\s.length<=40)&&s.all fun b=>apZ b.toNat
def aqA (s:Bs):Bool:=decide (s ≠ []/\s.head? ≠ some 45/\s.getLast? ≠ some 45)&&s.all fun b=>aut b.toNat
def S5 (s:Bs):Bool := !(s.any fun b=>wrB b.toNat)&&decide (s.length<=200)
def arX (s:Bs):Bool:=decide (s.length<=30) && !(A0 46 s).any fun t => !anG t
def afw (s:Bs):Bool:=decide (s.length<=40) && !(A0 46 s).any fun t => !aqA t
def aa9 (s:Bs):Bool:=decide ((64:UInt8) ∈ s)&&(arX (adz 64 s)&&afw (ac7 64 s))
def ae4 (s:Bs):Bool:=decide (s=[])||aa9 s
theorem akt (c:Int):qc R8 [.int .u8 c]=some (.bool (acY c)):=by
 refine B7 (H:=[]) ?_ rfl rfl
 show cv _ _ _=_
 rw [amQ]
 simp only [j3,decide_eq_true_eq,acY]
 by_cases h1:48<=c<;>by_cases h2:c<=57<;>simp [h1,h2]
theorem at2 (c:Int):qc adE [.int .u8 c]=some (.bool (ayb c)):=by
 refine B7 (H:=[]) ?_ rfl rfl
 show cv _ _ _=_
 rw [alC]
 simp only [j3,decide_eq_true_eq,ayb]
 by_cases h1:97<=c<;>by_cases h2:c<=122<;>by_cases h3:65<=c<;>by_cases h4:c<=90<;>simp [h1,h2,h3,h4]
theorem ap9 (c:Int):qc aaJ [.int .u8 c]=some (.bool (apZ c)):=by
 refine B7 (H:=[]) ?_ rfl rfl
 show cv _ _ _=_
 rw [ajA]
 simp only [j3,at2,akt,decide_eq_true_eq,ayb,acY,apZ]
 repeat' (first | (exact congrArg (fun b=>some (V.bool b,([]:VH))) (decide_eq_true (by omega)).symm) | (exact congrArg (fun b=>some (V.bool b,([]:VH))) (decide_eq_false (by omega)).symm) | (exact congrArg (fun b=>some (V.bool b,([]:VH))) (decide_eq_decide.2 (by omega))) | (refine aqP (fun h=>?_) (fun h=>?_)))
theorem asy (c:Int):qc aa0 [.int .u8 c]=some (.bool (aut c)):=by
 refine B7 (H:=[]) ?_ rfl rfl
 show cv _ _ _=_
 rw [alj]
 simp only [j3,akt,decide_eq_true_eq,acY,aut]
 repeat' (first | (exact congrArg (fun b=>some (V.bool b,([]:VH))) (decide_eq_true (by omega)).symm) | (exact congrArg (fun b=>some (V.bool b,([]:VH))) (decide_eq_false (by omega)).symm) | (exact congrArg (fun b=>some (V.bool b,([]:VH))) (decide_eq_decide.2 (by omega))) | (refine aqP (fun h=>?_) (fun h=>?_)))
theorem ait (g:Nat) (p:Int->Bool) (hg:∀ c,qc g [.int .u8 c]=some (.bool (p c))) (s:Bs) (hs:s.length<=1000000000):qc aah [.str s,.fn g []]=some (.bool (s.all fun b=>p b.toNat)):=by
 refine B7 (H:=[]) ?_ (by simp only [j3]) rfl
 show cv _ _ _=_
 rw [alG]
 have loop:=arL (B:=abI) (S:=fun i=>[.str s,.fn g [],.int .i64 s.length,.int .i64 (i:Nat)]) (H:=[]) (m0:=0) (m1:=1) (vs0:=[]) (vs1:=[.bool false]) s (fun b => !p b.toNat)
  (fun i hi=>by
   have i1:=aiK s .i64 i hi
   have e2:b7 (.int .i64) .add (.int .i64 (i:Int)) (.int .i64 1)=some (.int .i64 ((i+1:Nat):Int)):=C6 _ i 1 (by omega)
   rw [aeu]
   simp only [j3,i1,e2,hg,show ((i:Int)<(s.length:Int)) from by omega]
   try (by_cases e:p s[i].toNat=true<;>simp [e]))
  (by
   rw [aeu]
   simp only [j3,show ¬ ((s.length:Int)<(s.length:Int)) from by omega])
 have loop':z8 abI [.str s,.fn g [],.int .i64 s.length,.int .i64 0] []=_:=loop
 have e:(s.all fun b=>p b.toNat) = !(s.any fun b => !p b.toNat):=by rw [List.not_any_eq_all_not]; simp
 simp only [j3,loop',e]
 by_cases h:(s.any fun b => !p b.toNat)=true<;>simp only [j3,h]
theorem ar9 (s:Bs) (hs:s.length<=1000000000):qc ac4 [.str s]=some (.bool (anG s)):=by
 have e1:=ait aaJ apZ ap9 s hs
 refine B7 (H:=[]) ?_ (by simp only [j3]) rfl
 show cv _ _ _=_
 rw [ali]
 simp only [j3,e1,decide_eq_true_eq,anG]
 by_cases h1:1<=s.length
 ·by_cases h2:s.length<=40
  ·rw [if_pos (by omega),if_pos (by omega),decide_eq_true (show 1<=s.length/\s.length<=40 from ⟨h1,h2⟩),Bool.true_and]
  ·rw [if_pos (by omega),if_neg (by omega),decide_eq_false (show ¬ (1<=s.length/\s.length<=40) from fun h=>h2 h.2),Bool.false_and]
 ·rw [if_neg (by omega),decide_eq_false (show ¬ (1<=s.length/\s.length<=40) from fun h=>h1 h.1),Bool.false_and]
theorem avX (s:Bs) (hs:s.length<=1000000000):qc ad3 [.str s]=some (.bool (aqA s)):=by
 have e1:=ait aa0 aut asy s hs
 refine B7 (H:=[]) ?_ (by simp only [j3]) rfl
 show cv _ _ _=_
 rw [anr]
 by_cases h0:s=[]
 ·subst h0; simp only [j3]; rfl
 ·have hl:0<s.length:=List.length_pos_iff.2 h0
  have i1:H8 (.str s) (.int .i64 0)=some (.int .u8 (s[0].toNat:Int)):=aiK s .i64 0 hl
  have e2:b7 (.int .i64) .sub (.int .i64 (s.length:Int)) (.int .i64 1)=some (.int .i64 ((s.length-1:Nat):Int)):=ahR _ s.length 1 (by omega) (by omega)
  have i2:=aiK s .i64 (s.length-1) (by omega)
  have hd:s.head? = some s[0]:=by rw [List.head?_eq_getElem?,List.getElem?_eq_getElem hl]
  have hz:s.getLast? = some s[s.length-1]:=by rw [List.getLast?_eq_getElem?,List.getElem?_eq_getElem (by omega)]
  have k:∀ b:UInt8,((b.toNat:Int)=45)<->b=45:=fun b=>by
   constructor
   ·intro h
    have:b.toNat=45:=by omega
    exact UInt8.toNat_inj.1 (by rw [this]; rfl)
   ·intro h; subst h; rfl
  simp only [j3,h0,i1,e2,i2,e1,aqA,hd,hz,k]
  by_cases h1:s[0]=45<;>by_cases h2:s[s.length-1]=45<;>simp [h0,h1,h2]
theorem alA (s:Bs) (hs:s.length<=1000000000):qc aa3 [.str s]=some (.bool (S5 s)):=by
 refine B7 (H:=[]) ?_ (by simp only [j3]) rfl
 show cv _ _ _=_
 rw [alh]
 have loop:=arL (B:=aa8) (S:=fun i=>[.str s,.int .i64 s.length,.int .i64 (i:Nat)]) (H:=[]) (m0:=0) (m1:=1) (vs0:=[.str s]) (vs1:=[.bool false]) s (fun b=>wrB b.toNat)
  (fun i hi=>by
   have i1:=aiK s .i64 i hi
   have e2:b7 (.int .i64) .add (.int .i64 (i:Int)) (.int .i64 1)=some (.int .i64 ((i+1:Nat):Int)):=C6 _ i 1 (by omega)
   rw [aej]
   simp only [j3,i1,e2,wrB,show ((i:Int)<(s.length:Int)) from by omega]
   by_cases e:(s[i].toNat:Int)<32<;>by_cases e3:(s[i].toNat:Int)>126<;>simp [j3,e,e3])
  (by
   rw [aej]
   simp only [j3,show ¬ ((s.length:Int)<(s.length:Int)) from by omega])
 have loop':z8 aa8 [.str s,.int .i64 s.length,.int .i64 0] []=_:=loop
 simp only [j3,loop',S5]
 by_cases h:(s.any fun b=>wrB b.toNat)=true
 ·simp only [j3,h]; rfl
 ·simp only [j3,h]
  by_cases h2:s.length<=200
  ·rw [decide_eq_true h2,decide_eq_true (show (s.length:Int)<=200 from by omega)]; simp [h]
  ·rw [decide_eq_false h2,decide_eq_false (show ¬ (s.length:Int)<=200 from by omega)]; simp
theorem arJ (g:Nat) (p:Bs->Bool) (l:List Bs) (hg:∀ s ∈ l,qc g [.str s]=some (.bool (p s))) (hl:l.length<=1000000000):qc D4 [.sl false (vT l),.fn g []]=some (.int .i64 (if l.any p=true then ((l.findIdx p:Nat):Int) else -1)):=by
 refine B7 (H:=[]) ?_ (by simp only [j3]) rfl
 show cv _ _ _=_
 rw [aca]
 have loop:=alY (B:=J1) (S:=fun i=>[.sl false (vT l),.fn g [],.int .i64 l.length,.int .i64 (i:Nat)]) (H:=[]) (m0:=0) (m1:=1) (vs0:=[]) l p
  (fun i hi=>by
   have i1:=afc false l .i64 i hi
   have e1:=hg l[i] (List.getElem_mem hi)
   have e2:b7 (.int .i64) .add (.int .i64 (i:Int)) (.int .i64 1)=some (.int .i64 ((i+1:Nat):Int)):=C6 _ i 1 (by omega)
   rw [T2]
   simp only [j3,i1,e1,e2,show ((i:Int)<(l.length:Int)) from by omega])
  (by
   rw [T2]
   simp only [j3,show ¬ ((l.length:Int)<(l.length:Int)) from by omega])
 have loop':z8 J1 [.sl false (vT l),.fn g [],.int .i64 l.length,.int .i64 0] []=_:=loop
 simp only [j3,loop']
 by_cases h:l.any p=true<;>simp only [j3,h]
theorem ab0 (g:Nat) (p:Bs->Bool) (l:List Bs) (hg:∀ s ∈ l,qc g [.str s]=some (.bool (p s))) (hl:l.length<=1000000000):qc C8 [.sl false (vT l),.fn g []]=some (.bool (l.any p)):=by
 have e1:=arJ g p l hg hl
 refine B7 (H:=[]) ?_ (by simp only [j3]) rfl
 show cv _ _ _=_
 rw [abO]
 simp only [j3,e1]
 by_cases h:l.any p=true
 ·simp only [h,if_true]
  rw [decide_eq_true (show (((l.findIdx p:Nat):Int)>=0) from by omega)]
 ·have h':l.any p=false:=by simpa using h
  simp [h']
theorem asz (s:Bs) (c:UInt8):qc P4 [.str s,.int .u8 (c.toNat:Int)]=some (.int .i64 (if c ∈ s then ((s.idxOf c:Nat):Int) else -1)):=by
 refine B7 (H:=[]) ?_ (by simp only [j3]) rfl
 show cv _ _ _=_
 rw [adg]
 have:((c.toNat:Int).toNat).toUInt8=c:=by simp
 simp only [j3,this,aCu]
theorem ate (s:Bs) (c:UInt8):qc N1 [.str s,.str [c]]=some (.int .i64 (if c ∈ s then ((s.idxOf c:Nat):Int) else -1)):=by
 have e1:=asz s c
 have i1:H8 (.str [c]) (.int .i64 0)=some (.int .u8 (c.toNat:Int)):=aiK [c] .i64 0 (by simp)
 refine B7 (H:=[]) ?_ (by simp only [j3]) rfl
 show cv _ _ _=_
 rw [aet]
 simp only [j3,List.length_cons,List.length_nil,i1,e1]
 by_cases h:[c]=s
 ·subst h; simp [j3]
 ·simp [j3,h,i1,e1]
theorem aon (s:Bs) (c:UInt8):qc adB [.str s,.str [c]]=some (.int .i64 (if c ∈ s then ((s.idxOf c:Nat):Int) else -1)):=by
 have e1:=ate s c
 refine B7 (H:=[]) ?_ (by simp only [j3]) rfl
 show cv _ _ _=_
 rw [al8]
 simp only [j3,e1]
theorem aBQ (s:Bs) (c:UInt8) (hs:s.length<=1000000000):qc V8 [.str s,.str [c]]=some (.A4 [.str (adz c s),.str (ac7 c s),.bool (decide (c ∈ s))]):=by
 have e1:=ate s c
 refine B7 (H:=[]) ?_ (by simp only [j3]) (by simp only [j3])
 show cv _ _ _=_
 rw [ae7]
 by_cases h:c ∈ s
 ·have hlt:=List.idxOf_lt_length_iff.2 h
  have p1:=auo s .i64 (s.idxOf c) (by omega)
  have e2:b7 (.int .i64) .add (.int .i64 ((s.idxOf c:Nat):Int)) (.int .i64 (([c]:Bs).length:Nat))=some (.int .i64 ((s.idxOf c+1:Nat):Int)):=C6 _ _ 1 (by omega)
  have p2:=auk s .i64 (s.idxOf c+1) (by omega)
  simp only [h,if_true] at e1
  simp only [j3,e1,p1,e2,p2,h,adz,ac7,show (((s.idxOf c:Nat):Int)>=0) from by omega]
 ·simp only [h,if_false] at e1
  simp only [j3,e1,h,adz,ac7,show ¬ ((-1:Int)>=0) from by omega]
theorem aue (s:Bs) (c:UInt8) (hs:s.length<=1000000000):qc U2 [.str s,.str [c]]=some (.A4 [.str (adz c s),.str (ac7 c s),.bool (decide (c ∈ s))]):=by
 have e1:=aBQ s c hs
 refine B7 (H:=[]) ?_ (by simp only [j3]) (by simp only [j3])
 show cv _ _ _=_
 rw [aoG]
 simp only [j3,e1]
theorem azM (s:Bs) (c:UInt8):qc ado [.str s,.str [c]]=some (.int .i64 (s.count c:Nat)):=by
 have i1:H8 (.str [c]) (.int .i64 0)=some (.int .u8 (c.toNat:Int)):=aiK [c] .i64 0 (by simp)
 have:((c.toNat:Int).toNat).toUInt8=c:=by simp
 refine B7 (H:=[]) ?_ (by simp only [j3]) rfl
 show cv _ _ _=_
 rw [amw]
 simp only [j3,List.length_cons,List.length_nil]
 simp [j3,i1,this,Go.Lib.countByte]
theorem auE (s:Bs) (c:UInt8) (hs:s.length<=1000000):∃ H,cv aar [.str s,.str [c],.int .i64 0,.int .i64 (-1)] []=some (.l8 0 0 (A0 c s).length 1,H)/\H[0]? = some (vR eT (A0 c s)).flatten:=by
 have hcount:=azM s c
 have hle:s.count c<=s.length:=List.count_le_length
 have hlen:=aiC c s
 have hmk:=aBZ 16 (A0 c s).length (by omega) (by omega)
 have h0:([]++[aci (A0 c s).length [V.str []]]:VH)[0]? = some (Q9 eT (A0 c s) [.str []] 0):=by simp [Q9,vR]
 have rest:∀ (i:Nat) (hi:i<(A0 c s).length),(A0 c s)[i]=if i<s.count c then (M1 c s i).take ((M1 c s i).idxOf c) else M1 c s i:=by
  intro i hi
  have h1:=ahu c s i hi
  rw [List.drop_eq_getElem_cons hi] at h1
  split
  ·by_cases hm:c ∈ M1 c s i
   ·rw [aiZ c _ hm] at h1
    exact (List.cons.inj h1).1.symm
   ·rw [adT c _ hm] at h1
    have:=congrArg List.length h1
    simp at this; omega
  ·by_cases hm:c ∈ M1 c s i
   ·rw [aiZ c _ hm] at h1
    have:=congrArg List.length h1
    have h3:=ag0 c ((M1 c s i).drop ((M1 c s i).idxOf c+1))
    have h4:=List.length_pos_iff.2 h3
    simp at this; omega
   ·rw [adT c _ hm] at h1
    exact (List.cons.inj h1).1.symm
 have mem:∀ i,i<s.count c->c ∈ M1 c s i:=by
  intro i hi
  by_cases hm:c ∈ M1 c s i
  ·exact hm
  ·have h1:=ahu c s i (by omega)
   rw [adT c _ hm] at h1
   have:=congrArg List.length h1
   simp at this; omega
 obtain ⟨H1,h1,h2⟩:=avI (B:=Y6) (S:=fun i=>[.str (M1 c s i),.str [c],.int .i64 0,.int .i64 (s.count c:Nat),.l8 0 0 (A0 c s).length 1,.int .i64 (i:Nat)]) (m:=0) (t:=s.count c) (vs:=[.str (M1 c s (s.count c)),.l8 0 0 (A0 c s).length 1,.int .i64 (s.count c:Nat)]) eT (l:=A0 c s) (by omega) h0
  (fun i hi H hk=>by
   have hi':i<(A0 c s).length:=by omega
   have hm:=mem i hi
   have hlt:=List.idxOf_lt_length_iff.2 hm
   have hrl:=apv c s i
   have e1:=aon (M1 c s i) c
   simp only [hm,if_true] at e1
   have e3:b7 (.int .i64) .add (.int .i64 (((M1 c s i).idxOf c:Nat):Int)) (.int .i64 0)=some (.int .i64 (((M1 c s i).idxOf c:Nat):Int)):=C6 _ _ 0 (by omega)
   have p1:=auo (M1 c s i) .i64 ((M1 c s i).idxOf c) (by omega)
   have e4:b7 (.int .i64) .add (.int .i64 (((M1 c s i).idxOf c:Nat):Int)) (.int .i64 (([c]:Bs).length:Nat))=some (.int .i64 (((M1 c s i).idxOf c+1:Nat):Int)):=C6 _ _ 1 (by omega)
   have p2:=auk (M1 c s i) .i64 ((M1 c s i).idxOf c+1) (by omega)
   have ho:=aqs 0 0 (A0 c s).length 1 .i64 i hi'
   have hr:=rest i hi'
   rw [if_pos hi] at hr
   have hst:K8 (.ptr 0 (0+i*1)) [.str (A0 c s)[i]] H=some (H.set 0 (Q9 eT (A0 c s) [.str []] (i+1))):=amH eT rfl hi' hk
   have e2:b7 (.int .i64) .add (.int .i64 (i:Int)) (.int .i64 1)=some (.int .i64 ((i+1:Nat):Int)):=C6 _ i 1 (by omega)
   simp only [Nat.zero_add,hr] at ho hst
   rw [acV]
   simp only [j3,e1,e3,p1,e4,p2,ho,hst,e2,show ((i:Int)<((s.count c:Nat):Int)) from by omega,show ¬ ((((M1 c s i).idxOf c:Nat):Int)<0) from by omega]
   rfl)
  (fun H hk=>by
   rw [acV]
   simp only [j3,show ¬ (((s.count c:Nat):Int)<((s.count c:Nat):Int)) from by omega])
 have hk':s.count c<(A0 c s).length:=by omega
 have hr:=rest (s.count c) hk'
 rw [if_neg (by omega)] at hr
 have hst:K8 (.ptr 0 (0+s.count c*1)) [.str (A0 c s)[s.count c]] H1=some (H1.set 0 (Q9 eT (A0 c s) [.str []] (s.count c+1))):=amH eT rfl hk' h2
 have ho:=aqs 0 0 (A0 c s).length 1 .i64 (s.count c) hk'
 have hop:=aAB 1 0 0 (A0 c s).length (A0 c s).length .i64 (Nat.le_refl _)
 have hfin:Q9 eT (A0 c s) [.str []] (s.count c+1)=(vR eT (A0 c s)).flatten:=by rw [<-hlen,axf]
 refine ⟨H1.set 0 (Q9 eT (A0 c s) [.str []] (s.count c+1)),?_,by rw [List.getElem?_set,if_pos rfl,if_pos (List.getElem?_eq_some_iff.1 h2).1,hfin]⟩
 have h1':z8 Y6 [.str s,.str [c],.int .i64 0,.int .i64 (s.count c:Nat),.l8 ([]:VH).length 0 (A0 c s).length 1,.int .i64 0] [aci (A0 c s).length [V.str []]]=_:=h1
 have a1:b7 (.int .i64) .add (.int .i64 ((s.count c:Nat):Int)) (.int .i64 1)=some (.int .i64 ((A0 c s).length:Int)):=by rw [hlen]; exact C6 _ (s.count c) 1 (by omega)
 have a2:b7 (.int .i64) .add (.int .i64 (s.length:Int)) (.int .i64 1)=some (.int .i64 ((s.length+1:Nat):Int)):=C6 _ s.length 1 (by omega)
 have a3:b7 (.int .i64) .sub (.int .i64 ((A0 c s).length:Int)) (.int .i64 1)=some (.int .i64 ((s.count c:Nat):Int)):=by rw [hlen]; exact ahR _ (s.count c+1) 1 (by omega) (by omega)
 have a4:=aCK .i64 ((A0 c s).length:Int) ((s.length+1:Nat):Int) (by omega)
 simp only [Nat.zero_add,hr] at ho hst
 rw [ajd]
 simp only [j3,hcount,a1,a2,a3,a4,hmk,h1',ho,hst,hop,show ¬ ((-1:Int)=0) from by omega,show ((-1:Int)<0) from by omega,show ¬ (([c]:Bs)=[]) from by simp]
theorem avB {f:FuncId} {args:List V} {G H:VH} {k off n e:Nat} {cs:List V} (hd:B3 args=true) (hs:args.map strip=args) (hp:C1 args=true) (h:cv f args []=some (.l8 k off n e,H)) (hk:H[k]? = some cs) (ht:aiJ cs=true) (hne:cs ≠ []) :
 pcg f G args=some (.l8 G.length off n e,G++[cs]):=by
 have hb:(aiJ cs && !cs.isEmpty)=true:=by cases cs with | nil=>exact absurd rfl hne | cons=>rw [ht]; rfl
 have e:args.map (frD 3 G)=args:=by rw [aod hd,hs]
 show aem cv f G args=_
 simp only [aem,e,hp,h,Option.bind_some,hk,hb]
theorem ajY:∀ l:List Bs,aiJ (vR eT l).flatten=true
 | []=>rfl
 | s::l=>ajY l
theorem asN {l:List Bs} (h:l ≠ []):(vR eT l).flatten ≠ []:=by
 cases l with
 | nil=>exact absurd rfl h
 | cons s l=>intro e; cases e
theorem auh (s:Bs) (c:UInt8) (G:VH) (hs:s.length<=1000000):pcg aar G [.str s,.str [c],.int .i64 0,.int .i64 (-1)]=some (.l8 G.length 0 (A0 c s).length 1,G++[(vR eT (A0 c s)).flatten]):=by
 obtain ⟨H,h1,h2⟩:=auE s c hs
 exact avB rfl rfl rfl h1 h2 (ajY _) (asN (ag0 c s))
theorem asX (s:Bs) (c:UInt8) (G:VH) (hs:s.length<=1000000):cv J4 [.str s,.str [c]] G=some (.l8 G.length 0 (A0 c s).length 1,G++[(vR eT (A0 c s)).flatten]):=by
 have e1:=auh s c G hs
 rw [amn]
 simp only [j3,e1]
theorem azS (s:Bs) (c:UInt8) (G:VH) (hs:s.length<=1000000):pcg J4 G [.str s,.str [c]]=some (.l8 G.length 0 (A0 c s).length 1,G++[(vR eT (A0 c s)).flatten]) :=
 avB (k:=0) (H:=[(vR eT (A0 c s)).flatten]) rfl rfl rfl (asX s c [] hs) rfl (ajY _) (asN (ag0 c s))
theorem akF (s:Bs) (c:UInt8) (hs:s.length<=1000000):pc J4 [.str s,.str [c]]=some (.sl false (vT (A0 c s))) :=
 aAO eT (k:=0) (H:=[(vR eT (A0 c s)).flatten]) (asX s c [] hs) rfl rfl
theorem asD (s:Bs) (hs:s.length<=1000000000):qc aa4 [.str s]=some (.bool (!anG s)):=by
 have e1:=ar9 s hs
 refine B7 (H:=[]) ?_ (by simp only [j3]) rfl
 show cv _ _ _=_
 rw [ale]
 simp only [j3,e1]
theorem avK (s:Bs) (hs:s.length<=1000000000):qc aef [.str s]=some (.bool (arX s)):=by
 refine B7 (H:=[]) ?_ (by simp only [j3]) rfl
 show cv _ _ _=_
 rw [amJ]
 by_cases h:s.length<=30
 ·have e1:=akF s 46 (by omega)
  have hlen:=aiC 46 s
  have hle:s.count 46<=s.length:=List.count_le_length
  have e2:=ab0 aa4 (fun t => !anG t) (A0 46 s) (fun t ht=>asD t (by have:=ajL 46 s t ht; omega)) (by omega)
  simp only [j3,e1,e2,arX,h,show ((s.length:Int)<=30) from by omega,Bool.true_and]
 ·simp only [j3,arX,h,show ¬ ((s.length:Int)<=30) from by omega,Bool.false_and]
theorem aq8 (s:Bs) (hs:s.length<=1000000000):qc aaB [.str s]=some (.bool (!aqA s)):=by
 have e1:=avX s hs
 refine B7 (H:=[]) ?_ (by simp only [j3]) rfl
 show cv _ _ _=_
 rw [ajg]
 simp only [j3,e1]
theorem ani (s:Bs) (hs:s.length<=1000000000):qc abC [.str s]=some (.bool (afw s)):=by
 refine B7 (H:=[]) ?_ (by simp only [j3]) rfl
 show cv _ _ _=_
 rw [al1]
 by_cases h:s.length<=40
 ·have e1:=akF s 46 (by omega)
  have hlen:=aiC 46 s
  have hle:s.count 46<=s.length:=List.count_le_length
  have e2:=ab0 aaB (fun t => !aqA t) (A0 46 s) (fun t ht=>aq8 t (by have:=ajL 46 s t ht; omega)) (by omega)
  simp only [j3,e1,e2,afw,h,show ((s.length:Int)<=40) from by omega,Bool.true_and]
 ·simp only [j3,afw,h,show ¬ ((s.length:Int)<=40) from by omega,Bool.false_and]
theorem aya (c:UInt8) (s:Bs):(adz c s).length<=s.length:=by unfold adz; split<;>simp; omega
theorem ax0 (c:UInt8) (s:Bs):(ac7 c s).length<=s.length:=by unfold ac7; split<;>simp
theorem ams (s:Bs) (hs:s.length<=1000000000):qc abc [.str s]=some (.bool (aa9 s)):=by
 have e1:=aue s 64 hs
 have e2:=avK (adz 64 s) (by have:=aya 64 s; omega)
 have e3:=ani (ac7 64 s) (by have:=ax0 64 s; omega)
 refine B7 (H:=[]) ?_ (by simp only [j3]) rfl
 show cv _ _ _=_
 rw [aox]
 simp only [j3,e1,e2,e3,aa9]
 by_cases h1:(64:UInt8) ∈ s<;>by_cases h2:arX (adz 64 s)=true<;>simp [h1,h2]
theorem axL (s:Bs) (hs:s.length<=1000000000):qc aeT [.str s]=some (.bool (ae4 s)):=by
 have e1:=ams s hs
 refine B7 (H:=[]) ?_ (by simp only [j3]) rfl
 show cv _ _ _=_
 rw [aol]
 simp only [j3,e1,ae4]
 by_cases h1:s=[]<;>simp [h1]
theorem aq6 (s:Bs) (hs:s.length<=1000000000):qc aaS [.str s]=some (.bool (!S5 s)):=by
 have e1:=alA s hs
 refine B7 (H:=[]) ?_ (by simp only [j3]) rfl
 show cv _ _ _=_
 rw [akr]
 simp only [j3,e1]
theorem atM (l:List Bs) (n:Int) (hl:l.length<=1000000000) (hs:∀ s ∈ l,s.length<=1000000000):qc adJ [.sl false (vT l),.int .i64 n]=some (.bool (decide ((l.length:Int)<=n) && !l.any fun t => !S5 t)):=by
 have e2:=ab0 aaS (fun t => !S5 t) l (fun t ht=>aq6 t (hs t ht)) hl
 refine B7 (H:=[]) ?_ (by simp only [j3]) rfl
 show cv _ _ _=_
 rw [alB]
 by_cases h:(l.length:Int)<=n
 ·simp only [j3,e2,h,Bool.true_and]
 ·simp only [j3,h,Bool.false_and]
end Go.Proofs.YtaapfgpeeghmeaaGreatDoor.Q

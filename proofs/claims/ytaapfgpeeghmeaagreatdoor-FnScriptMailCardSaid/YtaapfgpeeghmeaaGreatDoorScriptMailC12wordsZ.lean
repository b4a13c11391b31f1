/- Contracts: bytes, words, texts cut at a byte. -/
import Derived.Test.YtaapfgpeeghmeaaGreatDoorScriptMailC10drawZ
import Derived.Test.YtaapfgpeeghmeaaGreatDoorFnScriptMailK5
import Derived.Test.YtaapfgpeeghmeaaGreatDoorFnScriptMailK4
namespace Go.Proofs.YtaapfgpeeghmeaaGreatDoor.Q
open Go Go.AM
set_option linter.unusedSimpArgs false
set_option linter.unusedVariables false
set_option linter.unusedSectionVars false
def awu (c:Int):Bool:=decide (48<=c/\c<=57)
def aAX (c:Int):Bool:=decide (97<=c/\c<=122\/65<=c/\c<=90)
def adG (c:Int):Bool:=decide (97<=c/\c<=122\/65<=c/\c<=90\/48<=c/\c<=57\/c=33\/35<=c/\c<=39\/c=42\/c=43\/c=45\/c=47\/c=61\/c=63\/94<=c/\c<=96\/123<=c/\c<=126)
def adW (c:Int):Bool:=decide (97<=c/\c<=122\/48<=c/\c<=57\/c=45)
def wrB (c:Int):Bool:=decide (c<32\/126<c)
def aaY (s:Bs):Bool:=decide (1<=s.length/\s.length<=40)&&s.all fun b=>adG b.toNat
def ae3 (s:Bs):Bool:=decide (s ≠ []/\s.head? ≠ some 45/\s.getLast? ≠ some 45)&&s.all fun b=>adW b.toNat
def A6 (s:Bs):Bool := !(s.any fun b=>wrB b.toNat)&&decide (s.length<=200)
def ac8 (s:Bs):Bool:=decide (s.length<=30) && !(j7 46 s).any fun t => !aaY t
def V7 (s:Bs):Bool:=decide (s.length<=40) && !(j7 46 s).any fun t => !ae3 t
def G0 (s:Bs):Bool:=decide ((64:UInt8) ∈ s)&&(ac8 (E4 64 s)&&V7 (E5 64 s))
def abE (s:Bs):Bool:=decide (s=[])||G0 s
theorem akn {s:Bs} (h:(64:UInt8) ∈ s):s=E4 64 s++[64]++E5 64 s:=by
 have hlt:=List.idxOf_lt_length_iff.2 h
 have hg:s[s.idxOf 64]=64:=List.getElem_idxOf hlt
 unfold E4 E5
 rw [if_pos h,if_pos h]
 conv=>lhs; rw [<-List.take_append_drop (s.idxOf 64) s,List.drop_eq_getElem_cons hlt,hg]
 simp
theorem art (c:Int):qc aa5 [.int .u8 c]=some (.bool (awu c)):=by
 refine y4 (H:=[]) ?_ rfl rfl
 show cv _ _ _=_
 rw [ao4]
 simp only [c9,decide_eq_true_eq,awu]
 by_cases h1:48<=c<;>by_cases h2:c<=57<;>simp [h1,h2]
theorem axd (c:Int):qc aeD [.int .u8 c]=some (.bool (aAX c)):=by
 refine y4 (H:=[]) ?_ rfl rfl
 show cv _ _ _=_
 rw [anT]
 simp only [c9,decide_eq_true_eq,aAX]
 by_cases h1:97<=c<;>by_cases h2:c<=122<;>by_cases h3:65<=c<;>by_cases h4:c<=90<;>simp [h1,h2,h3,h4]
theorem aus (c:Int):qc abd [.int .u8 c]=some (.bool (adG c)):=by
 refine y4 (H:=[]) ?_ rfl rfl
 show cv _ _ _=_
 rw [ak9]
 simp only [c9,axd,art,decide_eq_true_eq,aAX,awu,adG]
 repeat' (first | (exact congrArg (fun b=>some (V.bool b,([]:VH))) (decide_eq_true (by omega)).symm) | (exact congrArg (fun b=>some (V.bool b,([]:VH))) (decide_eq_false (by omega)).symm) | (exact congrArg (fun b=>some (V.bool b,([]:VH))) (decide_eq_decide.2 (by omega))) | (refine aoJ (fun h=>?_) (fun h=>?_)))
theorem avj (c:Int):qc aby [.int .u8 c]=some (.bool (adW c)):=by
 refine y4 (H:=[]) ?_ rfl rfl
 show cv _ _ _=_
 rw [anj]
 simp only [c9,art,decide_eq_true_eq,awu,adW]
 repeat' (first | (exact congrArg (fun b=>some (V.bool b,([]:VH))) (decide_eq_true (by omega)).symm) | (exact congrArg (fun b=>some (V.bool b,([]:VH))) (decide_eq_false (by omega)).symm) | (exact congrArg (fun b=>some (V.bool b,([]:VH))) (decide_eq_decide.2 (by omega))) | (refine aoJ (fun h=>?_) (fun h=>?_)))
theorem aqb (g:Nat) (p:Int->Bool) (hg:∀ c,qc g [.int .u8 c]=some (.bool (p c))) (s:Bs) (hs:s.length<=1000000000):qc aci [.str s,.fn g []]=some (.bool (s.all fun b=>p b.toNat)):=by
 refine y4 (H:=[]) ?_ (by simp only [c9]) rfl
 show cv _ _ _=_
 rw [an5]
 have loop:=adl (B:=ab8) (S:=fun i=>[.str s,.fn g [],.int .i64 s.length,.int .i64 (i:Nat)]) (H:=[]) (m0:=0) (m1:=1) (vs0:=[]) (vs1:=[.bool false]) s (fun b => !p b.toNat)
  (fun i hi=>by
   have i1:=aal s .i64 i hi
   have e2:b7 (.int .i64) .add (.int .i64 (i:Int)) (.int .i64 1)=some (.int .i64 ((i+1:Nat):Int)):=A0 _ i 1 (by omega)
   rw [afz]
   simp only [c9,i1,e2,hg,show ((i:Int)<(s.length:Int)) from by omega]
   try (by_cases e:p s[i].toNat=true<;>simp [e]))
  (by
   rw [afz]
   simp only [c9,show ¬ ((s.length:Int)<(s.length:Int)) from by omega])
 have loop':l6 ab8 [.str s,.fn g [],.int .i64 s.length,.int .i64 0] []=_:=loop
 have e:(s.all fun b=>p b.toNat) = !(s.any fun b => !p b.toNat):=by rw [List.not_any_eq_all_not]; simp
 simp only [c9,loop',e]
 by_cases h:(s.any fun b => !p b.toNat)=true<;>simp only [c9,h]
theorem au3 (s:Bs) (hs:s.length<=1000000000):qc adT [.str s]=some (.bool (aaY s)):=by
 have e1:=aqb abd adG aus s hs
 refine y4 (H:=[]) ?_ (by simp only [c9]) rfl
 show cv _ _ _=_
 rw [anb]
 simp only [c9,e1,decide_eq_true_eq,aaY]
 by_cases h1:1<=s.length
 ·by_cases h2:s.length<=40
  ·rw [if_pos (by omega),if_pos (by omega),decide_eq_true (show 1<=s.length/\s.length<=40 from ⟨h1,h2⟩),Bool.true_and]
  ·rw [if_pos (by omega),if_neg (by omega),decide_eq_false (show ¬ (1<=s.length/\s.length<=40) from fun h=>h2 h.2),Bool.false_and]
 ·rw [if_neg (by omega),decide_eq_false (show ¬ (1<=s.length/\s.length<=40) from fun h=>h1 h.1),Bool.false_and]
theorem ayB (s:Bs) (hs:s.length<=1000000000):qc aeV [.str s]=some (.bool (ae3 s)):=by
 have e1:=aqb aby adW avj s hs
 refine y4 (H:=[]) ?_ (by simp only [c9]) rfl
 show cv _ _ _=_
 rw [ap3]
 by_cases h0:s=[]
 ·subst h0; simp only [c9]; rfl
 ·have hl:0<s.length:=List.length_pos_iff.2 h0
  have i1:A9 (.str s) (.int .i64 0)=some (.int .u8 (s[0].toNat:Int)):=aal s .i64 0 hl
  have e2:b7 (.int .i64) .sub (.int .i64 (s.length:Int)) (.int .i64 1)=some (.int .i64 ((s.length-1:Nat):Int)):=ac7 _ s.length 1 (by omega) (by omega)
  have i2:=aal s .i64 (s.length-1) (by omega)
  have hd:s.head? = some s[0]:=by rw [List.head?_eq_getElem?,List.getElem?_eq_getElem hl]
  have hz:s.getLast? = some s[s.length-1]:=by rw [List.getLast?_eq_getElem?,List.getElem?_eq_getElem (by omega)]
  have k:∀ b:UInt8,((b.toNat:Int)=45)<->b=45:=fun b=>by
   constructor
   ·intro h
    have:b.toNat=45:=by omega
    exact UInt8.toNat_inj.1 (by rw [this]; rfl)
   ·intro h; subst h; rfl
  simp only [c9,h0,i1,e2,i2,e1,ae3,hd,hz,k]
  by_cases h1:s[0]=45<;>by_cases h2:s[s.length-1]=45<;>simp [h0,h1,h2]
theorem aiP (s:Bs) (hs:s.length<=1000000000):qc aab [.str s]=some (.bool (A6 s)):=by
 refine y4 (H:=[]) ?_ (by simp only [c9]) rfl
 show cv _ _ _=_
 rw [am9]
 have loop:=adl (B:=abp) (S:=fun i=>[.str s,.int .i64 s.length,.int .i64 (i:Nat)]) (H:=[]) (m0:=0) (m1:=1) (vs0:=[.str s]) (vs1:=[.bool false]) s (fun b=>wrB b.toNat)
  (fun i hi=>by
   have i1:=aal s .i64 i hi
   have e2:b7 (.int .i64) .add (.int .i64 (i:Int)) (.int .i64 1)=some (.int .i64 ((i+1:Nat):Int)):=A0 _ i 1 (by omega)
   rw [afn]
   simp only [c9,i1,e2,wrB,show ((i:Int)<(s.length:Int)) from by omega]
   by_cases e:(s[i].toNat:Int)<32<;>by_cases e3:(s[i].toNat:Int)>126<;>simp [c9,e,e3])
  (by
   rw [afn]
   simp only [c9,show ¬ ((s.length:Int)<(s.length:Int)) from by omega])
 have loop':l6 abp [.str s,.int .i64 s.length,.int .i64 0] []=_:=loop
 simp only [c9,loop',A6]
 by_cases h:(s.any fun b=>wrB b.toNat)=true
 ·simp only [c9,h]; rfl
 ·simp only [c9,h]
  by_cases h2:s.length<=200
  ·rw [decide_eq_true h2,decide_eq_true (show (s.length:Int)<=200 from by omega)]; simp [h]
  ·rw [decide_eq_false h2,decide_eq_false (show ¬ (s.length:Int)<=200 from by omega)]; simp
theorem auI (g:Nat) (p:Bs->Bool) (l:List Bs) (hg:∀ s ∈ l,qc g [.str s]=some (.bool (p s))) (hl:l.length<=1000000000):qc N8 [.sl false (vT l),.fn g []]=some (.int .i64 (if l.any p=true then ((l.findIdx p:Nat):Int) else -1)):=by
 refine y4 (H:=[]) ?_ (by simp only [c9]) rfl
 show cv _ _ _=_
 rw [ac6]
 have loop:=anU (B:=I9) (S:=fun i=>[.sl false (vT l),.fn g [],.int .i64 l.length,.int .i64 (i:Nat)]) (H:=[]) (m0:=0) (m1:=1) (vs0:=[]) l p
  (fun i hi=>by
   have i1:=P8 false l .i64 i hi
   have e1:=hg l[i] (List.getElem_mem hi)
   have e2:b7 (.int .i64) .add (.int .i64 (i:Int)) (.int .i64 1)=some (.int .i64 ((i+1:Nat):Int)):=A0 _ i 1 (by omega)
   rw [U2]
   simp only [c9,i1,e1,e2,show ((i:Int)<(l.length:Int)) from by omega])
  (by
   rw [U2]
   simp only [c9,show ¬ ((l.length:Int)<(l.length:Int)) from by omega])
 have loop':l6 I9 [.sl false (vT l),.fn g [],.int .i64 l.length,.int .i64 0] []=_:=loop
 simp only [c9,loop']
 by_cases h:l.any p=true<;>simp only [c9,h]
theorem aa4 (g:Nat) (p:Bs->Bool) (l:List Bs) (hg:∀ s ∈ l,qc g [.str s]=some (.bool (p s))) (hl:l.length<=1000000000):qc C0 [.sl false (vT l),.fn g []]=some (.bool (l.any p)):=by
 have e1:=auI g p l hg hl
 refine y4 (H:=[]) ?_ (by simp only [c9]) rfl
 show cv _ _ _=_
 rw [acw]
 simp only [c9,e1]
 by_cases h:l.any p=true
 ·simp only [h,if_true]
  rw [decide_eq_true (show (((l.findIdx p:Nat):Int)>=0) from by omega)]
 ·have h':l.any p=false:=by simpa using h
  simp [h']
theorem auM (s:Bs) (c:UInt8):qc P6 [.str s,.int .u8 (c.toNat:Int)]=some (.int .i64 (if c ∈ s then ((s.idxOf c:Nat):Int) else -1)):=by
 refine y4 (H:=[]) ?_ (by simp only [c9]) rfl
 show cv _ _ _=_
 rw [ad8]
 have:((c.toNat:Int).toNat).toUInt8=c:=by simp
 simp only [c9,this,aE8]
theorem awa (s:Bs) (c:UInt8):qc N3 [.str s,.str [c]]=some (.int .i64 (if c ∈ s then ((s.idxOf c:Nat):Int) else -1)):=by
 have e1:=auM s c
 have i1:A9 (.str [c]) (.int .i64 0)=some (.int .u8 (c.toNat:Int)):=aal [c] .i64 0 (by simp)
 refine y4 (H:=[]) ?_ (by simp only [c9]) rfl
 show cv _ _ _=_
 rw [afv]
 simp only [c9,List.length_cons,List.length_nil,i1,e1]
 by_cases h:[c]=s
 ·subst h; simp [c9]
 ·simp [c9,h,i1,e1]
theorem aqF (s:Bs) (c:UInt8):qc aew [.str s,.str [c]]=some (.int .i64 (if c ∈ s then ((s.idxOf c:Nat):Int) else -1)):=by
 have e1:=awa s c
 refine y4 (H:=[]) ?_ (by simp only [c9]) rfl
 show cv _ _ _=_
 rw [anS]
 simp only [c9,e1]
theorem aDz (s:Bs) (c:UInt8) (hs:s.length<=1000000000):qc X3 [.str s,.str [c]]=some (.n9 [.str (E4 c s),.str (E5 c s),.bool (decide (c ∈ s))]):=by
 have e1:=awa s c
 refine y4 (H:=[]) ?_ (by simp only [c9]) (by simp only [c9])
 show cv _ _ _=_
 rw [agm]
 by_cases h:c ∈ s
 ·have hlt:=List.idxOf_lt_length_iff.2 h
  have p1:=aij s .i64 (s.idxOf c) (by omega)
  have e2:b7 (.int .i64) .add (.int .i64 ((s.idxOf c:Nat):Int)) (.int .i64 (([c]:Bs).length:Nat))=some (.int .i64 ((s.idxOf c+1:Nat):Int)):=A0 _ _ 1 (by omega)
  have p2:=aee s .i64 (s.idxOf c+1) (by omega)
  simp only [h,if_true] at e1
  simp only [c9,e1,p1,e2,p2,h,E4,E5,show (((s.idxOf c:Nat):Int)>=0) from by omega]
 ·simp only [h,if_false] at e1
  simp only [c9,e1,h,E4,E5,show ¬ ((-1:Int)>=0) from by omega]
theorem aqc (s:Bs) (c:UInt8) (hs:s.length<=1000000000):qc aau [.str s,.str [c]]=some (.n9 [.str (E4 c s),.str (E5 c s),.bool (decide (c ∈ s))]):=by
 have e1:=aDz s c hs
 refine y4 (H:=[]) ?_ (by simp only [c9]) (by simp only [c9])
 show cv _ _ _=_
 rw [arq]
 simp only [c9,e1]
theorem aCo (s:Bs) (c:UInt8):qc aeB [.str s,.str [c]]=some (.int .i64 (s.count c:Nat)):=by
 have i1:A9 (.str [c]) (.int .i64 0)=some (.int .u8 (c.toNat:Int)):=aal [c] .i64 0 (by simp)
 have:((c.toNat:Int).toNat).toUInt8=c:=by simp
 refine y4 (H:=[]) ?_ (by simp only [c9]) rfl
 show cv _ _ _=_
 rw [aom]
 simp only [c9,List.length_cons,List.length_nil]
 simp [c9,i1,this,Go.Lib.countByte]
theorem axa (s:Bs) (c:UInt8) (hs:s.length<=1000000):∃ H,cv aaM [.str s,.str [c],.int .i64 0,.int .i64 (-1)] []=some (.y1 0 0 (j7 c s).length 1,H)/\H[0]? = some (vR eT (j7 c s)).flatten:=by
 have hcount:=aCo s c
 have hle:s.count c<=s.length:=List.count_le_length
 have hlen:=ado c s
 have hmk:=aEf 16 (j7 c s).length (by omega) (by omega)
 have h0:([]++[acZ (j7 c s).length [V.str []]]:VH)[0]? = some (S4 eT (j7 c s) [.str []] 0):=by simp [S4,vR]
 have rest:∀ (i:Nat) (hi:i<(j7 c s).length),(j7 c s)[i]=if i<s.count c then (M4 c s i).take ((M4 c s i).idxOf c) else M4 c s i:=by
  intro i hi
  have h1:=aiV c s i hi
  rw [List.drop_eq_getElem_cons hi] at h1
  split
  ·by_cases hm:c ∈ M4 c s i
   ·rw [ahe c _ hm] at h1
    exact (List.cons.inj h1).1.symm
   ·rw [aix c _ hm] at h1
    have:=congrArg List.length h1
    simp at this; omega
  ·by_cases hm:c ∈ M4 c s i
   ·rw [ahe c _ hm] at h1
    have:=congrArg List.length h1
    have h3:=aeM c ((M4 c s i).drop ((M4 c s i).idxOf c+1))
    have h4:=List.length_pos_iff.2 h3
    simp at this; omega
   ·rw [aix c _ hm] at h1
    exact (List.cons.inj h1).1.symm
 have mem:∀ i,i<s.count c->c ∈ M4 c s i:=by
  intro i hi
  by_cases hm:c ∈ M4 c s i
  ·exact hm
  ·have h1:=aiV c s i (by omega)
   rw [aix c _ hm] at h1
   have:=congrArg List.length h1
   simp at this; omega
 obtain ⟨H1,h1,h2⟩:=axx (B:=aai) (S:=fun i=>[.str (M4 c s i),.str [c],.int .i64 0,.int .i64 (s.count c:Nat),.y1 0 0 (j7 c s).length 1,.int .i64 (i:Nat)]) (m:=0) (t:=s.count c) (vs:=[.str (M4 c s (s.count c)),.y1 0 0 (j7 c s).length 1,.int .i64 (s.count c:Nat)]) eT (l:=j7 c s) (by omega) h0
  (fun i hi H hk=>by
   have hi':i<(j7 c s).length:=by omega
   have hm:=mem i hi
   have hlt:=List.idxOf_lt_length_iff.2 hm
   have hrl:=arQ c s i
   have e1:=aqF (M4 c s i) c
   simp only [hm,if_true] at e1
   have e3:b7 (.int .i64) .add (.int .i64 (((M4 c s i).idxOf c:Nat):Int)) (.int .i64 0)=some (.int .i64 (((M4 c s i).idxOf c:Nat):Int)):=A0 _ _ 0 (by omega)
   have p1:=aij (M4 c s i) .i64 ((M4 c s i).idxOf c) (by omega)
   have e4:b7 (.int .i64) .add (.int .i64 (((M4 c s i).idxOf c:Nat):Int)) (.int .i64 (([c]:Bs).length:Nat))=some (.int .i64 (((M4 c s i).idxOf c+1:Nat):Int)):=A0 _ _ 1 (by omega)
   have p2:=aee (M4 c s i) .i64 ((M4 c s i).idxOf c+1) (by omega)
   have ho:=apw 0 0 (j7 c s).length 1 .i64 i hi'
   have hr:=rest i hi'
   rw [if_pos hi] at hr
   have hst:E1 (.ptr 0 (0+i*1)) [.str (j7 c s)[i]] H=some (H.set 0 (S4 eT (j7 c s) [.str []] (i+1))):=ao9 eT rfl hi' hk
   have e2:b7 (.int .i64) .add (.int .i64 (i:Int)) (.int .i64 1)=some (.int .i64 ((i+1:Nat):Int)):=A0 _ i 1 (by omega)
   simp only [Nat.zero_add,hr] at ho hst
   rw [adM]
   simp only [c9,e1,e3,p1,e4,p2,ho,hst,e2,show ((i:Int)<((s.count c:Nat):Int)) from by omega,show ¬ ((((M4 c s i).idxOf c:Nat):Int)<0) from by omega]
   rfl)
  (fun H hk=>by
   rw [adM]
   simp only [c9,show ¬ (((s.count c:Nat):Int)<((s.count c:Nat):Int)) from by omega])
 have hk':s.count c<(j7 c s).length:=by omega
 have hr:=rest (s.count c) hk'
 rw [if_neg (by omega)] at hr
 have hst:E1 (.ptr 0 (0+s.count c*1)) [.str (j7 c s)[s.count c]] H1=some (H1.set 0 (S4 eT (j7 c s) [.str []] (s.count c+1))):=ao9 eT rfl hk' h2
 have ho:=apw 0 0 (j7 c s).length 1 .i64 (s.count c) hk'
 have hop:=aDD 1 0 0 (j7 c s).length (j7 c s).length .i64 (Nat.le_refl _)
 have hfin:S4 eT (j7 c s) [.str []] (s.count c+1)=(vR eT (j7 c s)).flatten:=by rw [<-hlen,aAi]
 refine ⟨H1.set 0 (S4 eT (j7 c s) [.str []] (s.count c+1)),?_,by rw [List.getElem?_set,if_pos rfl,if_pos (List.getElem?_eq_some_iff.1 h2).1,hfin]⟩
 have h1':l6 aai [.str s,.str [c],.int .i64 0,.int .i64 (s.count c:Nat),.y1 ([]:VH).length 0 (j7 c s).length 1,.int .i64 0] [acZ (j7 c s).length [V.str []]]=_:=h1
 have a1:b7 (.int .i64) .add (.int .i64 ((s.count c:Nat):Int)) (.int .i64 1)=some (.int .i64 ((j7 c s).length:Int)):=by rw [hlen]; exact A0 _ (s.count c) 1 (by omega)
 have a2:b7 (.int .i64) .add (.int .i64 (s.length:Int)) (.int .i64 1)=some (.int .i64 ((s.length+1:Nat):Int)):=A0 _ s.length 1 (by omega)
 have a3:b7 (.int .i64) .sub (.int .i64 ((j7 c s).length:Int)) (.int .i64 1)=some (.int .i64 ((s.count c:Nat):Int)):=by rw [hlen]; exact ac7 _ (s.count c+1) 1 (by omega) (by omega)
 have a4:=aEX .i64 ((j7 c s).length:Int) ((s.length+1:Nat):Int) (by omega)
 simp only [Nat.zero_add,hr] at ho hst
 rw [ak2]
 simp only [c9,hcount,a1,a2,a3,a4,hmk,h1',ho,hst,hop,show ¬ ((-1:Int)=0) from by omega,show ((-1:Int)<0) from by omega,show ¬ (([c]:Bs)=[]) from by simp]
theorem aDb {f:FuncId} {args:List V} {G H:VH} {k off n e:Nat} {cs:List V} (hd:A7 args=true) (hs:args.map strip=args) (hp:C1 args=true) (h:cv f args []=some (.y1 k off n e,H)) (hk:H[k]? = some cs) (ht:aka cs=true) (hne:cs ≠ []) :
 pcg f G args=some (.y1 G.length off n e,G++[cs]):=by
 have hb:(aka cs && !cs.isEmpty)=true:=by cases cs with | nil=>exact absurd rfl hne | cons=>rw [ht]; rfl
 have e:args.map (frD 3 G)=args:=by rw [arh hd,hs]
 show ae4 cv f G args=_
 simp only [ae4,e,hp,h,Option.bind_some,hk,hb]
theorem arR:∀ l:List Bs,aka (vR eT l).flatten=true
 | []=>rfl
 | s::l=>arR l
theorem aCz {l:List Bs} (h:l ≠ []):(vR eT l).flatten ≠ []:=by
 cases l with
 | nil=>exact absurd rfl h
 | cons s l=>intro e; cases e
theorem awF (s:Bs) (c:UInt8) (G:VH) (hs:s.length<=1000000):pcg aaM G [.str s,.str [c],.int .i64 0,.int .i64 (-1)]=some (.y1 G.length 0 (j7 c s).length 1,G++[(vR eT (j7 c s)).flatten]):=by
 obtain ⟨H,h1,h2⟩:=axa s c hs
 exact aDb rfl rfl rfl h1 h2 (arR _) (aCz (aeM c s))
theorem aCK (s:Bs) (c:UInt8) (G:VH) (hs:s.length<=1000000):cv V3 [.str s,.str [c]] G=some (.y1 G.length 0 (j7 c s).length 1,G++[(vR eT (j7 c s)).flatten]):=by
 have e1:=awF s c G hs
 rw [aoA]
 simp only [c9,e1]
theorem arj (s:Bs) (c:UInt8) (hs:s.length<=1000000):pc V3 [.str s,.str [c]]=some (.sl false (vT (j7 c s))) :=
 aDT eT (k:=0) (H:=[(vR eT (j7 c s)).flatten]) (aCK s c [] hs) rfl rfl
theorem auN (s:Bs) (hs:s.length<=1000000000):qc abr [.str s]=some (.bool (!aaY s)):=by
 have e1:=au3 s hs
 refine y4 (H:=[]) ?_ (by simp only [c9]) rfl
 show cv _ _ _=_
 rw [amZ]
 simp only [c9,e1]
theorem ayQ (s:Bs) (hs:s.length<=1000000000):qc afc [.str s]=some (.bool (ac8 s)):=by
 refine y4 (H:=[]) ?_ (by simp only [c9]) rfl
 show cv _ _ _=_
 rw [aqk]
 by_cases h:s.length<=30
 ·have e1:=arj s 46 (by omega)
  have hlen:=ado 46 s
  have hle:s.count 46<=s.length:=List.count_le_length
  have e2:=aa4 abr (fun t => !aaY t) (j7 46 s) (fun t ht=>auN t (by have:=afe 46 s t ht; omega)) (by omega)
  simp only [c9,e1,e2,ac8,h,show ((s.length:Int)<=30) from by omega,Bool.true_and]
 ·simp only [c9,ac8,h,show ¬ ((s.length:Int)<=30) from by omega,Bool.false_and]
theorem atI (s:Bs) (hs:s.length<=1000000000):qc aa9 [.str s]=some (.bool (!ae3 s)):=by
 have e1:=ayB s hs
 refine y4 (H:=[]) ?_ (by simp only [c9]) rfl
 show cv _ _ _=_
 rw [alO]
 simp only [c9,e1]
theorem ag0 (s:Bs) (hs:s.length<=1000000000):qc V4 [.str s]=some (.bool (V7 s)):=by
 refine y4 (H:=[]) ?_ (by simp only [c9]) rfl
 show cv _ _ _=_
 rw [aoM]
 by_cases h:s.length<=40
 ·have e1:=arj s 46 (by omega)
  have hlen:=ado 46 s
  have hle:s.count 46<=s.length:=List.count_le_length
  have e2:=aa4 aa9 (fun t => !ae3 t) (j7 46 s) (fun t ht=>atI t (by have:=afe 46 s t ht; omega)) (by omega)
  simp only [c9,e1,e2,V7,h,show ((s.length:Int)<=40) from by omega,Bool.true_and]
 ·simp only [c9,V7,h,show ¬ ((s.length:Int)<=40) from by omega,Bool.false_and]
theorem ajD (c:UInt8) (s:Bs):(E4 c s).length<=s.length:=by unfold E4; split<;>simp; omega
theorem ahF (c:UInt8) (s:Bs):(E5 c s).length<=s.length:=by unfold E5; split<;>simp
theorem ajK (s:Bs) (hs:s.length<=1000000000):qc aaw [.str s]=some (.bool (G0 s)):=by
 have e1:=aqc s 64 hs
 have e2:=ayQ (E4 64 s) (by have:=ajD 64 s; omega)
 have e3:=ag0 (E5 64 s) (by have:=ahF 64 s; omega)
 refine y4 (H:=[]) ?_ (by simp only [c9]) rfl
 show cv _ _ _=_
 rw [aqY]
 simp only [c9,e1,e2,e3,G0]
 by_cases h1:(64:UInt8) ∈ s<;>by_cases h2:ac8 (E4 64 s)=true<;>simp [h1,h2]
theorem at3 (s:Bs) (hs:s.length<=1000000000):qc adK [.str s]=some (.bool (abE s)):=by
 have e1:=ajK s hs
 refine y4 (H:=[]) ?_ (by simp only [c9]) rfl
 show cv _ _ _=_
 rw [aqp]
 simp only [c9,e1,abE]
 by_cases h1:s=[]<;>simp [h1]
theorem auq (s:Bs) (hs:s.length<=1000000000):qc aa2 [.str s]=some (.bool (!A6 s)):=by
 have e1:=aiP s hs
 refine y4 (H:=[]) ?_ (by simp only [c9]) rfl
 show cv _ _ _=_
 rw [alK]
 simp only [c9,e1]
theorem axm (l:List Bs) (n:Int) (hl:l.length<=1000000000) (hs:∀ s ∈ l,s.length<=1000000000):qc aez [.sl false (vT l),.int .i64 n]=some (.bool (decide ((l.length:Int)<=n) && !l.any fun t => !A6 t)):=by
 have e2:=aa4 aa2 (fun t => !A6 t) l (fun t ht=>auq t (hs t ht)) hl
 refine y4 (H:=[]) ?_ (by simp only [c9]) rfl
 show cv _ _ _=_
 rw [aoP]
 by_cases h:(l.length:Int)<=n
 ·simp only [c9,e2,h,Bool.true_and]
 ·simp only [c9,h,Bool.false_and]
end Go.Proofs.YtaapfgpeeghmeaaGreatDoor.Q

/- Contracts: bytes, words, texts cut at a byte. -/
import Derived.Test.YtpbgpeojlfdpoaaDoorExactSplitMailRunsZ
import Derived.Test.YtpbgpeojlfdpoaaDoorFnExactSplitMailK4
namespace Go.Proofs.YtpbgpeojlfdpoaaDoor.Q
open Go Go.AM
set_option linter.unusedSimpArgs false
set_option linter.unusedVariables false
set_option linter.unusedSectionVars false
def apP (c:Int):Bool:=decide (48<=c/\c<=57)
def asK (c:Int):Bool:=decide (97<=c/\c<=122\/65<=c/\c<=90)
def abA (c:Int):Bool:=decide (97<=c/\c<=122\/65<=c/\c<=90\/48<=c/\c<=57\/c=33\/35<=c/\c<=39\/c=42\/c=43\/c=45\/c=47\/c=61\/c=63\/94<=c/\c<=96\/123<=c/\c<=126)
def abG (c:Int):Bool:=decide (97<=c/\c<=122\/48<=c/\c<=57\/c=45)
def wrB (c:Int):Bool:=decide (c<32\/126<c)
def Y8 (s:Bs):Bool:=decide (1<=s.length/\s.length<=40)&&s.all fun b=>abA b.toNat
def adz (s:Bs):Bool:=decide (s ≠ []/\s.head? ≠ some 45/\s.getLast? ≠ some 45)&&s.all fun b=>abG b.toNat
def P6 (s:Bs):Bool := !(s.any fun b=>wrB b.toNat)&&decide (s.length<=200)
def abH (s:Bs):Bool:=decide (s.length<=30) && !(c6 46 s).any fun t => !Y8 t
def ace (s:Bs):Bool:=decide (s.length<=40) && !(c6 46 s).any fun t => !adz t
def J5 (s:Bs):Bool:=decide ((64:UInt8) ∈ s)&&(abH (P7 64 s)&&ace (R1 64 s))
def akz (s:Bs):Bool:=decide (s=[])||J5 s
theorem anR {s:Bs} (h:(64:UInt8) ∈ s):s=P7 64 s++[64]++R1 64 s:=by
 have hlt:=List.idxOf_lt_length_iff.2 h
 have hg:s[s.idxOf 64]=64:=List.getElem_idxOf hlt
 unfold P7 R1
 rw [if_pos h,if_pos h]
 conv=>lhs; rw [<-List.take_append_drop (s.idxOf 64) s,List.drop_eq_getElem_cons hlt,hg]
 simp
theorem alQ (c:Int):qc T1 [.int .u8 c]=some (.bool (apP c)):=by
 refine s7 (H:=[]) ?_ rfl rfl
 show cv _ _ _=_
 rw [akb]
 simp only [b9,decide_eq_true_eq,apP]
 by_cases h1:48<=c<;>by_cases h2:c<=57<;>simp [h1,h2]
theorem apS (c:Int):qc abS [.int .u8 c]=some (.bool (asK c)):=by
 refine s7 (H:=[]) ?_ rfl rfl
 show cv _ _ _=_
 rw [aiF]
 simp only [b9,decide_eq_true_eq,asK]
 by_cases h1:97<=c<;>by_cases h2:c<=122<;>by_cases h3:65<=c<;>by_cases h4:c<=90<;>simp [h1,h2,h3,h4]
theorem anI (c:Int):qc S9 [.int .u8 c]=some (.bool (abA c)):=by
 refine s7 (H:=[]) ?_ rfl rfl
 show cv _ _ _=_
 rw [ag1]
 simp only [b9,apS,alQ,decide_eq_true_eq,asK,apP,abA]
 repeat' (first | (exact congrArg (fun b=>some (V.bool b,([]:VH))) (decide_eq_true (by omega)).symm) | (exact congrArg (fun b=>some (V.bool b,([]:VH))) (decide_eq_false (by omega)).symm) | (exact congrArg (fun b=>some (V.bool b,([]:VH))) (decide_eq_decide.2 (by omega))) | (refine ai3 (fun h=>?_) (fun h=>?_)))
theorem aoz (c:Int):qc V0 [.int .u8 c]=some (.bool (abG c)):=by
 refine s7 (H:=[]) ?_ rfl rfl
 show cv _ _ _=_
 rw [ah5]
 simp only [b9,alQ,decide_eq_true_eq,apP,abG]
 repeat' (first | (exact congrArg (fun b=>some (V.bool b,([]:VH))) (decide_eq_true (by omega)).symm) | (exact congrArg (fun b=>some (V.bool b,([]:VH))) (decide_eq_false (by omega)).symm) | (exact congrArg (fun b=>some (V.bool b,([]:VH))) (decide_eq_decide.2 (by omega))) | (refine ai3 (fun h=>?_) (fun h=>?_)))
theorem aj7 (g:Nat) (p:Int->Bool) (hg:∀ c,qc g [.int .u8 c]=some (.bool (p c))) (s:Bs) (hs:s.length<=1000000000):qc Y2 [.str s,.fn g []]=some (.bool (s.all fun b=>p b.toNat)):=by
 refine s7 (H:=[]) ?_ (by simp only [b9]) rfl
 show cv _ _ _=_
 rw [ai2]
 have loop:=aat (B:=X5) (S:=fun i=>[.str s,.fn g [],.int .i64 s.length,.int .i64 (i:Nat)]) (H:=[]) (m0:=0) (m1:=1) (vs0:=[]) (vs1:=[.bool false]) s (fun b => !p b.toNat)
  (fun i hi=>by
   have i1:=Y3 s .i64 i hi
   have e2:a8 (.int .i64) .add (.int .i64 (i:Int)) (.int .i64 1)=some (.int .i64 ((i+1:Nat):Int)):=s9 _ i 1 (by omega)
   rw [acz]
   simp only [b9,i1,e2,hg,show ((i:Int)<(s.length:Int)) from by omega]
   try (by_cases e:p s[i].toNat=true<;>simp [e]))
  (by
   rw [acz]
   simp only [b9,show ¬ ((s.length:Int)<(s.length:Int)) from by omega])
 have loop':j4 X5 [.str s,.fn g [],.int .i64 s.length,.int .i64 0] []=_:=loop
 have e:(s.all fun b=>p b.toNat) = !(s.any fun b => !p b.toNat):=by rw [List.not_any_eq_all_not]; simp
 simp only [b9,loop',e]
 by_cases h:(s.any fun b => !p b.toNat)=true<;>simp only [b9,h]
theorem aoC (s:Bs) (hs:s.length<=1000000000):qc abg [.str s]=some (.bool (Y8 s)):=by
 have e1:=aj7 S9 abA anI s hs
 refine s7 (H:=[]) ?_ (by simp only [b9]) rfl
 show cv _ _ _=_
 rw [ah9]
 simp only [b9,e1,decide_eq_true_eq,Y8]
 by_cases h1:1<=s.length
 ·by_cases h2:s.length<=40
  ·rw [if_pos (by omega),if_pos (by omega),decide_eq_true (show 1<=s.length/\s.length<=40 from ⟨h1,h2⟩),Bool.true_and]
  ·rw [if_pos (by omega),if_neg (by omega),decide_eq_false (show ¬ (1<=s.length/\s.length<=40) from fun h=>h2 h.2),Bool.false_and]
 ·rw [if_neg (by omega),decide_eq_false (show ¬ (1<=s.length/\s.length<=40) from fun h=>h1 h.1),Bool.false_and]
theorem asp (s:Bs) (hs:s.length<=1000000000):qc aca [.str s]=some (.bool (adz s)):=by
 have e1:=aj7 V0 abG aoz s hs
 refine s7 (H:=[]) ?_ (by simp only [b9]) rfl
 show cv _ _ _=_
 rw [ake]
 by_cases h0:s=[]
 ·subst h0; simp only [b9]; rfl
 ·have hl:0<s.length:=List.length_pos_iff.2 h0
  have i1:p8 (.str s) (.int .i64 0)=some (.int .u8 (s[0].toNat:Int)):=Y3 s .i64 0 hl
  have e2:a8 (.int .i64) .sub (.int .i64 (s.length:Int)) (.int .i64 1)=some (.int .i64 ((s.length-1:Nat):Int)):=amV _ s.length 1 (by omega) (by omega)
  have i2:=Y3 s .i64 (s.length-1) (by omega)
  have hd:s.head? = some s[0]:=by rw [List.head?_eq_getElem?,List.getElem?_eq_getElem hl]
  have hz:s.getLast? = some s[s.length-1]:=by rw [List.getLast?_eq_getElem?,List.getElem?_eq_getElem (by omega)]
  have k:∀ b:UInt8,((b.toNat:Int)=45)<->b=45:=fun b=>by
   constructor
   ·intro h
    have:b.toNat=45:=by omega
    exact UInt8.toNat_inj.1 (by rw [this]; rfl)
   ·intro h; subst h; rfl
  simp only [b9,h0,i1,e2,i2,e1,adz,hd,hz,k]
  by_cases h1:s[0]=45<;>by_cases h2:s[s.length-1]=45<;>simp [h0,h1,h2]
theorem aoP (s:Bs) (hs:s.length<=1000000000):qc abh [.str s]=some (.bool (P6 s)):=by
 refine s7 (H:=[]) ?_ (by simp only [b9]) rfl
 show cv _ _ _=_
 rw [ah2]
 have loop:=aat (B:=V4) (S:=fun i=>[.str s,.int .i64 s.length,.int .i64 (i:Nat)]) (H:=[]) (m0:=0) (m1:=1) (vs0:=[.str s]) (vs1:=[.bool false]) s (fun b=>wrB b.toNat)
  (fun i hi=>by
   have i1:=Y3 s .i64 i hi
   have e2:a8 (.int .i64) .add (.int .i64 (i:Int)) (.int .i64 1)=some (.int .i64 ((i+1:Nat):Int)):=s9 _ i 1 (by omega)
   rw [acn]
   simp only [b9,i1,e2,wrB,show ((i:Int)<(s.length:Int)) from by omega]
   by_cases e:(s[i].toNat:Int)<32<;>by_cases e3:(s[i].toNat:Int)>126<;>simp [b9,e,e3])
  (by
   rw [acn]
   simp only [b9,show ¬ ((s.length:Int)<(s.length:Int)) from by omega])
 have loop':j4 V4 [.str s,.int .i64 s.length,.int .i64 0] []=_:=loop
 simp only [b9,loop',P6]
 by_cases h:(s.any fun b=>wrB b.toNat)=true
 ·simp only [b9,h]; rfl
 ·simp only [b9,h]
  by_cases h2:s.length<=200
  ·rw [decide_eq_true h2,decide_eq_true (show (s.length:Int)<=200 from by omega)]; simp [h]
  ·rw [decide_eq_false h2,decide_eq_false (show ¬ (s.length:Int)<=200 from by omega)]; simp
theorem amO (g:Nat) (p:Bs->Bool) (l:List Bs) (hg:∀ s ∈ l,qc g [.str s]=some (.bool (p s))) (hl:l.length<=1000000000):qc G4 [.sl false (vT l),.fn g []]=some (.int .i64 (if l.any p=true then ((l.findIdx p:Nat):Int) else -1)):=by
 refine s7 (H:=[]) ?_ (by simp only [b9]) rfl
 show cv _ _ _=_
 rw [aaK]
 have loop:=ajj (B:=B7) (S:=fun i=>[.sl false (vT l),.fn g [],.int .i64 l.length,.int .i64 (i:Nat)]) (H:=[]) (m0:=0) (m1:=1) (vs0:=[]) l p
  (fun i hi=>by
   have i1:=M0 false l .i64 i hi
   have e1:=hg l[i] (List.getElem_mem hi)
   have e2:a8 (.int .i64) .add (.int .i64 (i:Int)) (.int .i64 1)=some (.int .i64 ((i+1:Nat):Int)):=s9 _ i 1 (by omega)
   rw [L3]
   simp only [b9,i1,e1,e2,show ((i:Int)<(l.length:Int)) from by omega])
  (by
   rw [L3]
   simp only [b9,show ¬ ((l.length:Int)<(l.length:Int)) from by omega])
 have loop':j4 B7 [.sl false (vT l),.fn g [],.int .i64 l.length,.int .i64 0] []=_:=loop
 simp only [b9,loop']
 by_cases h:l.any p=true<;>simp only [b9,h]
theorem aai (g:Nat) (p:Bs->Bool) (l:List Bs) (hg:∀ s ∈ l,qc g [.str s]=some (.bool (p s))) (hl:l.length<=1000000000):qc u5 [.sl false (vT l),.fn g []]=some (.bool (l.any p)):=by
 have e1:=amO g p l hg hl
 refine s7 (H:=[]) ?_ (by simp only [b9]) rfl
 show cv _ _ _=_
 rw [Z8]
 simp only [b9,e1]
 by_cases h:l.any p=true
 ·simp only [h,if_true]
  rw [decide_eq_true (show (((l.findIdx p:Nat):Int)>=0) from by omega)]
 ·have h':l.any p=false:=by simpa using h
  simp [h']
theorem aos (s:Bs) (c:UInt8):qc I2 [.str s,.int .u8 (c.toNat:Int)]=some (.int .i64 (if c ∈ s then ((s.idxOf c:Nat):Int) else -1)):=by
 refine s7 (H:=[]) ?_ (by simp only [b9]) rfl
 show cv _ _ _=_
 rw [abo]
 have:((c.toNat:Int).toNat).toUInt8=c:=by simp
 simp only [b9,this,axB]
theorem apq (s:Bs) (c:UInt8):qc F8 [.str s,.str [c]]=some (.int .i64 (if c ∈ s then ((s.idxOf c:Nat):Int) else -1)):=by
 have e1:=aos s c
 have i1:p8 (.str [c]) (.int .i64 0)=some (.int .u8 (c.toNat:Int)):=Y3 [c] .i64 0 (by simp)
 refine s7 (H:=[]) ?_ (by simp only [b9]) rfl
 show cv _ _ _=_
 rw [acu]
 simp only [b9,List.length_cons,List.length_nil,i1,e1]
 by_cases h:[c]=s
 ·subst h; simp [b9]
 ·simp [b9,h,i1,e1]
theorem alk (s:Bs) (c:UInt8):qc abP [.str s,.str [c]]=some (.int .i64 (if c ∈ s then ((s.idxOf c:Nat):Int) else -1)):=by
 have e1:=apq s c
 refine s7 (H:=[]) ?_ (by simp only [b9]) rfl
 show cv _ _ _=_
 rw [ajv]
 simp only [b9,e1]
theorem avS (s:Bs) (c:UInt8) (hs:s.length<=1000000000):qc N3 [.str s,.str [c]]=some (.u6 [.str (P7 c s),.str (R1 c s),.bool (decide (c ∈ s))]):=by
 have e1:=apq s c
 refine s7 (H:=[]) ?_ (by simp only [b9]) (by simp only [b9])
 show cv _ _ _=_
 rw [adb]
 by_cases h:c ∈ s
 ·have hlt:=List.idxOf_lt_length_iff.2 h
  have p1:=aqv s .i64 (s.idxOf c) (by omega)
  have e2:a8 (.int .i64) .add (.int .i64 ((s.idxOf c:Nat):Int)) (.int .i64 (([c]:Bs).length:Nat))=some (.int .i64 ((s.idxOf c+1:Nat):Int)):=s9 _ _ 1 (by omega)
  have p2:=amn s .i64 (s.idxOf c+1) (by omega)
  simp only [h,if_true] at e1
  simp only [b9,e1,p1,e2,p2,h,P7,R1,show (((s.idxOf c:Nat):Int)>=0) from by omega]
 ·simp only [h,if_false] at e1
  simp only [b9,e1,h,P7,R1,show ¬ ((-1:Int)>=0) from by omega]
theorem auO (s:Bs) (c:UInt8) (hs:s.length<=1000000000):qc aaQ [.str s,.str [c]]=some (.u6 [.str (P7 c s),.str (R1 c s),.bool (decide (c ∈ s))]):=by
 have e1:=avS s c hs
 refine s7 (H:=[]) ?_ (by simp only [b9]) (by simp only [b9])
 show cv _ _ _=_
 rw [ald]
 simp only [b9,e1]
theorem avh (s:Bs) (c:UInt8):qc abD [.str s,.str [c]]=some (.int .i64 (s.count c:Nat)):=by
 have i1:p8 (.str [c]) (.int .i64 0)=some (.int .u8 (c.toNat:Int)):=Y3 [c] .i64 0 (by simp)
 have:((c.toNat:Int).toNat).toUInt8=c:=by simp
 refine s7 (H:=[]) ?_ (by simp only [b9]) rfl
 show cv _ _ _=_
 rw [ajk]
 simp only [b9,List.length_cons,List.length_nil]
 simp [b9,i1,this,Go.Lib.countByte]
theorem aqj (s:Bs) (c:UInt8) (hs:s.length<=1000000):∃ H,cv R9 [.str s,.str [c],.int .i64 0,.int .i64 (-1)] []=some (.m8 0 0 (c6 c s).length 1,H)/\H[0]? = some (vR eT (c6 c s)).flatten:=by
 have hcount:=avh s c
 have hle:s.count c<=s.length:=List.count_le_length
 have hlen:=aaY c s
 have hmk:=aqV 16 (c6 c s).length (by omega) (by omega)
 have h0:([]++[W3 (c6 c s).length [V.str []]]:VH)[0]? = some (J6 eT (c6 c s) [.str []] 0):=by simp [J6,vR]
 have rest:∀ (i:Nat) (hi:i<(c6 c s).length),(c6 c s)[i]=if i<s.count c then (F0 c s i).take ((F0 c s i).idxOf c) else F0 c s i:=by
  intro i hi
  have h1:=afc c s i hi
  rw [List.drop_eq_getElem_cons hi] at h1
  split
  ·by_cases hm:c ∈ F0 c s i
   ·rw [ago c _ hm] at h1
    exact (List.cons.inj h1).1.symm
   ·rw [ae3 c _ hm] at h1
    have:=congrArg List.length h1
    simp at this; omega
  ·by_cases hm:c ∈ F0 c s i
   ·rw [ago c _ hm] at h1
    have:=congrArg List.length h1
    have h3:=abU c ((F0 c s i).drop ((F0 c s i).idxOf c+1))
    have h4:=List.length_pos_iff.2 h3
    simp at this; omega
   ·rw [ae3 c _ hm] at h1
    exact (List.cons.inj h1).1.symm
 have mem:∀ i,i<s.count c->c ∈ F0 c s i:=by
  intro i hi
  by_cases hm:c ∈ F0 c s i
  ·exact hm
  ·have h1:=afc c s i (by omega)
   rw [ae3 c _ hm] at h1
   have:=congrArg List.length h1
   simp at this; omega
 obtain ⟨H1,h1,h2⟩:=arG (B:=P9) (S:=fun i=>[.str (F0 c s i),.str [c],.int .i64 0,.int .i64 (s.count c:Nat),.m8 0 0 (c6 c s).length 1,.int .i64 (i:Nat)]) (m:=0) (t:=s.count c) (vs:=[.str (F0 c s (s.count c)),.m8 0 0 (c6 c s).length 1,.int .i64 (s.count c:Nat)]) eT (l:=c6 c s) (by omega) h0
  (fun i hi H hk=>by
   have hi':i<(c6 c s).length:=by omega
   have hm:=mem i hi
   have hlt:=List.idxOf_lt_length_iff.2 hm
   have hrl:=alS c s i
   have e1:=alk (F0 c s i) c
   simp only [hm,if_true] at e1
   have e3:a8 (.int .i64) .add (.int .i64 (((F0 c s i).idxOf c:Nat):Int)) (.int .i64 0)=some (.int .i64 (((F0 c s i).idxOf c:Nat):Int)):=s9 _ _ 0 (by omega)
   have p1:=aqv (F0 c s i) .i64 ((F0 c s i).idxOf c) (by omega)
   have e4:a8 (.int .i64) .add (.int .i64 (((F0 c s i).idxOf c:Nat):Int)) (.int .i64 (([c]:Bs).length:Nat))=some (.int .i64 (((F0 c s i).idxOf c+1:Nat):Int)):=s9 _ _ 1 (by omega)
   have p2:=amn (F0 c s i) .i64 ((F0 c s i).idxOf c+1) (by omega)
   have ho:=ane 0 0 (c6 c s).length 1 .i64 i hi'
   have hr:=rest i hi'
   rw [if_pos hi] at hr
   have hst:M6 (.ptr 0 (0+i*1)) [.str (c6 c s)[i]] H=some (H.set 0 (J6 eT (c6 c s) [.str []] (i+1))):=ajH eT rfl hi' hk
   have e2:a8 (.int .i64) .add (.int .i64 (i:Int)) (.int .i64 1)=some (.int .i64 ((i+1:Nat):Int)):=s9 _ i 1 (by omega)
   simp only [Nat.zero_add,hr] at ho hst
   rw [aba]
   simp only [b9,e1,e3,p1,e4,p2,ho,hst,e2,show ((i:Int)<((s.count c:Nat):Int)) from by omega,show ¬ ((((F0 c s i).idxOf c:Nat):Int)<0) from by omega]
   rfl)
  (fun H hk=>by
   rw [aba]
   simp only [b9,show ¬ (((s.count c:Nat):Int)<((s.count c:Nat):Int)) from by omega])
 have hk':s.count c<(c6 c s).length:=by omega
 have hr:=rest (s.count c) hk'
 rw [if_neg (by omega)] at hr
 have hst:M6 (.ptr 0 (0+s.count c*1)) [.str (c6 c s)[s.count c]] H1=some (H1.set 0 (J6 eT (c6 c s) [.str []] (s.count c+1))):=ajH eT rfl hk' h2
 have ho:=ane 0 0 (c6 c s).length 1 .i64 (s.count c) hk'
 have hop:=aw9 1 0 0 (c6 c s).length (c6 c s).length .i64 (Nat.le_refl _)
 have hfin:J6 eT (c6 c s) [.str []] (s.count c+1)=(vR eT (c6 c s)).flatten:=by rw [<-hlen,as0]
 refine ⟨H1.set 0 (J6 eT (c6 c s) [.str []] (s.count c+1)),?_,by rw [List.getElem?_set,if_pos rfl,if_pos (List.getElem?_eq_some_iff.1 h2).1,hfin]⟩
 have h1':j4 P9 [.str s,.str [c],.int .i64 0,.int .i64 (s.count c:Nat),.m8 ([]:VH).length 0 (c6 c s).length 1,.int .i64 0] [W3 (c6 c s).length [V.str []]]=_:=h1
 have a1:a8 (.int .i64) .add (.int .i64 ((s.count c:Nat):Int)) (.int .i64 1)=some (.int .i64 ((c6 c s).length:Int)):=by rw [hlen]; exact s9 _ (s.count c) 1 (by omega)
 have a2:a8 (.int .i64) .add (.int .i64 (s.length:Int)) (.int .i64 1)=some (.int .i64 ((s.length+1:Nat):Int)):=s9 _ s.length 1 (by omega)
 have a3:a8 (.int .i64) .sub (.int .i64 ((c6 c s).length:Int)) (.int .i64 1)=some (.int .i64 ((s.count c:Nat):Int)):=by rw [hlen]; exact amV _ (s.count c+1) 1 (by omega) (by omega)
 have a4:=axr .i64 ((c6 c s).length:Int) ((s.length+1:Nat):Int) (by omega)
 simp only [Nat.zero_add,hr] at ho hst
 rw [agF]
 simp only [b9,hcount,a1,a2,a3,a4,hmk,h1',ho,hst,hop,show ¬ ((-1:Int)=0) from by omega,show ((-1:Int)<0) from by omega,show ¬ (([c]:Bs)=[]) from by simp]
theorem awp {f:FuncId} {args:List V} {G H:VH} {k off n e:Nat} {cs:List V} (hd:o8 args=true) (hs:args.map strip=args) (hp:r5 args=true) (h:cv f args []=some (.m8 k off n e,H)) (hk:H[k]? = some cs) (ht:afT cs=true) (hne:cs ≠ []) :
 pcg f G args=some (.m8 G.length off n e,G++[cs]):=by
 have hb:(afT cs && !cs.isEmpty)=true:=by cases cs with | nil=>exact absurd rfl hne | cons=>rw [ht]; rfl
 have e:args.map (A1 3 G)=args:=by rw [afC hd,hs]
 show aaC cv f G args=_
 simp only [aaC,e,hp,h,Option.bind_some,hk,hb]
theorem al9:∀ l:List Bs,afT (vR eT l).flatten=true
 | []=>rfl
 | s::l=>al9 l
theorem auU {l:List Bs} (h:l ≠ []):(vR eT l).flatten ≠ []:=by
 cases l with
 | nil=>exact absurd rfl h
 | cons s l=>intro e; cases e
theorem aqg (s:Bs) (c:UInt8) (G:VH) (hs:s.length<=1000000):pcg R9 G [.str s,.str [c],.int .i64 0,.int .i64 (-1)]=some (.m8 G.length 0 (c6 c s).length 1,G++[(vR eT (c6 c s)).flatten]):=by
 obtain ⟨H,h1,h2⟩:=aqj s c hs
 exact awp rfl rfl rfl h1 h2 (al9 _) (auU (abU c s))
theorem avv (s:Bs) (c:UInt8) (G:VH) (hs:s.length<=1000000):cv R6 [.str s,.str [c]] G=some (.m8 G.length 0 (c6 c s).length 1,G++[(vR eT (c6 c s)).flatten]):=by
 have e1:=aqg s c G hs
 rw [ajw]
 simp only [b9,e1]
theorem api (s:Bs) (c:UInt8) (hs:s.length<=1000000):pc R6 [.str s,.str [c]]=some (.sl false (vT (c6 c s))) :=
 aw1 eT (k:=0) (H:=[(vR eT (c6 c s)).flatten]) (avv s c [] hs) rfl rfl
theorem aov (s:Bs) (hs:s.length<=1000000000):qc U9 [.str s]=some (.bool (!Y8 s)):=by
 have e1:=aoC s hs
 refine s7 (H:=[]) ?_ (by simp only [b9]) rfl
 show cv _ _ _=_
 rw [aib]
 simp only [b9,e1]
theorem ar7 (s:Bs) (hs:s.length<=1000000000):qc acs [.str s]=some (.bool (abH s)):=by
 refine s7 (H:=[]) ?_ (by simp only [b9]) rfl
 show cv _ _ _=_
 rw [ajN]
 by_cases h:s.length<=30
 ·have e1:=api s 46 (by omega)
  have hlen:=aaY 46 s
  have hle:s.count 46<=s.length:=List.count_le_length
  have e2:=aai U9 (fun t => !Y8 t) (c6 46 s) (fun t ht=>aov t (by have:=ab8 46 s t ht; omega)) (by omega)
  simp only [b9,e1,e2,abH,h,show ((s.length:Int)<=30) from by omega,Bool.true_and]
 ·simp only [b9,abH,h,show ¬ ((s.length:Int)<=30) from by omega,Bool.false_and]
theorem anJ (s:Bs) (hs:s.length<=1000000000):qc S7 [.str s]=some (.bool (!adz s)):=by
 have e1:=asp s hs
 refine s7 (H:=[]) ?_ (by simp only [b9]) rfl
 show cv _ _ _=_
 rw [ahc]
 simp only [b9,e1]
theorem aqD (s:Bs) (hs:s.length<=1000000000):qc abL [.str s]=some (.bool (ace s)):=by
 refine s7 (H:=[]) ?_ (by simp only [b9]) rfl
 show cv _ _ _=_
 rw [ajs]
 by_cases h:s.length<=40
 ·have e1:=api s 46 (by omega)
  have hlen:=aaY 46 s
  have hle:s.count 46<=s.length:=List.count_le_length
  have e2:=aai S7 (fun t => !adz t) (c6 46 s) (fun t ht=>anJ t (by have:=ab8 46 s t ht; omega)) (by omega)
  simp only [b9,e1,e2,ace,h,show ((s.length:Int)<=40) from by omega,Bool.true_and]
 ·simp only [b9,ace,h,show ¬ ((s.length:Int)<=40) from by omega,Bool.false_and]
theorem anj (c:UInt8) (s:Bs):(P7 c s).length<=s.length:=by unfold P7; split<;>simp; omega
theorem aom (c:UInt8) (s:Bs):(R1 c s).length<=s.length:=by unfold R1; split<;>simp
theorem an6 (s:Bs) (hs:s.length<=1000000000):qc aa5 [.str s]=some (.bool (J5 s)):=by
 have e1:=auO s 64 hs
 have e2:=ar7 (P7 64 s) (by have:=anj 64 s; omega)
 have e3:=aqD (R1 64 s) (by have:=aom 64 s; omega)
 refine s7 (H:=[]) ?_ (by simp only [b9]) rfl
 show cv _ _ _=_
 rw [ak3]
 simp only [b9,e1,e2,e3,J5]
 by_cases h1:(64:UInt8) ∈ s<;>by_cases h2:abH (P7 64 s)=true<;>simp [h1,h2]
theorem atA (s:Bs) (hs:s.length<=1000000000):qc acK [.str s]=some (.bool (akz s)):=by
 have e1:=an6 s hs
 refine s7 (H:=[]) ?_ (by simp only [b9]) rfl
 show cv _ _ _=_
 rw [ak0]
 simp only [b9,e1,akz]
 by_cases h1:s=[]<;>simp [h1]
theorem anB (s:Bs) (hs:s.length<=1000000000):qc T2 [.str s]=some (.bool (!P6 s)):=by
 have e1:=aoP s hs
 refine s7 (H:=[]) ?_ (by simp only [b9]) rfl
 show cv _ _ _=_
 rw [ahj]
 simp only [b9,e1]
theorem aqe (l:List Bs) (n:Int) (hl:l.length<=1000000000) (hs:∀ s ∈ l,s.length<=1000000000):qc abN [.sl false (vT l),.int .i64 n]=some (.bool (decide ((l.length:Int)<=n) && !l.any fun t => !P6 t)):=by
 have e2:=aai T2 (fun t => !P6 t) l (fun t ht=>anB t (hs t ht)) hl
 refine s7 (H:=[]) ?_ (by simp only [b9]) rfl
 show cv _ _ _=_
 rw [ai1]
 by_cases h:(l.length:Int)<=n
 ·simp only [b9,e2,h,Bool.true_and]
 ·simp only [b9,h,Bool.false_and]
end Go.Proofs.YtpbgpeojlfdpoaaDoor.Q

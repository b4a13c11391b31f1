/- Contracts: bytes, words, texts cut at a byte. -/
import Derived.Test.YtpbgpeojlfdpoaaGreatDoorExactTraceMailRunsZ
import Derived.Test.YtpbgpeojlfdpoaaGreatDoorFnExactTraceMailK4
namespace Go.Proofs.YtpbgpeojlfdpoaaGreatDoor.Q
open Go Go.AM
set_option linter.unusedSimpArgs false
set_option linter.unusedVariables false
set_option linter.unusedSectionVars false
def aq8 (c:Int):Bool:=decide (48<=c/\c<=57)
def aus (c:Int):Bool:=decide (97<=c/\c<=122\/65<=c/\c<=90)
def abA (c:Int):Bool:=decide (97<=c/\c<=122\/65<=c/\c<=90\/48<=c/\c<=57\/c=33\/35<=c/\c<=39\/c=42\/c=43\/c=45\/c=47\/c=61\/c=63\/94<=c/\c<=96\/123<=c/\c<=126)
def abM (c:Int):Bool:=decide (97<=c/\c<=122\/48<=c/\c<=57\/c=45)
def wrB (c:Int):Bool:=decide (c<32\/126<c)
def U7 (s:Bs):Bool:=decide (1<=s.length/\s.length<=40)&&s.all fun b=>abA b.toNat
def acW (s:Bs):Bool:=decide (s ≠ []/\s.head? ≠ some 45/\s.getLast? ≠ some 45)&&s.all fun b=>abM b.toNat
def O3 (s:Bs):Bool := !(s.any fun b=>wrB b.toNat)&&decide (s.length<=200)
def abi (s:Bs):Bool:=decide (s.length<=30) && !(j5 46 s).any fun t => !U7 t
def U2 (s:Bs):Bool:=decide (s.length<=40) && !(j5 46 s).any fun t => !acW t
def L6 (s:Bs):Bool:=decide ((64:UInt8) ∈ s)&&(abi (R2 64 s)&&U2 (U0 64 s))
def aiR (s:Bs):Bool:=decide (s=[])||L6 s
theorem ajH {s:Bs} (h:(64:UInt8) ∈ s):s=R2 64 s++[64]++U0 64 s:=by
 have hlt:=List.idxOf_lt_length_iff.2 h
 have hg:s[s.idxOf 64]=64:=List.getElem_idxOf hlt
 unfold R2 U0
 rw [if_pos h,if_pos h]
 conv=>lhs; rw [<-List.take_append_drop (s.idxOf 64) s,List.drop_eq_getElem_cons hlt,hg]
 simp
theorem am0 (c:Int):qc V5 [.int .u8 c]=some (.bool (aq8 c)):=by
 refine o7 (H:=[]) ?_ rfl rfl
 show cv _ _ _=_
 rw [akU]
 simp only [g9,decide_eq_true_eq,aq8]
 by_cases h1:48<=c<;>by_cases h2:c<=57<;>simp [h1,h2]
theorem arb (c:Int):qc acx [.int .u8 c]=some (.bool (aus c)):=by
 refine o7 (H:=[]) ?_ rfl rfl
 show cv _ _ _=_
 rw [ajN]
 simp only [g9,decide_eq_true_eq,aus]
 by_cases h1:97<=c<;>by_cases h2:c<=122<;>by_cases h3:65<=c<;>by_cases h4:c<=90<;>simp [h1,h2,h3,h4]
theorem aoc (c:Int):qc V0 [.int .u8 c]=some (.bool (abA c)):=by
 refine o7 (H:=[]) ?_ rfl rfl
 show cv _ _ _=_
 rw [ahV]
 simp only [g9,arb,am0,decide_eq_true_eq,aus,aq8,abA]
 repeat' (first | (exact congrArg (fun b=>some (V.bool b,([]:VH))) (decide_eq_true (by omega)).symm) | (exact congrArg (fun b=>some (V.bool b,([]:VH))) (decide_eq_false (by omega)).symm) | (exact congrArg (fun b=>some (V.bool b,([]:VH))) (decide_eq_decide.2 (by omega))) | (refine akI (fun h=>?_) (fun h=>?_)))
theorem apO (c:Int):qc W5 [.int .u8 c]=some (.bool (abM c)):=by
 refine o7 (H:=[]) ?_ rfl rfl
 show cv _ _ _=_
 rw [ajm]
 simp only [g9,am0,decide_eq_true_eq,aq8,abM]
 repeat' (first | (exact congrArg (fun b=>some (V.bool b,([]:VH))) (decide_eq_true (by omega)).symm) | (exact congrArg (fun b=>some (V.bool b,([]:VH))) (decide_eq_false (by omega)).symm) | (exact congrArg (fun b=>some (V.bool b,([]:VH))) (decide_eq_decide.2 (by omega))) | (refine akI (fun h=>?_) (fun h=>?_)))
theorem alY (g:Nat) (p:Int->Bool) (hg:∀ c,qc g [.int .u8 c]=some (.bool (p c))) (s:Bs) (hs:s.length<=1000000000):qc aao [.str s,.fn g []]=some (.bool (s.all fun b=>p b.toNat)):=by
 refine o7 (H:=[]) ?_ (by simp only [g9]) rfl
 show cv _ _ _=_
 rw [akv]
 have loop:=ab2 (B:=aau) (S:=fun i=>[.str s,.fn g [],.int .i64 s.length,.int .i64 (i:Nat)]) (H:=[]) (m0:=0) (m1:=1) (vs0:=[]) (vs1:=[.bool false]) s (fun b => !p b.toNat)
  (fun i hi=>by
   have i1:=aam s .i64 i hi
   have e2:b9 (.int .i64) .add (.int .i64 (i:Int)) (.int .i64 1)=some (.int .i64 ((i+1:Nat):Int)):=A6 _ i 1 (by omega)
   rw [ado]
   simp only [g9,i1,e2,hg,show ((i:Int)<(s.length:Int)) from by omega]
   try (by_cases e:p s[i].toNat=true<;>simp [e]))
  (by
   rw [ado]
   simp only [g9,show ¬ ((s.length:Int)<(s.length:Int)) from by omega])
 have loop':m9 aau [.str s,.fn g [],.int .i64 s.length,.int .i64 0] []=_:=loop
 have e:(s.all fun b=>p b.toNat) = !(s.any fun b => !p b.toNat):=by rw [List.not_any_eq_all_not]; simp
 simp only [g9,loop',e]
 by_cases h:(s.any fun b => !p b.toNat)=true<;>simp only [g9,h]
theorem apX (s:Bs) (hs:s.length<=1000000000):qc abP [.str s]=some (.bool (U7 s)):=by
 have e1:=alY V0 abA aoc s hs
 refine o7 (H:=[]) ?_ (by simp only [g9]) rfl
 show cv _ _ _=_
 rw [ai6]
 simp only [g9,e1,decide_eq_true_eq,U7]
 by_cases h1:1<=s.length
 ·by_cases h2:s.length<=40
  ·rw [if_pos (by omega),if_pos (by omega),decide_eq_true (show 1<=s.length/\s.length<=40 from ⟨h1,h2⟩),Bool.true_and]
  ·rw [if_pos (by omega),if_neg (by omega),decide_eq_false (show ¬ (1<=s.length/\s.length<=40) from fun h=>h2 h.2),Bool.false_and]
 ·rw [if_neg (by omega),decide_eq_false (show ¬ (1<=s.length/\s.length<=40) from fun h=>h1 h.1),Bool.false_and]
theorem asL (s:Bs) (hs:s.length<=1000000000):qc ac0 [.str s]=some (.bool (acW s)):=by
 have e1:=alY W5 abM apO s hs
 refine o7 (H:=[]) ?_ (by simp only [g9]) rfl
 show cv _ _ _=_
 rw [alP]
 by_cases h0:s=[]
 ·subst h0; simp only [g9]; rfl
 ·have hl:0<s.length:=List.length_pos_iff.2 h0
  have i1:y5 (.str s) (.int .i64 0)=some (.int .u8 (s[0].toNat:Int)):=aam s .i64 0 hl
  have e2:b9 (.int .i64) .sub (.int .i64 (s.length:Int)) (.int .i64 1)=some (.int .i64 ((s.length-1:Nat):Int)):=ahI _ s.length 1 (by omega) (by omega)
  have i2:=aam s .i64 (s.length-1) (by omega)
  have hd:s.head? = some s[0]:=by rw [List.head?_eq_getElem?,List.getElem?_eq_getElem hl]
  have hz:s.getLast? = some s[s.length-1]:=by rw [List.getLast?_eq_getElem?,List.getElem?_eq_getElem (by omega)]
  have k:∀ b:UInt8,((b.toNat:Int)=45)<->b=45:=fun b=>by
   constructor
   ·intro h
    have:b.toNat=45:=by omega
    exact UInt8.toNat_inj.1 (by rw [this]; rfl)
   ·intro h; subst h; rfl
  simp only [g9,h0,i1,e2,i2,e1,acW,hd,hz,k]
  by_cases h1:s[0]=45<;>by_cases h2:s[s.length-1]=45<;>simp [h0,h1,h2]
theorem ap3 (s:Bs) (hs:s.length<=1000000000):qc abR [.str s]=some (.bool (O3 s)):=by
 refine o7 (H:=[]) ?_ (by simp only [g9]) rfl
 show cv _ _ _=_
 rw [ajr]
 have loop:=ab2 (B:=X9) (S:=fun i=>[.str s,.int .i64 s.length,.int .i64 (i:Nat)]) (H:=[]) (m0:=0) (m1:=1) (vs0:=[.str s]) (vs1:=[.bool false]) s (fun b=>wrB b.toNat)
  (fun i hi=>by
   have i1:=aam s .i64 i hi
   have e2:b9 (.int .i64) .add (.int .i64 (i:Int)) (.int .i64 1)=some (.int .i64 ((i+1:Nat):Int)):=A6 _ i 1 (by omega)
   rw [ac1]
   simp only [g9,i1,e2,wrB,show ((i:Int)<(s.length:Int)) from by omega]
   by_cases e:(s[i].toNat:Int)<32<;>by_cases e3:(s[i].toNat:Int)>126<;>simp [g9,e,e3])
  (by
   rw [ac1]
   simp only [g9,show ¬ ((s.length:Int)<(s.length:Int)) from by omega])
 have loop':m9 X9 [.str s,.int .i64 s.length,.int .i64 0] []=_:=loop
 simp only [g9,loop',O3]
 by_cases h:(s.any fun b=>wrB b.toNat)=true
 ·simp only [g9,h]; rfl
 ·simp only [g9,h]
  by_cases h2:s.length<=200
  ·rw [decide_eq_true h2,decide_eq_true (show (s.length:Int)<=200 from by omega)]; simp [h]
  ·rw [decide_eq_false h2,decide_eq_false (show ¬ (s.length:Int)<=200 from by omega)]; simp
theorem aoE (g:Nat) (p:Bs->Bool) (l:List Bs) (hg:∀ s ∈ l,qc g [.str s]=some (.bool (p s))) (hl:l.length<=1000000000):qc I4 [.sl false (vT l),.fn g []]=some (.int .i64 (if l.any p=true then ((l.findIdx p:Nat):Int) else -1)):=by
 refine o7 (H:=[]) ?_ (by simp only [g9]) rfl
 show cv _ _ _=_
 rw [aa1]
 have loop:=au7 (B:=E5) (S:=fun i=>[.sl false (vT l),.fn g [],.int .i64 l.length,.int .i64 (i:Nat)]) (H:=[]) (m0:=0) (m1:=1) (vs0:=[]) l p
  (fun i hi=>by
   have i1:=Z9 false l .i64 i hi
   have e1:=hg l[i] (List.getElem_mem hi)
   have e2:b9 (.int .i64) .add (.int .i64 (i:Int)) (.int .i64 1)=some (.int .i64 ((i+1:Nat):Int)):=A6 _ i 1 (by omega)
   rw [M9]
   simp only [g9,i1,e1,e2,show ((i:Int)<(l.length:Int)) from by omega])
  (by
   rw [M9]
   simp only [g9,show ¬ ((l.length:Int)<(l.length:Int)) from by omega])
 have loop':m9 E5 [.sl false (vT l),.fn g [],.int .i64 l.length,.int .i64 0] []=_:=loop
 simp only [g9,loop']
 by_cases h:l.any p=true<;>simp only [g9,h]
theorem aaT (g:Nat) (p:Bs->Bool) (l:List Bs) (hg:∀ s ∈ l,qc g [.str s]=some (.bool (p s))) (hl:l.length<=1000000000):qc z8 [.sl false (vT l),.fn g []]=some (.bool (l.any p)):=by
 have e1:=aoE g p l hg hl
 refine o7 (H:=[]) ?_ (by simp only [g9]) rfl
 show cv _ _ _=_
 rw [aaC]
 simp only [g9,e1]
 by_cases h:l.any p=true
 ·simp only [h,if_true]
  rw [decide_eq_true (show (((l.findIdx p:Nat):Int)>=0) from by omega)]
 ·have h':l.any p=false:=by simpa using h
  simp [h']
theorem ap1 (s:Bs) (c:UInt8):qc J4 [.str s,.int .u8 (c.toNat:Int)]=some (.int .i64 (if c ∈ s then ((s.idxOf c:Nat):Int) else -1)):=by
 refine o7 (H:=[]) ?_ (by simp only [g9]) rfl
 show cv _ _ _=_
 rw [ab0]
 have:((c.toNat:Int).toNat).toUInt8=c:=by simp
 simp only [g9,this,ay7]
theorem aqw (s:Bs) (c:UInt8):qc H8 [.str s,.str [c]]=some (.int .i64 (if c ∈ s then ((s.idxOf c:Nat):Int) else -1)):=by
 have e1:=ap1 s c
 have i1:y5 (.str [c]) (.int .i64 0)=some (.int .u8 (c.toNat:Int)):=aam [c] .i64 0 (by simp)
 refine o7 (H:=[]) ?_ (by simp only [g9]) rfl
 show cv _ _ _=_
 rw [adf]
 simp only [g9,List.length_cons,List.length_nil,i1,e1]
 by_cases h:[c]=s
 ·subst h; simp [g9]
 ·simp [g9,h,i1,e1]
theorem amb (s:Bs) (c:UInt8):qc acn [.str s,.str [c]]=some (.int .i64 (if c ∈ s then ((s.idxOf c:Nat):Int) else -1)):=by
 have e1:=aqw s c
 refine o7 (H:=[]) ?_ (by simp only [g9]) rfl
 show cv _ _ _=_
 rw [akG]
 simp only [g9,e1]
theorem axg (s:Bs) (c:UInt8) (hs:s.length<=1000000000):qc O9 [.str s,.str [c]]=some (.A5 [.str (R2 c s),.str (U0 c s),.bool (decide (c ∈ s))]):=by
 have e1:=aqw s c
 refine o7 (H:=[]) ?_ (by simp only [g9]) (by simp only [g9])
 show cv _ _ _=_
 rw [ad6]
 by_cases h:c ∈ s
 ·have hlt:=List.idxOf_lt_length_iff.2 h
  have p1:=alV s .i64 (s.idxOf c) (by omega)
  have e2:b9 (.int .i64) .add (.int .i64 ((s.idxOf c:Nat):Int)) (.int .i64 (([c]:Bs).length:Nat))=some (.int .i64 ((s.idxOf c+1:Nat):Int)):=A6 _ _ 1 (by omega)
  have p2:=anH s .i64 (s.idxOf c+1) (by omega)
  simp only [h,if_true] at e1
  simp only [g9,e1,p1,e2,p2,h,R2,U0,show (((s.idxOf c:Nat):Int)>=0) from by omega]
 ·simp only [h,if_false] at e1
  simp only [g9,e1,h,R2,U0,show ¬ ((-1:Int)>=0) from by omega]
theorem ayS (s:Bs) (c:UInt8) (hs:s.length<=1000000000):qc adF [.str s,.str [c]]=some (.A5 [.str (R2 c s),.str (U0 c s),.bool (decide (c ∈ s))]):=by
 have e1:=axg s c hs
 refine o7 (H:=[]) ?_ (by simp only [g9]) (by simp only [g9])
 show cv _ _ _=_
 rw [amQ]
 simp only [g9,e1]
theorem awN (s:Bs) (c:UInt8):qc ack [.str s,.str [c]]=some (.int .i64 (s.count c:Nat)):=by
 have i1:y5 (.str [c]) (.int .i64 0)=some (.int .u8 (c.toNat:Int)):=aam [c] .i64 0 (by simp)
 have:((c.toNat:Int).toNat).toUInt8=c:=by simp
 refine o7 (H:=[]) ?_ (by simp only [g9]) rfl
 show cv _ _ _=_
 rw [ajQ]
 simp only [g9,List.length_cons,List.length_nil]
 simp [g9,i1,this,Go.Lib.countByte]
theorem arq (s:Bs) (c:UInt8) (hs:s.length<=1000000):∃ H,cv T4 [.str s,.str [c],.int .i64 0,.int .i64 (-1)] []=some (.o9 0 0 (j5 c s).length 1,H)/\H[0]? = some (vR eT (j5 c s)).flatten:=by
 have hcount:=awN s c
 have hle:s.count c<=s.length:=List.count_le_length
 have hlen:=abu c s
 have hmk:=atU 16 (j5 c s).length (by omega) (by omega)
 have h0:([]++[Z5 (j5 c s).length [V.str []]]:VH)[0]? = some (K9 eT (j5 c s) [.str []] 0):=by simp [K9,vR]
 have rest:∀ (i:Nat) (hi:i<(j5 c s).length),(j5 c s)[i]=if i<s.count c then (G9 c s i).take ((G9 c s i).idxOf c) else G9 c s i:=by
  intro i hi
  have h1:=af3 c s i hi
  rw [List.drop_eq_getElem_cons hi] at h1
  split
  ·by_cases hm:c ∈ G9 c s i
   ·rw [agH c _ hm] at h1
    exact (List.cons.inj h1).1.symm
   ·rw [afR c _ hm] at h1
    have:=congrArg List.length h1
    simp at this; omega
  ·by_cases hm:c ∈ G9 c s i
   ·rw [agH c _ hm] at h1
    have:=congrArg List.length h1
    have h3:=acB c ((G9 c s i).drop ((G9 c s i).idxOf c+1))
    have h4:=List.length_pos_iff.2 h3
    simp at this; omega
   ·rw [afR c _ hm] at h1
    exact (List.cons.inj h1).1.symm
 have mem:∀ i,i<s.count c->c ∈ G9 c s i:=by
  intro i hi
  by_cases hm:c ∈ G9 c s i
  ·exact hm
  ·have h1:=af3 c s i (by omega)
   rw [afR c _ hm] at h1
   have:=congrArg List.length h1
   simp at this; omega
 obtain ⟨H1,h1,h2⟩:=ate (B:=Q8) (S:=fun i=>[.str (G9 c s i),.str [c],.int .i64 0,.int .i64 (s.count c:Nat),.o9 0 0 (j5 c s).length 1,.int .i64 (i:Nat)]) (m:=0) (t:=s.count c) (vs:=[.str (G9 c s (s.count c)),.o9 0 0 (j5 c s).length 1,.int .i64 (s.count c:Nat)]) eT (l:=j5 c s) (by omega) h0
  (fun i hi H hk=>by
   have hi':i<(j5 c s).length:=by omega
   have hm:=mem i hi
   have hlt:=List.idxOf_lt_length_iff.2 hm
   have hrl:=amV c s i
   have e1:=amb (G9 c s i) c
   simp only [hm,if_true] at e1
   have e3:b9 (.int .i64) .add (.int .i64 (((G9 c s i).idxOf c:Nat):Int)) (.int .i64 0)=some (.int .i64 (((G9 c s i).idxOf c:Nat):Int)):=A6 _ _ 0 (by omega)
   have p1:=alV (G9 c s i) .i64 ((G9 c s i).idxOf c) (by omega)
   have e4:b9 (.int .i64) .add (.int .i64 (((G9 c s i).idxOf c:Nat):Int)) (.int .i64 (([c]:Bs).length:Nat))=some (.int .i64 (((G9 c s i).idxOf c+1:Nat):Int)):=A6 _ _ 1 (by omega)
   have p2:=anH (G9 c s i) .i64 ((G9 c s i).idxOf c+1) (by omega)
   have ho:=ak4 0 0 (j5 c s).length 1 .i64 i hi'
   have hr:=rest i hi'
   rw [if_pos hi] at hr
   have hst:stO (.ptr 0 (0+i*1)) [.str (j5 c s)[i]] H=some (H.set 0 (K9 eT (j5 c s) [.str []] (i+1))):=al0 eT rfl hi' hk
   have e2:b9 (.int .i64) .add (.int .i64 (i:Int)) (.int .i64 1)=some (.int .i64 ((i+1:Nat):Int)):=A6 _ i 1 (by omega)
   simp only [Nat.zero_add,hr] at ho hst
   rw [abL]
   simp only [g9,e1,e3,p1,e4,p2,ho,hst,e2,show ((i:Int)<((s.count c:Nat):Int)) from by omega,show ¬ ((((G9 c s i).idxOf c:Nat):Int)<0) from by omega]
   rfl)
  (fun H hk=>by
   rw [abL]
   simp only [g9,show ¬ (((s.count c:Nat):Int)<((s.count c:Nat):Int)) from by omega])
 have hk':s.count c<(j5 c s).length:=by omega
 have hr:=rest (s.count c) hk'
 rw [if_neg (by omega)] at hr
 have hst:stO (.ptr 0 (0+s.count c*1)) [.str (j5 c s)[s.count c]] H1=some (H1.set 0 (K9 eT (j5 c s) [.str []] (s.count c+1))):=al0 eT rfl hk' h2
 have ho:=ak4 0 0 (j5 c s).length 1 .i64 (s.count c) hk'
 have hop:=ayH 1 0 0 (j5 c s).length (j5 c s).length .i64 (Nat.le_refl _)
 have hfin:K9 eT (j5 c s) [.str []] (s.count c+1)=(vR eT (j5 c s)).flatten:=by rw [<-hlen,at4]
 refine ⟨H1.set 0 (K9 eT (j5 c s) [.str []] (s.count c+1)),?_,by rw [List.getElem?_set,if_pos rfl,if_pos (List.getElem?_eq_some_iff.1 h2).1,hfin]⟩
 have h1':m9 Q8 [.str s,.str [c],.int .i64 0,.int .i64 (s.count c:Nat),.o9 ([]:VH).length 0 (j5 c s).length 1,.int .i64 0] [Z5 (j5 c s).length [V.str []]]=_:=h1
 have a1:b9 (.int .i64) .add (.int .i64 ((s.count c:Nat):Int)) (.int .i64 1)=some (.int .i64 ((j5 c s).length:Int)):=by rw [hlen]; exact A6 _ (s.count c) 1 (by omega)
 have a2:b9 (.int .i64) .add (.int .i64 (s.length:Int)) (.int .i64 1)=some (.int .i64 ((s.length+1:Nat):Int)):=A6 _ s.length 1 (by omega)
 have a3:b9 (.int .i64) .sub (.int .i64 ((j5 c s).length:Int)) (.int .i64 1)=some (.int .i64 ((s.count c:Nat):Int)):=by rw [hlen]; exact ahI _ (s.count c+1) 1 (by omega) (by omega)
 have a4:=ayW .i64 ((j5 c s).length:Int) ((s.length+1:Nat):Int) (by omega)
 simp only [Nat.zero_add,hr] at ho hst
 rw [ahC]
 simp only [g9,hcount,a1,a2,a3,a4,hmk,h1',ho,hst,hop,show ¬ ((-1:Int)=0) from by omega,show ((-1:Int)<0) from by omega,show ¬ (([c]:Bs)=[]) from by simp]
theorem axp {f:FuncId} {args:List V} {G H:VH} {k off n e:Nat} {cs:List V} (hd:s7 args=true) (hs:args.map strip=args) (hp:y7 args=true) (h:cv f args []=some (.o9 k off n e,H)) (hk:H[k]? = some cs) (ht:ag0 cs=true) (hne:cs ≠ []) :
 pcg f G args=some (.o9 G.length off n e,G++[cs]):=by
 have hb:(ag0 cs && !cs.isEmpty)=true:=by cases cs with | nil=>exact absurd rfl hne | cons=>rw [ht]; rfl
 have e:args.map (I5 3 G)=args:=by rw [ags hd,hs]
 show aaa cv f G args=_
 simp only [aaa,e,hp,h,Option.bind_some,hk,hb]
theorem anj:∀ l:List Bs,ag0 (vR eT l).flatten=true
 | []=>rfl
 | s::l=>anj l
theorem awR {l:List Bs} (h:l ≠ []):(vR eT l).flatten ≠ []:=by
 cases l with
 | nil=>exact absurd rfl h
 | cons s l=>intro e; cases e
theorem arU (s:Bs) (c:UInt8) (G:VH) (hs:s.length<=1000000):pcg T4 G [.str s,.str [c],.int .i64 0,.int .i64 (-1)]=some (.o9 G.length 0 (j5 c s).length 1,G++[(vR eT (j5 c s)).flatten]):=by
 obtain ⟨H,h1,h2⟩:=arq s c hs
 exact axp rfl rfl rfl h1 h2 (anj _) (awR (acB c s))
theorem awK (s:Bs) (c:UInt8) (G:VH) (hs:s.length<=1000000):cv S6 [.str s,.str [c]] G=some (.o9 G.length 0 (j5 c s).length 1,G++[(vR eT (j5 c s)).flatten]):=by
 have e1:=arU s c G hs
 rw [ajI]
 simp only [g9,e1]
theorem aqj (s:Bs) (c:UInt8) (hs:s.length<=1000000):pc S6 [.str s,.str [c]]=some (.sl false (vT (j5 c s))) :=
 aw6 eT (k:=0) (H:=[(vR eT (j5 c s)).flatten]) (awK s c [] hs) rfl rfl
theorem apT (s:Bs) (hs:s.length<=1000000000):qc Y4 [.str s]=some (.bool (!U7 s)):=by
 have e1:=apX s hs
 refine o7 (H:=[]) ?_ (by simp only [g9]) rfl
 show cv _ _ _=_
 rw [ai7]
 simp only [g9,e1]
theorem at2 (s:Bs) (hs:s.length<=1000000000):qc acF [.str s]=some (.bool (abi s)):=by
 refine o7 (H:=[]) ?_ (by simp only [g9]) rfl
 show cv _ _ _=_
 rw [ak8]
 by_cases h:s.length<=30
 ·have e1:=aqj s 46 (by omega)
  have hlen:=abu 46 s
  have hle:s.count 46<=s.length:=List.count_le_length
  have e2:=aaT Y4 (fun t => !U7 t) (j5 46 s) (fun t ht=>apT t (by have:=ade 46 s t ht; omega)) (by omega)
  simp only [g9,e1,e2,abi,h,show ((s.length:Int)<=30) from by omega,Bool.true_and]
 ·simp only [g9,abi,h,show ¬ ((s.length:Int)<=30) from by omega,Bool.false_and]
theorem an2 (s:Bs) (hs:s.length<=1000000000):qc U3 [.str s]=some (.bool (!acW s)):=by
 have e1:=asL s hs
 refine o7 (H:=[]) ?_ (by simp only [g9]) rfl
 show cv _ _ _=_
 rw [aix]
 simp only [g9,e1]
theorem alO (s:Bs) (hs:s.length<=1000000000):qc aaj [.str s]=some (.bool (U2 s)):=by
 refine o7 (H:=[]) ?_ (by simp only [g9]) rfl
 show cv _ _ _=_
 rw [akD]
 by_cases h:s.length<=40
 ·have e1:=aqj s 46 (by omega)
  have hlen:=abu 46 s
  have hle:s.count 46<=s.length:=List.count_le_length
  have e2:=aaT U3 (fun t => !acW t) (j5 46 s) (fun t ht=>an2 t (by have:=ade 46 s t ht; omega)) (by omega)
  simp only [g9,e1,e2,U2,h,show ((s.length:Int)<=40) from by omega,Bool.true_and]
 ·simp only [g9,U2,h,show ¬ ((s.length:Int)<=40) from by omega,Bool.false_and]
theorem aoJ (c:UInt8) (s:Bs):(R2 c s).length<=s.length:=by unfold R2; split<;>simp; omega
theorem aoP (c:UInt8) (s:Bs):(U0 c s).length<=s.length:=by unfold U0; split<;>simp
theorem apy (s:Bs) (hs:s.length<=1000000000):qc abt [.str s]=some (.bool (L6 s)):=by
 have e1:=ayS s 64 hs
 have e2:=at2 (R2 64 s) (by have:=aoJ 64 s; omega)
 have e3:=alO (U0 64 s) (by have:=aoP 64 s; omega)
 refine o7 (H:=[]) ?_ (by simp only [g9]) rfl
 show cv _ _ _=_
 rw [amh]
 simp only [g9,e1,e2,e3,L6]
 by_cases h1:(64:UInt8) ∈ s<;>by_cases h2:abi (R2 64 s)=true<;>simp [h1,h2]
theorem au5 (s:Bs) (hs:s.length<=1000000000):qc ady [.str s]=some (.bool (aiR s)):=by
 have e1:=apy s hs
 refine o7 (H:=[]) ?_ (by simp only [g9]) rfl
 show cv _ _ _=_
 rw [amz]
 simp only [g9,e1,aiR]
 by_cases h1:s=[]<;>simp [h1]
theorem aoM (s:Bs) (hs:s.length<=1000000000):qc V6 [.str s]=some (.bool (!O3 s)):=by
 have e1:=ap3 s hs
 refine o7 (H:=[]) ?_ (by simp only [g9]) rfl
 show cv _ _ _=_
 rw [ait]
 simp only [g9,e1]
theorem arE (l:List Bs) (n:Int) (hl:l.length<=1000000000) (hs:∀ s ∈ l,s.length<=1000000000):qc acy [.sl false (vT l),.int .i64 n]=some (.bool (decide ((l.length:Int)<=n) && !l.any fun t => !O3 t)):=by
 have e2:=aaT V6 (fun t => !O3 t) l (fun t ht=>aoM t (hs t ht)) hl
 refine o7 (H:=[]) ?_ (by simp only [g9]) rfl
 show cv _ _ _=_
 rw [akB]
 by_cases h:(l.length:Int)<=n
 ·simp only [g9,e2,h,Bool.true_and]
 ·simp only [g9,h,Bool.false_and]
end Go.Proofs.YtpbgpeojlfdpoaaGreatDoor.Q

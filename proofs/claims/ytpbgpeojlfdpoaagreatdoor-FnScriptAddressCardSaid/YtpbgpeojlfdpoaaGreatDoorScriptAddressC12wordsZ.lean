/- Contracts: bytes, words, texts cut at a byte. -/
import Derived.Test.YtpbgpeojlfdpoaaGreatDoorScriptAddressC10drawZ
import Derived.Test.YtpbgpeojlfdpoaaGreatDoorFnScriptAddressK4
namespace Go.Proofs.YtpbgpeojlfdpoaaGreatDoor.Q
open Go Go.AM
set_option linter.unusedSimpArgs false
set_option linter.unusedVariables false
set_option linter.unusedSectionVars false
def ari (c:Int):Bool:=decide (48<=c/\c<=57)
def aug (c:Int):Bool:=decide (97<=c/\c<=122\/65<=c/\c<=90)
def O9 (c:Int):Bool:=decide (97<=c/\c<=122\/65<=c/\c<=90\/48<=c/\c<=57\/c=33\/35<=c/\c<=39\/c=42\/c=43\/c=45\/c=47\/c=61\/c=63\/94<=c/\c<=96\/123<=c/\c<=126)
def ab3 (c:Int):Bool:=decide (97<=c/\c<=122\/48<=c/\c<=57\/c=45)
def wrB (c:Int):Bool:=decide (c<32\/126<c)
def R9 (s:Bs):Bool:=decide (1<=s.length/\s.length<=40)&&s.all fun b=>O9 b.toNat
def afd (s:Bs):Bool:=decide (s ≠ []/\s.head? ≠ some 45/\s.getLast? ≠ some 45)&&s.all fun b=>ab3 b.toNat
def C2 (s:Bs):Bool := !(s.any fun b=>wrB b.toNat)&&decide (s.length<=200)
def aef (s:Bs):Bool:=decide (s.length<=30) && !(j2 46 s).any fun t => !R9 t
def agC (s:Bs):Bool:=decide (s.length<=40) && !(j2 46 s).any fun t => !afd t
theorem amJ (c:Int):qc S8 [.int .u8 c]=some (.bool (ari c)):=by
 refine w8 (H:=[]) ?_ rfl rfl
 show cv _ _ _=_
 rw [akA]
 simp only [b8,decide_eq_true_eq,ari]
 by_cases h1:48<=c<;>by_cases h2:c<=57<;>simp [h1,h2]
theorem arj (c:Int):qc abz [.int .u8 c]=some (.bool (aug c)):=by
 refine w8 (H:=[]) ?_ rfl rfl
 show cv _ _ _=_
 rw [ajq]
 simp only [b8,decide_eq_true_eq,aug]
 by_cases h1:97<=c<;>by_cases h2:c<=122<;>by_cases h3:65<=c<;>by_cases h4:c<=90<;>simp [h1,h2,h3,h4]
theorem ahM (c:Int):qc N7 [.int .u8 c]=some (.bool (O9 c)):=by
 refine w8 (H:=[]) ?_ rfl rfl
 show cv _ _ _=_
 rw [ahe]
 simp only [b8,arj,amJ,decide_eq_true_eq,aug,ari,O9]
 repeat' (first | (exact congrArg (fun b=>some (V.bool b,([]:VH))) (decide_eq_true (by omega)).symm) | (exact congrArg (fun b=>some (V.bool b,([]:VH))) (decide_eq_false (by omega)).symm) | (exact congrArg (fun b=>some (V.bool b,([]:VH))) (decide_eq_decide.2 (by omega))) | (refine ajR (fun h=>?_) (fun h=>?_)))
theorem api (c:Int):qc U2 [.int .u8 c]=some (.bool (ab3 c)):=by
 refine w8 (H:=[]) ?_ rfl rfl
 show cv _ _ _=_
 rw [aiT]
 simp only [b8,amJ,decide_eq_true_eq,ari,ab3]
 repeat' (first | (exact congrArg (fun b=>some (V.bool b,([]:VH))) (decide_eq_true (by omega)).symm) | (exact congrArg (fun b=>some (V.bool b,([]:VH))) (decide_eq_false (by omega)).symm) | (exact congrArg (fun b=>some (V.bool b,([]:VH))) (decide_eq_decide.2 (by omega))) | (refine ajR (fun h=>?_) (fun h=>?_)))
theorem ak8 (g:Nat) (p:Int->Bool) (hg:∀ c,qc g [.int .u8 c]=some (.bool (p c))) (s:Bs) (hs:s.length<=1000000000):qc X4 [.str s,.fn g []]=some (.bool (s.all fun b=>p b.toNat)):=by
 refine w8 (H:=[]) ?_ (by simp only [b8]) rfl
 show cv _ _ _=_
 rw [ajE]
 have loop:=ade (B:=Y7) (S:=fun i=>[.str s,.fn g [],.int .i64 s.length,.int .i64 (i:Nat)]) (H:=[]) (m0:=0) (m1:=1) (vs0:=[]) (vs1:=[.bool false]) s (fun b => !p b.toNat)
  (fun i hi=>by
   have i1:=D2 s .i64 i hi
   have e2:a8 (.int .i64) .add (.int .i64 (i:Int)) (.int .i64 1)=some (.int .i64 ((i+1:Nat):Int)):=y1 _ i 1 (by omega)
   rw [aci]
   simp only [b8,i1,e2,hg,show ((i:Int)<(s.length:Int)) from by omega]
   try (by_cases e:p s[i].toNat=true<;>simp [e]))
  (by
   rw [aci]
   simp only [b8,show ¬ ((s.length:Int)<(s.length:Int)) from by omega])
 have loop':n7 Y7 [.str s,.fn g [],.int .i64 s.length,.int .i64 0] []=_:=loop
 have e:(s.all fun b=>p b.toNat) = !(s.any fun b => !p b.toNat):=by rw [List.not_any_eq_all_not]; simp
 simp only [b8,loop',e]
 by_cases h:(s.any fun b => !p b.toNat)=true<;>simp only [b8,h]
theorem aiX (s:Bs) (hs:s.length<=1000000000):qc U3 [.str s]=some (.bool (R9 s)):=by
 have e1:=ak8 N7 O9 ahM s hs
 refine w8 (H:=[]) ?_ (by simp only [b8]) rfl
 show cv _ _ _=_
 rw [aiH]
 simp only [b8,e1,decide_eq_true_eq,R9]
 by_cases h1:1<=s.length
 ·by_cases h2:s.length<=40
  ·rw [if_pos (by omega),if_pos (by omega),decide_eq_true (show 1<=s.length/\s.length<=40 from ⟨h1,h2⟩),Bool.true_and]
  ·rw [if_pos (by omega),if_neg (by omega),decide_eq_false (show ¬ (1<=s.length/\s.length<=40) from fun h=>h2 h.2),Bool.false_and]
 ·rw [if_neg (by omega),decide_eq_false (show ¬ (1<=s.length/\s.length<=40) from fun h=>h1 h.1),Bool.false_and]
theorem as0 (s:Bs) (hs:s.length<=1000000000):qc abH [.str s]=some (.bool (afd s)):=by
 have e1:=ak8 U2 ab3 api s hs
 refine w8 (H:=[]) ?_ (by simp only [b8]) rfl
 show cv _ _ _=_
 rw [akJ]
 by_cases h0:s=[]
 ·subst h0; simp only [b8]; rfl
 ·have hl:0<s.length:=List.length_pos_iff.2 h0
  have i1:l4 (.str s) (.int .i64 0)=some (.int .u8 (s[0].toNat:Int)):=D2 s .i64 0 hl
  have e2:a8 (.int .i64) .sub (.int .i64 (s.length:Int)) (.int .i64 1)=some (.int .i64 ((s.length-1:Nat):Int)):=aav _ s.length 1 (by omega) (by omega)
  have i2:=D2 s .i64 (s.length-1) (by omega)
  have hd:s.head? = some s[0]:=by rw [List.head?_eq_getElem?,List.getElem?_eq_getElem hl]
  have hz:s.getLast? = some s[s.length-1]:=by rw [List.getLast?_eq_getElem?,List.getElem?_eq_getElem (by omega)]
  have k:∀ b:UInt8,((b.toNat:Int)=45)<->b=45:=fun b=>by
   constructor
   ·intro h
    have:b.toNat=45:=by omega
    exact UInt8.toNat_inj.1 (by rw [this]; rfl)
   ·intro h; subst h; rfl
  simp only [b8,h0,i1,e2,i2,e1,afd,hd,hz,k]
  by_cases h1:s[0]=45<;>by_cases h2:s[s.length-1]=45<;>simp [h0,h1,h2]
theorem acN (s:Bs) (hs:s.length<=1000000000):qc L2 [.str s]=some (.bool (C2 s)):=by
 refine w8 (H:=[]) ?_ (by simp only [b8]) rfl
 show cv _ _ _=_
 rw [aiQ]
 have loop:=ade (B:=U7) (S:=fun i=>[.str s,.int .i64 s.length,.int .i64 (i:Nat)]) (H:=[]) (m0:=0) (m1:=1) (vs0:=[.str s]) (vs1:=[.bool false]) s (fun b=>wrB b.toNat)
  (fun i hi=>by
   have i1:=D2 s .i64 i hi
   have e2:a8 (.int .i64) .add (.int .i64 (i:Int)) (.int .i64 1)=some (.int .i64 ((i+1:Nat):Int)):=y1 _ i 1 (by omega)
   rw [abV]
   simp only [b8,i1,e2,wrB,show ((i:Int)<(s.length:Int)) from by omega]
   by_cases e:(s[i].toNat:Int)<32<;>by_cases e3:(s[i].toNat:Int)>126<;>simp [b8,e,e3])
  (by
   rw [abV]
   simp only [b8,show ¬ ((s.length:Int)<(s.length:Int)) from by omega])
 have loop':n7 U7 [.str s,.int .i64 s.length,.int .i64 0] []=_:=loop
 simp only [b8,loop',C2]
 by_cases h:(s.any fun b=>wrB b.toNat)=true
 ·simp only [b8,h]; rfl
 ·simp only [b8,h]
  by_cases h2:s.length<=200
  ·rw [decide_eq_true h2,decide_eq_true (show (s.length:Int)<=200 from by omega)]; simp [h]
  ·rw [decide_eq_false h2,decide_eq_false (show ¬ (s.length:Int)<=200 from by omega)]; simp
theorem aoA (g:Nat) (p:Bs->Bool) (l:List Bs) (hg:∀ s ∈ l,qc g [.str s]=some (.bool (p s))) (hl:l.length<=1000000000):qc F9 [.sl false (vT l),.fn g []]=some (.int .i64 (if l.any p=true then ((l.findIdx p:Nat):Int) else -1)):=by
 refine w8 (H:=[]) ?_ (by simp only [b8]) rfl
 show cv _ _ _=_
 rw [aas]
 have loop:=atT (B:=C4) (S:=fun i=>[.sl false (vT l),.fn g [],.int .i64 l.length,.int .i64 (i:Nat)]) (H:=[]) (m0:=0) (m1:=1) (vs0:=[]) l p
  (fun i hi=>by
   have i1:=ac5 false l .i64 i hi
   have e1:=hg l[i] (List.getElem_mem hi)
   have e2:a8 (.int .i64) .add (.int .i64 (i:Int)) (.int .i64 1)=some (.int .i64 ((i+1:Nat):Int)):=y1 _ i 1 (by omega)
   rw [L4]
   simp only [b8,i1,e1,e2,show ((i:Int)<(l.length:Int)) from by omega])
  (by
   rw [L4]
   simp only [b8,show ¬ ((l.length:Int)<(l.length:Int)) from by omega])
 have loop':n7 C4 [.sl false (vT l),.fn g [],.int .i64 l.length,.int .i64 0] []=_:=loop
 simp only [b8,loop']
 by_cases h:l.any p=true<;>simp only [b8,h]
theorem ae3 (g:Nat) (p:Bs->Bool) (l:List Bs) (hg:∀ s ∈ l,qc g [.str s]=some (.bool (p s))) (hl:l.length<=1000000000):qc B5 [.sl false (vT l),.fn g []]=some (.bool (l.any p)):=by
 have e1:=aoA g p l hg hl
 refine w8 (H:=[]) ?_ (by simp only [b8]) rfl
 show cv _ _ _=_
 rw [Z3]
 simp only [b8,e1]
 by_cases h:l.any p=true
 ·simp only [h,if_true]
  rw [decide_eq_true (show (((l.findIdx p:Nat):Int)>=0) from by omega)]
 ·have h':l.any p=false:=by simpa using h
  simp [h']
theorem aph (s:Bs) (c:UInt8):qc I2 [.str s,.int .u8 (c.toNat:Int)]=some (.int .i64 (if c ∈ s then ((s.idxOf c:Nat):Int) else -1)):=by
 refine w8 (H:=[]) ?_ (by simp only [b8]) rfl
 show cv _ _ _=_
 rw [aa5]
 have:((c.toNat:Int).toNat).toUInt8=c:=by simp
 simp only [b8,this,axJ]
theorem apS (s:Bs) (c:UInt8):qc F7 [.str s,.str [c]]=some (.int .i64 (if c ∈ s then ((s.idxOf c:Nat):Int) else -1)):=by
 have e1:=aph s c
 have i1:l4 (.str [c]) (.int .i64 0)=some (.int .u8 (c.toNat:Int)):=D2 [c] .i64 0 (by simp)
 refine w8 (H:=[]) ?_ (by simp only [b8]) rfl
 show cv _ _ _=_
 rw [acb]
 simp only [b8,List.length_cons,List.length_nil,i1,e1]
 by_cases h:[c]=s
 ·subst h; simp [b8]
 ·simp [b8,h,i1,e1]
theorem alI (s:Bs) (c:UInt8):qc abt [.str s,.str [c]]=some (.int .i64 (if c ∈ s then ((s.idxOf c:Nat):Int) else -1)):=by
 have e1:=apS s c
 refine w8 (H:=[]) ?_ (by simp only [b8]) rfl
 show cv _ _ _=_
 rw [ajv]
 simp only [b8,e1]
theorem axq (s:Bs) (c:UInt8) (hs:s.length<=1000000000):qc N5 [.str s,.str [c]]=some (.o7 [.str (aes c s),.str (agN c s),.bool (decide (c ∈ s))]):=by
 have e1:=apS s c
 refine w8 (H:=[]) ?_ (by simp only [b8]) (by simp only [b8])
 show cv _ _ _=_
 rw [acX]
 by_cases h:c ∈ s
 ·have hlt:=List.idxOf_lt_length_iff.2 h
  have p1:=abO s .i64 (s.idxOf c) (by omega)
  have e2:a8 (.int .i64) .add (.int .i64 ((s.idxOf c:Nat):Int)) (.int .i64 (([c]:Bs).length:Nat))=some (.int .i64 ((s.idxOf c+1:Nat):Int)):=y1 _ _ 1 (by omega)
  have p2:=abk s .i64 (s.idxOf c+1) (by omega)
  simp only [h,if_true] at e1
  simp only [b8,e1,p1,e2,p2,h,aes,agN,show (((s.idxOf c:Nat):Int)>=0) from by omega]
 ·simp only [h,if_false] at e1
  simp only [b8,e1,h,aes,agN,show ¬ ((-1:Int)>=0) from by omega]
theorem axM (s:Bs) (c:UInt8) (hs:s.length<=1000000000):qc acx [.str s,.str [c]]=some (.o7 [.str (aes c s),.str (agN c s),.bool (decide (c ∈ s))]):=by
 have e1:=axq s c hs
 refine w8 (H:=[]) ?_ (by simp only [b8]) (by simp only [b8])
 show cv _ _ _=_
 rw [amb]
 simp only [b8,e1]
theorem avy (s:Bs) (c:UInt8):qc abw [.str s,.str [c]]=some (.int .i64 (s.count c:Nat)):=by
 have i1:l4 (.str [c]) (.int .i64 0)=some (.int .u8 (c.toNat:Int)):=D2 [c] .i64 0 (by simp)
 have:((c.toNat:Int).toNat).toUInt8=c:=by simp
 refine w8 (H:=[]) ?_ (by simp only [b8]) rfl
 show cv _ _ _=_
 rw [ajo]
 simp only [b8,List.length_cons,List.length_nil]
 simp [b8,i1,this,Go.Lib.countByte]
theorem arq (s:Bs) (c:UInt8) (hs:s.length<=1000000):∃ H,cv R6 [.str s,.str [c],.int .i64 0,.int .i64 (-1)] []=some (.z8 0 0 (j2 c s).length 1,H)/\H[0]? = some (vR eT (j2 c s)).flatten:=by
 have hcount:=avy s c
 have hle:s.count c<=s.length:=List.count_le_length
 have hlen:=aaM c s
 have hmk:=awc 16 (j2 c s).length (by omega) (by omega)
 have h0:([]++[aan (j2 c s).length [V.str []]]:VH)[0]? = some (J2 eT (j2 c s) [.str []] 0):=by simp [J2,vR]
 have rest:∀ (i:Nat) (hi:i<(j2 c s).length),(j2 c s)[i]=if i<s.count c then (F0 c s i).take ((F0 c s i).idxOf c) else F0 c s i:=by
  intro i hi
  have h1:=afa c s i hi
  rw [List.drop_eq_getElem_cons hi] at h1
  split
  ·by_cases hm:c ∈ F0 c s i
   ·rw [adJ c _ hm] at h1
    exact (List.cons.inj h1).1.symm
   ·rw [ae2 c _ hm] at h1
    have:=congrArg List.length h1
    simp at this; omega
  ·by_cases hm:c ∈ F0 c s i
   ·rw [adJ c _ hm] at h1
    have:=congrArg List.length h1
    have h3:=acS c ((F0 c s i).drop ((F0 c s i).idxOf c+1))
    have h4:=List.length_pos_iff.2 h3
    simp at this; omega
   ·rw [ae2 c _ hm] at h1
    exact (List.cons.inj h1).1.symm
 have mem:∀ i,i<s.count c->c ∈ F0 c s i:=by
  intro i hi
  by_cases hm:c ∈ F0 c s i
  ·exact hm
  ·have h1:=afa c s i (by omega)
   rw [ae2 c _ hm] at h1
   have:=congrArg List.length h1
   simp at this; omega
 obtain ⟨H1,h1,h2⟩:=asv (B:=P4) (S:=fun i=>[.str (F0 c s i),.str [c],.int .i64 0,.int .i64 (s.count c:Nat),.z8 0 0 (j2 c s).length 1,.int .i64 (i:Nat)]) (m:=0) (t:=s.count c) (vs:=[.str (F0 c s (s.count c)),.z8 0 0 (j2 c s).length 1,.int .i64 (s.count c:Nat)]) eT (l:=j2 c s) (by omega) h0
  (fun i hi H hk=>by
   have hi':i<(j2 c s).length:=by omega
   have hm:=mem i hi
   have hlt:=List.idxOf_lt_length_iff.2 hm
   have hrl:=amN c s i
   have e1:=alI (F0 c s i) c
   simp only [hm,if_true] at e1
   have e3:a8 (.int .i64) .add (.int .i64 (((F0 c s i).idxOf c:Nat):Int)) (.int .i64 0)=some (.int .i64 (((F0 c s i).idxOf c:Nat):Int)):=y1 _ _ 0 (by omega)
   have p1:=abO (F0 c s i) .i64 ((F0 c s i).idxOf c) (by omega)
   have e4:a8 (.int .i64) .add (.int .i64 (((F0 c s i).idxOf c:Nat):Int)) (.int .i64 (([c]:Bs).length:Nat))=some (.int .i64 (((F0 c s i).idxOf c+1:Nat):Int)):=y1 _ _ 1 (by omega)
   have p2:=abk (F0 c s i) .i64 ((F0 c s i).idxOf c+1) (by omega)
   have ho:=ala 0 0 (j2 c s).length 1 .i64 i hi'
   have hr:=rest i hi'
   rw [if_pos hi] at hr
   have hst:stO (.ptr 0 (0+i*1)) [.str (j2 c s)[i]] H=some (H.set 0 (J2 eT (j2 c s) [.str []] (i+1))):=aku eT rfl hi' hk
   have e2:a8 (.int .i64) .add (.int .i64 (i:Int)) (.int .i64 1)=some (.int .i64 ((i+1:Nat):Int)):=y1 _ i 1 (by omega)
   simp only [Nat.zero_add,hr] at ho hst
   rw [aaY]
   simp only [b8,e1,e3,p1,e4,p2,ho,hst,e2,show ((i:Int)<((s.count c:Nat):Int)) from by omega,show ¬ ((((F0 c s i).idxOf c:Nat):Int)<0) from by omega]
   rfl)
  (fun H hk=>by
   rw [aaY]
   simp only [b8,show ¬ (((s.count c:Nat):Int)<((s.count c:Nat):Int)) from by omega])
 have hk':s.count c<(j2 c s).length:=by omega
 have hr:=rest (s.count c) hk'
 rw [if_neg (by omega)] at hr
 have hst:stO (.ptr 0 (0+s.count c*1)) [.str (j2 c s)[s.count c]] H1=some (H1.set 0 (J2 eT (j2 c s) [.str []] (s.count c+1))):=aku eT rfl hk' h2
 have ho:=ala 0 0 (j2 c s).length 1 .i64 (s.count c) hk'
 have hop:=axf 1 0 0 (j2 c s).length (j2 c s).length .i64 (Nat.le_refl _)
 have hfin:J2 eT (j2 c s) [.str []] (s.count c+1)=(vR eT (j2 c s)).flatten:=by rw [<-hlen,atK]
 refine ⟨H1.set 0 (J2 eT (j2 c s) [.str []] (s.count c+1)),?_,by rw [List.getElem?_set,if_pos rfl,if_pos (List.getElem?_eq_some_iff.1 h2).1,hfin]⟩
 have h1':n7 P4 [.str s,.str [c],.int .i64 0,.int .i64 (s.count c:Nat),.z8 ([]:VH).length 0 (j2 c s).length 1,.int .i64 0] [aan (j2 c s).length [V.str []]]=_:=h1
 have a1:a8 (.int .i64) .add (.int .i64 ((s.count c:Nat):Int)) (.int .i64 1)=some (.int .i64 ((j2 c s).length:Int)):=by rw [hlen]; exact y1 _ (s.count c) 1 (by omega)
 have a2:a8 (.int .i64) .add (.int .i64 (s.length:Int)) (.int .i64 1)=some (.int .i64 ((s.length+1:Nat):Int)):=y1 _ s.length 1 (by omega)
 have a3:a8 (.int .i64) .sub (.int .i64 ((j2 c s).length:Int)) (.int .i64 1)=some (.int .i64 ((s.count c:Nat):Int)):=by rw [hlen]; exact aav _ (s.count c+1) 1 (by omega) (by omega)
 have a4:=ax0 .i64 ((j2 c s).length:Int) ((s.length+1:Nat):Int) (by omega)
 simp only [Nat.zero_add,hr] at ho hst
 rw [agZ]
 simp only [b8,hcount,a1,a2,a3,a4,hmk,h1',ho,hst,hop,show ¬ ((-1:Int)=0) from by omega,show ((-1:Int)<0) from by omega,show ¬ (([c]:Bs)=[]) from by simp]
theorem awu {f:FuncId} {args:List V} {G H:VH} {k off n e:Nat} {cs:List V} (hd:C9 args=true) (hs:args.map strip=args) (hp:y0 args=true) (h:cv f args []=some (.z8 k off n e,H)) (hk:H[k]? = some cs) (ht:af4 cs=true) (hne:cs ≠ []) :
 pcg f G args=some (.z8 G.length off n e,G++[cs]):=by
 have hb:(af4 cs && !cs.isEmpty)=true:=by cases cs with | nil=>exact absurd rfl hne | cons=>rw [ht]; rfl
 have e:args.map (frD 3 G)=args:=by rw [apH hd,hs]
 show abS cv f G args=_
 simp only [abS,e,hp,h,Option.bind_some,hk,hb]
theorem amf:∀ l:List Bs,af4 (vR eT l).flatten=true
 | []=>rfl
 | s::l=>amf l
theorem avX {l:List Bs} (h:l ≠ []):(vR eT l).flatten ≠ []:=by
 cases l with
 | nil=>exact absurd rfl h
 | cons s l=>intro e; cases e
theorem aqI (s:Bs) (c:UInt8) (G:VH) (hs:s.length<=1000000):pcg R6 G [.str s,.str [c],.int .i64 0,.int .i64 (-1)]=some (.z8 G.length 0 (j2 c s).length 1,G++[(vR eT (j2 c s)).flatten]):=by
 obtain ⟨H,h1,h2⟩:=arq s c hs
 exact awu rfl rfl rfl h1 h2 (amf _) (avX (acS c s))
theorem avH (s:Bs) (c:UInt8) (G:VH) (hs:s.length<=1000000):cv M9 [.str s,.str [c]] G=some (.z8 G.length 0 (j2 c s).length 1,G++[(vR eT (j2 c s)).flatten]):=by
 have e1:=aqI s c G hs
 rw [ajW]
 simp only [b8,e1]
theorem alv (s:Bs) (c:UInt8) (hs:s.length<=1000000):pc M9 [.str s,.str [c]]=some (.sl false (vT (j2 c s))) :=
 axt eT (k:=0) (H:=[(vR eT (j2 c s)).flatten]) (avH s c [] hs) rfl rfl
theorem apf (s:Bs) (hs:s.length<=1000000000):qc V3 [.str s]=some (.bool (!R9 s)):=by
 have e1:=aiX s hs
 refine w8 (H:=[]) ?_ (by simp only [b8]) rfl
 show cv _ _ _=_
 rw [aiL]
 simp only [b8,e1]
theorem ar5 (s:Bs) (hs:s.length<=1000000000):qc abM [.str s]=some (.bool (aef s)):=by
 refine w8 (H:=[]) ?_ (by simp only [b8]) rfl
 show cv _ _ _=_
 rw [akY]
 by_cases h:s.length<=30
 ·have e1:=alv s 46 (by omega)
  have hlen:=aaM 46 s
  have hle:s.count 46<=s.length:=List.count_le_length
  have e2:=ae3 V3 (fun t => !R9 t) (j2 46 s) (fun t ht=>apf t (by have:=abT 46 s t ht; omega)) (by omega)
  simp only [b8,e1,e2,aef,h,show ((s.length:Int)<=30) from by omega,Bool.true_and]
 ·simp only [b8,aef,h,show ¬ ((s.length:Int)<=30) from by omega,Bool.false_and]
theorem anL (s:Bs) (hs:s.length<=1000000000):qc T3 [.str s]=some (.bool (!afd s)):=by
 have e1:=as0 s hs
 refine w8 (H:=[]) ?_ (by simp only [b8]) rfl
 show cv _ _ _=_
 rw [ahl]
 simp only [b8,e1]
theorem aq3 (s:Bs) (hs:s.length<=1000000000):qc abu [.str s]=some (.bool (agC s)):=by
 refine w8 (H:=[]) ?_ (by simp only [b8]) rfl
 show cv _ _ _=_
 rw [ajg]
 by_cases h:s.length<=40
 ·have e1:=alv s 46 (by omega)
  have hlen:=aaM 46 s
  have hle:s.count 46<=s.length:=List.count_le_length
  have e2:=ae3 T3 (fun t => !afd t) (j2 46 s) (fun t ht=>anL t (by have:=abT 46 s t ht; omega)) (by omega)
  simp only [b8,e1,e2,agC,h,show ((s.length:Int)<=40) from by omega,Bool.true_and]
 ·simp only [b8,agC,h,show ¬ ((s.length:Int)<=40) from by omega,Bool.false_and]
theorem atX (c:UInt8) (s:Bs):(aes c s).length<=s.length:=by unfold aes; split<;>simp; omega
theorem ath (c:UInt8) (s:Bs):(agN c s).length<=s.length:=by unfold agN; split<;>simp
theorem avo {c:UInt8} {a z:Bs} (h:c ∉ a):aes c (a++[c]++z)=a/\agN c (a++[c]++z)=z:=by
 have hm:c ∈ a++[c]++z:=by simp
 have hi:(a++[c]++z).idxOf c=a.length:=by
  rw [List.append_assoc,List.idxOf_append,if_neg h]; simp
 unfold aes agN
 rw [if_pos hm,if_pos hm,hi]
 simp
end Go.Proofs.YtpbgpeojlfdpoaaGreatDoor.Q

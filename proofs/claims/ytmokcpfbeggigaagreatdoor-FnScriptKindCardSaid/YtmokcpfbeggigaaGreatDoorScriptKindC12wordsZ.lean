/- Contracts: bytes, words, texts cut at a byte. -/
import Derived.Test.YtmokcpfbeggigaaGreatDoorScriptKindC10drawZ
import Derived.Test.YtmokcpfbeggigaaGreatDoorFnScriptKindK4
namespace Go.Proofs.YtmokcpfbeggigaaGreatDoor.Q
open Go Go.AM
set_option linter.unusedSimpArgs false
set_option linter.unusedVariables false
set_option linter.unusedSectionVars false
def ahG (c:Int):Bool:=decide (48<=c/\c<=57)
def ael (c:Int):Bool:=decide (97<=c/\c<=122\/65<=c/\c<=90)
def M8 (c:Int):Bool:=decide (97<=c/\c<=122\/65<=c/\c<=90\/48<=c/\c<=57\/c=33\/35<=c/\c<=39\/c=42\/c=43\/c=45\/c=47\/c=61\/c=63\/94<=c/\c<=96\/123<=c/\c<=126)
def wrB (c:Int):Bool:=decide (c<32\/126<c)
def aca (s:Bs):Bool:=decide (1<=s.length/\s.length<=40)&&s.all fun b=>M8 b.toNat
def u7 (s:Bs):Bool := !(s.any fun b=>wrB b.toNat)&&decide (s.length<=200)
theorem anh (c:Int):qc Z8 [.int .u8 c]=some (.bool (ahG c)):=by
 refine u3 (H:=[]) ?_ rfl rfl
 show cv _ _ _=_
 rw [alI]
 simp only [b8,decide_eq_true_eq,ahG]
 by_cases h1:48<=c<;>by_cases h2:c<=57<;>simp [h1,h2]
theorem ag7 (c:Int):qc R6 [.int .u8 c]=some (.bool (ael c)):=by
 refine u3 (H:=[]) ?_ rfl rfl
 show cv _ _ _=_
 rw [ajW]
 simp only [b8,decide_eq_true_eq,ael]
 by_cases h1:97<=c<;>by_cases h2:c<=122<;>by_cases h3:65<=c<;>by_cases h4:c<=90<;>simp [h1,h2,h3,h4]
theorem aib (c:Int):qc N4 [.int .u8 c]=some (.bool (M8 c)):=by
 refine u3 (H:=[]) ?_ rfl rfl
 show cv _ _ _=_
 rw [ahw]
 simp only [b8,ag7,anh,decide_eq_true_eq,ael,ahG,M8]
 repeat' (first | (exact congrArg (fun b=>some (V.bool b,([]:VH))) (decide_eq_true (by omega)).symm) | (exact congrArg (fun b=>some (V.bool b,([]:VH))) (decide_eq_false (by omega)).symm) | (exact congrArg (fun b=>some (V.bool b,([]:VH))) (decide_eq_decide.2 (by omega))) | (refine aoz (fun h=>?_) (fun h=>?_)))
theorem ak5 (g:Nat) (p:Int->Bool) (hg:∀ c,qc g [.int .u8 c]=some (.bool (p c))) (s:Bs) (hs:s.length<=1000000000):qc X5 [.str s,.fn g []]=some (.bool (s.all fun b=>p b.toNat)):=by
 refine u3 (H:=[]) ?_ (by simp only [b8]) rfl
 show cv _ _ _=_
 rw [ajN]
 have loop:=afu (B:=W9) (S:=fun i=>[.str s,.fn g [],.int .i64 s.length,.int .i64 (i:Nat)]) (H:=[]) (m0:=0) (m1:=1) (vs0:=[]) (vs1:=[.bool false]) s (fun b => !p b.toNat)
  (fun i hi=>by
   have i1:=G9 s .i64 i hi
   have e2:a8 (.int .i64) .add (.int .i64 (i:Int)) (.int .i64 1)=some (.int .i64 ((i+1:Nat):Int)):=p6 _ i 1 (by omega)
   rw [ach]
   simp only [b8,i1,e2,hg,show ((i:Int)<(s.length:Int)) from by omega]
   try (by_cases e:p s[i].toNat=true<;>simp [e]))
  (by
   rw [ach]
   simp only [b8,show ¬ ((s.length:Int)<(s.length:Int)) from by omega])
 have loop':l3 W9 [.str s,.fn g [],.int .i64 s.length,.int .i64 0] []=_:=loop
 have e:(s.all fun b=>p b.toNat) = !(s.any fun b => !p b.toNat):=by rw [List.not_any_eq_all_not]; simp
 simp only [b8,loop',e]
 by_cases h:(s.any fun b => !p b.toNat)=true<;>simp only [b8,h]
theorem apT (s:Bs) (hs:s.length<=1000000000):qc aa9 [.str s]=some (.bool (aca s)):=by
 have e1:=ak5 N4 M8 aib s hs
 refine u3 (H:=[]) ?_ (by simp only [b8]) rfl
 show cv _ _ _=_
 rw [ajk]
 simp only [b8,e1,decide_eq_true_eq,aca]
 by_cases h1:1<=s.length
 ·by_cases h2:s.length<=40
  ·rw [if_pos (by omega),if_pos (by omega),decide_eq_true (show 1<=s.length/\s.length<=40 from ⟨h1,h2⟩),Bool.true_and]
  ·rw [if_pos (by omega),if_neg (by omega),decide_eq_false (show ¬ (1<=s.length/\s.length<=40) from fun h=>h2 h.2),Bool.false_and]
 ·rw [if_neg (by omega),decide_eq_false (show ¬ (1<=s.length/\s.length<=40) from fun h=>h1 h.1),Bool.false_and]
theorem acK (s:Bs) (hs:s.length<=1000000000):qc K8 [.str s]=some (.bool (u7 s)):=by
 refine u3 (H:=[]) ?_ (by simp only [b8]) rfl
 show cv _ _ _=_
 rw [ajp]
 have loop:=afu (B:=U9) (S:=fun i=>[.str s,.int .i64 s.length,.int .i64 (i:Nat)]) (H:=[]) (m0:=0) (m1:=1) (vs0:=[.str s]) (vs1:=[.bool false]) s (fun b=>wrB b.toNat)
  (fun i hi=>by
   have i1:=G9 s .i64 i hi
   have e2:a8 (.int .i64) .add (.int .i64 (i:Int)) (.int .i64 1)=some (.int .i64 ((i+1:Nat):Int)):=p6 _ i 1 (by omega)
   rw [abL]
   simp only [b8,i1,e2,wrB,show ((i:Int)<(s.length:Int)) from by omega]
   by_cases e:(s[i].toNat:Int)<32<;>by_cases e3:(s[i].toNat:Int)>126<;>simp [b8,e,e3])
  (by
   rw [abL]
   simp only [b8,show ¬ ((s.length:Int)<(s.length:Int)) from by omega])
 have loop':l3 U9 [.str s,.int .i64 s.length,.int .i64 0] []=_:=loop
 simp only [b8,loop',u7]
 by_cases h:(s.any fun b=>wrB b.toNat)=true
 ·simp only [b8,h]; rfl
 ·simp only [b8,h]
  by_cases h2:s.length<=200
  ·rw [decide_eq_true h2,decide_eq_true (show (s.length:Int)<=200 from by omega)]; simp [h]
  ·rw [decide_eq_false h2,decide_eq_false (show ¬ (s.length:Int)<=200 from by omega)]; simp
theorem apE (s:Bs) (c:UInt8):qc I0 [.str s,.int .u8 (c.toNat:Int)]=some (.int .i64 (if c ∈ s then ((s.idxOf c:Nat):Int) else -1)):=by
 refine u3 (H:=[]) ?_ (by simp only [b8]) rfl
 show cv _ _ _=_
 rw [abg]
 have:((c.toNat:Int).toNat).toUInt8=c:=by simp
 simp only [b8,this,ayt]
theorem aqw (s:Bs) (c:UInt8):qc F6 [.str s,.str [c]]=some (.int .i64 (if c ∈ s then ((s.idxOf c:Nat):Int) else -1)):=by
 have e1:=apE s c
 have i1:l8 (.str [c]) (.int .i64 0)=some (.int .u8 (c.toNat:Int)):=G9 [c] .i64 0 (by simp)
 refine u3 (H:=[]) ?_ (by simp only [b8]) rfl
 show cv _ _ _=_
 rw [acg]
 simp only [b8,List.length_cons,List.length_nil,i1,e1]
 by_cases h:[c]=s
 ·subst h; simp [b8]
 ·simp [b8,h,i1,e1]
theorem al1 (s:Bs) (c:UInt8):qc abu [.str s,.str [c]]=some (.int .i64 (if c ∈ s then ((s.idxOf c:Nat):Int) else -1)):=by
 have e1:=aqw s c
 refine u3 (H:=[]) ?_ (by simp only [b8]) rfl
 show cv _ _ _=_
 rw [aj0]
 simp only [b8,e1]
theorem axB (s:Bs) (c:UInt8) (hs:s.length<=1000000000):qc N1 [.str s,.str [c]]=some (.n8 [.str (C3 c s),.str (H7 c s),.bool (decide (c ∈ s))]):=by
 have e1:=aqw s c
 refine u3 (H:=[]) ?_ (by simp only [b8]) (by simp only [b8])
 show cv _ _ _=_
 rw [acM]
 by_cases h:c ∈ s
 ·have hlt:=List.idxOf_lt_length_iff.2 h
  have p1:=agA s .i64 (s.idxOf c) (by omega)
  have e2:a8 (.int .i64) .add (.int .i64 ((s.idxOf c:Nat):Int)) (.int .i64 (([c]:Bs).length:Nat))=some (.int .i64 ((s.idxOf c+1:Nat):Int)):=p6 _ _ 1 (by omega)
  have p2:=adC s .i64 (s.idxOf c+1) (by omega)
  simp only [h,if_true] at e1
  simp only [b8,e1,p1,e2,p2,h,C3,H7,show (((s.idxOf c:Nat):Int)>=0) from by omega]
 ·simp only [h,if_false] at e1
  simp only [b8,e1,h,C3,H7,show ¬ ((-1:Int)>=0) from by omega]
theorem arF (s:Bs) (c:UInt8) (hs:s.length<=1000000000):qc W2 [.str s,.str [c]]=some (.n8 [.str (C3 c s),.str (H7 c s),.bool (decide (c ∈ s))]):=by
 have e1:=axB s c hs
 refine u3 (H:=[]) ?_ (by simp only [b8]) (by simp only [b8])
 show cv _ _ _=_
 rw [amr]
 simp only [b8,e1]
theorem av7 (s:Bs) (c:UInt8):qc abw [.str s,.str [c]]=some (.int .i64 (s.count c:Nat)):=by
 have i1:l8 (.str [c]) (.int .i64 0)=some (.int .u8 (c.toNat:Int)):=G9 [c] .i64 0 (by simp)
 have:((c.toNat:Int).toNat).toUInt8=c:=by simp
 refine u3 (H:=[]) ?_ (by simp only [b8]) rfl
 show cv _ _ _=_
 rw [ajP]
 simp only [b8,List.length_cons,List.length_nil]
 simp [b8,i1,this,Go.Lib.countByte]
theorem arl (s:Bs) (c:UInt8) (hs:s.length<=1000000):∃ H,cv R9 [.str s,.str [c],.int .i64 0,.int .i64 (-1)] []=some (.z7 0 0 (p7 c s).length 1,H)/\H[0]? = some (vR eT (p7 c s)).flatten:=by
 have hcount:=av7 s c
 have hle:s.count c<=s.length:=List.count_le_length
 have hlen:=arM c s
 have hmk:=axE 16 (p7 c s).length (by omega) (by omega)
 have h0:([]++[aaq (p7 c s).length [V.str []]]:VH)[0]? = some (J1 eT (p7 c s) [.str []] 0):=by simp [J1,vR]
 have rest:∀ (i:Nat) (hi:i<(p7 c s).length),(p7 c s)[i]=if i<s.count c then (F3 c s i).take ((F3 c s i).idxOf c) else F3 c s i:=by
  intro i hi
  have h1:=afl c s i hi
  rw [List.drop_eq_getElem_cons hi] at h1
  split
  ·by_cases hm:c ∈ F3 c s i
   ·rw [adG c _ hm] at h1
    exact (List.cons.inj h1).1.symm
   ·rw [ae6 c _ hm] at h1
    have:=congrArg List.length h1
    simp at this; omega
  ·by_cases hm:c ∈ F3 c s i
   ·rw [adG c _ hm] at h1
    have:=congrArg List.length h1
    have h3:=ahz c ((F3 c s i).drop ((F3 c s i).idxOf c+1))
    have h4:=List.length_pos_iff.2 h3
    simp at this; omega
   ·rw [ae6 c _ hm] at h1
    exact (List.cons.inj h1).1.symm
 have mem:∀ i,i<s.count c->c ∈ F3 c s i:=by
  intro i hi
  by_cases hm:c ∈ F3 c s i
  ·exact hm
  ·have h1:=afl c s i (by omega)
   rw [ae6 c _ hm] at h1
   have:=congrArg List.length h1
   simp at this; omega
 obtain ⟨H1,h1,h2⟩:=asL (B:=P3) (S:=fun i=>[.str (F3 c s i),.str [c],.int .i64 0,.int .i64 (s.count c:Nat),.z7 0 0 (p7 c s).length 1,.int .i64 (i:Nat)]) (m:=0) (t:=s.count c) (vs:=[.str (F3 c s (s.count c)),.z7 0 0 (p7 c s).length 1,.int .i64 (s.count c:Nat)]) eT (l:=p7 c s) (by omega) h0
  (fun i hi H hk=>by
   have hi':i<(p7 c s).length:=by omega
   have hm:=mem i hi
   have hlt:=List.idxOf_lt_length_iff.2 hm
   have hrl:=am9 c s i
   have e1:=al1 (F3 c s i) c
   simp only [hm,if_true] at e1
   have e3:a8 (.int .i64) .add (.int .i64 (((F3 c s i).idxOf c:Nat):Int)) (.int .i64 0)=some (.int .i64 (((F3 c s i).idxOf c:Nat):Int)):=p6 _ _ 0 (by omega)
   have p1:=agA (F3 c s i) .i64 ((F3 c s i).idxOf c) (by omega)
   have e4:a8 (.int .i64) .add (.int .i64 (((F3 c s i).idxOf c:Nat):Int)) (.int .i64 (([c]:Bs).length:Nat))=some (.int .i64 (((F3 c s i).idxOf c+1:Nat):Int)):=p6 _ _ 1 (by omega)
   have p2:=adC (F3 c s i) .i64 ((F3 c s i).idxOf c+1) (by omega)
   have ho:=akJ 0 0 (p7 c s).length 1 .i64 i hi'
   have hr:=rest i hi'
   rw [if_pos hi] at hr
   have hst:stO (.ptr 0 (0+i*1)) [.str (p7 c s)[i]] H=some (H.set 0 (J1 eT (p7 c s) [.str []] (i+1))):=alc eT rfl hi' hk
   have e2:a8 (.int .i64) .add (.int .i64 (i:Int)) (.int .i64 1)=some (.int .i64 ((i+1:Nat):Int)):=p6 _ i 1 (by omega)
   simp only [Nat.zero_add,hr] at ho hst
   rw [aa7]
   simp only [b8,e1,e3,p1,e4,p2,ho,hst,e2,show ((i:Int)<((s.count c:Nat):Int)) from by omega,show ¬ ((((F3 c s i).idxOf c:Nat):Int)<0) from by omega]
   rfl)
  (fun H hk=>by
   rw [aa7]
   simp only [b8,show ¬ (((s.count c:Nat):Int)<((s.count c:Nat):Int)) from by omega])
 have hk':s.count c<(p7 c s).length:=by omega
 have hr:=rest (s.count c) hk'
 rw [if_neg (by omega)] at hr
 have hst:stO (.ptr 0 (0+s.count c*1)) [.str (p7 c s)[s.count c]] H1=some (H1.set 0 (J1 eT (p7 c s) [.str []] (s.count c+1))):=alc eT rfl hk' h2
 have ho:=akJ 0 0 (p7 c s).length 1 .i64 (s.count c) hk'
 have hop:=awX 1 0 0 (p7 c s).length (p7 c s).length .i64 (Nat.le_refl _)
 have hfin:J1 eT (p7 c s) [.str []] (s.count c+1)=(vR eT (p7 c s)).flatten:=by rw [<-hlen,atW]
 refine ⟨H1.set 0 (J1 eT (p7 c s) [.str []] (s.count c+1)),?_,by rw [List.getElem?_set,if_pos rfl,if_pos (List.getElem?_eq_some_iff.1 h2).1,hfin]⟩
 have h1':l3 P3 [.str s,.str [c],.int .i64 0,.int .i64 (s.count c:Nat),.z7 ([]:VH).length 0 (p7 c s).length 1,.int .i64 0] [aaq (p7 c s).length [V.str []]]=_:=h1
 have a1:a8 (.int .i64) .add (.int .i64 ((s.count c:Nat):Int)) (.int .i64 1)=some (.int .i64 ((p7 c s).length:Int)):=by rw [hlen]; exact p6 _ (s.count c) 1 (by omega)
 have a2:a8 (.int .i64) .add (.int .i64 (s.length:Int)) (.int .i64 1)=some (.int .i64 ((s.length+1:Nat):Int)):=p6 _ s.length 1 (by omega)
 have a3:a8 (.int .i64) .sub (.int .i64 ((p7 c s).length:Int)) (.int .i64 1)=some (.int .i64 ((s.count c:Nat):Int)):=by rw [hlen]; exact aij _ (s.count c+1) 1 (by omega) (by omega)
 have a4:=ayA .i64 ((p7 c s).length:Int) ((s.length+1:Nat):Int) (by omega)
 simp only [Nat.zero_add,hr] at ho hst
 rw [ahk]
 simp only [b8,hcount,a1,a2,a3,a4,hmk,h1',ho,hst,hop,show ¬ ((-1:Int)=0) from by omega,show ((-1:Int)<0) from by omega,show ¬ (([c]:Bs)=[]) from by simp]
theorem awS {f:FuncId} {args:List V} {G H:VH} {k off n e:Nat} {cs:List V} (hd:B9 args=true) (hs:args.map strip=args) (hp:u1 args=true) (h:cv f args []=some (.z7 k off n e,H)) (hk:H[k]? = some cs) (ht:ag6 cs=true) (hne:cs ≠ []) :
 pcg f G args=some (.z7 G.length off n e,G++[cs]):=by
 have hb:(ag6 cs && !cs.isEmpty)=true:=by cases cs with | nil=>exact absurd rfl hne | cons=>rw [ht]; rfl
 have e:args.map (frD 3 G)=args:=by rw [aqf hd,hs]
 show ab6 cv f G args=_
 simp only [ab6,e,hp,h,Option.bind_some,hk,hb]
theorem anf:∀ l:List Bs,ag6 (vR eT l).flatten=true
 | []=>rfl
 | s::l=>anf l
theorem awv {l:List Bs} (h:l ≠ []):(vR eT l).flatten ≠ []:=by
 cases l with
 | nil=>exact absurd rfl h
 | cons s l=>intro e; cases e
theorem arc (s:Bs) (c:UInt8) (G:VH) (hs:s.length<=1000000):pcg R9 G [.str s,.str [c],.int .i64 0,.int .i64 (-1)]=some (.z7 G.length 0 (p7 c s).length 1,G++[(vR eT (p7 c s)).flatten]):=by
 obtain ⟨H,h1,h2⟩:=arl s c hs
 exact awS rfl rfl rfl h1 h2 (anf _) (awv (ahz c s))
theorem awl (s:Bs) (c:UInt8) (G:VH) (hs:s.length<=1000000):cv Y3 [.str s,.str [c]] G=some (.z7 G.length 0 (p7 c s).length 1,G++[(vR eT (p7 c s)).flatten]):=by
 have e1:=arc s c G hs
 rw [akj]
 simp only [b8,e1]
theorem awh (s:Bs) (c:UInt8) (hs:s.length<=1000000):pc Y3 [.str s,.str [c]]=some (.sl false (vT (p7 c s))) :=
 awN eT (k:=0) (H:=[(vR eT (p7 c s)).flatten]) (awl s c [] hs) rfl rfl
theorem awi {c:UInt8} {a z:Bs} (h:c ∉ a):C3 c (a++[c]++z)=a/\H7 c (a++[c]++z)=z:=by
 have hm:c ∈ a++[c]++z:=by simp
 have hi:(a++[c]++z).idxOf c=a.length:=by
  rw [List.append_assoc,List.idxOf_append,if_neg h]; simp
 unfold C3 H7
 rw [if_pos hm,if_pos hm,hi]
 simp
end Go.Proofs.YtmokcpfbeggigaaGreatDoor.Q

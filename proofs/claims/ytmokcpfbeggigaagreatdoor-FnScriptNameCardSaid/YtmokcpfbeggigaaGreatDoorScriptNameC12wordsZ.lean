/- Contracts: bytes, words, texts cut at a byte. -/
import Derived.Test.YtmokcpfbeggigaaGreatDoorScriptNameC10drawZ
import Derived.Test.YtmokcpfbeggigaaGreatDoorFnScriptNameK4
namespace Go.Proofs.YtmokcpfbeggigaaGreatDoor.Q
open Go Go.AM
set_option linter.unusedSimpArgs false
set_option linter.unusedVariables false
set_option linter.unusedSectionVars false
def alG (c:Int):Bool:=decide (48<=c/\c<=57)
def amo (c:Int):Bool:=decide (97<=c/\c<=122\/65<=c/\c<=90)
def wrB (c:Int):Bool:=decide (c<32\/126<c)
def aat (s:Bs):Bool := !(s.any fun b=>wrB b.toNat)&&decide (s.length<=200)
theorem apW (c:Int):qc aaP [.int .u8 c]=some (.bool (alG c)):=by
 refine y5 (H:=[]) ?_ rfl rfl
 show cv _ _ _=_
 rw [ai6]
 simp only [j0,decide_eq_true_eq,alG]
 by_cases h1:48<=c<;>by_cases h2:c<=57<;>simp [h1,h2]
theorem aoz (c:Int):qc aaC [.int .u8 c]=some (.bool (amo c)):=by
 refine y5 (H:=[]) ?_ rfl rfl
 show cv _ _ _=_
 rw [ahH]
 simp only [j0,decide_eq_true_eq,amo]
 by_cases h1:97<=c<;>by_cases h2:c<=122<;>by_cases h3:65<=c<;>by_cases h4:c<=90<;>simp [h1,h2,h3,h4]
theorem ane (s:Bs) (hs:s.length<=1000000000):qc aag [.str s]=some (.bool (aat s)):=by
 refine y5 (H:=[]) ?_ (by simp only [j0]) rfl
 show cv _ _ _=_
 rw [ahh]
 have loop:=aqe (B:=R7) (S:=fun i=>[.str s,.int .i64 s.length,.int .i64 (i:Nat)]) (H:=[]) (m0:=0) (m1:=1) (vs0:=[.str s]) (vs1:=[.bool false]) s (fun b=>wrB b.toNat)
  (fun i hi=>by
   have i1:=R5 s .i64 i hi
   have e2:a8 (.int .i64) .add (.int .i64 (i:Int)) (.int .i64 1)=some (.int .i64 ((i+1:Nat):Int)):=C0 _ i 1 (by omega)
   rw [aaT]
   simp only [j0,i1,e2,wrB,show ((i:Int)<(s.length:Int)) from by omega]
   by_cases e:(s[i].toNat:Int)<32<;>by_cases e3:(s[i].toNat:Int)>126<;>simp [j0,e,e3])
  (by
   rw [aaT]
   simp only [j0,show ¬ ((s.length:Int)<(s.length:Int)) from by omega])
 have loop':p5 R7 [.str s,.int .i64 s.length,.int .i64 0] []=_:=loop
 simp only [j0,loop',aat]
 by_cases h:(s.any fun b=>wrB b.toNat)=true
 ·simp only [j0,h]; rfl
 ·simp only [j0,h]
  by_cases h2:s.length<=200
  ·rw [decide_eq_true h2,decide_eq_true (show (s.length:Int)<=200 from by omega)]; simp [h]
  ·rw [decide_eq_false h2,decide_eq_false (show ¬ (s.length:Int)<=200 from by omega)]; simp
theorem ahn (s:Bs) (c:UInt8):qc C2 [.str s,.int .u8 (c.toNat:Int)]=some (.int .i64 (if c ∈ s then ((s.idxOf c:Nat):Int) else -1)):=by
 refine y5 (H:=[]) ?_ (by simp only [j0]) rfl
 show cv _ _ _=_
 rw [aan]
 have:((c.toNat:Int).toNat).toUInt8=c:=by simp
 simp only [j0,this,avH]
theorem an8 (s:Bs) (c:UInt8):qc E1 [.str s,.str [c]]=some (.int .i64 (if c ∈ s then ((s.idxOf c:Nat):Int) else -1)):=by
 have e1:=ahn s c
 have i1:p9 (.str [c]) (.int .i64 0)=some (.int .u8 (c.toNat:Int)):=R5 [c] .i64 0 (by simp)
 refine y5 (H:=[]) ?_ (by simp only [j0]) rfl
 show cv _ _ _=_
 rw [abd]
 simp only [j0,List.length_cons,List.length_nil,i1,e1]
 by_cases h:[c]=s
 ·subst h; simp [j0]
 ·simp [j0,h,i1,e1]
theorem ajZ (s:Bs) (c:UInt8):qc aaF [.str s,.str [c]]=some (.int .i64 (if c ∈ s then ((s.idxOf c:Nat):Int) else -1)):=by
 have e1:=an8 s c
 refine y5 (H:=[]) ?_ (by simp only [j0]) rfl
 show cv _ _ _=_
 rw [ahK]
 simp only [j0,e1]
theorem auB (s:Bs) (c:UInt8) (hs:s.length<=1000000000):qc K6 [.str s,.str [c]]=some (.o8 [.str (akd c s),.str (ajW c s),.bool (decide (c ∈ s))]):=by
 have e1:=an8 s c
 refine y5 (H:=[]) ?_ (by simp only [j0]) (by simp only [j0])
 show cv _ _ _=_
 rw [ab4]
 by_cases h:c ∈ s
 ·have hlt:=List.idxOf_lt_length_iff.2 h
  have p1:=agP s .i64 (s.idxOf c) (by omega)
  have e2:a8 (.int .i64) .add (.int .i64 ((s.idxOf c:Nat):Int)) (.int .i64 (([c]:Bs).length:Nat))=some (.int .i64 ((s.idxOf c+1:Nat):Int)):=C0 _ _ 1 (by omega)
  have p2:=agH s .i64 (s.idxOf c+1) (by omega)
  simp only [h,if_true] at e1
  simp only [j0,e1,p1,e2,p2,h,akd,ajW,show (((s.idxOf c:Nat):Int)>=0) from by omega]
 ·simp only [h,if_false] at e1
  simp only [j0,e1,h,akd,ajW,show ¬ ((-1:Int)>=0) from by omega]
theorem avV (s:Bs) (c:UInt8) (hs:s.length<=1000000000):qc abr [.str s,.str [c]]=some (.o8 [.str (akd c s),.str (ajW c s),.bool (decide (c ∈ s))]):=by
 have e1:=auB s c hs
 refine y5 (H:=[]) ?_ (by simp only [j0]) (by simp only [j0])
 show cv _ _ _=_
 rw [aj5]
 simp only [j0,e1]
theorem ats (s:Bs) (c:UInt8):qc aay [.str s,.str [c]]=some (.int .i64 (s.count c:Nat)):=by
 have i1:p9 (.str [c]) (.int .i64 0)=some (.int .u8 (c.toNat:Int)):=R5 [c] .i64 0 (by simp)
 have:((c.toNat:Int).toNat).toUInt8=c:=by simp
 refine y5 (H:=[]) ?_ (by simp only [j0]) rfl
 show cv _ _ _=_
 rw [ahN]
 simp only [j0,List.length_cons,List.length_nil]
 simp [j0,i1,this,Go.Lib.countByte]
theorem aow (s:Bs) (c:UInt8) (hs:s.length<=1000000):∃ H,cv N6 [.str s,.str [c],.int .i64 0,.int .i64 (-1)] []=some (.A9 0 0 (j9 c s).length 1,H)/\H[0]? = some (vR eT (j9 c s)).flatten:=by
 have hcount:=ats s c
 have hle:s.count c<=s.length:=List.count_le_length
 have hlen:=aje c s
 have hmk:=at7 16 (j9 c s).length (by omega) (by omega)
 have h0:([]++[X8 (j9 c s).length [V.str []]]:VH)[0]? = some (G4 eT (j9 c s) [.str []] 0):=by simp [G4,vR]
 have rest:∀ (i:Nat) (hi:i<(j9 c s).length),(j9 c s)[i]=if i<s.count c then (D6 c s i).take ((D6 c s i).idxOf c) else D6 c s i:=by
  intro i hi
  have h1:=adO c s i hi
  rw [List.drop_eq_getElem_cons hi] at h1
  split
  ·by_cases hm:c ∈ D6 c s i
   ·rw [acA c _ hm] at h1
    exact (List.cons.inj h1).1.symm
   ·rw [abP c _ hm] at h1
    have:=congrArg List.length h1
    simp at this; omega
  ·by_cases hm:c ∈ D6 c s i
   ·rw [acA c _ hm] at h1
    have:=congrArg List.length h1
    have h3:=aaK c ((D6 c s i).drop ((D6 c s i).idxOf c+1))
    have h4:=List.length_pos_iff.2 h3
    simp at this; omega
   ·rw [abP c _ hm] at h1
    exact (List.cons.inj h1).1.symm
 have mem:∀ i,i<s.count c->c ∈ D6 c s i:=by
  intro i hi
  by_cases hm:c ∈ D6 c s i
  ·exact hm
  ·have h1:=adO c s i (by omega)
   rw [abP c _ hm] at h1
   have:=congrArg List.length h1
   simp at this; omega
 obtain ⟨H1,h1,h2⟩:=aqs (B:=M4) (S:=fun i=>[.str (D6 c s i),.str [c],.int .i64 0,.int .i64 (s.count c:Nat),.A9 0 0 (j9 c s).length 1,.int .i64 (i:Nat)]) (m:=0) (t:=s.count c) (vs:=[.str (D6 c s (s.count c)),.A9 0 0 (j9 c s).length 1,.int .i64 (s.count c:Nat)]) eT (l:=j9 c s) (by omega) h0
  (fun i hi H hk=>by
   have hi':i<(j9 c s).length:=by omega
   have hm:=mem i hi
   have hlt:=List.idxOf_lt_length_iff.2 hm
   have hrl:=akN c s i
   have e1:=ajZ (D6 c s i) c
   simp only [hm,if_true] at e1
   have e3:a8 (.int .i64) .add (.int .i64 (((D6 c s i).idxOf c:Nat):Int)) (.int .i64 0)=some (.int .i64 (((D6 c s i).idxOf c:Nat):Int)):=C0 _ _ 0 (by omega)
   have p1:=agP (D6 c s i) .i64 ((D6 c s i).idxOf c) (by omega)
   have e4:a8 (.int .i64) .add (.int .i64 (((D6 c s i).idxOf c:Nat):Int)) (.int .i64 (([c]:Bs).length:Nat))=some (.int .i64 (((D6 c s i).idxOf c+1:Nat):Int)):=C0 _ _ 1 (by omega)
   have p2:=agH (D6 c s i) .i64 ((D6 c s i).idxOf c+1) (by omega)
   have ho:=aqd 0 0 (j9 c s).length 1 .i64 i hi'
   have hr:=rest i hi'
   rw [if_pos hi] at hr
   have hst:stO (.ptr 0 (0+i*1)) [.str (j9 c s)[i]] H=some (H.set 0 (G4 eT (j9 c s) [.str []] (i+1))):=aiK eT rfl hi' hk
   have e2:a8 (.int .i64) .add (.int .i64 (i:Int)) (.int .i64 1)=some (.int .i64 ((i+1:Nat):Int)):=C0 _ i 1 (by omega)
   simp only [Nat.zero_add,hr] at ho hst
   rw [Z9]
   simp only [j0,e1,e3,p1,e4,p2,ho,hst,e2,show ((i:Int)<((s.count c:Nat):Int)) from by omega,show ¬ ((((D6 c s i).idxOf c:Nat):Int)<0) from by omega]
   rfl)
  (fun H hk=>by
   rw [Z9]
   simp only [j0,show ¬ (((s.count c:Nat):Int)<((s.count c:Nat):Int)) from by omega])
 have hk':s.count c<(j9 c s).length:=by omega
 have hr:=rest (s.count c) hk'
 rw [if_neg (by omega)] at hr
 have hst:stO (.ptr 0 (0+s.count c*1)) [.str (j9 c s)[s.count c]] H1=some (H1.set 0 (G4 eT (j9 c s) [.str []] (s.count c+1))):=aiK eT rfl hk' h2
 have ho:=aqd 0 0 (j9 c s).length 1 .i64 (s.count c) hk'
 have hop:=auk 1 0 0 (j9 c s).length (j9 c s).length .i64 (Nat.le_refl _)
 have hfin:G4 eT (j9 c s) [.str []] (s.count c+1)=(vR eT (j9 c s)).flatten:=by rw [<-hlen,aqZ]
 refine ⟨H1.set 0 (G4 eT (j9 c s) [.str []] (s.count c+1)),?_,by rw [List.getElem?_set,if_pos rfl,if_pos (List.getElem?_eq_some_iff.1 h2).1,hfin]⟩
 have h1':p5 M4 [.str s,.str [c],.int .i64 0,.int .i64 (s.count c:Nat),.A9 ([]:VH).length 0 (j9 c s).length 1,.int .i64 0] [X8 (j9 c s).length [V.str []]]=_:=h1
 have a1:a8 (.int .i64) .add (.int .i64 ((s.count c:Nat):Int)) (.int .i64 1)=some (.int .i64 ((j9 c s).length:Int)):=by rw [hlen]; exact C0 _ (s.count c) 1 (by omega)
 have a2:a8 (.int .i64) .add (.int .i64 (s.length:Int)) (.int .i64 1)=some (.int .i64 ((s.length+1:Nat):Int)):=C0 _ s.length 1 (by omega)
 have a3:a8 (.int .i64) .sub (.int .i64 ((j9 c s).length:Int)) (.int .i64 1)=some (.int .i64 ((s.count c:Nat):Int)):=by rw [hlen]; exact af2 _ (s.count c+1) 1 (by omega) (by omega)
 have a4:=avN .i64 ((j9 c s).length:Int) ((s.length+1:Nat):Int) (by omega)
 simp only [Nat.zero_add,hr] at ho hst
 rw [afw]
 simp only [j0,hcount,a1,a2,a3,a4,hmk,h1',ho,hst,hop,show ¬ ((-1:Int)=0) from by omega,show ((-1:Int)<0) from by omega,show ¬ (([c]:Bs)=[]) from by simp]
theorem at2 {f:FuncId} {args:List V} {G H:VH} {k off n e:Nat} {cs:List V} (hd:C1 args=true) (hs:args.map strip=args) (hp:w4 args=true) (h:cv f args []=some (.A9 k off n e,H)) (hk:H[k]? = some cs) (ht:afe cs=true) (hne:cs ≠ []) :
 pcg f G args=some (.A9 G.length off n e,G++[cs]):=by
 have hb:(afe cs && !cs.isEmpty)=true:=by cases cs with | nil=>exact absurd rfl hne | cons=>rw [ht]; rfl
 have e:args.map (frD 3 G)=args:=by rw [anC hd,hs]
 show aaV cv f G args=_
 simp only [aaV,e,hp,h,Option.bind_some,hk,hb]
theorem akI:∀ l:List Bs,afe (vR eT l).flatten=true
 | []=>rfl
 | s::l=>akI l
theorem as6 {l:List Bs} (h:l ≠ []):(vR eT l).flatten ≠ []:=by
 cases l with
 | nil=>exact absurd rfl h
 | cons s l=>intro e; cases e
theorem aol (s:Bs) (c:UInt8) (G:VH) (hs:s.length<=1000000):pcg N6 G [.str s,.str [c],.int .i64 0,.int .i64 (-1)]=some (.A9 G.length 0 (j9 c s).length 1,G++[(vR eT (j9 c s)).flatten]):=by
 obtain ⟨H,h1,h2⟩:=aow s c hs
 exact at2 rfl rfl rfl h1 h2 (akI _) (as6 (aaK c s))
theorem ati (s:Bs) (c:UInt8) (G:VH) (hs:s.length<=1000000):cv K0 [.str s,.str [c]] G=some (.A9 G.length 0 (j9 c s).length 1,G++[(vR eT (j9 c s)).flatten]):=by
 have e1:=aol s c G hs
 rw [ahM]
 simp only [j0,e1]
theorem an7 (s:Bs) (c:UInt8) (hs:s.length<=1000000):pc K0 [.str s,.str [c]]=some (.sl false (vT (j9 c s))) :=
 auy eT (k:=0) (H:=[(vR eT (j9 c s)).flatten]) (ati s c [] hs) rfl rfl
theorem atk {c:UInt8} {a z:Bs} (h:c ∉ a):akd c (a++[c]++z)=a/\ajW c (a++[c]++z)=z:=by
 have hm:c ∈ a++[c]++z:=by simp
 have hi:(a++[c]++z).idxOf c=a.length:=by
  rw [List.append_assoc,List.idxOf_append,if_neg h]; simp
 unfold akd ajW
 rw [if_pos hm,if_pos hm,hi]
 simp
end Go.Proofs.YtmokcpfbeggigaaGreatDoor.Q

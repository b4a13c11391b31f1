/- Contracts: lines that tell how something is written. -/
import Derived.Test.YtmokcpfbeggigaaGreatDoorScriptKindCh4specaddressZ
import Derived.Test.YtmokcpfbeggigaaGreatDoorFnScriptKindK4
namespace Go.Proofs.YtmokcpfbeggigaaGreatDoor.Q
open Go Go.AM
set_option linter.unusedSimpArgs false
set_option linter.unusedVariables false
set_option linter.unusedSectionVars false
def ahJ (b:Bool) (out:Bs):Bs:=if b=true then [61,32]++out++[10] else arL
theorem ath {w s out:Bs} {b:Bool} (G:VH) (hw:(32:UInt8) ∉ w) (hl:w.length+s.length<=100000) (ho:out.length<=100000) (n1:w ≠ [115,97,121]) (n2:w ≠ [98,111,120]) (n3:w ≠ [116,97,107,101]) (n4:w ≠ [100,97,116,101])
 (hr:cv I4 [.str w,.str s] []=some (.n8 [.str out,.bool b],[])):cv U8 [.ptr 0 0,.str (w++[32]++s)] G=some (.str (ahJ b out),G):=by
 have e0:=arF (w++[32]++s) 32 (by simp; omega)
 obtain ⟨q1,q2⟩:=awi (c:=32) (a:=w) (z:=s) hw
 rw [q1,q2,decide_eq_true (by simp)] at e0
 have hwl:([119,104,97,116,10]:Bs)=arL:=rfl
 have hrp:pc I4 [.str w,.str s]=some (.n8 [.str out,.bool b]):=aeW hr (by simp only [b8]) (by simp only [b8])
 have hrq:qc I4 [.str w,.str s]=some (.n8 [.str out,.bool b]):=u3 hr (by simp only [b8]) rfl
 rw [ai3]
 unfold ahJ
 cases b with
 | true =>
   have a1:=G3 .str [61,32] out (by simp; omega)
   have a2:=G3 .str ([61,32]++out) [10] (by simp; omega)
   simp only [List.cons_append,List.nil_append] at a1 a2
   simp only [b8,e0,n1,n2,n3,n4,hrp,hrq,List.cons_append,List.nil_append,a1,a2,if_true]
 | false =>
   simp only [b8,e0,n1,n2,n3,n4,hrp,hrq,hwl]
   try rfl
theorem apH {w s out:Bs} {b:Bool} (hw:(32:UInt8) ∉ w) (hw10:(10:UInt8) ∉ w) (hs10:(10:UInt8) ∉ s) (hl:w.length+s.length<=10000) (ho:out.length<=10000) (n1:w ≠ [115,97,121]) (n2:w ≠ [98,111,120]) (n3:w ≠ [116,97,107,101]) (n4:w ≠ [100,97,116,101])
 (hr:cv I4 [.str w,.str s] []=some (.n8 [.str out,.bool b],[])):qc G7 [.str (w++[32]++s++[10])]=some (.str (ahJ b out)):=by
 have hg:=ath [cG (.sl true []) acF dt0] hw (by omega) (by omega) n1 n2 n3 n4 hr
 have hsp:p7 10 (w++[32]++s++[10])=[w++[32]++s,[]]:=by
  have h10:(10:UInt8) ∉ w++[32]++s:=by
   simp only [List.mem_append,List.mem_singleton,not_or]
   exact ⟨⟨hw10,by decide⟩,hs10⟩
  have hm:(10:UInt8) ∈ w++[32]++s++[10]:=by simp
  rw [adG 10 _ hm]
  have hx:(w++[32]++s++[10]).idxOf 10=(w++[32]++s).length:=by
   rw [List.idxOf_append,if_neg h10]; simp
  rw [hx,List.take_left' rfl,List.drop_eq_nil_of_le (by simp; omega)]
  rfl
 have hol:(ahJ b out).length<=40000:=by
  unfold ahJ
  split
  ·simp; omega
  ·decide
 have:=apF hsp (by simp; omega) (by simp) (.step (by simp) hg (.skip (.nil _))) (by simpa using hol)
 rw [List.append_nil] at this
 exact this
theorem aiT {s:Bs} {k:Knd} (h:Y4 s=some k):L9 k.1 k.2.1 k.2.2=true:=by
 unfold Y4 at h
 split at h
 ·cases h
 ·split at h
  ·cases h
  ·split at h
   ·cases h
   ·split at h
    ·rename_i hc; cases h; exact hc.2
    ·cases h
theorem akq {s:Bs} (h:N3 s=true):s.length<=30:=by
 unfold N3 S7 at h
 simp only [Bool.and_eq_true,decide_eq_true_eq] at h
 exact h.1.1.2
theorem agL {m s:Bs} {ps:List F2} (h:L9 m s ps=true):m.length<=30/\s.length<=30/\ps.length<=4/\(∀ p ∈ ps,p.1.length<=30/\p.2.length<=40)/\(I9 m s ps).length<=150:=by
 unfold L9 at h
 simp only [Bool.and_eq_true,decide_eq_true_eq,List.all_eq_true] at h
 obtain ⟨h1,h2,h3,h4,h5⟩:=h
 refine ⟨akq h1,akq h2,h3,fun p hp=>?_,h5⟩
 obtain ⟨i,hi,rfl⟩:=List.getElem_of_mem hp
 have:=h4 i (by simpa using hi)
 unfold X4 at this
 rw [List.getElem?_eq_getElem hi] at this
 simp only [Bool.and_eq_true,decide_eq_true_eq] at this
 exact ⟨akq this.1,this.2.2.1⟩
def kdO (s:Bs):Bs:=match Y4 s with | some k=>fmK k | none=>[]
theorem awr (s:Bs):(kdO s).length<=200:=by
 unfold kdO
 split
 ·rename_i k h
  have:=(agL (aiT h)).2.2.2.2
  unfold fmK
  rw [if_pos (aiT h)]; omega
 ·simp
theorem arR (s:Bs) (hs:s.length<=10000):cv I4 [.str [107,105,110,100],.str s] []=some (.n8 [.str (kdO s),.bool (Y4 s).isSome],[]):=by
 have e1:=ajA s (by omega)
 rw [akz]
 unfold kdO
 cases h:Y4 s with
 | none =>
   rw [h] at e1
   simp only [kn3] at e1
   have e2:qc N0 [.agg [.str [],.str [],.sl false []]]=some (.str []):=by
    have:=adY ([],[],[]) (by simp) (by simp) (by simp) (by simp)
    have h0:fmK ([],[],[])=[]:=by decide
    rw [h0] at this
    exact this
   simp only [b8,e1,e2]
   try rfl
 | some k =>
   rw [h] at e1
   simp only [kn3] at e1
   have hl:=agL (aiT h)
   have e2:=adY k (by omega) (by omega) (by omega) (fun p hp=>by have:=hl.2.2.2.1 p hp; omega)
   simp only [b8,p5,e1,e2]
   try rfl
end Go.Proofs.YtmokcpfbeggigaaGreatDoor.Q

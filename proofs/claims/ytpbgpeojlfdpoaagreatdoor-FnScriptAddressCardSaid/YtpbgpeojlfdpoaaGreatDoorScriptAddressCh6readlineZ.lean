/- Contracts: lines that tell how something is written. -/
import Derived.Test.YtpbgpeojlfdpoaaGreatDoorScriptAddressCh4specaddressZ
import Derived.Test.YtpbgpeojlfdpoaaGreatDoorFnScriptAddressK4
namespace Go.Proofs.YtpbgpeojlfdpoaaGreatDoor.Q
open Go Go.AM
set_option linter.unusedSimpArgs false
set_option linter.unusedVariables false
set_option linter.unusedSectionVars false
def ahG (b:Bool) (out:Bs):Bs:=if b=true then [61,32]++out++[10] else aqO
theorem asb {w s out:Bs} {b:Bool} (G:VH) (hw:(32:UInt8) ∉ w) (hl:w.length+s.length<=100000) (ho:out.length<=100000) (n1:w ≠ [115,97,121]) (n2:w ≠ [98,111,120]) (n3:w ≠ [116,97,107,101]) (n4:w ≠ [100,97,116,101])
 (hr:cv I5 [.str w,.str s] []=some (.o7 [.str out,.bool b],[])):cv U8 [.ptr 0 0,.str (w++[32]++s)] G=some (.str (ahG b out),G):=by
 have e0:=axM (w++[32]++s) 32 (by simp; omega)
 obtain ⟨q1,q2⟩:=avo (c:=32) (a:=w) (z:=s) hw
 rw [q1,q2,decide_eq_true (by simp)] at e0
 have hwl:([119,104,97,116,10]:Bs)=aqO:=rfl
 have hrp:pc I5 [.str w,.str s]=some (.o7 [.str out,.bool b]):=acD hr (by simp only [b8]) (by simp only [b8])
 have hrq:qc I5 [.str w,.str s]=some (.o7 [.str out,.bool b]):=w8 hr (by simp only [b8]) rfl
 rw [aiE]
 unfold ahG
 cases b with
 | true =>
   have a1:=E4 .str [61,32] out (by simp; omega)
   have a2:=E4 .str ([61,32]++out) [10] (by simp; omega)
   simp only [List.cons_append,List.nil_append] at a1 a2
   simp only [b8,e0,n1,n2,n3,n4,hrp,hrq,List.cons_append,List.nil_append,a1,a2,if_true]
 | false =>
   simp only [b8,e0,n1,n2,n3,n4,hrp,hrq,hwl]
   try rfl
theorem ao3 {w s out:Bs} {b:Bool} (hw:(32:UInt8) ∉ w) (hw10:(10:UInt8) ∉ w) (hs10:(10:UInt8) ∉ s) (hl:w.length+s.length<=10000) (ho:out.length<=10000) (n1:w ≠ [115,97,121]) (n2:w ≠ [98,111,120]) (n3:w ≠ [116,97,107,101]) (n4:w ≠ [100,97,116,101])
 (hr:cv I5 [.str w,.str s] []=some (.o7 [.str out,.bool b],[])):qc G8 [.str (w++[32]++s++[10])]=some (.str (ahG b out)):=by
 have hg:=asb [cG (.sl true []) acF dt0] hw (by omega) (by omega) n1 n2 n3 n4 hr
 have hsp:j2 10 (w++[32]++s++[10])=[w++[32]++s,[]]:=by
  have h10:(10:UInt8) ∉ w++[32]++s:=by
   simp only [List.mem_append,List.mem_singleton,not_or]
   exact ⟨⟨hw10,by decide⟩,hs10⟩
  have hm:(10:UInt8) ∈ w++[32]++s++[10]:=by simp
  rw [adJ 10 _ hm]
  have hx:(w++[32]++s++[10]).idxOf 10=(w++[32]++s).length:=by
   rw [List.idxOf_append,if_neg h10]; simp
  rw [hx,List.take_left' rfl,List.drop_eq_nil_of_le (by simp; omega)]
  rfl
 have hol:(ahG b out).length<=40000:=by
  unfold ahG
  split
  ·simp; omega
  ·decide
 have:=ao7 hsp (by simp; omega) (by simp) (.step (by simp) hg (.skip (.nil _))) (by simpa using hol)
 rw [List.append_nil] at this
 exact this
theorem apO {n s:Bs} {a:Bs × Bs × Bs} (h:abP n s=some a):G4 a.1 a.2.1 a.2.2=true:=by
 cases hq:B4 64 s 0 with
 | none=>rw [aeL hq] at h; cases h
 | some k =>
   rw [aeF hq] at h
   split at h
   ·rename_i ha; cases h; exact ha
   ·cases h
theorem apF {s:Bs} {a:Bs × Bs × Bs} (h:S4 s=some a):G4 a.1 a.2.1 a.2.2=true:=by
 unfold S4 at h
 split at h
 ·cases h
 ·split at h
  ·exact apO h
  ·split at h
   ·cases h
   ·split at h
    ·exact apO h
    ·cases h
def adO (s:Bs):Bs:=match S4 s with | some a=>fmA a | none=>[]
theorem avJ (s:Bs):(adO s).length<=200:=by
 unfold adO
 split
 ·exact alZ _
 ·simp
theorem aqw (s:Bs) (hs:s.length<=10000):cv I5 [.str [97,100,100,114,101,115,115],.str s] []=some (.o7 [.str (adO s),.bool (S4 s).isSome],[]):=by
 have e1:=afW s (by omega)
 rw [aj4]
 unfold adO
 cases h:S4 s with
 | none =>
   rw [h] at e1
   simp only [X2] at e1
   have e2:qc J0 [.agg [.str [],.str [],.str []]]=some (.str []):=by
    have:=ab5 ([],[],[]) (by simp) (by simp) (by simp)
    have h0:fmA ([],[],[])=[]:=by decide
    rw [h0] at this
    exact this
   simp only [b8,e1,e2]
   try rfl
 | some a =>
   rw [h] at e1
   simp only [X2] at e1
   have hl:=acY (apF h)
   have e2:=ab5 a (by omega) (by omega) (by omega)
   simp only [b8,e1,e2]
   try rfl
end Go.Proofs.YtpbgpeojlfdpoaaGreatDoor.Q

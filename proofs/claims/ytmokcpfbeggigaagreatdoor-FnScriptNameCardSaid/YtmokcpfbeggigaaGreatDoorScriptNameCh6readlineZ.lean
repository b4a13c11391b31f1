/- Contracts: lines that tell how something is written. -/
import Derived.Test.YtmokcpfbeggigaaGreatDoorScriptNameCh4specaddressZ
import Derived.Test.YtmokcpfbeggigaaGreatDoorFnScriptNameK4
namespace Go.Proofs.YtmokcpfbeggigaaGreatDoor.Q
open Go Go.AM
set_option linter.unusedSimpArgs false
set_option linter.unusedVariables false
set_option linter.unusedSectionVars false
def amT (b:Bool) (out:Bs):Bs:=if b=true then [61,32]++out++[10] else asl
theorem apo {w s out:Bs} {b:Bool} (G:VH) (hw:(32:UInt8) ∉ w) (hl:w.length+s.length<=100000) (ho:out.length<=100000) (n1:w ≠ [115,97,121]) (n2:w ≠ [98,111,120]) (n3:w ≠ [116,97,107,101]) (n4:w ≠ [100,97,116,101])
 (hr:cv F8 [.str w,.str s] []=some (.o8 [.str out,.bool b],[])):cv S0 [.ptr 0 0,.str (w++[32]++s)] G=some (.str (amT b out),G):=by
 have e0:=avV (w++[32]++s) 32 (by simp; omega)
 obtain ⟨q1,q2⟩:=atk (c:=32) (a:=w) (z:=s) hw
 rw [q1,q2,decide_eq_true (by simp)] at e0
 have hwl:([119,104,97,116,10]:Bs)=asl:=rfl
 have hrp:pc F8 [.str w,.str s]=some (.o8 [.str out,.bool b]):=aog hr (by simp only [j0]) (by simp only [j0])
 have hrq:qc F8 [.str w,.str s]=some (.o8 [.str out,.bool b]):=y5 hr (by simp only [j0]) rfl
 rw [ag7]
 unfold amT
 cases b with
 | true =>
   have a1:=F1 .str [61,32] out (by simp; omega)
   have a2:=F1 .str ([61,32]++out) [10] (by simp; omega)
   simp only [List.cons_append,List.nil_append] at a1 a2
   simp only [j0,e0,n1,n2,n3,n4,hrp,hrq,List.cons_append,List.nil_append,a1,a2,if_true]
 | false =>
   simp only [j0,e0,n1,n2,n3,n4,hrp,hrq,hwl]
   try rfl
theorem am9 {w s out:Bs} {b:Bool} (hw:(32:UInt8) ∉ w) (hw10:(10:UInt8) ∉ w) (hs10:(10:UInt8) ∉ s) (hl:w.length+s.length<=10000) (ho:out.length<=10000) (n1:w ≠ [115,97,121]) (n2:w ≠ [98,111,120]) (n3:w ≠ [116,97,107,101]) (n4:w ≠ [100,97,116,101])
 (hr:cv F8 [.str w,.str s] []=some (.o8 [.str out,.bool b],[])):qc I4 [.str (w++[32]++s++[10])]=some (.str (amT b out)):=by
 have hg:=apo [cG (.sl true []) abF dt0] hw (by omega) (by omega) n1 n2 n3 n4 hr
 have hsp:j9 10 (w++[32]++s++[10])=[w++[32]++s,[]]:=by
  have h10:(10:UInt8) ∉ w++[32]++s:=by
   simp only [List.mem_append,List.mem_singleton,not_or]
   exact ⟨⟨hw10,by decide⟩,hs10⟩
  have hm:(10:UInt8) ∈ w++[32]++s++[10]:=by simp
  rw [acA 10 _ hm]
  have hx:(w++[32]++s++[10]).idxOf 10=(w++[32]++s).length:=by
   rw [List.idxOf_append,if_neg h10]; simp
  rw [hx,List.take_left' rfl,List.drop_eq_nil_of_le (by simp; omega)]
  rfl
 have hol:(amT b out).length<=40000:=by
  unfold amT
  split
  ·simp; omega
  ·decide
 have:=am5 hsp (by simp; omega) (by simp) (.step (by simp) hg (.skip (.nil _))) (by simpa using hol)
 rw [List.append_nil] at this
 exact this
end Go.Proofs.YtmokcpfbeggigaaGreatDoor.Q

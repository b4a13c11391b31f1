/- Contracts: the laws that mark what they get. -/
import Derived.Test.YtpbgpeojlfdpoaaDoorExactSplitMailCb1marksZ
import Derived.Test.YtpbgpeojlfdpoaaDoorFnExactSplitMailK4
namespace Go.Proofs.YtpbgpeojlfdpoaaDoor.Q
open Go Go.AM
set_option linter.unusedSimpArgs false
set_option linter.unusedVariables false
set_option linter.unusedSectionVars false
theorem awL {f:FuncId} {H:VH} {vs:List V} {v:V} (h:G7 vs=true->o8 vs=true) (hp:pc f (vs.map (A1 3 H))=some v) (ho:D7 v=true):pco f H vs=some v:=by
 show S6 cv f H vs=some v
 cases hn:G7 vs with
 | true =>
   rw [anX (h hn),<-afC (d:=3) (H:=H) (h hn)]
   exact hp
 | false =>
   unfold S6
   rw [hn]
   show (pc f (vs.map (A1 3 H))).bind _=_
   rw [hp]
   simp only [Option.bind_some,ho]
theorem K1.app {H:VH} {ks:List Nat} {cs:List V} {m:j0} (X:VH) (h:K1 H ks cs m) (hk:∀ j ∈ ks,j<H.length):K1 (H++X) ks cs m :=
 h.mono fun j hj=>by rw [List.getElem?_append_left (hk j hj)]
theorem axn (d:Nat) (H:VH) (m:j0):A1 d H (.agg (cM m)) = .agg (cM m):=by
 rw [Y1 _ _ _ (by simp only [data,N5,o8,acM,Bool.and_self])]
 simp only [strip,N5,j3,C2]
theorem ash {H:VH} {ks ls:List Nat} {cs ds:List V} {m n:j0} (h:K1 H ks cs m) (g:K1 H ls ds n) (hm:Z6 m):qco W5 H [.agg cs,.agg ds]=some (.bool (decide (m=n))):=by
 rw [ajP (fun hn=>by
  simp only [G7,Bool.and_eq_true] at hn
  simp only [o8,h.nd hn.1,g.nd hn.2.1,Bool.and_self])]
 simp only [List.map_cons,List.map_nil,h.A1 2,g.A1 2]
 exact am5 m n hm
theorem ahT:∀ l:List Bs,abk (vT l)=true
 | []=>rfl
 | m::l=>by
   show (aby [.str m]&&abk (vT l))=true
   rw [ahT l]; rfl
theorem Q9.app {H:VH} {ks:List Nat} {v:V} {l:List Bs} (X:VH) (h:Q9 H ks v l) (hk:∀ j ∈ ks,j<H.length):Q9 (H++X) ks v l :=
 h.mono fun j hj=>by rw [List.getElem?_append_left (hk j hj)]
theorem awH (m:j0):D7 (.agg (cO m))=true:=by simp only [D7,afe,aby,Bool.true_or,Bool.true_and,Bool.and_true,ahT]
theorem avr (d:Nat) (n:j0) (H:VH):∃ cs ks G,prom (d+1) H (.agg (cO n))=(.agg cs,H++G)/\K1 (H++G) ks cs n/\ks.Nodup/\∀ j ∈ ks,H.length<=j/\j<(H++G).length:=by
 obtain ⟨k1,v,G1,e1,a1,a2⟩:=apI d n.to H
 obtain ⟨k2,w,G2,e2,b1,b2⟩:=apI d n.lines (H++G1)
 refine ⟨[.str n.from_,v,w],k1++k2,G1++G2,?_,⟨v,w,k1,k2,rfl,rfl,a1.mono fun j hj=>?_,by rw [<-List.append_assoc]; exact b1⟩,?_,fun j hj=>?_⟩
 ·have ps:prom (d+1) H (.str n.from_)=(.str n.from_,H):=by simp only [prom]
  have p0:C3 (d+1) H (cO n)=([.str n.from_,v,w],H++G1++G2):=by
   rw [afe]
   simp only [C3,ps,e1,e2]
  rw [prom,p0,List.append_assoc]
 ·rw [<-List.append_assoc,List.getElem?_append_left (a2 j hj).2]
 ·rw [List.nodup_append]
  exact ⟨a1.nod,b1.nod,fun a ha b hb=>by have:=a2 a ha; have:=b2 b hb; omega⟩
 ·rcases List.mem_append.1 hj with hj | hj
  ·have:=a2 j hj; simp at this ⊢; omega
  ·have:=b2 j hj; simp at this ⊢; omega
end Go.Proofs.YtpbgpeojlfdpoaaDoor.Q

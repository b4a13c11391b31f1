/- Contracts: rows in memory whose parts lie in memory. -/
import Derived.Test.YtpbgpeojlfdpoaaDoorExactSplitMailCb2exactmarksZ
import Derived.Test.YtpbgpeojlfdpoaaDoorFnExactSplitMailK4
namespace Go.Proofs.YtpbgpeojlfdpoaaDoor.Q
open Go Go.AM
set_option linter.unusedSimpArgs false
set_option linter.unusedVariables false
set_option linter.unusedSectionVars false
section
variable {α:Type} (P:VH->List Nat->List V->α->Prop)
def RwR (H:VH):List Nat->List (List V)->List α->Prop
 | ks,r,[]=>ks=[]/\r=[]
 | ks,r,a::l=>∃ x r' k1 k2,r=x::r'/\ks=k1++k2/\P H k1 x a/\RwR H k2 r' l
def ObR (e:Nat) (H:VH) (ks:List Nat) (v:V) (l:List α):Prop:=(ks=[]/\l=[]/\(v = .sl true []\/v = .sl false []\/∃ k,v = .m8 k 0 0 e))\/∃ k r ks',ks=k::ks'/\l ≠ []/\v = .m8 k 0 l.length e/\H[k]? = some r.flatten/\RwR P H ks' r l
end
def Mon {α:Type} (P:VH->List Nat->List V->α->Prop) (e:Nat):Prop:=(∀ {H H':VH} {ks:List Nat} {x:List V} {a:α},P H ks x a->(∀ j ∈ ks,H'[j]? = H[j]?)->P H' ks x a)/\(∀ {H:VH} {ks:List Nat} {x:List V} {a:α},P H ks x a->x.length=e)
section
variable {α:Type} {P:VH->List Nat->List V->α->Prop} {e:Nat}
theorem RwR.mono (hP:Mon P e) {H H':VH}:∀ {l:List α} {ks:List Nat} {r:List (List V)},RwR P H ks r l->(∀ j ∈ ks,H'[j]? = H[j]?)->RwR P H' ks r l
 | [],_,_,h,_=>h
 | a::l,ks,r,h,g=>by
   obtain ⟨x,r',k1,k2,rfl,rfl,h1,h2⟩:=h
   exact ⟨x,r',k1,k2,rfl,rfl,hP.1 h1 fun j hj=>g j (by simp [hj]),RwR.mono hP h2 fun j hj=>g j (by simp [hj])⟩
theorem RwR.rows (hP:Mon P e) {H:VH}:∀ {l:List α} {ks:List Nat} {r:List (List V)},RwR P H ks r l->Go.AM.Rows e r/\r.length=l.length
 | [],_,_,h=>by obtain ⟨_,rfl⟩:=h; exact ⟨fun x hx=>by simp at hx,rfl⟩
 | a::l,ks,r,h=>by
   obtain ⟨x,r',k1,k2,rfl,rfl,h1,h2⟩:=h
   obtain ⟨a1,a2⟩:=RwR.rows hP h2
   exact ⟨fun y hy=>by
    rcases List.mem_cons.1 hy with rfl | hy
    ·exact hP.2 h1
    ·exact a1 y hy,by simp [a2]⟩
theorem RwR.app {H:VH}:∀ {l m:List α} {k1 k2:List Nat} {r s:List (List V)},RwR P H k1 r l->RwR P H k2 s m->RwR P H (k1++k2) (r++s) (l++m)
 | [],_,_,_,_,_,h,g=>by obtain ⟨rfl,rfl⟩:=h; exact g
 | a::l,m,ks,k2,r,s,h,g=>by
   obtain ⟨x,r',k1,k1',rfl,rfl,h1,h2⟩:=h
   exact ⟨x,r'++s,k1,k1'++k2,rfl,by simp,h1,RwR.app h2 g⟩
theorem RwR.one {H:VH} {ks:List Nat} {x:List V} {a:α} (h:P H ks x a):RwR P H ks [x] [a]:=⟨x,[],ks,[],rfl,by simp,h,rfl,rfl⟩
theorem ObR.mono (hP:Mon P e) {H H':VH} {l:List α} {ks:List Nat} {v:V} (h:ObR P e H ks v l) (g:∀ j ∈ ks,H'[j]? = H[j]?):ObR P e H' ks v l:=by
 rcases h with h | ⟨k,r,ks',rfl,h1,h2,h3,h4⟩
 ·exact .inl h
 ·exact .inr ⟨k,r,ks',rfl,h1,h2,by rw [g k (by simp),h3],h4.mono hP fun j hj=>g j (by simp [hj])⟩
theorem ObR.strip {H:VH} {l:List α} {ks:List Nat} {v:V} (h:ObR P e H ks v l):ObR P e H ks (Go.AM.strip v) l:=by
 rcases h with ⟨h1,h2,h3⟩ | ⟨k,r,ks',h0,h1,rfl,h3⟩
 ·refine .inl ⟨h1,h2,?_⟩
  rcases h3 with rfl | rfl | ⟨k,rfl⟩
  ·exact .inr (.inl rfl)
  ·exact .inr (.inl rfl)
  ·exact .inr (.inr ⟨k,rfl⟩)
 ·exact .inr ⟨k,r,ks',h0,h1,rfl,h3⟩
theorem ObR.len {H:VH} {l:List α} {ks:List Nat} {v:V} (h:ObR P e H ks v l):s8 v=some (.int .i64 (l.length:Nat)):=by
 rcases h with ⟨h1,rfl,rfl | rfl | ⟨k,rfl⟩⟩ | ⟨k,r,ks',h1,h2,rfl,h3⟩<;>rfl
theorem ObR.one {H:VH} {l:List α} {ks:List Nat} {v:V} (h:ObR P e H ks v l):w5 v=some v:=by
 rcases h with ⟨h1,rfl,rfl | rfl | ⟨k,rfl⟩⟩ | ⟨k,r,ks',h1,h2,rfl,h3⟩<;>rfl
theorem ObR.nd {H:VH} {l:List α} {ks:List Nat} {v:V} (h:ObR P e H ks v l) (hn:abw v=true):data v=true:=by
 rcases h with ⟨h1,rfl,rfl | rfl | ⟨k,rfl⟩⟩ | ⟨k,r,ks',h1,h2,rfl,h3⟩<;>first | rfl | (simp [abw] at hn)
theorem RwR.map {f:α->List V} {d:Nat} {H:VH} (hf:∀ {ks:List Nat} {x:List V} {a:α},P H ks x a->x.map (A1 d H)=f a):∀ {l:List α} {ks:List Nat} {r:List (List V)},RwR P H ks r l->r.map (List.map (A1 d H))=l.map f
 | [],_,_,h=>by obtain ⟨_,rfl⟩:=h; rfl
 | a::l,ks,r,h=>by
   obtain ⟨x,r',k1,k2,rfl,rfl,h1,h2⟩:=h
   simp only [List.map_cons,hf h1,RwR.map hf h2]
theorem ObR.A1 (hP:Mon P e) {f:α->List V} {d:Nat} {H:VH} (hf:∀ {ks:List Nat} {x:List V} {a:α},P H ks x a->x.map (A1 d H)=f a) {l:List α} {ks:List Nat} {v:V} (h:ObR P e H ks v l):Go.AM.A1 (d+1) H v = .sl false (l.map f):=by
 rcases h with ⟨h1,rfl,h3⟩ | ⟨k,r,ks',h1,h2,rfl,h3,h4⟩
 ·rcases h3 with rfl | rfl | ⟨k,rfl⟩
  ·rfl
  ·rfl
  ·simp only [Go.AM.A1,K3,H7,Nat.zero_mul,Nat.add_zero,Nat.zero_le,if_true,List.take_zero]
   rfl
 ·have hg:(H.map fun cs=>cs.map (Go.AM.A1 d H)).getD k []=(r.map (List.map (Go.AM.A1 d H))).flatten:=by
   rw [List.getD_eq_getElem?_getD,List.getElem?_map,h3,<-List.map_flatten]
   rfl
  obtain ⟨hr1,hr2⟩:=h4.rows hP
  have hr:Go.AM.Rows e (r.map (List.map (Go.AM.A1 d H))):=fun x hx=>by
   obtain ⟨y,hy,rfl⟩:=List.mem_map.1 hx
   rw [List.length_map]; exact hr1 y hy
  have hc:=hr.chunk
  have hfl:=hr.flat
  rw [List.length_map,hr2] at hc hfl
  simp only [Go.AM.A1,K3,hg,H7]
  rw [if_pos (by omega)]
  simp only [List.drop_zero]
  rw [List.take_of_length_le (by omega),hc,h4.map hf]
theorem alF (hP:Mon P e) {g:α->List V} {d:Nat} (hg:∀ (a:α) (H:VH),∃ ks x G,C3 d H (g a)=(x,H++G)/\P (H++G) ks x a/\ks.Nodup/\∀ j ∈ ks,H.length<=j/\j<(H++G).length):∀ (l:List α) (H:VH),∃ ks r G,K9 d H (l.map g)=(r.flatten,H++G)/\RwR P (H++G) ks r l/\ks.Nodup/\∀ j ∈ ks,H.length<=j/\j<(H++G).length
 | [],H=>⟨[],[],[],by simp [K9],⟨rfl,rfl⟩,List.nodup_nil,by simp⟩
 | a::l,H=>by
   obtain ⟨k1,x,G1,e1,h1,n1,b1⟩:=hg a H
   obtain ⟨k2,r,G2,e2,h2,n2,b2⟩:=alF hP hg l (H++G1)
   refine ⟨k1++k2,x::r,G1++G2,?_,⟨x,r,k1,k2,rfl,rfl,hP.1 h1 fun j hj=>?_,by rw [<-List.append_assoc]; exact h2⟩,?_,fun j hj=>?_⟩
   ·simp only [List.map_cons,K9,e1,e2,List.flatten_cons,List.append_assoc]
   ·rw [<-List.append_assoc,List.getElem?_append_left (b1 j hj).2]
   ·rw [List.nodup_append]
    exact ⟨n1,n2,fun a ha b hb=>by have:=b1 a ha; have:=b2 b hb; omega⟩
   ·rcases List.mem_append.1 hj with hj | hj
    ·have:=b1 j hj; simp at this ⊢; omega
    ·have:=b2 j hj; simp at this ⊢; omega
end
theorem K1.Mon:Mon K1 3:=⟨fun h g=>h.mono g,fun h=>by obtain ⟨v,w,_,_,rfl,_⟩:=h; rfl⟩
abbrev MsR:=ObR K1 3
theorem K1.map {H:VH} {ks:List Nat} {x:List V} {m:j0} (d:Nat) (h:K1 H ks x m):x.map (Go.AM.A1 (d+1) H)=cM m:=by
 obtain ⟨v,w,k1,k2,rfl,rfl,h1,h2⟩:=h
 simp only [List.map_cons,List.map_nil,h1.A1 d,h2.A1 d,Y1 (d+1) H (.str m.from_) rfl,N5]
 rfl
theorem MsR.A1 {H:VH} {ks:List Nat} {v:V} {l:List j0} (d:Nat) (h:MsR H ks v l):Go.AM.A1 (d+2) H v = .sl false (vR eM l):=ObR.A1 K1.Mon (f:=cM) (fun h=>h.map d) h
theorem asT (d:Nat) (n:j0) (H:VH):∃ ks x G,C3 (d+1) H (cO n)=(x,H++G)/\K1 (H++G) ks x n/\ks.Nodup/\∀ j ∈ ks,H.length<=j/\j<(H++G).length:=by
 obtain ⟨cs,ks,G,e,h⟩:=avr d n H
 refine ⟨ks,cs,G,?_,h⟩
 simp only [prom] at e
 have e1:=congrArg Prod.fst e
 have e2:=congrArg Prod.snd e
 simp only [V.agg.injEq] at e1 e2
 exact Prod.ext e1 e2
end Go.Proofs.YtpbgpeojlfdpoaaDoor.Q

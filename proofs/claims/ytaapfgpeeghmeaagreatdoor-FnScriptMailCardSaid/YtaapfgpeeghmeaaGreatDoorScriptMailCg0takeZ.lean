/- Contracts: a line that takes a mail. -/
import Derived.Test.YtaapfgpeeghmeaaGreatDoorScriptMailCe0sayZ
import Derived.Test.YtaapfgpeeghmeaaGreatDoorFnScriptMailK5
namespace Go.Proofs.YtaapfgpeeghmeaaGreatDoor.Q
open Go Go.AM
set_option linter.unusedSimpArgs false
set_option linter.unusedVariables false
set_option linter.unusedSectionVars false
def aed:Bs:=[102,114,111,109,32,60]
def F2:List Bs->Bs
 | []=>[]
 | l::ls=>([62,32]++l++[10])++F2 ls
theorem aj7:∀ (a b:List Bs),F2 (a++b)=F2 a++F2 b
 | [],b=>rfl
 | l::a,b=>by simp only [List.cons_append,F2,aj7 a b,List.append_assoc]
theorem apG:∀ (a:List Bs),(∀ l ∈ a,l.length<=1000)->(F2 a).length<=1003*a.length
 | [],_=>by simp [F2]
 | l::a,h=>by
   have h1:=h l (by simp)
   have h2:=apG a (fun q hq=>h q (by simp [hq]))
   simp only [F2,List.length_append,List.length_cons,List.length_nil]
   omega
theorem aEV (b:V) (l:List V) (G:VH):y5 l5 false false 1 (.ptr 0 0) ((b::l)::G)=some (strip b,(b::l)::G):=by exact id rfl
theorem aE5 (b c:V) (l:List V) (G:VH):E1 (.ptr 0 0) [c] ((b::l)::G)=some ((c::l)::G):=by
 simp only [E1,List.getElem?_cons_zero,List.length_cons,List.length_nil]
 rw [show Nat.ble (0+(0+1)) (l.length+1)=true from Nat.ble_eq_true_of_le (by omega)]
 simp [F7]
theorem aBg (o:Bool) (r:List (List V)):y7 (.sl o r)=some (.sl o r):=by exact id rfl
theorem avi (l:List y0) (p:Bs) (bv:V) (row:List V) (G:VH) (hb:strip bv = .sl false (vR eX l)) (h:adg l) (ht:abj l p=true) (hf:(aaf l p).from_.length<=1000) (hl:(aaf l p).lines.length<=1000) (hl2:∀ q ∈ (aaf l p).lines,q.length<=1000) :
 ∃ G',cv aaa [.ptr 0 0,.str p] ((bv::row)::G)=some (.str (aed++(aaf l p).from_++[62,10]++F2 (aaf l p).lines++[101,110,100,10]),G'):=by
 suffices hg:j8 (cv aaa [.ptr 0 0,.str p] ((bv::row)::G)) fun r=>r.1 = .str (aed++(aaf l p).from_++[62,10]++F2 (aaf l p).lines++[101,110,100,10]) by
  obtain ⟨⟨v,H⟩,e,h⟩:=hg
  have h:v=_:=h
  subst h
  exact ⟨H,e⟩
 obtain ⟨o,r,hr,e1⟩:=apT l p h
 rw [ht] at e1
 generalize hm:aaf l p=m at *
 have t1:=D9 .str aed m.from_ (by simp [aed]; omega)
 have t2:=D9 .str (aed++m.from_) [62,10] (by simp [aed]; omega)
 have hfw:([102,114,111,109,32,60]:Bs)=aed:=rfl
 have hcl:∀ i,(F2 (m.lines.take i)).length<=1003*m.lines.length:=fun i=>by
  have:=apG (m.lines.take i) (fun q hq=>hl2 q (List.mem_of_mem_take hq))
  have h2:(m.lines.take i).length<=m.lines.length:=by simp; omega
  omega
 rw [am5,hfw]
 simp only [X8] at e1
 simp only [c9,aEV,hb,e1,aBg,aE5,t1,t2]
 generalize hA:aed++m.from_++[62,10]=A at *
 have hAl:A.length<=1100:=by rw [<-hA]; simp [aed]; omega
 refine j8.N1 (I:=fun n st H=>∃ i:Nat,n=m.lines.length-i/\i<=m.lines.length/\st=[.str (A++F2 (m.lines.take i)),.sl false (vT m.lines),.int .i64 (m.lines.length:Nat),.int .i64 (i:Nat)])
  (P:=fun q vs H=>q=0/\vs=[.str (A++F2 m.lines)]) (n:=m.lines.length) ?_ ⟨0,by omega,by omega,by simp [F2]⟩ ?_
 ·rintro n st H ⟨i,rfl,hi,rfl⟩
  rw [akA]
  have hc:=hcl i
  by_cases hlt:i<m.lines.length
  ·have j1:=P8 false m.lines .i64 i hlt
   have hq:=hl2 _ (List.getElem_mem hlt)
   have w1:=D9 .str [62,32] m.lines[i] (by simp; omega)
   have w2:=D9 .str ([62,32]++m.lines[i]) [10] (by simp; omega)
   have w3:=D9 .str (A++F2 (m.lines.take i)) ([62,32]++m.lines[i]++[10]) (by simp; omega)
   have a2:b7 (.int .i64) .add (.int .i64 (i:Nat)) (.int .i64 1)=some (.int .i64 ((i+1:Nat):Int)):=A0 _ i 1 (by omega)
   have e:F2 (m.lines.take (i+1))=F2 (m.lines.take i)++([62,32]++m.lines[i]++[10]):=by
    rw [List.take_succ_eq_append_getElem hlt,aj7]
    simp [F2]
   simp only [List.cons_append,List.nil_append] at w1 w2 w3 e
   simp only [c9,j1,w1,w2,w3,a2,show ((i:Nat):Int)<(m.lines.length:Int) from by omega]
   exact j8.here (.inr ⟨rfl,m.lines.length-(i+1),by omega,i+1,rfl,by omega,by rw [e]; simp only [List.append_assoc]⟩)
  ·have:i=m.lines.length:=by omega
   subst this
   simp only [c9,List.take_length,show ¬ ((m.lines.length:Nat):Int)<(m.lines.length:Int) from by omega]
   exact j8.here (.inl ⟨0,rfl,rfl,rfl⟩)
 rintro _ _ H ⟨rfl,rfl⟩
 have hc:=hcl m.lines.length
 rw [List.take_length] at hc
 have w:=D9 .str (A++F2 m.lines) [101,110,100,10] (by simp; omega)
 simp only [c9,w]
 exact j8.here rfl
end Go.Proofs.YtaapfgpeeghmeaaGreatDoor.Q

/- Contracts: a line that takes a mail. -/
import Derived.Test.YtaapfgpeeghmeaaGreatDoorScriptTraceCf3datelineZ
import Derived.Test.YtaapfgpeeghmeaaGreatDoorFnScriptTraceK5
namespace Go.Proofs.YtaapfgpeeghmeaaGreatDoor.Q
open Go Go.AM
set_option linter.unusedSimpArgs false
set_option linter.unusedVariables false
set_option linter.unusedSectionVars false
def aea:Bs:=[102,114,111,109,32,60]
def O8:List Bs->Bs
 | []=>[]
 | l::ls=>([62,32]++l++[10])++O8 ls
theorem anR:∀ (a b:List Bs),O8 (a++b)=O8 a++O8 b
 | [],b=>rfl
 | l::a,b=>by simp only [List.cons_append,O8,anR a b,List.append_assoc]
theorem anL:∀ (a:List Bs),(∀ l ∈ a,l.length<=1000)->(O8 a).length<=1003*a.length
 | [],_=>by simp [O8]
 | l::a,h=>by
   have h1:=h l (by simp)
   have h2:=anL a (fun q hq=>h q (by simp [hq]))
   simp only [O8,List.length_append,List.length_cons,List.length_nil]
   omega
theorem aCJ (b:V) (l:List V) (G:VH):B2 o6 false false 1 (.ptr 0 0) ((b::l)::G)=some (strip b,(b::l)::G):=by exact id rfl
theorem aCA (b c:V) (l:List V) (G:VH):K8 (.ptr 0 0) [c] ((b::l)::G)=some ((c::l)::G):=by
 simp only [K8,List.getElem?_cons_zero,List.length_cons,List.length_nil]
 rw [show Nat.ble (0+(0+1)) (l.length+1)=true from Nat.ble_eq_true_of_le (by omega)]
 simp [G7]
theorem aCR (o:Bool) (r:List (List V)):A8 (.sl o r)=some (.sl o r):=by exact id rfl
theorem asj (l:List A3) (p:Bs) (bv:V) (row:List V) (G:VH) (hb:strip bv = .sl false (vR eX l)) (h:aeF l) (ht:aaH l p=true) (hf:(Z2 l p).from_.length<=1000) (hl:(Z2 l p).lines.length<=1000) (hl2:∀ q ∈ (Z2 l p).lines,q.length<=1000) :
 ∃ G',cv X7 [.ptr 0 0,.str p] ((bv::row)::G)=some (.str (aea++(Z2 l p).from_++[62,10]++O8 (Z2 l p).lines++[101,110,100,10]),G'):=by
 suffices hg:l7 (cv X7 [.ptr 0 0,.str p] ((bv::row)::G)) fun r=>r.1 = .str (aea++(Z2 l p).from_++[62,10]++O8 (Z2 l p).lines++[101,110,100,10]) by
  obtain ⟨⟨v,H⟩,e,h⟩:=hg
  have h:v=_:=h
  subst h
  exact ⟨H,e⟩
 obtain ⟨o,r,hr,e1⟩:=anF l p h
 rw [ht] at e1
 generalize hm:Z2 l p=m at *
 have t1:=N2 .str aea m.from_ (by simp [aea]; omega)
 have t2:=N2 .str (aea++m.from_) [62,10] (by simp [aea]; omega)
 have hfw:([102,114,111,109,32,60]:Bs)=aea:=rfl
 have hcl:∀ i,(O8 (m.lines.take i)).length<=1003*m.lines.length:=fun i=>by
  have:=anL (m.lines.take i) (fun q hq=>hl2 q (List.mem_of_mem_take hq))
  have h2:(m.lines.take i).length<=m.lines.length:=by simp; omega
  omega
 rw [alg,hfw]
 simp only [adq] at e1
 simp only [j3,aCJ,hb,e1,aCR,aCA,t1,t2]
 generalize hA:aea++m.from_++[62,10]=A at *
 have hAl:A.length<=1100:=by rw [<-hA]; simp [aea]; omega
 refine l7.Y5 (I:=fun n st H=>∃ i:Nat,n=m.lines.length-i/\i<=m.lines.length/\st=[.str (A++O8 (m.lines.take i)),.sl false (vT m.lines),.int .i64 (m.lines.length:Nat),.int .i64 (i:Nat)])
  (P:=fun q vs H=>q=0/\vs=[.str (A++O8 m.lines)]) (n:=m.lines.length) ?_ ⟨0,by omega,by omega,by simp [O8]⟩ ?_
 ·rintro n st H ⟨i,rfl,hi,rfl⟩
  rw [aiL]
  have hc:=hcl i
  by_cases hlt:i<m.lines.length
  ·have j1:=afc false m.lines .i64 i hlt
   have hq:=hl2 _ (List.getElem_mem hlt)
   have w1:=N2 .str [62,32] m.lines[i] (by simp; omega)
   have w2:=N2 .str ([62,32]++m.lines[i]) [10] (by simp; omega)
   have w3:=N2 .str (A++O8 (m.lines.take i)) ([62,32]++m.lines[i]++[10]) (by simp; omega)
   have a2:b7 (.int .i64) .add (.int .i64 (i:Nat)) (.int .i64 1)=some (.int .i64 ((i+1:Nat):Int)):=C6 _ i 1 (by omega)
   have e:O8 (m.lines.take (i+1))=O8 (m.lines.take i)++([62,32]++m.lines[i]++[10]):=by
    rw [List.take_succ_eq_append_getElem hlt,anR]
    simp [O8]
   simp only [List.cons_append,List.nil_append] at w1 w2 w3 e
   simp only [j3,j1,w1,w2,w3,a2,show ((i:Nat):Int)<(m.lines.length:Int) from by omega]
   exact l7.here (.inr ⟨rfl,m.lines.length-(i+1),by omega,i+1,rfl,by omega,by rw [e]; simp only [List.append_assoc]⟩)
  ·have:i=m.lines.length:=by omega
   subst this
   simp only [j3,List.take_length,show ¬ ((m.lines.length:Nat):Int)<(m.lines.length:Int) from by omega]
   exact l7.here (.inl ⟨0,rfl,rfl,rfl⟩)
 rintro _ _ H ⟨rfl,rfl⟩
 have hc:=hcl m.lines.length
 rw [List.take_length] at hc
 have w:=N2 .str (A++O8 m.lines) [101,110,100,10] (by simp; omega)
 simp only [j3,w]
 exact l7.here rfl
end Go.Proofs.YtaapfgpeeghmeaaGreatDoor.Q

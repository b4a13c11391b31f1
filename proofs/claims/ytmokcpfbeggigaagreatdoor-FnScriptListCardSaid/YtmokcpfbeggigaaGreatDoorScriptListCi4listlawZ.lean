/- The law: lists that a script reads. -/
import Derived.Test.YtmokcpfbeggigaaGreatDoorScriptListCi3listsomeZ
import Derived.Test.YtmokcpfbeggigaaGreatDoorFnScriptListK4
namespace Go.Proofs.YtmokcpfbeggigaaGreatDoor.Q
open Go Go.AM
set_option linter.unusedSimpArgs false
set_option linter.unusedVariables false
set_option linter.unusedSectionVars false
theorem awq {H:VH} {v:V} {l:List Ad} (h:ObA H v l):frD 3 H v = .sl false (vR A1 l):=by
 rcases h with ⟨rfl,rfl⟩ | ⟨hne,k,k0,kl,rfl,hk⟩
 ·rfl
 ·have hm:(vR A1 l).flatten.map (frD 2 H)=(vR A1 l).flatten:=by
   have:∀ x ∈ (vR A1 l).flatten,frD 2 H x=x:=fun x hx=>by
    obtain ⟨c,hc,hx⟩:=List.mem_flatten.1 hx
    obtain ⟨a,_,rfl⟩:=List.mem_map.1 hc
    simp only [A1,cAd,List.mem_cons,List.not_mem_nil,or_false] at hx
    rcases hx with rfl | rfl | rfl<;>rfl
   rw [List.map_congr_left this,List.map_id']
  show S3 (H.map fun cs=>cs.map (frD 2 H)) (.A0 k 0 l.length 3)=_
  have hg:(H.map fun cs=>cs.map (frD 2 H)).getD k []=(vR A1 l).flatten:=by
   rw [List.getD_eq_getElem?_getD,List.getElem?_map,hk]
   simp only [Option.map_some,Option.getD_some,hm]
  have hc:L4 (vR A1 l).flatten 0 (l.length*3)=some (vR A1 l).flatten:=by
   rw [N0 (by rw [R5]; omega),List.drop_zero,List.take_of_length_le (by rw [R5]; omega)]
  simp only [S3,hg,hc]
  exact congrArg _ (agK A1 l)
theorem ajD (xs:Bs):T6 (cv V8 [.sl false (vB xs)] []) (fun v H'=>∃ l:List Ad,ObA H' v l/\l.length<=4/\∀ a ∈ l,TnA a):=by
 refine T6.of ?_
 rw [afz]
 refine axX.bind ?_
 rintro _ H0 ⟨rfl,R0⟩
 simp only [b8]
 refine (auO R0 (by omega)).bind ?_
 rintro v H1 ⟨l,hv,hl,ha⟩
 simp only [b8]
 exact l3.here ⟨l,hv,hl,ha⟩
theorem axB {f:FuncId} {H:VH} {v:V} {l:List Ad} (h:ObA H v l):qco f H [strip v]=qc f [.sl false (vR A1 l)]:=by
 have hs:strip v=v\/(l=[]/\strip v = .sl false []):=by
  rcases h with ⟨rfl,rfl⟩ | ⟨_,k,_,_,rfl,_⟩
  ·exact .inr ⟨rfl,rfl⟩
  ·exact .inl rfl
 show Q7 cv f H [strip v]=P3 cv f _
 rcases h with ⟨rfl,rfl⟩ | ⟨hne,k,k0,kl,rfl,hk⟩
 ·exact amJ rfl
 ·have e:=awq (.inr ⟨hne,k,k0,kl,rfl,hk⟩:ObA H (.A0 k 0 l.length 3) l)
  unfold Q7
  simp only [strip,aaR,aiT,Bool.false_and,List.map_cons,List.map_nil,e]
theorem ami (u:V) (h:afO (.sl (.int .u8)) u):∃ H,cv Z7 [u] []=some (.bool true,H):=by
 obtain ⟨xs,rfl⟩:=(ato h).imp fun _ q=>q.1
 suffices hg:l3 (cv Z7 [.sl false (vB xs)] []) fun r=>r.1 = .bool true by
  obtain ⟨⟨v,H⟩,e,h⟩:=hg
  cases h
  exact ⟨H,e⟩
 rw [agD]
 simp only [b8,decide_eq_true_eq]
 refine l3.ite (fun h=>?_) (fun h=>?_)
 ·exact l3.here rfl
 ·refine (ajD xs).bind ?_
  rintro v H1 ⟨l,hv,hl,ha⟩
  have hS:SmA l:=⟨by omega,fun a hx=>by have:=ha a hx; unfold TnA at this; omega⟩
  have e1:=ah1 l hS
  have e2:=aiY l hS
  rw [<-axB hv] at e1 e2
  by_cases hf:flT l=[]
  ·rw [hf] at e1 e2
   simp only [b8,e1,e2]
   exact l3.here rfl
  ·have hj:flT l=C9 l/\l.all I9=true/\(C9 l).length<=200:=by
    unfold flT at hf ⊢
    split at hf
    ·exact absurd rfl hf
    ·rename_i g1
     split at hf
     ·exact absurd rfl hf
     ·rename_i g2
      split at hf
      ·exact absurd rfl hf
      ·rename_i g3
       rw [if_neg g1,if_neg g2,if_neg g3]
       refine ⟨rfl,?_,by omega⟩
       rw [List.all_eq_true]
       intro a hx
       cases hq:I9 a with
       | true=>rfl
       | false=>exact absurd (List.any_eq_true.2 ⟨a,hx,by rw [hq]; rfl⟩) g2
   obtain ⟨j1,j2,j3⟩:=hj
   cases l with
   | nil=>exact absurd rfl hf
   | cons a r =>
     have n10:(10:UInt8) ∉ C9 (a::r):=fun hm=>absurd (an2 _ j2 10 hm) (by decide)
     have fin:=apM (w:=[108,105,115,116]) (by decide) (by decide) n10 (by simp; omega) (by omega) (by decide) (by decide) (by decide) (by decide) (arH a r j2 (by omega) j3)
     have hne:=(ajB j2).2
     rw [j1] at e1 e2
     generalize C9 (a::r)=x at *
     have fin':qco G0 H1 [.str ([108,105,115,116,32]++x++[10])]=some (.str ([61,32]++x++[10])):=by
      have q:qco G0 H1 [.str ([108,105,115,116,32]++x++[10])]=qc G0 [.str ([108,105,115,116,32]++x++[10])]:=amJ rfl
      rw [q]; exact fin
     have t1:=J0 .str [108,105,115,116,32] x (by simp; omega)
     have t2:=J0 .str ([108,105,115,116,32]++x) [10] (by simp; omega)
     have t3:=J0 .str [61,32] x (by simp; omega)
     have t4:=J0 .str ([61,32]++x) [10] (by simp; omega)
     simp only [List.cons_append,List.nil_append] at t1 t2 t3 t4 fin'
     simp only [b8,e1,e2,hne,t1,t2,t3,t4,fin']
     exact l3.here rfl
end Go.Proofs.YtmokcpfbeggigaaGreatDoor.Q

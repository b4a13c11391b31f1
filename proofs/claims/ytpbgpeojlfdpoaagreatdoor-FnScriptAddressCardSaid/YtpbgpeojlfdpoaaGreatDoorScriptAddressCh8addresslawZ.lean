/- The law: addresses that a script reads. -/
import Derived.Test.YtpbgpeojlfdpoaaGreatDoorScriptAddressCh7bendZ
import Derived.Test.YtpbgpeojlfdpoaaGreatDoorFnScriptAddressK4
namespace Go.Proofs.YtpbgpeojlfdpoaaGreatDoor.Q
open Go Go.AM
set_option linter.unusedSimpArgs false
set_option linter.unusedVariables false
set_option linter.unusedSectionVars false
theorem avt {s:Bs} (h:(10:UInt8) ∉ s):(10:UInt8) ∉ Z5 s:=by
 have he:∀ t:Bs,(10:UInt8) ∉ t->(10:UInt8) ∉ (t.map W1).flatten:=fun t ht hm=>by
  obtain ⟨x,hx,hm⟩:=List.mem_flatten.1 hm
  obtain ⟨b,hb,rfl⟩:=List.mem_map.1 hx
  unfold W1 at hm
  split at hm
  ·simp only [List.mem_cons,List.not_mem_nil,or_false] at hm
   rcases hm with hm | hm
   ·cases hm
   ·subst hm; exact ht hb
  ·simp only [List.mem_cons,List.not_mem_nil,or_false] at hm
   subst hm; exact ht hb
 unfold Z5
 split
 ·simp
 ·split
  ·exact h
  ·unfold afi
   simp only [List.mem_append,List.mem_singleton,not_or]
   exact ⟨⟨by decide,he s h⟩,by decide⟩
theorem av8 {a:Bs × Bs × Bs} (h1:(10:UInt8) ∉ a.1) (h2:(10:UInt8) ∉ a.2.1) (h3:(10:UInt8) ∉ a.2.2):(10:UInt8) ∉ fmA a:=by
 have hq:=avt h1
 unfold fmA
 split
 ·simp
 ·split
  ·simp only [List.mem_append,List.mem_singleton,not_or]
   exact ⟨⟨h2,by decide⟩,h3⟩
  ·simp only [List.mem_append,List.mem_cons,List.not_mem_nil,or_false,not_or]
   exact ⟨⟨⟨⟨⟨hq,by decide,by decide⟩,h2⟩,by decide⟩,h3⟩,by decide⟩
theorem auh {k b:Nat} {H:VH} (hR:Rd k b H) (hb:b<=800000000):abn (cv acw [.ptr k 0] H) (fun v H'=>∃ a:Bs × Bs × Bs,v = .agg [.str a.1,.str a.2.1,.str a.2.2]/\((10:UInt8) ∉ a.1/\(10:UInt8) ∉ a.2.1/\(10:UInt8) ∉ a.2.2)/\(a.1.length<=200/\a.2.1.length<=200/\a.2.2.length<=200)/\Rd k (b+3) H'):=by
 refine abn.of ?_
 rw [al0]
 simp only [b8]
 refine (ant hR (by omega) (by decide) (by decide)).bind ?_
 rintro _ H1 ⟨n,rfl,n1,n2,R1⟩
 simp only [b8]
 refine (ant R1 (by omega) (by decide) (by decide)).bind ?_
 rintro _ H2 ⟨l,rfl,l1,l2,R2⟩
 simp only [b8]
 refine (ant R2 (by omega) (by decide) (by decide)).bind ?_
 rintro _ H3 ⟨d,rfl,d1,d2,R3⟩
 simp only [b8]
 exact j9.here ⟨(n,l,d),rfl,⟨n1,l1,d1⟩,⟨n2,l2,d2⟩,R3.le (by omega)⟩
theorem ahr (xs:Bs):∃ s:Bs,qc K0 [.sl false (vB xs)]=some (.str s)/\(10:UInt8) ∉ s/\s.length<=400:=by
 suffices h:j9 (cv K0 [.sl false (vB xs)] []) fun r=>∃ s:Bs,r.1 = .str s/\(10:UInt8) ∉ s/\s.length<=400 by
  obtain ⟨⟨v,H⟩,e,s,h,h1,h2⟩:=h
  have h:v=_:=h
  subst h
  exact ⟨s,w8 e (by simp only [b8]) rfl,h1,h2⟩
 rw [adX]
 refine axw.bind ?_
 rintro _ H0 ⟨rfl,R0⟩
 simp only [b8]
 refine (akk (n:=4) R0 (by omega) (by omega) (by omega)).bind ?_
 rintro _ H1 ⟨i,rfl,hi,R1⟩
 simp only [b8,decide_eq_true_eq]
 refine j9.ite (fun h=>?_) (fun h=>?_)
 ·refine (ant R1 (by omega) (by decide) (by decide)).bind ?_
  rintro _ H2 ⟨s,rfl,s1,s2,R2⟩
  simp only [b8]
  exact j9.here ⟨s,rfl,s1,by omega⟩
 ·refine (auh R1 (by omega)).bind ?_
  rintro _ H2 ⟨a,rfl,⟨n1,l1,d1⟩,⟨n2,l2,d2⟩,R2⟩
  have e1:=agG a (by omega) (by omega) (by omega)
  have hf:=av8 n1 l1 d1
  have hl:=alZ a
  simp only [b8,e1]
  refine (ato R2 (by omega) (by decide) (by decide) (fmA a) hf (by omega)).bind ?_
  rintro _ H3 ⟨t,rfl,t1,t2,-⟩
  simp only [b8]
  exact j9.here ⟨t,rfl,t1,by omega⟩
theorem aiS (u:V) (h:afM (.sl (.int .u8)) u):∃ H,cv S5 [u] []=some (.bool true,H):=by
 obtain ⟨xs,rfl⟩:=(ar8 h).imp fun _ q=>q.1
 suffices hg:j9 (cv S5 [.sl false (vB xs)] []) fun r=>r.1 = .bool true by
  obtain ⟨⟨v,H⟩,e,h⟩:=hg
  cases h
  exact ⟨H,e⟩
 rw [aeu]
 simp only [b8,decide_eq_true_eq]
 refine j9.ite (fun h=>?_) (fun h=>?_)
 ·exact j9.here rfl
 ·obtain ⟨s,e0,s10,sl⟩:=ahr xs
  have e1:=afW s (by omega)
  have e2:=agX s (by omega)
  have hE:∀ a b c:Bs,alg 3 .neq (.agg [.str a,.str b,.str c]) (.agg [.str a,.str b,.str c])=some (.bool false):=fun a b c=>by simp [alg,aby]
  have t1:=E4 .str [97,100,100,114,101,115,115,32] s (by simp; omega)
  have t2:=E4 .str ([97,100,100,114,101,115,115,32]++s) [10] (by simp; omega)
  have fin:=ao3 (w:=[97,100,100,114,101,115,115]) (by decide) (by decide) s10 (by simp; omega) (by have:=avJ s; omega) (by decide) (by decide) (by decide) (by decide) (aqw s (by omega))
  have fin':qc G8 [.str ([97,100,100,114,101,115,115,32]++s++[10])]=some (.str (ahG (S4 s).isSome (adO s))):=fin
  clear fin
  simp only [List.cons_append,List.nil_append] at t1 t2 fin'
  cases ha:S4 s with
  | none =>
    rw [ha] at e1 e2 fin'
    simp only [X2] at e1 e2
    simp only [ahG,Option.isSome_none,Bool.false_eq_true,if_false,aqO] at fin'
    simp only [b8,e0,e1,e2,hE,t1,t2,fin']
    exact j9.here rfl
  | some a =>
    have hl:=acY (apF ha)
    have e3:=ab5 a (by omega) (by omega) (by omega)
    have hO:adO s=fmA a:=by unfold adO; rw [ha]
    have hfl:=alZ a
    have t3:=E4 .str [61,32] (fmA a) (by simp; omega)
    have t4:=E4 .str ([61,32]++fmA a) [10] (by simp; omega)
    rw [hO,ha] at fin'
    rw [ha] at e1 e2
    simp only [X2] at e1 e2
    simp only [ahG,Option.isSome_some,if_true] at fin'
    simp only [List.cons_append,List.nil_append] at t3 t4 fin'
    simp only [b8,e0,e1,e2,hE,t1,t2,e3,t3,t4,fin']
    exact j9.here rfl
end Go.Proofs.YtpbgpeojlfdpoaaGreatDoor.Q

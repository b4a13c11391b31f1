/- Contracts: kinds are read and written. -/
import Derived.Test.YtmokcpfbeggigaaGreatDoorScriptListCh2addressZ
namespace Go.Proofs.YtmokcpfbeggigaaGreatDoor.Q
open Go Go.AM
set_option linter.unusedSimpArgs false
set_option linter.unusedVariables false
set_option linter.unusedSectionVars false
def aaa (c:UInt8) (s:Bs):List Bs:=match h:z8 c s 0 with
 | none=>[s]
 | some k=>s.take k::aaa c (s.drop (k+1))
termination_by s.length
decreasing_by
 have:=(acI h).2
 rw [List.length_drop]; omega
theorem ahX {c:UInt8} {s:Bs} (h:z8 c s 0=none):aaa c s=[s]:=by
 rw [aaa]
 split
 ·rfl
 ·rename_i k hk; rw [h] at hk; cases hk
theorem aik {c:UInt8} {s:Bs} {k:Nat} (h:z8 c s 0=some k):aaa c s=s.take k::aaa c (s.drop (k+1)):=by
 conv=>lhs; rw [aaa]
 split
 ·rename_i hk; rw [h] at hk; cases hk
 ·rename_i k' hk; rw [h] at hk; cases hk; rfl
theorem apb (c:UInt8) (s:Bs):∀ t ∈ aaa c s,(∀ b ∈ t,b ∈ s)/\t.length<=s.length:=by
 cases h:z8 c s 0 with
 | none=>rw [ahX h]; intro t ht; simp only [List.mem_singleton] at ht; subst ht; exact ⟨fun _ h=>h,Nat.le_refl _⟩
 | some k =>
   have h1:=(acI h).2
   have ih:=apb c (s.drop (k+1))
   rw [aik h]
   intro t ht
   rcases List.mem_cons.1 ht with rfl | ht
   ·exact ⟨fun b hb=>List.mem_of_mem_take hb,by simp; omega⟩
   ·obtain ⟨a1,a2⟩:=ih t ht
    rw [List.length_drop] at a2
    exact ⟨fun b hb=>List.mem_of_mem_drop (a1 b hb),by omega⟩
termination_by s.length
decreasing_by
 rw [List.length_drop]; omega
theorem amr (s:Bs) (c:UInt8) (hs:s.length<=1000000):pc L8 [.str s,.int .u8 (c.toNat:Int)]=some (.sl true (vT (aaa c s))):=by
 suffices h:l3 (cv L8 [.str s,.int .u8 (c.toNat:Int)] []) fun r=>r.1 = .sl true (vT (aaa c s)) by
  obtain ⟨⟨v,H⟩,e,h⟩:=h
  have h:v=_:=h
  subst h
  exact adY e (by simp only [b8]) (by simp only [b8])
 rw [ag3]
 refine l3.V3 (I:=fun n st H=>∃ (t:Bs) (acc:List Bs),n=t.length/\t.length+acc.length<=s.length/\st=[.str t,.int .u8 (c.toNat:Int),.sl true (vT acc)]/\acc++aaa c t=aaa c s)
  (P:=fun q vs H=>q=0/\vs=[.sl true (vT (aaa c s))]) (n:=s.length) ?_ ⟨s,[],rfl,by simp,rfl,rfl⟩ ?_
 ·rintro n st H ⟨t,acc,rfl,ht,rfl,inv⟩
  rw [aeX]
  have e1:=ais t c (by omega)
  have ap1:∀ x:Bs,I6 false 1 16 (vT acc) (.sl true [[.str x]])=some (.sl true (vT (acc++[x]))):=fun x=>by
   have:=ac2 1 16 (vT acc) true (vT [x]) (aan _) (aan _) (by rw [aai,aai]; simp; omega)
   rw [ahF] at this
   exact this
  cases hq:z8 c t 0 with
  | none =>
    rw [hq] at e1
    simp only [ouI] at e1
    rw [ahX hq] at inv
    simp only [b8,e1,ap1,show ((-1:Int)<0) from by decide]
    exact ⟨_,rfl,.inl ⟨0,rfl,rfl,by rw [<-inv]⟩⟩
  | some k =>
    have hk:=(acI hq).2
    rw [hq] at e1
    simp only [ouI] at e1
    rw [aik hq] at inv
    have p1:=agp t .i64 k (by omega)
    have e2:a8 (.int .i64) .add (.int .i64 (k:Int)) (.int .i64 1)=some (.int .i64 ((k+1:Nat):Int)):=y4 _ k 1 (by omega)
    have p2:=ade t .i64 (k+1) (by omega)
    simp only [b8,e1,p1,ap1,e2,p2,show ¬ ((k:Int)<0) from by omega]
    exact ⟨_,rfl,.inr ⟨rfl,(t.drop (k+1)).length,by simp; omega,t.drop (k+1),acc++[t.take k],rfl,by simp; omega,rfl,by rw [<-inv]; simp⟩⟩
 rintro _ _ H ⟨rfl,rfl⟩
 simp only [b8]
 exact l3.here rfl
end Go.Proofs.YtmokcpfbeggigaaGreatDoor.Q

/- Contracts: a drawn list of which one part is bent. -/
import Derived.Test.YtmokcpfbeggigaaGreatDoorScriptListCi2listlawZ
import Derived.Test.YtmokcpfbeggigaaGreatDoorFnScriptListK4
namespace Go.Proofs.YtmokcpfbeggigaaGreatDoor.Q
open Go Go.AM
set_option linter.unusedSimpArgs false
set_option linter.unusedVariables false
set_option linter.unusedSectionVars false
theorem auO {b:Nat} {H:VH} (hR:Rd 0 b H) (hb:b<=600000000):T6 (cv acH [.ptr 0 0] H) (fun v H'=>∃ l:List Ad,ObA H' v l/\l.length<=4/\∀ a ∈ l,TnA a):=by
 refine T6.of ?_
 rw [amy]
 simp only [b8]
 refine (at0 hR (by omega)).bind ?_
 rintro _ H1 ⟨l,hv,hl,ha,R⟩
 rcases hv with ⟨rfl,rfl⟩ | ⟨hne,k,k0,kl,rfl,hk⟩
 ·simp only [b8,List.length_nil,show ¬ (((0:Nat):Int)>0) from by omega]
  exact l3.here ⟨[],.inl ⟨rfl,rfl⟩,by simp,by simp⟩
 ·have hlp:=List.length_pos_iff.2 hne
  simp only [b8,show ((l.length:Int)>0) from by omega]
  refine (asI (n:=l.length) R (by omega) (by omega) (by omega)).bind ?_
  rintro _ H2 ⟨i,rfl,hi,R2,F2⟩
  have hk2:H2[k]? = some (vR A1 l).flatten:=by rw [F2.2 k k0 kl]; exact hk
  have kl2:k<H2.length:=Nat.lt_of_lt_of_le kl F2.1
  have i1:E1 3 (.A0 k 0 l.length 3) (.int .i64 (i:Int))=some (.ptr k (i*3)):=by
   have:=alw k 0 l.length 3 .i64 i hi
   rw [Nat.zero_add] at this; exact this
  have hset:H2.set k (vR A1 l).flatten=H2:=by
   obtain ⟨h1,h2⟩:=List.getElem?_eq_some_iff.1 hk2
   rw [<-h2,List.set_getElem_self]
  have l1:G7 C4 false true 3 (.ptr k (i*3)) H2=some (.agg [.str l[i].1,.str l[i].2.1,.str l[i].2.2],H2):=by
   simp only [G7,hk2,ac9,awj l i hi,Option.bind_some,Option.map_some,hset]
   rfl
  simp only [b8,i1,l1]
  refine (asp l[i] (ha _ (List.getElem_mem hi)) R2 (by omega)).bind ?_
  rintro _ H3 ⟨a,rfl,ta,R3,F3⟩
  have hk3:H3[k]? = some (vR A1 l).flatten:=by rw [F3.2 k k0 kl2]; exact hk2
  have kl3:k<H3.length:=Nat.lt_of_lt_of_le kl2 F3.1
  have s1:stO (.ptr k (i*3)) [.str a.1,.str a.2.1,.str a.2.2] H3=some (H3.set k (vR A1 (l.set i a)).flatten):=by
   rw [asi hk3 (by rw [R5]; simp; omega)]
   rw [show [V.str a.1,.str a.2.1,.str a.2.2]=cAd a from rfl,awP l i hi]
  simp only [b8,i1,s1]
  refine l3.here ⟨l.set i a,.inr ⟨by simpa using hne,k,k0,by simpa using kl3,by simp,?_⟩,by simpa using hl,fun x hx=>?_⟩
  ·rw [List.getElem?_set,if_pos rfl,if_pos kl3]
  ·rcases List.mem_or_eq_of_mem_set hx with hx | rfl
   ·exact ha x hx
   ·exact ta
end Go.Proofs.YtmokcpfbeggigaaGreatDoor.Q

/- Contracts: a mail for each domain. -/
import Derived.Test.YtaapfgpeeghmeaaGreatDoorScriptMailC97boxlawsZ
namespace Go.Proofs.YtaapfgpeeghmeaaGreatDoor.Q
open Go Go.AM
set_option linter.unusedSimpArgs false
set_option linter.unusedVariables false
set_option linter.unusedSectionVars false
theorem aqN (l:List l9):Go.AM.Rows 3 (vO l):=fun x hx=>by
 obtain ⟨b,_,rfl⟩:=List.mem_map.1 hx
 rfl
def HoM (v:V) (H:VH) (l:List l9):Prop:=(l=[]/\v = .sl true [])\/(l ≠ []/\∃ k,v = .y1 k 0 l.length 3/\H[k]? = some (vO l).flatten)
theorem HoM.ne {v:V} {H:VH} {l:List l9} (h:HoM v H l) (hne:l ≠ []):∃ k,v = .y1 k 0 l.length 3/\H[k]? = some (vO l).flatten:=by
 rcases h with ⟨h,_⟩ | ⟨_,h⟩
 ·exact absurd h hne
 ·exact h
theorem HoM.snoc {v:V} {H:VH} {l:List l9} (h:HoM v H l) (c:List V):HoM v (H++[c]) l:=by
 rcases h with h | ⟨hne,k,rfl,hk⟩
 ·exact .inl h
 ·exact .inr ⟨hne,k,rfl,by rw [List.getElem?_append_left (List.getElem?_eq_some_iff.1 hk).1]; exact hk⟩
section
variable {k i:Nat} {H:VH} {l:List l9} (hk:H[k]? = some (vO l).flatten) (hi:i<l.length)
include hk hi
end
theorem aAw {m:l9} (h:D6 m 1 30=true):D6 (abm m) 1 30=true/\abm (abm m)=abm m:=by
 have hn:(J7 [] m.to).Nodup:=anD (by simp)
 have hid:J7 [] (J7 [] m.to)=J7 [] m.to:=by
  have:=auC (acc:=[]) (l:=J7 [] m.to) (by simpa using hn)
  simpa using this
 have hlen:=aiB (l:=m.to) (acc:=[])
 refine ⟨?_,by unfold abm; simp only [hid]⟩
 unfold D6 at h ⊢
 simp only [Bool.and_eq_true,decide_eq_true_eq,Bool.not_eq_true',List.any_eq_false] at h ⊢
 obtain ⟨h1,h2,h3,h4,h5,h6⟩:=h
 have hne:m.to ≠ []:=fun e=>by rw [e] at h2; simp at h2
 obtain ⟨t,l,ht⟩:=List.exists_cons_of_ne_nil hne
 have hm:t ∈ J7 [] m.to:=aik.2 (.inr (by rw [ht]; simp))
 have hpos:=List.length_pos_of_mem hm
 exact ⟨h1,by show ((J7 [] m.to).length:Int)>=1; omega,by show ((J7 [] m.to).length:Int)<=10; simp at hlen; omega,fun x hx=>h4 x ((aik.1 hx).resolve_left (by simp)),h5,h6⟩
theorem aCn {m:l9} (h:Z7 m):Z7 (abm m):=by
 have hlen:=aiB (l:=m.to) (acc:=[])
 have:=h.2.1.1
 exact ⟨h.1,⟨by show (J7 [] m.to).length<=1049600; simp at hlen; omega,fun s hs=>h.2.1.2 s ((aik.1 hs).resolve_left (by simp))⟩,h.2.2⟩
end Go.Proofs.YtaapfgpeeghmeaaGreatDoor.Q

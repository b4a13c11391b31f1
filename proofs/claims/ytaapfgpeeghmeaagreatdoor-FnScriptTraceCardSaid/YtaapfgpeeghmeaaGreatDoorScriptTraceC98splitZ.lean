/- Contracts: a mail for each domain. -/
import Derived.Test.YtaapfgpeeghmeaaGreatDoorScriptTraceC97boxlawsZ
namespace Go.Proofs.YtaapfgpeeghmeaaGreatDoor.Q
open Go Go.AM
set_option linter.unusedSimpArgs false
set_option linter.unusedVariables false
set_option linter.unusedSectionVars false
theorem aoj (l:List z7):Go.AM.Rows 3 (vO l):=fun x hx=>by
 obtain ⟨b,_,rfl⟩:=List.mem_map.1 hx
 rfl
def HoM (v:V) (H:VH) (l:List z7):Prop:=(l=[]/\v = .sl true [])\/(l ≠ []/\∃ k,v = .l8 k 0 l.length 3/\H[k]? = some (vO l).flatten)
theorem HoM.ne {v:V} {H:VH} {l:List z7} (h:HoM v H l) (hne:l ≠ []):∃ k,v = .l8 k 0 l.length 3/\H[k]? = some (vO l).flatten:=by
 rcases h with ⟨h,_⟩ | ⟨_,h⟩
 ·exact absurd h hne
 ·exact h
theorem HoM.snoc {v:V} {H:VH} {l:List z7} (h:HoM v H l) (c:List V):HoM v (H++[c]) l:=by
 rcases h with h | ⟨hne,k,rfl,hk⟩
 ·exact .inl h
 ·exact .inr ⟨hne,k,rfl,by rw [List.getElem?_append_left (List.getElem?_eq_some_iff.1 hk).1]; exact hk⟩
section
variable {k i:Nat} {H:VH} {l:List z7} (hk:H[k]? = some (vO l).flatten) (hi:i<l.length)
include hk hi
end
theorem az3 {m:z7} (h:SmM m):SmM (adw m):=by
 have hlen:=apc (l:=m.to) (acc:=[])
 have:=h.2.1.1
 exact ⟨h.1,⟨by show (abG [] m.to).length<=1049600; simp at hlen; omega,fun s hs=>h.2.1.2 s ((apa.1 hs).resolve_left (by simp))⟩,h.2.2⟩
end Go.Proofs.YtaapfgpeeghmeaaGreatDoor.Q

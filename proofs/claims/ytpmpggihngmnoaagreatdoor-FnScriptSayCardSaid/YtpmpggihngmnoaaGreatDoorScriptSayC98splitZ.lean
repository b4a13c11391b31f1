/- Contracts: a mail for each domain. -/
import Derived.Test.YtpmpggihngmnoaaGreatDoorScriptSayC97boxlawsZ
namespace Go.Proofs.YtpmpggihngmnoaaGreatDoor.Q
open Go Go.AM
set_option linter.unusedSimpArgs false
set_option linter.unusedVariables false
set_option linter.unusedSectionVars false
def dmT (t : Bs) : Bs := cutZ 64 t
def dsT (tos : List Bs) : List Bs := normA [] (tos.map dmT)
def grpM (m : Mail) (tos : List Bs) (d : Bs) : Mail := ⟨m.from_, tos.filter (fun t => decide (dmT t = d)), m.lines⟩
def splL (m : Mail) (tos : List Bs) : List Mail := (dsT tos).map (grpM m tos)
def splR (m : Mail) : List Mail := if mailT m 1 30 = true then splL m (norM m).to else []
def sameD (t : Bs) (x : Mail) : Bool := decide (dmT (x.to.headD []) = dmT t)
def HoM (v : V) (H : VH) (l : List Mail) : Prop := (l = [] /\ v = .sl true []) ∨ (l ≠ [] /\ ∃ k, v = .obs k 0 l.length 3 /\ H[k]? = some (vO l).flatten)
theorem HoM.ne {v : V} {H : VH} {l : List Mail} (h : HoM v H l) (hne : l ≠ []) : ∃ k, v = .obs k 0 l.length 3 /\ H[k]? = some (vO l).flatten := by
 rcases h with ⟨h, _⟩ | ⟨_, h⟩
 ·exact absurd h hne
 ·exact h
theorem HoM.snoc {v : V} {H : VH} {l : List Mail} (h : HoM v H l) (c : List V) : HoM v (H ++ [c]) l := by
 rcases h with h | ⟨hne, k, rfl, hk⟩
 ·exact .inl h
 ·exact .inr ⟨hne, k, rfl, by rw [List.getElem?_append_left (List.getElem?_eq_some_iff.1 hk).1]; exact hk⟩
section
variable {k i : Nat} {H : VH} {l : List Mail} (hk : H[k]? = some (vO l).flatten) (hi : i < l.length)
include hk hi
end
def sumT (l : List Mail) : Nat := (l.map fun x => x.to.length).sum
end Go.Proofs.YtpmpggihngmnoaaGreatDoor.Q

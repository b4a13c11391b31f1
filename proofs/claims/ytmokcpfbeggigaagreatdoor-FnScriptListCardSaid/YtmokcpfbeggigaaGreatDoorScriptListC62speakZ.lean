/- Contracts: mails spoken as lines. -/
import Derived.Test.YtmokcpfbeggigaaGreatDoorScriptListC60hopsZ
namespace Go.Proofs.YtmokcpfbeggigaaGreatDoor.Q
open Go Go.AM
set_option linter.unusedSimpArgs false
set_option linter.unusedVariables false
set_option linter.unusedSectionVars false
theorem au9 {s:Bs} (h:aaE s=true):(∀ b ∈ s,wrB b.toNat=false)/\s.length<=30:=by
 simp only [aaE,Bool.and_eq_true,Bool.not_eq_true',List.any_eq_false,decide_eq_true_eq] at h
 refine ⟨fun b hb=>?_,h.1⟩
 rcases acg 46 s b hb with rfl | ⟨t,h1,h2⟩
 ·rfl
 ·have h3:N7 t=true:=by have:=h.2 t h1; simpa using this
  simp only [N7,Bool.and_eq_true,List.all_eq_true] at h3
  have h4:=h3.2 b h2
  simp only [N9,decide_eq_true_eq] at h4
  exact decide_eq_false (by omega)
theorem at3 {s:Bs} (h:aaD s=true):(∀ b ∈ s,wrB b.toNat=false)/\s.length<=40:=by
 simp only [aaD,Bool.and_eq_true,Bool.not_eq_true',List.any_eq_false,decide_eq_true_eq] at h
 refine ⟨fun b hb=>?_,h.1⟩
 rcases acg 46 s b hb with rfl | ⟨t,h1,h2⟩
 ·rfl
 ·have h3:abr t=true:=by have:=h.2 t h1; simpa using this
  simp only [abr,Bool.and_eq_true,List.all_eq_true] at h3
  have h4:=h3.2 b h2
  simp only [abl,decide_eq_true_eq] at h4
  exact decide_eq_false (by omega)
end Go.Proofs.YtmokcpfbeggigaaGreatDoor.Q

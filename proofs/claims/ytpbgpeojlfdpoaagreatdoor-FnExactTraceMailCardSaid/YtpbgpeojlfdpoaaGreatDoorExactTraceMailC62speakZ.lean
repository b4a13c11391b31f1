/- Contracts: mails spoken as lines. -/
import Derived.Test.YtpbgpeojlfdpoaaGreatDoorExactTraceMailC60hopsZ
namespace Go.Proofs.YtpbgpeojlfdpoaaGreatDoor.Q
open Go Go.AM
set_option linter.unusedSimpArgs false
set_option linter.unusedVariables false
set_option linter.unusedSectionVars false
theorem avo {s:Bs} (h:abi s=true):(∀ b ∈ s,wrB b.toNat=false)/\s.length<=30:=by
 simp only [abi,Bool.and_eq_true,Bool.not_eq_true',List.any_eq_false,decide_eq_true_eq] at h
 refine ⟨fun b hb=>?_,h.1⟩
 rcases aeM 46 s b hb with rfl | ⟨t,h1,h2⟩
 ·rfl
 ·have h3:U7 t=true:=by have:=h.2 t h1; simpa using this
  simp only [U7,Bool.and_eq_true,List.all_eq_true] at h3
  have h4:=h3.2 b h2
  simp only [abA,decide_eq_true_eq] at h4
  exact decide_eq_false (by omega)
theorem auE {s:Bs} (h:U2 s=true):(∀ b ∈ s,wrB b.toNat=false)/\s.length<=40:=by
 simp only [U2,Bool.and_eq_true,Bool.not_eq_true',List.any_eq_false,decide_eq_true_eq] at h
 refine ⟨fun b hb=>?_,h.1⟩
 rcases aeM 46 s b hb with rfl | ⟨t,h1,h2⟩
 ·rfl
 ·have h3:acW t=true:=by have:=h.2 t h1; simpa using this
  simp only [acW,Bool.and_eq_true,List.all_eq_true] at h3
  have h4:=h3.2 b h2
  simp only [abM,decide_eq_true_eq] at h4
  exact decide_eq_false (by omega)
theorem asl {s:Bs} (h:L6 s=true):(∀ b ∈ s,wrB b.toNat=false)/\s.length<=71:=by
 simp only [L6,Bool.and_eq_true,decide_eq_true_eq] at h
 have hc:=ajH h.1
 have h1:=avo h.2.1
 have h2:=auE h.2.2
 constructor
 ·intro b hb
  rw [hc] at hb
  rcases List.mem_append.1 hb with hb | hb
  ·rcases List.mem_append.1 hb with hb | hb
   ·exact h1.1 b hb
   ·simp at hb; subst hb; rfl
  ·exact h2.1 b hb
 ·have:=congrArg List.length hc
  simp at this; omega
end Go.Proofs.YtpbgpeojlfdpoaaGreatDoor.Q

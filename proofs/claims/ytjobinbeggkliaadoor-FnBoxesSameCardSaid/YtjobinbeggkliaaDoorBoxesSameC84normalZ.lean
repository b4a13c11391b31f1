/- Contracts and laws: drawn sessions that are the same; mails without repeated names. -/
import Derived.Test.YtjobinbeggkliaaDoorBoxesSameC74sayimplZ
namespace Go.Proofs.YtjobinbeggkliaaDoor.Q
open Go Go.AM
set_option linter.unusedSimpArgs false
set_option linter.unusedVariables false
set_option linter.unusedSectionVars false
def normA : List Bs → List Bs → List Bs
  | acc, [] => acc
  | acc, t :: l => normA (if t ∈ acc then acc else acc ++ [t]) l
def norM (m : Mail) : Mail := ⟨m.from_, normA [] m.to, m.lines⟩
def norR (m : Mail) : Mail := if mailT m 1 30 = true then norM m else ⟨[], [], []⟩
theorem normA_mem : ∀ {l acc : List Bs} {x : Bs}, x ∈ normA acc l ↔ x ∈ acc ∨ x ∈ l
  | [], acc, x => by simp [normA]
  | t :: l, acc, x => by
    rw [normA, normA_mem]
    by_cases h : t ∈ acc
    · rw [if_pos h]
      constructor
      · rintro (h1 | h1)
        · exact .inl h1
        · exact .inr (List.mem_cons_of_mem _ h1)
      · rintro (h1 | h1)
        · exact .inl h1
        · rcases List.mem_cons.1 h1 with h1 | h1
          · rw [h1]; exact .inl h
          · exact .inr h1
    · rw [if_neg h]
      simp only [List.mem_append, List.mem_cons, List.not_mem_nil, or_false]
      constructor
      · rintro ((h1 | h1) | h1)
        · exact .inl h1
        · exact .inr (.inl h1)
        · exact .inr (.inr h1)
      · rintro (h1 | h1 | h1)
        · exact .inl (.inl h1)
        · exact .inl (.inr h1)
        · exact .inr h1
theorem normA_len : ∀ {l acc : List Bs}, acc.length ≤ (normA acc l).length ∧ (normA acc l).length ≤ acc.length + l.length
  | [], acc => by simp [normA]
  | t :: l, acc => by
    rw [normA]
    have h := normA_len (l := l) (acc := if t ∈ acc then acc else acc ++ [t])
    have h2 : acc.length ≤ (if t ∈ acc then acc else acc ++ [t]).length ∧ (if t ∈ acc then acc else acc ++ [t]).length ≤ acc.length + 1 := by split <;> simp
    simp only [List.length_cons]
    omega
theorem normA_nodup : ∀ {l acc : List Bs}, acc.Nodup → (normA acc l).Nodup
  | [], acc, h => h
  | t :: l, acc, h => by
    rw [normA]
    refine normA_nodup ?_
    split
    · exact h
    · rename_i ht
      rw [List.nodup_append]
      refine ⟨h, by simp, fun a ha b hb => ?_⟩
      simp at hb; subst hb
      rintro rfl
      exact ht ha
theorem normA_id : ∀ {l acc : List Bs}, (acc ++ l).Nodup → normA acc l = acc ++ l
  | [], acc, h => by simp [normA]
  | t :: l, acc, h => by
    have ht : t ∉ acc := fun hm => by
      rw [List.nodup_append] at h
      exact h.2.2 t hm t (by simp) rfl
    rw [normA, if_neg ht, normA_id (by simpa using h)]
    simp
theorem normA_one {l : List Bs} {x : Bs} (h : x ∈ l) : (normA [] l).count x = 1 := by
  have hm : x ∈ normA [] l := normA_mem.2 (.inr h)
  have hn : (normA [] l).Nodup := normA_nodup (by simp)
  rw [hn.count, if_pos hm]
def AsM (v : V) (m : Mail) : Prop := ∃ x y, v = .agg [.str m.from_, x, y] ∧ strip x = .sl false (vT m.to) ∧ strip y = .sl false (vT m.lines)
theorem strip_str {v : V} {s : Bs} (h : strip v = .str s) : v = .str s := by
  cases v <;> simp only [strip] at h <;> first | exact h | cases h
theorem stripLL_vT : ∀ {xs : List (List V)} {l : List Bs}, stripLL xs = vT l → xs = vT l
  | [], [], _ => rfl
  | [], _ :: _, h => by cases h
  | _ :: _, [], h => by cases h
  | x :: xs, s :: l, h => by
    simp only [stripLL, vT, List.map_cons, List.cons.injEq] at h
    obtain ⟨h1, h2⟩ := h
    have e1 : x = [.str s] := by
      cases x with
      | nil => cases h1
      | cons v x =>
        simp only [stripL, List.cons.injEq] at h1
        cases x with
        | nil => rw [strip_str h1.1]
        | cons w x => simp [stripL] at h1
    have e2 := stripLL_vT (xs := xs) (l := l) h2
    rw [e1, e2]; rfl
theorem strip_sl {v : V} {l : List Bs} (h : strip v = .sl false (vT l)) : ∃ o, v = .sl o (vT l) := by
  cases v with
  | sl o xs =>
    simp only [strip, V.sl.injEq, true_and] at h
    exact ⟨o, by rw [stripLL_vT h]⟩
  | _ => simp [strip] at h


end Go.Proofs.YtjobinbeggkliaaDoor.Q

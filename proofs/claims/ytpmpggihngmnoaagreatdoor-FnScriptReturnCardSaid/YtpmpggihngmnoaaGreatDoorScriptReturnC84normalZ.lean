/- Contracts and laws: drawn sessions that are the same; mails without repeated names. -/
import Derived.Test.YtpmpggihngmnoaaGreatDoorScriptReturnC80sayallZ
namespace Go.Proofs.YtpmpggihngmnoaaGreatDoor.Q
open Go Go.AM
set_option linter.unusedSimpArgs false
set_option linter.unusedVariables false
set_option linter.unusedSectionVars false
def normA : List Bs -> List Bs -> List Bs
 | acc, [] => acc
 | acc, t :: l => normA (if t ∈ acc then acc else acc ++ [t]) l
def norM (m : Mail) : Mail := ⟨m.from_, normA [] m.to, m.lines⟩
def norR (m : Mail) : Mail := if mailT m 1 30 = true then norM m else ⟨[], [], []⟩
theorem normA_mem : ∀ {l acc : List Bs} {x : Bs}, x ∈ normA acc l ↔ x ∈ acc ∨ x ∈ l
 | [], acc, x => by simp [normA]
 | t :: l, acc, x => by
   rw [normA, normA_mem]
   by_cases h : t ∈ acc
   ·rw [if_pos h]
    constructor
    ·rintro (h1 | h1)
     ·exact .inl h1
     ·exact .inr (List.mem_cons_of_mem _ h1)
    ·rintro (h1 | h1)
     ·exact .inl h1
     ·rcases List.mem_cons.1 h1 with h1 | h1
      ·rw [h1]; exact .inl h
      ·exact .inr h1
   ·rw [if_neg h]
    simp only [List.mem_append, List.mem_cons, List.not_mem_nil, or_false]
    constructor
    ·rintro ((h1 | h1) | h1)
     ·exact .inl h1
     ·exact .inr (.inl h1)
     ·exact .inr (.inr h1)
    ·rintro (h1 | h1 | h1)
     ·exact .inl (.inl h1)
     ·exact .inl (.inr h1)
     ·exact .inr h1
theorem normA_len : ∀ {l acc : List Bs}, acc.length <= (normA acc l).length /\ (normA acc l).length <= acc.length + l.length
 | [], acc => by simp [normA]
 | t :: l, acc => by
   rw [normA]
   have h := normA_len (l := l) (acc := if t ∈ acc then acc else acc ++ [t])
   have h2 : acc.length <= (if t ∈ acc then acc else acc ++ [t]).length /\ (if t ∈ acc then acc else acc ++ [t]).length <= acc.length + 1 := by split <;> simp
   simp only [List.length_cons]
   omega
def AsM (v : V) (m : Mail) : Prop := ∃ x y, v = .agg [.str m.from_, x, y] /\ strip x = .sl false (vT m.to) /\ strip y = .sl false (vT m.lines)
theorem IndexT_c (l : List Bs) (t : Bs) (hl : l.length <= 1000000000) : qc id_slices_Index___string_string_ [.sl false (vT l), .str t] = some (.int .i64 (if l.any (fun s => decide (t = s)) = true then ((l.findIdx (fun s => decide (t = s)) : Nat) : Int) else -1)) := by
 refine qc_of (H := []) ?_ (by simp only [evv]) rfl
 show cv _ _ _ = _
 rw [slices_Index___string_string__eq]
 have loop := lv_first (B := slices_Index___string_string__l2) (S := fun i => [.sl false (vT l), .str t, .int .i64 l.length, .int .i64 (i : Nat)]) (H := []) (m0 := 0) (m1 := 1) (vs0 := []) l (fun s => decide (t = s))
  (fun i hi => by
   have i1 := vT_idx false l .i64 i hi
   have e2 : vBinV (.int .i64) .add (.int .i64 (i : Int)) (.int .i64 1) = some (.int .i64 ((i + 1 : Nat) : Int)) := n_addN _ i 1 (by omega)
   rw [slices_Index___string_string__l2_eq]
   simp only [evv, i1, e2, show ((i : Int) < (l.length : Int)) from by omega])
  (by
   rw [slices_Index___string_string__l2_eq]
   simp only [evv, show ¬ ((l.length : Int) < (l.length : Int)) from by omega])
 have loop' : lpW' slices_Index___string_string__l2 [.sl false (vT l), .str t, .int .i64 l.length, .int .i64 0] [] = _ := loop
 simp only [evv, loop']
 by_cases h : l.any (fun s => decide (t = s)) = true <;> simp only [evv, h]
theorem any_mem (l : List Bs) (t : Bs) : (l.any fun s => decide (t = s)) = decide (t ∈ l) := by
 rw [Bool.eq_iff_iff, List.any_eq_true, decide_eq_true_eq]
 constructor
 ·rintro ⟨s, h1, h2⟩; rw [of_decide_eq_true h2]; exact h1
 ·intro h; exact ⟨t, h, decide_eq_true rfl⟩
theorem ContainsT_c (l : List Bs) (t : Bs) (hl : l.length <= 1000000000) : qc id_slices_Contains___string_string_ [.sl false (vT l), .str t] = some (.bool (decide (t ∈ l))) := by
 have e1 := IndexT_c l t hl
 refine qc_of (H := []) ?_ (by simp only [evv]) rfl
 show cv _ _ _ = _
 rw [slices_Contains___string_string__eq]
 simp only [evv, e1]
 rw [<- any_mem]
 by_cases h : (l.any fun s => decide (t = s)) = true
 ·simp only [h, if_true]
  rw [decide_eq_true (show (((l.findIdx (fun s => decide (t = s)) : Nat) : Int) ≥ 0) from by omega)]
 ·have h' : (l.any fun s => decide (t = s)) = false := by
   cases hq : (l.any fun s => decide (t = s)) with
   | false => rfl
   | true => exact absurd hq h
  rw [h']
  rfl
theorem tk3 {G : VH} {f : Bs} {t ln : List Bs} : ldO globB true false 1 (.ptr G.length 1) (G ++ [[.str f, .sl true (vT t), .sl true (vT ln)]]) = some (.sl true (vT t), G ++ [[.str f, .sl false (vT t), .sl true (vT ln)]]) := by
 have l1 := ld_take (g := globB) (off := 1) (get_last G [.str f, .sl true (vT t), .sl true (vT ln)]) rfl
 rw [set_end] at l1
 rw [l1]
 simp only [strip, vT_strip]
 rfl
theorem ld3 {G : VH} {f : Bs} {t ln : List Bs} : ldO globB false false 1 (.ptr G.length 1) (G ++ [[.str f, .sl true (vT t), .sl true (vT ln)]]) = some (.sl false (vT t), G ++ [[.str f, .sl true (vT t), .sl true (vT ln)]]) :=
 lp_cell (get_last G _) rfl (by simp only [strip, vT_strip])
theorem st3 {G : VH} {f : Bs} {t t2 ln : List Bs} : stO (.ptr G.length 1) [.sl true (vT t2)] (G ++ [[.str f, .sl false (vT t), .sl true (vT ln)]]) = some (G ++ [[.str f, .sl true (vT t2), .sl true (vT ln)]]) := by
 rw [sp_cell (get_last G _) (by simp), set_end]; rfl
theorem ini3 {G : VH} {f : Bs} {ln : List Bs} : stO (.ptr G.length 0) [.str f, .sl true [], .sl true (vT ln)] (G ++ [[.str [], .sl true [], .sl true []]]) = some (G ++ [[.str f, .sl true (vT []), .sl true (vT ln)]]) := by
 have e := st_all (get_last G [.str [], .sl true [], .sl true []]) (c := [.str f, .sl true [], .sl true (vT ln)]) rfl
 rw [set_end] at e
 exact e
theorem all3 {G : VH} {f : Bs} {t ln : List Bs} : ldO globB true true 3 (.ptr G.length 0) (G ++ [[.str f, .sl true (vT t), .sl true (vT ln)]]) = some (.agg [.str f, .sl true (vT t), .sl true (vT ln)], G ++ [stripL [.str f, .sl true (vT t), .sl true (vT ln)]]) := by
 have l1 := ld_all (g := globB) (n := 3) (get_last G [.str f, .sl true (vT t), .sl true (vT ln)]) rfl
 rw [set_end] at l1
 exact l1
theorem impl_normalMail_g (m : Mail) (v : V) (H : VH) (hv : AsM v m) (h : SmM m) : Gets2 (cv id_impl_normalMail [v] H) (fun r H' => r = .agg (cO (norM m)) /\ Lg H H') := by
 obtain ⟨x, y, rfl, hx, hy⟩ := hv
 have hl := h.2.1.1
 have e1 := CloneT_c m.lines (by have := h.2.2.1; omega)
 refine Gets2.of ?_
 rw [impl_normalMail_eq]
 simp only [evv, hx, hy, e1, ini3]
 refine Gets.loop2 (I := fun n st G => ∃ (i : Nat) (acc : List Bs), n = m.to.length - i /\ i <= m.to.length /\ st = [.ptr H.length 0, .sl false (vT m.to), .int .i64 (m.to.length : Nat), .int .i64 (i : Nat), .str [], .sl true [], .sl true []] /\ G = H ++ [[.str m.from_, .sl true (vT acc), .sl true (vT m.lines)]] /\ normA acc (m.to.drop i) = normA [] m.to /\ acc.length <= i)
  (P := fun q vs G => q = 0 /\ vs = [.ptr H.length 0, .str [], .sl true [], .sl true []] /\ G = H ++ [[.str m.from_, .sl true (vT (normA [] m.to)), .sl true (vT m.lines)]]) (n := m.to.length) ?_ ⟨0, [], by omega, by omega, rfl, rfl, rfl, by simp⟩ ?_
 ·rintro n st G ⟨i, acc, rfl, hi, rfl, rfl, hn, ha⟩
  rw [impl_normalMail_l3_eq]
  by_cases hlt : i < m.to.length
  ·have i1 := vT_idx false m.to .i64 i hlt
   have e2 := ContainsT_c acc m.to[i] (by omega)
   have e3 : vBinV (.int .i64) .add (.int .i64 (i : Int)) (.int .i64 1) = some (.int .i64 ((i + 1 : Nat) : Int)) := n_addN _ i 1 (by omega)
   have ap := sl_app1 (l := acc) m.to[i] (by omega)
   rw [List.drop_eq_getElem_cons hlt, normA] at hn
   by_cases hm : m.to[i] ∈ acc
   ·rw [if_pos hm] at hn
    simp only [evv, i1, ld3, e2, hm, e3, show ((i : Int) < (m.to.length : Int)) from by omega]
    exact ⟨_, rfl, .inr ⟨rfl, m.to.length - (i + 1), by omega, i + 1, acc, rfl, by omega, rfl, rfl, hn, by omega⟩⟩
   ·rw [if_neg hm] at hn
    simp only [evv, i1, ld3, e2, hm, tk3, ap, st3, e3, show ((i : Int) < (m.to.length : Int)) from by omega]
    exact ⟨_, rfl, .inr ⟨rfl, m.to.length - (i + 1), by omega, i + 1, _, rfl, by omega, rfl, rfl, hn, by simp; omega⟩⟩
  ·have : i = m.to.length := by omega
   subst this
   rw [List.drop_length, normA] at hn
   subst hn
   simp only [evv, show ¬ ((m.to.length : Int) < (m.to.length : Int)) from by omega]
   exact ⟨_, rfl, .inl ⟨0, rfl, rfl, rfl, rfl⟩⟩
 rintro _ _ G ⟨rfl, rfl, rfl⟩
 simp only [evv, all3]
 exact Gets.here ⟨rfl, Lg.one _ _⟩
end Go.Proofs.YtpmpggihngmnoaaGreatDoor.Q

/- Contracts: a dialogue, as the program tells it. -/
import Derived.Test.YtjobinbeggkliaaDoorSplitMailC72sayZ
namespace Go.Proofs.YtjobinbeggkliaaDoor.Q
open Go Go.AM
set_option linter.unusedSimpArgs false
set_option linter.unusedVariables false
set_option linter.unusedSectionVars false
theorem CloneT_c (l : List Bs) (h : l.length ≤ 2000000) : pc id_slices_Clone___string_string_ [.sl false (vT l)] = some (.sl true (vT l)) := by
  have a1 : appV false 1 16 [] (.sl false (vT l)) = some (.sl true (vT ([] ++ l))) := v_app 1 16 [] false (vT l) rfl (vT_esz _) (by rw [vT_len]; simp; omega)
  rw [List.nil_append] at a1
  refine pc_of (H := []) ?_ (by simp only [evv, Nat.zero_add, if_true, if_false, decide_true, decide_false, Bool.false_eq_true, Bool.not_true, Bool.not_false]) (by simp only [evv, Nat.zero_add, if_true, if_false, decide_true, decide_false, Bool.false_eq_true, Bool.not_true, Bool.not_false])
  show cv _ _ _ = _
  rw [slices_Clone___string_string__eq]
  cases l with
  | nil =>
    have e : vNilEqV .eql (.sl false (vT [])) = some .ub := rfl
    have a2 : appV false 1 16 [] (.sl false (vT [])) = some (.sl true []) := a1
    simp only [evv, Nat.zero_add, if_true, if_false, decide_true, decide_false, Bool.false_eq_true, Bool.not_true, Bool.not_false, e, a2]
    rfl
  | cons a l =>
    have e : vNilEqV .eql (.sl false (vT (a :: l))) = some (.bool false) := rfl
    simp only [evv, Nat.zero_add, if_true, if_false, decide_true, decide_false, Bool.false_eq_true, Bool.not_true, Bool.not_false, e, a1]

/-! ### An object in the heap -/
theorem st_get {G : VH} {k : Nat} {cs : List V} (hk : k < G.length) : (G.set k cs)[k]? = some cs := by
  rw [List.getElem?_set, if_pos rfl, if_pos hk]
theorem ob_ld {g : Nat → Option (List V)} {G : VH} {k off : Nat} {cs : List V} {v u : V} (hk : k < G.length) (hv : cs[off]? = some v) (hu : strip v = u) : ldO g false false 1 (.ptr k off) (G.set k cs) = some (u, G.set k cs) := lp_cell (st_get hk) hv hu
theorem ob_tk {g : Nat → Option (List V)} {G : VH} {k off : Nat} {cs cs' : List V} {v : V} (hk : k < G.length) (hv : cs[off]? = some v) (hc : gseg cs off [strip v] = cs') : ldO g true false 1 (.ptr k off) (G.set k cs) = some (v, G.set k cs') := by
  rw [ld_take (st_get hk) hv, hc, List.set_set]
theorem ob_st {G : VH} {k off : Nat} {cs cs' c : List V} (hk : k < G.length) (ho : off + c.length ≤ cs.length) (hc : gseg cs off c = cs') : stO (.ptr k off) c (G.set k cs) = some (G.set k cs') := by
  rw [so_seg (st_get hk) ho, hc, List.set_set]
theorem ob_tka {g : Nat → Option (List V)} {G : VH} {k off n : Nat} {cs cs' c : List V} (hk : k < G.length) (hv : gcut cs off n = some c) (hc : gseg cs off (stripL c) = cs') : ldO g true true n (.ptr k off) (G.set k cs) = some (.agg c, G.set k cs') := by
  simp only [ldO, st_get hk, loadC, hv, Option.bind_some, Option.map_some, hc, List.set_set]


end Go.Proofs.YtjobinbeggkliaaDoor.Q

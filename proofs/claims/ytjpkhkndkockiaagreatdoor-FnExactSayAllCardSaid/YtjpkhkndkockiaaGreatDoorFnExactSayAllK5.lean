/- Part 5 of the machines: what is proved is told at each theorem; no condition. -/
import Derived.Test.YtjpkhkndkockiaaGreatDoorFnExactSayAllK4
/- Rows in objects: what calls see of them, what becomes of rows that calls give. -/
namespace Go.AM
set_option linter.unusedSimpArgs false
set_option linter.unusedVariables false
mutual
theorem frO_data (G : VH) : ∀ v : V, data v = true -> frO G v = strip v
 | .bool b, _ => rfl
 | .int k n, _ => rfl
 | .str s, _ => rfl
 | .nilp, _ => rfl
 | .nilf, _ => rfl
 | .ub, _ => rfl
 | .gp g off, h => by simp only [data] at h; cases h
 | .elt cs off, h => by simp only [data] at h; cases h
 | .ptr k off, h => by simp only [data] at h; cases h
 | .obs k off n e, h => by simp only [data] at h; cases h
 | .fn f cs, h => by simp only [data] at h; cases h
 | .sl ow xs, h => by simp only [data] at h; simp only [frO, strip, frOLL_data G xs h]
 | .agg cs, h => by simp only [data] at h; simp only [frO, strip, frOL_data G cs h]
 | .tup cs, h => by simp only [data] at h; simp only [frO, strip, frOL_data G cs h]
theorem frOL_data (G : VH) : ∀ l : List V, dataL l = true -> frOL G l = stripL l
 | [], _ => rfl
 | v :: l, h => by
   simp only [dataL, Bool.and_eq_true] at h
   simp only [frOL, stripL, frO_data G v h.1, frOL_data G l h.2]
theorem frOLL_data (G : VH) : ∀ l : List (List V), dataLL l = true -> frOLL G l = stripLL l
 | [], _ => rfl
 | v :: l, h => by
   simp only [dataLL, Bool.and_eq_true] at h
   simp only [frOLL, stripLL, frOL_data G v h.1, frOLL_data G l h.2]
end
theorem frD_data (d : Nat) (H : VH) (v : V) (h : data v = true) : frD d H v = strip v := by
 cases d with
 | zero => exact frO_data _ v h
 | succ d => exact frO_data _ v h
mutual
theorem noObs_data : ∀ v : V, data v = true -> noObs v = true
 | .bool b, _ => rfl
 | .int k n, _ => rfl
 | .str s, _ => rfl
 | .nilp, _ => rfl
 | .nilf, _ => rfl
 | .ub, _ => rfl
 | .gp g off, h => by simp only [data] at h; cases h
 | .elt cs off, h => by simp only [data] at h; cases h
 | .ptr k off, h => by simp only [data] at h; cases h
 | .obs k off n e, h => by simp only [data] at h; cases h
 | .fn f cs, h => by simp only [data] at h; cases h
 | .sl ow xs, h => by simp only [data] at h; simp only [noObs, noObsLL_data xs h]
 | .agg cs, h => by simp only [data] at h; simp only [noObs, noObsL_data cs h]
 | .tup cs, h => by simp only [data] at h; simp only [noObs, noObsL_data cs h]
theorem noObsL_data : ∀ l : List V, dataL l = true -> noObsL l = true
 | [], _ => rfl
 | v :: l, h => by
   simp only [dataL, Bool.and_eq_true] at h
   simp only [noObsL, noObs_data v h.1, noObsL_data l h.2, Bool.and_self]
theorem noObsLL_data : ∀ l : List (List V), dataLL l = true -> noObsLL l = true
 | [], _ => rfl
 | v :: l, h => by
   simp only [dataLL, Bool.and_eq_true] at h
   simp only [noObsLL, noObsL_data v h.1, noObsLL_data l h.2, Bool.and_self]
end
theorem dataL_app : ∀ {a b : List V}, dataL a = true -> dataL b = true -> dataL (a ++ b) = true
 | [], b, _, h => h
 | v :: a, b, h, g => by
   simp only [List.cons_append, dataL, Bool.and_eq_true] at h ⊢
   exact ⟨h.1, dataL_app h.2 g⟩
theorem dataL_flat : ∀ {r : List (List V)}, dataLL r = true -> dataL r.flatten = true
 | [], _ => rfl
 | x :: r, h => by
   simp only [dataLL, Bool.and_eq_true] at h
   rw [List.flatten_cons]
   exact dataL_app h.1 (dataL_flat h.2)
theorem stripL_app (a b : List V) : stripL (a ++ b) = stripL a ++ stripL b := by rw [stripL_map, stripL_map, stripL_map, List.map_append]
theorem stripL_flat : ∀ r : List (List V), stripL r.flatten = (stripLL r).flatten
 | [] => rfl
 | x :: r => by rw [List.flatten_cons, stripL_app, stripL_flat r]; rfl
def Rows (e : Nat) (r : List (List V)) : Prop := ∀ x ∈ r, x.length = e
theorem Rows.flat {e : Nat} : ∀ {r : List (List V)}, Rows e r -> r.flatten.length = r.length * e
 | [], _ => by simp
 | x :: r, h => by
   have h1 := h x (by simp)
   have h2 := Rows.flat (r := r) (fun y hy => h y (by simp [hy]))
   rw [List.flatten_cons, List.length_append, h1, h2, List.length_cons, Nat.succ_mul, Nat.add_comm]
theorem Rows.chunk {e : Nat} : ∀ {r : List (List V)}, Rows e r -> chunkV e r.length r.flatten = r
 | [], _ => rfl
 | x :: r, h => by
   have h1 := h x (by simp)
   have h2 := Rows.chunk (r := r) (fun y hy => h y (by simp [hy]))
   simp only [List.length_cons, chunkV, List.flatten_cons]
   rw [<- h1, List.take_left, List.drop_left, h1, h2]
theorem Rows.strip {e : Nat} {r : List (List V)} (h : Rows e r) : Rows e (stripLL r) := fun x hx => by
 rw [stripLL_map] at hx
 obtain ⟨y, hy, rfl⟩ := List.mem_map.1 hx
 rw [List.length_map]; exact h y hy
theorem Rows.get {e : Nat} {j : Nat} (hj : j < e) : ∀ {r : List (List V)} {i : Nat} {x : List V}, Rows e r -> r[i]? = some x -> r.flatten[i * e + j]? = x[j]?
 | [], i, x, _, h => by simp at h
 | y :: r, 0, x, hr, h => by
   simp at h; subst h
   have h1 := hr y (by simp)
   rw [List.flatten_cons, Nat.zero_mul, Nat.zero_add, List.getElem?_append_left (by omega)]
 | y :: r, i + 1, x, hr, h => by
   have h1 := hr y (by simp)
   simp at h
   rw [List.flatten_cons, List.getElem?_append_right (by rw [h1, Nat.succ_mul]; omega), h1]
   have : (i + 1) * e + j - e = i * e + j := by rw [Nat.succ_mul]; omega
   rw [this]
   exact Rows.get hj (fun z hz => hr z (by simp [hz])) h
theorem Rows.set {e : Nat} {j : Nat} (hj : j < e) {v : V} : ∀ {r : List (List V)} {i : Nat} {x : List V}, Rows e r -> r[i]? = some x -> gseg r.flatten (i * e + j) [v] = (r.set i (x.set j v)).flatten
 | [], i, x, _, h => by simp at h
 | y :: r, 0, x, hr, h => by
   simp at h; subst h
   have h1 := hr y (by simp)
   simp only [List.flatten_cons, Nat.zero_mul, Nat.zero_add, List.set_cons_zero, gseg, List.length_singleton]
   rw [List.take_append_of_le_length (by omega), List.drop_append_of_le_length (by omega), <- List.append_assoc]
   congr 1
   rw [List.set_eq_take_append_cons_drop, if_pos (by omega)]; simp
 | y :: r, i + 1, x, hr, h => by
   have h1 := hr y (by simp)
   simp at h
   have ih := Rows.set hj (v := v) (r := r) (i := i) (fun z hz => hr z (by simp [hz])) h
   simp only [gseg, List.length_singleton] at ih
   simp only [List.flatten_cons, List.set_cons_succ, gseg, List.length_singleton]
   have e1 : (i + 1) * e + j = y.length + (i * e + j) := by rw [Nat.succ_mul]; omega
   rw [e1, List.take_length_add_append, Nat.add_assoc, List.drop_length_add_append, List.append_assoc, List.append_assoc, <- ih, List.append_assoc]
theorem frD_obs (d : Nat) {H : VH} {k e : Nat} {r : List (List V)} (hk : H[k]? = some r.flatten) (hr : Rows e r) (hd : dataLL r = true) : frD d H (.obs k 0 r.length e) = .sl false (stripLL r) := by
 have fin : ∀ G : VH, G[k]? = some (stripL r.flatten) -> frO G (.obs k 0 r.length e) = .sl false (stripLL r) := fun G hG => by
  have h1 : G.getD k [] = (stripLL r).flatten := by rw [List.getD_eq_getElem?_getD, hG, stripL_flat]; rfl
  have h2 := hr.strip.flat
  rw [stripLL_len] at h2
  simp only [frO, h1]
  rw [gcut_mk (by omega)]
  simp only [List.drop_zero]
  rw [List.take_of_length_le (by omega)]
  have h3 := hr.strip.chunk
  rw [stripLL_len] at h3
  rw [h3]
 cases d with
 | zero =>
   refine fin _ ?_
   rw [List.getElem?_map, hk]; rfl
 | succ d =>
   refine fin _ ?_
   rw [List.getElem?_map, hk]
   simp only [Option.map_some]
   rw [stripL_map]
   congr 1
   have : ∀ {l : List V}, dataL l = true -> l.map (frD d H) = l.map strip := by
    intro l
    induction l with
    | nil => intro _; rfl
    | cons v l ih =>
      intro h
      simp only [dataL, Bool.and_eq_true] at h
      simp only [List.map_cons, frD_data d H v h.1, ih h.2]
   exact this (dataL_flat hd)
theorem qpcallO_n {call : CallV} {f : FuncId} {H : VH} {vs : List V} (h : noObsL vs = true) : qpcallO call f H vs = qpcall call f (vs.map (frz H)) := by unfold qpcallO; rw [h]
theorem qpcallO_o {call : CallV} {f : FuncId} {H : VH} {vs : List V} (h : noObsL vs = false) : qpcallO call f H vs = qpcall call f (vs.map (frD 3 H)) := by unfold qpcallO; rw [h]
theorem pcallO_n {call : CallV} {f : FuncId} {H : VH} {vs : List V} (h : noObsL vs = true) : pcallO call f H vs = pcall call f (vs.map (frz H)) := by unfold pcallO; rw [h]
theorem frz_data {H : VH} {v : V} (h : data v = true) : frz H v = strip v := by
 cases v <;> first | rfl | (simp only [data] at h; cases h)
theorem map_frz {H : VH} : ∀ {vs : List V}, dataL vs = true -> vs.map (frz H) = vs.map strip
 | [], _ => rfl
 | v :: vs, h => by
   simp only [dataL, Bool.and_eq_true] at h
   simp only [List.map_cons, frz_data h.1, map_frz h.2]
theorem map_frD {d : Nat} {H : VH} : ∀ {vs : List V}, dataL vs = true -> vs.map (frD d H) = vs.map strip
 | [], _ => rfl
 | v :: vs, h => by
   simp only [dataL, Bool.and_eq_true] at h
   simp only [List.map_cons, frD_data d H v h.1, map_frD h.2]
theorem qpcallO_d {call : CallV} {f : FuncId} {H : VH} {vs : List V} (h : dataL vs = true) : qpcallO call f H vs = qpcall call f (vs.map strip) := by rw [qpcallO_n (noObsL_data vs h), map_frz h]
theorem pcallO_d {call : CallV} {f : FuncId} {H : VH} {vs : List V} (h : dataL vs = true) : pcallO call f H vs = pcall call f (vs.map strip) := by rw [pcallO_n (noObsL_data vs h), map_frz h]
theorem setO_same {H : VH} {k : Nat} {cs : List V} (h : H[k]? = some cs) : H.set k cs = H := by
 apply List.ext_getElem?
 intro i
 rw [List.getElem?_set]
 split
 ·rename_i e
  subst e
  split
  ·exact h.symm
  ·rename_i hlt
   rw [List.getElem?_eq_none (by omega)]
 ·rfl
theorem ld_peek {g : Nat -> Option (List V)} {k off : Nat} {H : VH} {cs : List V} {v : V} (h : H[k]? = some cs) (hv : cs[off]? = some v) : ldO g false false 1 (.ptr k off) H = some (strip v, H) := by
 simp only [ldO, h, loadC, hv, Option.bind_some, Option.map_some, setO_same h]
theorem vi_obs {k n e i : Nat} {kk : IntKind} (h : i < n) : vIdxV e (.obs k 0 n e) (.int kk (i : Int)) = some (.ptr k (i * e)) := by
 simp only [vIdxV]
 rw [if_pos ⟨by omega, by omega, trivial⟩]
 simp
theorem gseg_set {cs : List V} {o : Nat} {v : V} (h : o < cs.length) : gseg cs o [v] = cs.set o v := by
 unfold gseg
 rw [List.set_eq_take_append_cons_drop, if_pos h]; simp
end Go.AM

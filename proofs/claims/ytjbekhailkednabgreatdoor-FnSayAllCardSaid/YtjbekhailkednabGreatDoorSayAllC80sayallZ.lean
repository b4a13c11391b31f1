/- Contracts and laws: many lines of a dialogue. -/
import Derived.Test.YtjbekhailkednabGreatDoorSayAllC76saylawZ
namespace Go.Proofs.YtjbekhailkednabGreatDoor.Q
open Go Go.AM
set_option linter.unusedSimpArgs false
set_option linter.unusedVariables false
def runF : Session → List Int → List Bs → Option (Session × List Int)
  | s, cs, [] => some (s, cs)
  | s, cs, l :: ls => if okB s l = true then runF (sayF s l).1 (if (sayF s l).2 = 0 then cs else cs ++ [(sayF s l).2]) ls else none
def allR (s : Session) (lines : List Bs) : Option (Session × List Int) := if sessT s = true then runF s [] lines else none
def allS (s : Session) (lines : List Bs) : Session := ((allR s lines).map Prod.fst).getD noS
def allC (s : Session) (lines : List Bs) : List Int := ((allR s lines).map Prod.snd).getD []
def allB (s : Session) (lines : List Bs) : Bool := (allR s lines).isSome
theorem runF_sz {n : Nat} : ∀ {lines : List Bs} {k : Nat} {s t : Session} {cs ds : List Int}, n ≤ k → SzS k s → (∀ l ∈ lines, l.length ≤ n) → runF s cs lines = some (t, ds) → SzS (k + lines.length) t
  | [], k, s, t, cs, ds, hk, hs, hl, h => by
    simp only [runF, Option.some.injEq, Prod.mk.injEq] at h
    rw [← h.1]; exact hs
  | l :: ls, k, s, t, cs, ds, hk, hs, hl, h => by
    simp only [runF] at h
    split at h
    · have h1 := sayF_sz (line := l) hs (by have := hl l (by simp); omega)
      have := runF_sz (k := k + 1) (by omega) h1 (fun q hq => hl q (by simp [hq])) h
      refine this.le ?_
      simp; omega
    · cases h
theorem runF_valid : ∀ {lines : List Bs} {s t : Session} {cs ds : List Int}, SOk s → runF s cs lines = some (t, ds) → SOk t
  | [], s, t, cs, ds, hs, h => by
    simp only [runF, Option.some.injEq, Prod.mk.injEq] at h
    rw [← h.1]; exact hs
  | l :: ls, s, t, cs, ds, hs, h => by
    simp only [runF] at h
    split at h
    · rename_i hb; exact runF_valid (hs.next hb) h
    · cases h
theorem runF_app : ∀ {a b : List Bs} {s : Session} {cs : List Int}, runF s cs (a ++ b) = (runF s cs a).bind fun r => runF r.1 r.2 b
  | [], b, s, cs => rfl
  | l :: a, b, s, cs => by
    simp only [List.cons_append, runF]
    split
    · exact runF_app
    · rfl
theorem runF_acc : ∀ {a : List Bs} {s : Session} {cs : List Int}, runF s cs a = (runF s [] a).map fun r => (r.1, cs ++ r.2)
  | [], s, cs => by simp [runF]
  | l :: a, s, cs => by
    simp only [runF]
    split
    · by_cases h : (sayF s l).2 = 0
      · rw [if_pos h, if_pos h]; exact runF_acc
      · rw [if_neg h, if_neg h, runF_acc (cs := cs ++ [(sayF s l).2]), runF_acc (cs := [] ++ [(sayF s l).2]), Option.map_map]
        congr 1
        funext r
        simp [Function.comp]
    · rfl
theorem runF_len : ∀ {a : List Bs} {s t : Session} {cs ds : List Int}, runF s cs a = some (t, ds) → ds.length ≤ cs.length + a.length ∧ t.done.length ≤ s.done.length + a.length
  | [], s, t, cs, ds, h => by
    simp only [runF, Option.some.injEq, Prod.mk.injEq] at h
    rw [← h.1, ← h.2]; simp
  | l :: a, s, t, cs, ds, h => by
    simp only [runF] at h
    split at h
    · have h1 := runF_len h
      have h2 := (sayF_done s l).2
      have h3 : (if (sayF s l).2 = 0 then cs else cs ++ [(sayF s l).2]).length ≤ cs.length + 1 := by split <;> simp
      simp only [List.length_cons]
      omega
    · cases h
theorem ints_app {l : List Int} (c : Int) (h : l.length + 1 ≤ 4000000) : appV false 1 8 (vI .i64 l) (.sl true [[.int .i64 c]]) = some (.sl true (vI .i64 (l ++ [c]))) := by
  have := v_app 1 8 (vI .i64 l) true (vI .i64 [c]) (vI_esz _ _) (vI_esz _ _) (by rw [vI_len, vI_len]; simp; omega)
  rw [show vI .i64 l ++ vI .i64 [c] = vI .i64 (l ++ [c]) from by simp [vI]] at this
  exact this

theorem impl_SayAll_c {m : Nat} (s : Session) (lines : List Bs) (hs : SzS m s) (hm : m + lines.length ≤ 1000000) (hl : ∀ l ∈ lines, l.length ≤ m) : pc id_impl_SayAll [.agg (cS s), .sl false (vT lines)] = some (.tup [.agg (cSo (allS s lines)), .sl true (vI .i64 (allC s lines)), .bool (allB s lines)]) := by
  have hsm := hs.sm (by omega)
  have e1 := impl_SessionValid_c s hsm
  have e2 := copySession_c s hsm
  simp only [cS_e, cSo_e] at e1 e2
  suffices hg : Gets (cv id_impl_SayAll [.agg (cS s), .sl false (vT lines)] []) fun r => r.1 = .tup [.agg (cSo (allS s lines)), .sl true (vI .i64 (allC s lines)), .bool (allB s lines)] by
    obtain ⟨⟨v, H⟩, e, h⟩ := hg
    have h : v = _ := h
    subst h
    exact pc_of e (by simp only [evv, Nat.zero_add, if_true, if_false, decide_true, decide_false, Bool.false_eq_true, Bool.not_true, Bool.not_false]) (by simp only [evv, Nat.zero_add, if_true, if_false, decide_true, decide_false, Bool.false_eq_true, Bool.not_true, Bool.not_false, cSo_e, vO_data])
  rw [impl_SayAll_eq]
  unfold allS allC allB allR
  by_cases h1 : sessT s = true
  · rw [if_pos h1]
    have s1 : stO (.ptr ([] : VH).length 0) [.int .i64 s.state, .str s.host, .str s.draft.from_, .sl true (vT s.draft.to), .sl true (vT s.draft.lines), .sl true (vO s.done)] [[(.int .i64 0), (.str []), (.str []), (.sl true []), (.sl true []), (.sl true [])]] = some [cSo s] := rfl
    simp only [evv, Nat.zero_add, if_true, if_false, decide_true, decide_false, Bool.false_eq_true, Bool.not_true, Bool.not_false, e1, h1, e2, s1]
    refine Gets.loop2 (I := fun n st G => ∃ (i : Nat) (t : Session) (cs : List Int), n = lines.length - i ∧ i ≤ lines.length ∧ st = [.ptr ([] : VH).length 0, .sl true (vI .i64 cs), .sl false (vT lines), .int .i64 (lines.length : Nat), .int .i64 (i : Nat), .int .i64 0, .str [], .str [], .sl true [], .sl true [], .sl true []] ∧ G = [cSo t] ∧ runF s [] lines = runF t cs (lines.drop i) ∧ SzS (m + i) t ∧ cs.length ≤ i)
      (P := fun q vs G => (∃ (t : Session) (cs : List Int), q = 0 ∧ vs = [.ptr ([] : VH).length 0, .sl true (vI .i64 cs), .int .i64 0, .str [], .str [], .sl true [], .sl true [], .sl true []] ∧ G = [cSo t] ∧ runF s [] lines = some (t, cs)) ∨ (q = 1 ∧ vs = [.sl true [], .bool false, .int .i64 0, .str [], .str [], .sl true [], .sl true [], .sl true []] ∧ runF s [] lines = none)) (n := lines.length) ?_ ⟨0, s, [], by omega, by omega, rfl, rfl, rfl, hs, by simp⟩ ?_
    · rintro n st G ⟨i, t, cs, rfl, hi, rfl, rfl, hr, ht, hc⟩
      rw [impl_SayAll_l5_eq]
      by_cases hlt : i < lines.length
      · have i1 := vT_idx false lines .i64 i hlt
        have hll := hl _ (List.getElem_mem hlt)
        have f := say_c t lines[i] [cSo t] 0 (by simp) (ht.sm (by omega)) (by omega)
        have hset : ∀ a b : List V, ([a] : VH).set 0 b = [b] := fun a b => rfl
        simp only [hset] at f
        have f' : cv id_impl_Session_say [.ptr ([] : VH).length 0, .str lines[i]] [cSo t] = _ := f
        have e3 : vBinV (.int .i64) .add (.int .i64 (i : Int)) (.int .i64 1) = some (.int .i64 ((i + 1 : Nat) : Int)) := n_addN _ i 1 (by omega)
        rw [List.drop_eq_getElem_cons hlt, runF] at hr
        by_cases hb : okB t lines[i] = true
        · rw [if_pos hb] at hr
          rw [hb] at f'
          simp only [if_true] at f'
          by_cases h0 : (sayF t lines[i]).2 = 0
          · rw [if_pos h0] at hr
            simp only [evv, Nat.zero_add, if_true, if_false, decide_true, decide_false, Bool.false_eq_true, Bool.not_true, Bool.not_false, i1, f', h0, e3, show ((i : Int) < (lines.length : Int)) from by omega]
            exact ⟨_, rfl, .inr ⟨rfl, lines.length - (i + 1), by omega, i + 1, _, cs, rfl, by omega, rfl, rfl, hr, sayF_sz (n := m + i) ht (by omega), by omega⟩⟩
          · rw [if_neg h0] at hr
            have ap := ints_app (l := cs) (sayF t lines[i]).2 (by omega)
            simp only [evv, Nat.zero_add, if_true, if_false, decide_true, decide_false, Bool.false_eq_true, Bool.not_true, Bool.not_false, i1, f', h0, e3, ap, show ((i : Int) < (lines.length : Int)) from by omega]
            exact ⟨_, rfl, .inr ⟨rfl, lines.length - (i + 1), by omega, i + 1, _, _, rfl, by omega, rfl, rfl, hr, sayF_sz (n := m + i) ht (by omega), by simp; omega⟩⟩
        · rw [if_neg hb] at hr
          have hb' : okB t lines[i] = false := by simpa using hb
          rw [hb'] at f'
          simp only [Bool.false_eq_true, if_false] at f'
          simp only [evv, Nat.zero_add, if_true, if_false, decide_true, decide_false, Bool.false_eq_true, Bool.not_true, Bool.not_false, i1, f', show ((i : Int) < (lines.length : Int)) from by omega]
          exact ⟨_, rfl, .inl ⟨1, rfl, .inr ⟨rfl, rfl, hr⟩⟩⟩
      · have : i = lines.length := by omega
        subst this
        rw [List.drop_length, runF] at hr
        simp only [evv, Nat.zero_add, if_true, if_false, decide_true, decide_false, Bool.false_eq_true, Bool.not_true, Bool.not_false, show ¬ ((lines.length : Int) < (lines.length : Int)) from by omega]
        exact ⟨_, rfl, .inl ⟨0, rfl, .inl ⟨t, cs, rfl, rfl, rfl, hr⟩⟩⟩
    rintro _ _ G (⟨t, cs, rfl, rfl, rfl, hr⟩ | ⟨rfl, rfl, hr⟩)
    · rw [hr]
      have l1 : ldO globB true true 6 (.ptr ([] : VH).length 0) [cSo t] = _ := ld_all (g := globB) (n := 6) (get_last [] (cSo t)) rfl
      simp only [cSo_e] at l1
      simp only [evv, Nat.zero_add, if_true, if_false, decide_true, decide_false, Bool.false_eq_true, Bool.not_true, Bool.not_false, cSo_e, l1, Option.map_some, Option.getD_some, Option.isSome_some]
      exact Gets.here rfl
    · rw [hr]
      simp only [evv, Nat.zero_add, if_true, if_false, decide_true, decide_false, Bool.false_eq_true, Bool.not_true, Bool.not_false]
      exact Gets.here rfl
  · have h1' : sessT s = false := by simpa using h1
    rw [if_neg h1]
    simp only [evv, Nat.zero_add, if_true, if_false, decide_true, decide_false, Bool.false_eq_true, Bool.not_true, Bool.not_false, e1, h1']
    exact Gets.here rfl

theorem l10RawSayAll_g {m : Nat} (s : Session) (v : V) (lines : List Bs) (H : VH) (hv : AsS v s) (hs : SzS m s) (hm : m + lines.length ≤ 1000000) (hl : ∀ l ∈ lines, l.length ≤ m) : Gets2 (cv id_spec_l10RawSayAll [v, .sl false (vT lines)] H) (fun r H' => ∃ u, r = .tup [u, .sl true (vI .i64 (allC s lines)), .bool (allB s lines)] ∧ AsS u (allS s lines) ∧ Lg H H') := by
  have hsm := hs.sm (by omega)
  have f := l10Copy_g s v H hv hsm
  obtain ⟨x, y, z, rfl, hx, hy, hz⟩ := hv
  have e1 := spec_SessionValid_c s hsm
  simp only [cS_e] at e1
  refine Gets2.of ?_
  rw [spec_l10RawSayAll_eq]
  unfold allS allC allB allR
  by_cases h1 : sessT s = true
  · rw [if_pos h1]
    simp only [evv, Nat.zero_add, if_true, if_false, decide_true, decide_false, Bool.false_eq_true, Bool.not_true, Bool.not_false, hx, hy, hz, e1, h1]
    refine f.bind ?_
    rintro _ G0 ⟨rfl, hG0⟩
    simp only [evv, Nat.zero_add, if_true, if_false, decide_true, decide_false, Bool.false_eq_true, Bool.not_true, Bool.not_false, cSo_e]
    refine Gets.loop2 (I := fun n st G => ∃ (i : Nat) (t : Session) (cs : List Int), n = lines.length - i ∧ i ≤ lines.length ∧ st = [.sl false (vT lines), .sl true (vI .i64 cs), .int .i64 (i : Nat), .int .i64 0, .str [], .str [], .sl true [], .sl true [], .sl true [], .int .i64 t.state, .str t.host, .str t.draft.from_, .sl true (vT t.draft.to), .sl true (vT t.draft.lines), .sl true (vO t.done)] ∧ Lg H G ∧ runF s [] lines = runF t cs (lines.drop i) ∧ SzS (m + i) t ∧ cs.length ≤ i ∧ sessT t = true)
      (P := fun q vs G => Lg H G ∧ ((∃ (t : Session) (cs : List Int), q = 0 ∧ vs = [.sl true (vI .i64 cs), .int .i64 0, .str [], .str [], .sl true [], .sl true [], .sl true [], .int .i64 t.state, .str t.host, .str t.draft.from_, .sl true (vT t.draft.to), .sl true (vT t.draft.lines), .sl true (vO t.done)] ∧ runF s [] lines = some (t, cs)) ∨ (q = 1 ∧ vs = [.sl true [], .bool false, .int .i64 0, .str [], .str [], .sl true [], .sl true [], .sl true []] ∧ runF s [] lines = none))) (n := lines.length) ?_ ⟨0, s, [], by omega, by omega, rfl, hG0, rfl, hs, by simp, h1⟩ ?_
    · rintro n st G ⟨i, t, cs, rfl, hi, rfl, hG, hr, ht, hc, hst⟩
      rw [spec_l10RawSayAll_l6_eq]
      by_cases hlt : i < lines.length
      · have i1 := vT_idx false lines .i64 i hlt
        have hll := hl _ (List.getElem_mem hlt)
        have f := spec_SayLine_g t (.agg (cSo t)) lines[i] G (AsS.own t) ht (by omega) (by omega)
        simp only [cSo_e] at f
        have e3 : vBinV (.int .i64) .add (.int .i64 (i : Int)) (.int .i64 1) = some (.int .i64 ((i + 1 : Nat) : Int)) := n_addN _ i 1 (by omega)
        rw [List.drop_eq_getElem_cons hlt, runF] at hr
        have hsb : sayB t lines[i] = okB t lines[i] := by unfold sayB okB; rw [hst, Bool.true_and]
        simp only [evv, Nat.zero_add, if_true, if_false, decide_true, decide_false, Bool.false_eq_true, Bool.not_true, Bool.not_false, i1, show ((i : Int) < (lines.length : Int)) from by omega]
        by_cases hb : okB t lines[i] = true
        · rw [if_pos hb] at hr
          have hS : sayS t lines[i] = (sayF t lines[i]).1 := by unfold sayS; rw [hsb, if_pos hb]
          have hN : sayN t lines[i] = (sayF t lines[i]).2 := by unfold sayN; rw [hsb, if_pos hb]
          have hV : sessT (sayF t lines[i]).1 = true := by rw [← hS]; exact say_valid (by rw [hsb]; exact hb)
          rw [hsb, hb, hS, hN] at f
          refine Gets.bind (P := fun r => ∃ (ds : List Int) (G : VH), r = (1, [.sl false (vT lines), .sl true (vI .i64 ds), .int .i64 (i : Nat), .int .i64 0, .str [], .str [], .sl true [], .sl true [], .sl true [], .int .i64 (sayF t lines[i]).1.state, .str (sayF t lines[i]).1.host, .str (sayF t lines[i]).1.draft.from_, .sl true (vT (sayF t lines[i]).1.draft.to), .sl true (vT (sayF t lines[i]).1.draft.lines), .sl true (vO (sayF t lines[i]).1.done)], G) ∧ Lg H G ∧ runF s [] lines = runF (sayF t lines[i]).1 ds (lines.drop (i + 1)) ∧ ds.length ≤ i + 1) ?_ ?_
          · refine f.bind ?_
            rintro _ G2 ⟨rfl, hG2⟩
            by_cases h0 : (sayF t lines[i]).2 = 0
            · rw [if_pos h0] at hr
              simp only [evv, Nat.zero_add, if_true, if_false, decide_true, decide_false, Bool.false_eq_true, Bool.not_true, Bool.not_false, h0]
              exact Gets.here ⟨cs, _, rfl, hG.trans hG2, hr, by omega⟩
            · rw [if_neg h0] at hr
              have ap := ints_app (l := cs) (sayF t lines[i]).2 (by omega)
              simp only [evv, Nat.zero_add, if_true, if_false, decide_true, decide_false, Bool.false_eq_true, Bool.not_true, Bool.not_false, h0, ap]
              exact Gets.here ⟨_, _, rfl, hG.trans hG2, hr, by simp; omega⟩
          · rintro _ ⟨ds, G2, rfl, hG2, hr2, hds⟩
            simp only [evv, Nat.zero_add, if_true, if_false, decide_true, decide_false, Bool.false_eq_true, Bool.not_true, Bool.not_false, e3]
            exact ⟨_, rfl, .inr ⟨rfl, lines.length - (i + 1), by omega, i + 1, _, _, rfl, by omega, rfl, hG2, hr2, sayF_sz (n := m + i) ht (by omega), hds, hV⟩⟩
        · rw [if_neg hb] at hr
          have hb' : okB t lines[i] = false := by simpa using hb
          rw [hsb, hb'] at f
          refine Gets.bind (P := fun r => ∃ G : VH, r = (0, [.sl true [], .bool false, .int .i64 0, .str [], .str [], .sl true [], .sl true [], .sl true []], G) ∧ Lg H G) ?_ ?_
          · refine f.bind ?_
            rintro _ G2 ⟨rfl, hG2⟩
            simp only [evv, Nat.zero_add, if_true, if_false, decide_true, decide_false, Bool.false_eq_true, Bool.not_true, Bool.not_false]
            exact Gets.here ⟨_, rfl, hG.trans hG2⟩
          · rintro _ ⟨G2, rfl, hG2⟩
            simp only [evv, Nat.zero_add, if_true, if_false, decide_true, decide_false, Bool.false_eq_true, Bool.not_true, Bool.not_false]
            exact ⟨_, rfl, .inl ⟨1, rfl, hG2, .inr ⟨rfl, rfl, hr⟩⟩⟩
      · have : i = lines.length := by omega
        subst this
        rw [List.drop_length, runF] at hr
        simp only [evv, Nat.zero_add, if_true, if_false, decide_true, decide_false, Bool.false_eq_true, Bool.not_true, Bool.not_false, show ¬ ((lines.length : Int) < (lines.length : Int)) from by omega]
        exact ⟨_, rfl, .inl ⟨0, rfl, hG, .inl ⟨t, cs, rfl, rfl, hr⟩⟩⟩
    rintro _ _ G ⟨hG, ⟨t, cs, rfl, rfl, hr⟩ | ⟨rfl, rfl, hr⟩⟩
    · rw [hr]
      simp only [evv, Nat.zero_add, if_true, if_false, decide_true, decide_false, Bool.false_eq_true, Bool.not_true, Bool.not_false, Option.map_some, Option.getD_some, Option.isSome_some]
      exact Gets.here ⟨_, rfl, AsS.own t, hG⟩
    · rw [hr]
      simp only [evv, Nat.zero_add, if_true, if_false, decide_true, decide_false, Bool.false_eq_true, Bool.not_true, Bool.not_false]
      exact Gets.here ⟨_, rfl, ⟨_, _, _, rfl, rfl, rfl, rfl⟩, hG⟩
  · have h1' : sessT s = false := by simpa using h1
    rw [if_neg h1]
    simp only [evv, Nat.zero_add, if_true, if_false, decide_true, decide_false, Bool.false_eq_true, Bool.not_true, Bool.not_false, hx, hy, hz, e1, h1']
    exact Gets.here ⟨_, rfl, ⟨_, _, _, rfl, rfl, rfl, rfl⟩, Lg.refl _⟩

theorem allS_sz {m : Nat} {s : Session} {lines : List Bs} (hs : SzS m s) (hl : ∀ l ∈ lines, l.length ≤ m) : SzS (m + lines.length) (allS s lines) ∧ (allC s lines).length ≤ lines.length := by
  unfold allS allC allR
  split
  · cases h : runF s [] lines with
    | none => exact ⟨SzS.none _, by simp⟩
    | some r =>
      obtain ⟨t, cs⟩ := r
      have := (runF_len h).1
      exact ⟨runF_sz (Nat.le_refl _) hs hl h, by simpa using this⟩
  · exact ⟨SzS.none _, by simp⟩
theorem spec_SayAll_g {m : Nat} (s : Session) (v : V) (lines : List Bs) (H : VH) (hv : AsS v s) (hs : SzS m s) (hm : m + lines.length ≤ 1000000) (hl : ∀ l ∈ lines, l.length ≤ m) : Gets2 (cv id_spec_SayAll [v, .sl false (vT lines)] H) (fun r H' => r = .tup [.agg (cSo (allS s lines)), .sl true (vI .i64 (allC s lines)), .bool (allB s lines)] ∧ Lg H H') := by
  have f := l10RawSayAll_g s v lines H hv hs hm hl
  obtain ⟨hz1, hz2⟩ := allS_sz hs hl
  obtain ⟨x, y, z, rfl, hx, hy, hz⟩ := hv
  refine Gets2.of ?_
  rw [spec_SayAll_eq]
  simp only [evv, Nat.zero_add, if_true, if_false, decide_true, decide_false, Bool.false_eq_true, Bool.not_true, Bool.not_false]
  refine f.bind ?_
  rintro _ G ⟨u, rfl, ⟨x, y, z, rfl, g1, g2, g3⟩, hG⟩
  have e1 := l13OwnSession_c (allS s lines) (hz1.sm (by omega))
  have ap : appV false 1 8 [] (.sl true (vI .i64 (allC s lines))) = some (.sl true ([] ++ vI .i64 (allC s lines))) := v_app 1 8 [] true (vI .i64 (allC s lines)) rfl (vI_esz _ _) (by rw [vI_len]; simp; omega)
  rw [List.nil_append] at ap
  simp only [cS_e, cSo_e] at e1
  simp only [evv, Nat.zero_add, if_true, if_false, decide_true, decide_false, Bool.false_eq_true, Bool.not_true, Bool.not_false, g1, g2, g3, e1, ap, cSo_e]
  exact Gets.here ⟨rfl, hG⟩

theorem mwInts_c (a b : List Int) (h : a.length ≤ 4000000) : qc id_laws_mwInts [.sl false (vI .i64 a), .sl false (vI .i64 b)] = some (.bool (decide (a = b))) := by
  refine qc_of (H := []) ?_ (by simp only [evv, Nat.zero_add, if_true, if_false, decide_true, decide_false, Bool.false_eq_true, Bool.not_true, Bool.not_false]) rfl
  show cv _ _ _ = _
  rw [laws_mwInts_eq]
  by_cases hl : a.length = b.length
  · have loop := lv_eq (B := laws_mwInts_l4) (S := fun i => [.sl false (vI .i64 a), .sl false (vI .i64 b), .int .i64 (i : Nat)]) (H := []) (m0 := 0) (m1 := 1) (vs0 := []) (vs1 := [.bool false]) a b hl
      (fun i hi => by
        have i1 := vI_idx false .i64 a .i64 i hi
        have i2 := vI_idx false .i64 b .i64 i (by omega)
        have e2 : vBinV (.int .i64) .add (.int .i64 (i : Int)) (.int .i64 1) = some (.int .i64 ((i + 1 : Nat) : Int)) := n_addN _ i 1 (by omega)
        rw [laws_mwInts_l4_eq]
        simp only [evv, Nat.zero_add, if_true, if_false, decide_true, decide_false, Bool.false_eq_true, Bool.not_true, Bool.not_false, i1, i2, e2, show ((i : Int) < (a.length : Int)) from by omega]
        by_cases e : a[i] = b[i] <;> simp only [evv, Nat.zero_add, if_true, if_false, decide_true, decide_false, Bool.false_eq_true, Bool.not_true, Bool.not_false, e])
      (by
        rw [laws_mwInts_l4_eq]
        simp only [evv, Nat.zero_add, if_true, if_false, decide_true, decide_false, Bool.false_eq_true, Bool.not_true, Bool.not_false, show ¬ ((a.length : Int) < (a.length : Int)) from by omega])
    have loop' : lpW' laws_mwInts_l4 [.sl false (vI .i64 a), .sl false (vI .i64 b), .int .i64 0] [] = _ := loop
    simp only [evv, Nat.zero_add, if_true, if_false, decide_true, decide_false, Bool.false_eq_true, Bool.not_true, Bool.not_false, hl, loop']
    by_cases e : a = b <;> simp only [evv, Nat.zero_add, if_true, if_false, decide_true, decide_false, Bool.false_eq_true, Bool.not_true, Bool.not_false, e]
  · have : a ≠ b := fun e => hl (by rw [e])
    simp only [evv, Nat.zero_add, if_true, if_false, decide_true, decide_false, Bool.false_eq_true, Bool.not_true, Bool.not_false, show ¬ ((a.length : Int) = (b.length : Int)) from by omega, this]

theorem DrawSayAll_g (xs : Bs) : Gets2 (cv id_spec_DrawSayAll [.sl false (vB xs)] []) (fun v H' => ∃ u s lines, v = .tup [u, .sl true (vT lines)] ∧ AsS u s ∧ SzS 230 s ∧ lines.length ≤ 5 ∧ ∀ l ∈ lines, l.length ≤ 200) := by
  refine Gets2.of ?_
  rw [spec_DrawSayAll_eq]
  refine Open_g.bind ?_
  rintro _ H0 ⟨rfl, R0⟩
  simp only [evv, Nat.zero_add, if_true, if_false, decide_true, decide_false, Bool.false_eq_true, Bool.not_true, Bool.not_false]
  refine (l10Draw_g R0 (by omega)).bind ?_
  rintro a H1 ⟨s1, a1, b1, R1⟩
  simp only [evv, Nat.zero_add, if_true, if_false, decide_true, decide_false, Bool.false_eq_true, Bool.not_true, Bool.not_false]
  refine (l10Wrong_g R1 (by omega) a1 b1 (by omega) (by omega)).bind ?_
  rintro c H2 ⟨s2, ⟨x, y, z, rfl, g1, g2, g3⟩, b2, R2⟩
  simp only [evv, Nat.zero_add, if_true, if_false, decide_true, decide_false, Bool.false_eq_true, Bool.not_true, Bool.not_false]
  refine (num_g R2 (by omega) (by decide)).bind ?_
  rintro _ H3 ⟨j, rfl, hj, R3⟩
  obtain ⟨j, rfl, hj⟩ : ∃ n : Nat, j = n ∧ n ≤ 5 := by
    simp only [unI, List.mem_cons, List.not_mem_nil, or_false] at hj
    rcases hj with rfl | rfl | rfl | rfl | rfl
    · exact ⟨3, rfl, by omega⟩
    · exact ⟨2, rfl, by omega⟩
    · exact ⟨5, rfl, by omega⟩
    · exact ⟨1, rfl, by omega⟩
    · exact ⟨0, rfl, by omega⟩
  simp only [evv, Nat.zero_add, if_true, if_false, decide_true, decide_false, Bool.false_eq_true, Bool.not_true, Bool.not_false]
  refine Gets.loop2 (I := fun n st H => n ≤ 5 ∧ ∃ ls, st = [.ptr 0 0, .sl true (vT ls), .int .i64 (n : Nat), .int .i64 0, .str [], .str [], .sl true [], .sl true [], .sl true [], .int .i64 s2.state, .str s2.host, .str s2.draft.from_, x, y, z] ∧ ls.length + n ≤ 5 ∧ (∀ l ∈ ls, l.length ≤ 200) ∧ Rd 0 (100 - n) H)
    (P := fun m vs H => ∃ ls, m = 0 ∧ vs = [.sl true (vT ls), .int .i64 0, .str [], .str [], .sl true [], .sl true [], .sl true [], .int .i64 s2.state, .str s2.host, .str s2.draft.from_, x, y, z] ∧ ls.length ≤ 5 ∧ ∀ l ∈ ls, l.length ≤ 200) (n := j) ?_ ⟨by omega, [], rfl, by simp; omega, by simp, R3.le (by omega)⟩ ?_
  · rintro n st H ⟨hn, ls, rfl, hls, hlm, R⟩
    rw [spec_DrawSayAll_l5_eq]
    by_cases h : n = 0
    · subst h
      simp only [evv, Nat.zero_add, if_true, if_false, decide_true, decide_false, Bool.false_eq_true, Bool.not_true, Bool.not_false]
      exact ⟨_, rfl, .inl ⟨_, rfl, ls, rfl, rfl, by omega, hlm⟩⟩
    · simp only [evv, Nat.zero_add, if_true, if_false, decide_true, decide_false, Bool.false_eq_true, Bool.not_true, Bool.not_false, show ((n : Nat) : Int) > 0 from by omega]
      refine (l10Line_g R (by omega)).bind ?_
      rintro _ H1 ⟨f, rfl, hf, R1⟩
      have a1 := sl_app1 (l := ls) f (by omega)
      have a2 : vBinV (.int .i64) .sub (.int .i64 (n : Int)) (.int .i64 1) = some (.int .i64 ((n - 1 : Nat) : Int)) := n_subN _ n 1 (by omega) (by omega)
      simp only [evv, Nat.zero_add, if_true, if_false, decide_true, decide_false, Bool.false_eq_true, Bool.not_true, Bool.not_false, a1, a2]
      refine ⟨_, rfl, .inr ⟨rfl, n - 1, by omega, by omega, _, rfl, by simp; omega, fun l hl => ?_, R1.le (by omega)⟩⟩
      rcases List.mem_append.1 hl with hl | hl
      · exact hlm l hl
      · simp at hl; subst hl; exact hf
  rintro _ _ H4 ⟨ls, rfl, rfl, hls, hlm⟩
  simp only [evv, Nat.zero_add, if_true, if_false, decide_true, decide_false, Bool.false_eq_true, Bool.not_true, Bool.not_false]
  exact Gets.here ⟨_, s2, ls, rfl, ⟨x, y, z, rfl, g1, g2, g3⟩, b2.le (by omega), hls, hlm⟩

theorem FnSayAll_v (u : V) (h : HasArg (.sl (.int .u8)) u) : ∃ H, cv id_laws_FnSayAll [u] [] = some (.bool true, H) := by
  obtain ⟨xs, rfl⟩ := argB h
  suffices hg : Gets (cv id_laws_FnSayAll [.sl false (vB xs)] []) fun r => r.1 = .bool true by
    obtain ⟨⟨v, H⟩, e, h⟩ := hg
    cases h
    exact ⟨H, e⟩
  rw [laws_FnSayAll_eq]
  simp only [evv, Nat.zero_add, if_true, if_false, decide_true, decide_false, Bool.false_eq_true, Bool.not_true, Bool.not_false, decide_eq_true_eq]
  refine Gets.ite (fun h => ?_) (fun h => ?_)
  · exact Gets.here rfl
  · refine (DrawSayAll_g xs).bind ?_
    rintro _ H1 ⟨_, s, lines, rfl, ⟨x, y, z, rfl, hx, hy, hz⟩, hs, hn, hl⟩
    have hl' : ∀ l ∈ lines, l.length ≤ 230 := fun l hm => by have := hl l hm; omega
    have f1 := impl_SayAll_c s lines hs (by omega) hl'
    have f2 := spec_SayAll_g s (.agg [.int .i64 s.state, .str s.host, .str s.draft.from_, x, y, z]) lines H1 ⟨x, y, z, rfl, hx, hy, hz⟩ hs (by omega) hl'
    obtain ⟨hS, hC⟩ := allS_sz hs hl'
    have hlA : ∀ l ∈ lines.take (lines.length / 2), l.length ≤ 230 := fun l hm => hl' l (List.mem_of_mem_take hm)
    have hlB : ∀ l ∈ lines.drop (lines.length / 2), l.length ≤ 235 := fun l hm => by have := hl' l (List.mem_of_mem_drop hm); omega
    have g1 := impl_SayAll_c s (lines.take (lines.length / 2)) hs (by simp; omega) hlA
    obtain ⟨hSA, hCA⟩ := allS_sz hs hlA
    have hSA' : SzS 235 (allS s (lines.take (lines.length / 2))) := hSA.le (by simp; omega)
    have g2 := impl_SayAll_c (allS s (lines.take (lines.length / 2))) (lines.drop (lines.length / 2)) hSA' (by simp; omega) hlB
    obtain ⟨hSB, hCB⟩ := allS_sz hSA' hlB
    have hv : allB s lines = true → allB s (lines.take (lines.length / 2)) = true ∧ allB (allS s (lines.take (lines.length / 2))) (lines.drop (lines.length / 2)) = true ∧ allS (allS s (lines.take (lines.length / 2))) (lines.drop (lines.length / 2)) = allS s lines ∧ allC s (lines.take (lines.length / 2)) ++ allC (allS s (lines.take (lines.length / 2))) (lines.drop (lines.length / 2)) = allC s lines := fun hb => by
      have hb' := hb
      unfold allB allR at hb'
      split at hb'
      · rename_i hs1
        have hrun : runF s [] lines = (runF s [] (lines.take (lines.length / 2))).bind fun r => runF r.1 r.2 (lines.drop (lines.length / 2)) := by
          rw [← runF_app, List.take_append_drop]
        cases hA : runF s [] (lines.take (lines.length / 2)) with
        | none => rw [hrun, hA] at hb'; cases hb'
        | some r =>
          obtain ⟨t, cs⟩ := r
          rw [hA, Option.bind_some] at hrun
          have ht : sessT t = true := (sOk_iff _).2 (runF_valid ((sOk_iff s).1 hs1) hA)
          have e1 : allR s (lines.take (lines.length / 2)) = some (t, cs) := by unfold allR; rw [if_pos hs1, hA]
          have e2 : allS s (lines.take (lines.length / 2)) = t := by unfold allS; rw [e1]; rfl
          rw [e2]
          simp only at hrun
          rw [runF_acc (s := t) (cs := cs)] at hrun
          cases hB : runF t [] (lines.drop (lines.length / 2)) with
          | none => rw [hrun, hB] at hb'; cases hb'
          | some r2 =>
            obtain ⟨t2, ds⟩ := r2
            rw [hB, Option.map_some] at hrun
            have e3 : allR t (lines.drop (lines.length / 2)) = some (t2, ds) := by unfold allR; rw [if_pos ht, hB]
            have e4 : allR s lines = some (t2, cs ++ ds) := by unfold allR; rw [if_pos hs1, hrun]
            unfold allB allS allC
            rw [e1, e3, e4]
            exact ⟨rfl, rfl, rfl, rfl⟩
      · cases hb'
    have q1 : vBinV (.int .i64) .quo (.int .i64 (lines.length : Int)) (.int .i64 2) = some (.int .i64 ((lines.length / 2 : Nat) : Int)) := n_quoN _ _ 2 (by omega) (by omega)
    have p1 := v_pre 1 false (vT lines) .i64 (lines.length / 2) (vT_esz _) (by rw [vT_len]; omega)
    have p2 := v_suf 1 false (vT lines) .i64 (lines.length / 2) (vT_esz _) (by rw [vT_len]; omega)
    rw [vT_take, vT_strip] at p1
    rw [vT_drop, vT_strip] at p2
    have hla5 : (lines.take (lines.length / 2)).length ≤ 5 := by simp; omega
    have hlb5 : (lines.drop (lines.length / 2)).length ≤ 5 := by simp; omega
    generalize allS s (lines.take (lines.length / 2)) = y1 at *
    generalize allC s (lines.take (lines.length / 2)) = ca at *
    generalize allB s (lines.take (lines.length / 2)) = ba at *
    generalize allS y1 (lines.drop (lines.length / 2)) = z1 at *
    generalize allC y1 (lines.drop (lines.length / 2)) = cb at *
    generalize allB y1 (lines.drop (lines.length / 2)) = bb at *
    generalize lines.take (lines.length / 2) = la at *
    generalize lines.drop (lines.length / 2) = lb at *
    generalize allS s lines = t at *
    generalize allC s lines = cs at *
    have m1 := impl_SessionSame_c t t (hS.sm (by omega))
    have i1 := mwInts_c cs cs (by omega)
    simp only [cS_e, cSo_e] at f1 f2 g1 g2 m1
    simp only [evv, Nat.zero_add, if_true, if_false, decide_true, decide_false, Bool.false_eq_true, Bool.not_true, Bool.not_false, hx, hy, hz, f1]
    refine f2.bind ?_
    rintro _ H2 ⟨rfl, -⟩
    by_cases hb : allB s lines = true
    · obtain ⟨k1, k2, k3, k4⟩ := hv hb
      subst k3
      subst k4
      have s1 : ∀ (G : VH) (q : Session), stO (.ptr G.length 0) [.int .i64 q.state, .str q.host, .str q.draft.from_, .sl true (vT q.draft.to), .sl true (vT q.draft.lines), .sl true (vO q.done)] (G ++ [[(.int .i64 0), (.str []), (.str []), (.sl true []), (.sl true []), (.sl true [])]]) = some (G ++ [cSo q]) := fun G q => by
        have e := st_all (get_last G [(.int .i64 0), (.str []), (.str []), (.sl true []), (.sl true []), (.sl true [])]) (c := cSo q) rfl
        rw [set_end] at e
        exact e
      have l1 : ∀ (G : VH) (q : Session), ldO globB false true 6 (.ptr G.length 0) (G ++ [cSo q]) = some (.agg [.int .i64 q.state, .str q.host, .str q.draft.from_, .sl false (vT q.draft.to), .sl false (vT q.draft.lines), .sl false (vR eM q.done)], G ++ [cSo q]) := fun G q => by
        have e : gcut (cSo q) 0 6 = some (cSo q) := rfl
        have e2 : stripL (cSo q) = [.int .i64 q.state, .str q.host, .str q.draft.from_, .sl false (vT q.draft.to), .sl false (vT q.draft.lines), .sl false (vR eM q.done)] := by simp only [cSo, stripL, strip, vT_strip, vO_strip]
        have e3 : (G ++ [cSo q])[G.length]? = some (cSo q) := get_last G _
        simp only [ldO, e3, loadC, e, Option.bind_some, Option.map_some, e2, set_end]
      have a1 : appV false 1 8 [] (.sl true (vI .i64 ca)) = some (.sl true ([] ++ vI .i64 ca)) := v_app 1 8 [] true (vI .i64 ca) rfl (vI_esz _ _) (by rw [vI_len]; simp; omega)
      rw [List.nil_append] at a1
      have a2 : appV false 1 8 (vI .i64 ca) (.sl true (vI .i64 cb)) = some (.sl true (vI .i64 ca ++ vI .i64 cb)) := v_app 1 8 (vI .i64 ca) true (vI .i64 cb) (vI_esz _ _) (vI_esz _ _) (by rw [vI_len, vI_len]; omega)
      rw [show vI .i64 ca ++ vI .i64 cb = vI .i64 (ca ++ cb) from by simp [vI]] at a2
      rw [k1] at g1
      rw [k2] at g2
      simp only [evv, Nat.zero_add, if_true, if_false, decide_true, decide_false, Bool.false_eq_true, Bool.not_true, Bool.not_false, hx, hy, hz, vO_strip, m1, i1, hb, q1, p1, p2, g1, s1, l1, g2, a1, a2]
      exact Gets.here rfl
    · simp only [evv, Nat.zero_add, if_true, if_false, decide_true, decide_false, Bool.false_eq_true, Bool.not_true, Bool.not_false, hx, hy, hz, vO_strip, m1, i1, hb]
      exact Gets.here rfl

end Go.Proofs.YtjbekhailkednabGreatDoor.Q

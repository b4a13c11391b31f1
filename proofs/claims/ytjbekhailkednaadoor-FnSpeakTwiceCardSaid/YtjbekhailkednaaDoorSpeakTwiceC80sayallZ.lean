/- Contracts and laws: many lines of a dialogue. -/
import Derived.Test.YtjbekhailkednaaDoorSpeakTwiceC76saylawZ
namespace Go.Proofs.YtjbekhailkednaaDoor.Q
open Go Go.AM
set_option linter.unusedSimpArgs false
set_option linter.unusedVariables false
def runF : Session → List Int → List Bs → Option (Session × List Int)
  | s, cs, [] => some (s, cs)
  | s, cs, l :: ls => if okB s l = true then runF (sayF s l).1 (if (sayF s l).2 = 0 then cs else cs ++ [(sayF s l).2]) ls else none
def allR (s : Session) (lines : List Bs) : Option (Session × List Int) := if sessT s = true then runF s [] lines else none
def allS (s : Session) (lines : List Bs) : Session := ((allR s lines).map Prod.fst).getD noS
def allC (s : Session) (lines : List Bs) : List Int := ((allR s lines).map Prod.snd).getD []
def allB (s : Session) (lines : List Bs) : Bool := (allR s lines).isSome
theorem runF_sz {n : Nat} : ∀ {lines : List Bs} {k : Nat} {s t : Session} {cs ds : List Int}, n ≤ k → SzS k s → (∀ l ∈ lines, l.length ≤ n) → runF s cs lines = some (t, ds) → SzS (k + lines.length) t
  | [], k, s, t, cs, ds, hk, hs, hl, h => by
    simp only [runF, Option.some.injEq, Prod.mk.injEq] at h
    rw [← h.1]; exact hs
  | l :: ls, k, s, t, cs, ds, hk, hs, hl, h => by
    simp only [runF] at h
    split at h
    · have h1 := sayF_sz (line := l) hs (by have := hl l (by simp); omega)
      have := runF_sz (k := k + 1) (by omega) h1 (fun q hq => hl q (by simp [hq])) h
      refine this.le ?_
      simp; omega
    · cases h
theorem runF_valid : ∀ {lines : List Bs} {s t : Session} {cs ds : List Int}, SOk s → runF s cs lines = some (t, ds) → SOk t
  | [], s, t, cs, ds, hs, h => by
    simp only [runF, Option.some.injEq, Prod.mk.injEq] at h
    rw [← h.1]; exact hs
  | l :: ls, s, t, cs, ds, hs, h => by
    simp only [runF] at h
    split at h
    · rename_i hb; exact runF_valid (hs.next hb) h
    · cases h
theorem runF_app : ∀ {a b : List Bs} {s : Session} {cs : List Int}, runF s cs (a ++ b) = (runF s cs a).bind fun r => runF r.1 r.2 b
  | [], b, s, cs => rfl
  | l :: a, b, s, cs => by
    simp only [List.cons_append, runF]
    split
    · exact runF_app
    · rfl
theorem runF_acc : ∀ {a : List Bs} {s : Session} {cs : List Int}, runF s cs a = (runF s [] a).map fun r => (r.1, cs ++ r.2)
  | [], s, cs => by simp [runF]
  | l :: a, s, cs => by
    simp only [runF]
    split
    · by_cases h : (sayF s l).2 = 0
      · rw [if_pos h, if_pos h]; exact runF_acc
      · rw [if_neg h, if_neg h, runF_acc (cs := cs ++ [(sayF s l).2]), runF_acc (cs := [] ++ [(sayF s l).2]), Option.map_map]
        congr 1
        funext r
        simp [Function.comp]
    · rfl
theorem runF_len : ∀ {a : List Bs} {s t : Session} {cs ds : List Int}, runF s cs a = some (t, ds) → ds.length ≤ cs.length + a.length ∧ t.done.length ≤ s.done.length + a.length
  | [], s, t, cs, ds, h => by
    simp only [runF, Option.some.injEq, Prod.mk.injEq] at h
    rw [← h.1, ← h.2]; simp
  | l :: a, s, t, cs, ds, h => by
    simp only [runF] at h
    split at h
    · have h1 := runF_len h
      have h2 := (sayF_done s l).2
      have h3 : (if (sayF s l).2 = 0 then cs else cs ++ [(sayF s l).2]).length ≤ cs.length + 1 := by split <;> simp
      simp only [List.length_cons]
      omega
    · cases h
theorem ints_app {l : List Int} (c : Int) (h : l.length + 1 ≤ 4000000) : appV false 1 8 (vI .i64 l) (.sl true [[.int .i64 c]]) = some (.sl true (vI .i64 (l ++ [c]))) := by
  have := v_app 1 8 (vI .i64 l) true (vI .i64 [c]) (vI_esz _ _) (vI_esz _ _) (by rw [vI_len, vI_len]; simp; omega)
  rw [show vI .i64 l ++ vI .i64 [c] = vI .i64 (l ++ [c]) from by simp [vI]] at this
  exact this

theorem impl_SayAll_c {m : Nat} (s : Session) (lines : List Bs) (hs : SzS m s) (hm : m + lines.length ≤ 1000000) (hl : ∀ l ∈ lines, l.length ≤ m) : pc id_impl_SayAll [.agg (cS s), .sl false (vT lines)] = some (.tup [.agg (cSo (allS s lines)), .sl true (vI .i64 (allC s lines)), .bool (allB s lines)]) := by
  have hsm := hs.sm (by omega)
  have e1 := impl_SessionValid_c s hsm
  have e2 := copySession_c s hsm
  simp only [cS_e, cSo_e] at e1 e2
  suffices hg : Gets (cv id_impl_SayAll [.agg (cS s), .sl false (vT lines)] []) fun r => r.1 = .tup [.agg (cSo (allS s lines)), .sl true (vI .i64 (allC s lines)), .bool (allB s lines)] by
    obtain ⟨⟨v, H⟩, e, h⟩ := hg
    have h : v = _ := h
    subst h
    exact pc_of e (by simp only [evv, Nat.zero_add, if_true, if_false, decide_true, decide_false, Bool.false_eq_true, Bool.not_true, Bool.not_false]) (by simp only [evv, Nat.zero_add, if_true, if_false, decide_true, decide_false, Bool.false_eq_true, Bool.not_true, Bool.not_false, cSo_e, vO_data])
  rw [impl_SayAll_eq]
  unfold allS allC allB allR
  by_cases h1 : sessT s = true
  · rw [if_pos h1]
    have s1 : stO (.ptr ([] : VH).length 0) [.int .i64 s.state, .str s.host, .str s.draft.from_, .sl true (vT s.draft.to), .sl true (vT s.draft.lines), .sl true (vO s.done)] [[(.int .i64 0), (.str []), (.str []), (.sl true []), (.sl true []), (.sl true [])]] = some [cSo s] := rfl
    simp only [evv, Nat.zero_add, if_true, if_false, decide_true, decide_false, Bool.false_eq_true, Bool.not_true, Bool.not_false, e1, h1, e2, s1]
    refine Gets.loop2 (I := fun n st G => ∃ (i : Nat) (t : Session) (cs : List Int), n = lines.length - i ∧ i ≤ lines.length ∧ st = [.ptr ([] : VH).length 0, .sl true (vI .i64 cs), .sl false (vT lines), .int .i64 (lines.length : Nat), .int .i64 (i : Nat), .int .i64 0, .str [], .str [], .sl true [], .sl true [], .sl true []] ∧ G = [cSo t] ∧ runF s [] lines = runF t cs (lines.drop i) ∧ SzS (m + i) t ∧ cs.length ≤ i)
      (P := fun q vs G => (∃ (t : Session) (cs : List Int), q = 0 ∧ vs = [.ptr ([] : VH).length 0, .sl true (vI .i64 cs), .int .i64 0, .str [], .str [], .sl true [], .sl true [], .sl true []] ∧ G = [cSo t] ∧ runF s [] lines = some (t, cs)) ∨ (q = 1 ∧ vs = [.sl true [], .bool false, .int .i64 0, .str [], .str [], .sl true [], .sl true [], .sl true []] ∧ runF s [] lines = none)) (n := lines.length) ?_ ⟨0, s, [], by omega, by omega, rfl, rfl, rfl, hs, by simp⟩ ?_
    · rintro n st G ⟨i, t, cs, rfl, hi, rfl, rfl, hr, ht, hc⟩
      rw [impl_SayAll_l5_eq]
      by_cases hlt : i < lines.length
      · have i1 := vT_idx false lines .i64 i hlt
        have hll := hl _ (List.getElem_mem hlt)
        have f := say_c t lines[i] [cSo t] 0 (by simp) (ht.sm (by omega)) (by omega)
        have hset : ∀ a b : List V, ([a] : VH).set 0 b = [b] := fun a b => rfl
        simp only [hset] at f
        have f' : cv id_impl_Session_say [.ptr ([] : VH).length 0, .str lines[i]] [cSo t] = _ := f
        have e3 : vBinV (.int .i64) .add (.int .i64 (i : Int)) (.int .i64 1) = some (.int .i64 ((i + 1 : Nat) : Int)) := n_addN _ i 1 (by omega)
        rw [List.drop_eq_getElem_cons hlt, runF] at hr
        by_cases hb : okB t lines[i] = true
        · rw [if_pos hb] at hr
          rw [hb] at f'
          simp only [if_true] at f'
          by_cases h0 : (sayF t lines[i]).2 = 0
          · rw [if_pos h0] at hr
            simp only [evv, Nat.zero_add, if_true, if_false, decide_true, decide_false, Bool.false_eq_true, Bool.not_true, Bool.not_false, i1, f', h0, e3, show ((i : Int) < (lines.length : Int)) from by omega]
            exact ⟨_, rfl, .inr ⟨rfl, lines.length - (i + 1), by omega, i + 1, _, cs, rfl, by omega, rfl, rfl, hr, sayF_sz (n := m + i) ht (by omega), by omega⟩⟩
          · rw [if_neg h0] at hr
            have ap := ints_app (l := cs) (sayF t lines[i]).2 (by omega)
            simp only [evv, Nat.zero_add, if_true, if_false, decide_true, decide_false, Bool.false_eq_true, Bool.not_true, Bool.not_false, i1, f', h0, e3, ap, show ((i : Int) < (lines.length : Int)) from by omega]
            exact ⟨_, rfl, .inr ⟨rfl, lines.length - (i + 1), by omega, i + 1, _, _, rfl, by omega, rfl, rfl, hr, sayF_sz (n := m + i) ht (by omega), by simp; omega⟩⟩
        · rw [if_neg hb] at hr
          have hb' : okB t lines[i] = false := by simpa using hb
          rw [hb'] at f'
          simp only [Bool.false_eq_true, if_false] at f'
          simp only [evv, Nat.zero_add, if_true, if_false, decide_true, decide_false, Bool.false_eq_true, Bool.not_true, Bool.not_false, i1, f', show ((i : Int) < (lines.length : Int)) from by omega]
          exact ⟨_, rfl, .inl ⟨1, rfl, .inr ⟨rfl, rfl, hr⟩⟩⟩
      · have : i = lines.length := by omega
        subst this
        rw [List.drop_length, runF] at hr
        simp only [evv, Nat.zero_add, if_true, if_false, decide_true, decide_false, Bool.false_eq_true, Bool.not_true, Bool.not_false, show ¬ ((lines.length : Int) < (lines.length : Int)) from by omega]
        exact ⟨_, rfl, .inl ⟨0, rfl, .inl ⟨t, cs, rfl, rfl, rfl, hr⟩⟩⟩
    rintro _ _ G (⟨t, cs, rfl, rfl, rfl, hr⟩ | ⟨rfl, rfl, hr⟩)
    · rw [hr]
      have l1 : ldO globB true true 6 (.ptr ([] : VH).length 0) [cSo t] = _ := ld_all (g := globB) (n := 6) (get_last [] (cSo t)) rfl
      simp only [cSo_e] at l1
      simp only [evv, Nat.zero_add, if_true, if_false, decide_true, decide_false, Bool.false_eq_true, Bool.not_true, Bool.not_false, cSo_e, l1, Option.map_some, Option.getD_some, Option.isSome_some]
      exact Gets.here rfl
    · rw [hr]
      simp only [evv, Nat.zero_add, if_true, if_false, decide_true, decide_false, Bool.false_eq_true, Bool.not_true, Bool.not_false]
      exact Gets.here rfl
  · have h1' : sessT s = false := by simpa using h1
    rw [if_neg h1]
    simp only [evv, Nat.zero_add, if_true, if_false, decide_true, decide_false, Bool.false_eq_true, Bool.not_true, Bool.not_false, e1, h1']
    exact Gets.here rfl


end Go.Proofs.YtjbekhailkednaaDoor.Q

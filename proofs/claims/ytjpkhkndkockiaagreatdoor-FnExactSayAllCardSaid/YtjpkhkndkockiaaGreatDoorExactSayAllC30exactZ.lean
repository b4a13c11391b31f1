/- Contracts: sizes, copies and comparisons of exact statements. -/
import Derived.Test.YtjpkhkndkockiaaGreatDoorExactSayAllC16specwordsZ
import Derived.Test.YtjpkhkndkockiaaGreatDoorFnExactSayAllK4
namespace Go.Proofs.YtjpkhkndkockiaaGreatDoor.Q
open Go Go.AM
set_option linter.unusedSimpArgs false
set_option linter.unusedVariables false
set_option linter.unusedSectionVars false
def szS (s : Bs) (n : Int) : Int := if n - s.length < 0 then -1 else n - s.length
def szB (s : Bs) (k : Int) : Int := k - s.length
theorem szB_le (s : Bs) (k : Int) : szB s k <= k := by unfold szB; omega
def szT (l : List Bs) (n : Int) : Int := if n - l.length < 0 then -1 else szGo szB l (n - l.length)
def szM (m : Mail) (n : Int) : Int := if n - m.from_.length < 0 then -1 else if szT m.to (n - m.from_.length) < 0 then -1 else if szT m.lines (szT m.to (n - m.from_.length)) < 0 then -1 else szT m.lines (szT m.to (n - m.from_.length))
def szMs (l : List Mail) (n : Int) : Int := if n - l.length < 0 then -1 else szGo szM l (n - l.length)
theorem szT_le {l : List Bs} {n : Int} (h : 0 <= n) : szT l n <= n := by
 unfold szT
 split
 ·omega
 ·have := szGo_le (f := szB) (l := l) (fun a _ k _ => szB_le a k) (n := n - l.length) (by omega)
  omega
theorem szT_ok {l : List Bs} {n : Int} (h : 0 <= n) (h2 : 0 <= szT l n) : (l.length : Int) <= n /\ ∀ s ∈ l, (s.length : Int) <= n := by
 unfold szT at h2
 split at h2
 ·omega
 ·refine ⟨by omega, fun s hs => ?_⟩
  obtain ⟨k, h3, h4, h5⟩ := szGo_mem (f := szB) (l := l) (fun a _ k _ => szB_le a k) (n := n - l.length) (by omega) h2 s hs
  unfold szB at h5; omega
theorem szM_le {m : Mail} {n : Int} (h : 0 <= n) : szM m n <= n := by
 unfold szM
 split
 ·omega
 ·have h1 := szT_le (l := m.to) (n := n - m.from_.length) (by omega)
  split
  ·omega
  ·have h2 := szT_le (l := m.lines) (n := szT m.to (n - m.from_.length)) (by omega)
   split <;> omega
def SmT (l : List Bs) : Prop := l.length <= 1049600 /\ ∀ s ∈ l, s.length <= 1049600
def SmM (m : Mail) : Prop := m.from_.length <= 1049600 /\ SmT m.to /\ SmT m.lines
theorem SmT.of {l : List Bs} {n : Int} (h : 0 <= n) (hn : n <= 1049600) (h2 : 0 <= szT l n) : SmT l := by
 obtain ⟨h3, h4⟩ := szT_ok h h2
 exact ⟨by omega, fun s hs => by have := h4 s hs; omega⟩
theorem SmM.of {m : Mail} {n : Int} (h : 0 <= n) (hn : n <= 1049600) (h2 : 0 <= szM m n) : SmM m := by
 unfold szM at h2
 split at h2
 ·omega
 ·split at h2
  ·omega
  ·rename_i h3 h4
   have h5 := szT_le (l := m.to) (n := n - m.from_.length) (by omega)
   split at h2
   ·omega
   ·exact ⟨by omega, SmT.of (n := n - m.from_.length) (by omega) (by omega) (by omega), SmT.of (n := szT m.to (n - m.from_.length)) (by omega) (by omega) h2⟩
theorem szStringS_c (l : List Bs) (n : Int) (h0 : 0 <= n) (h1 : n <= 1048576) (hl : l.length <= 9223372036854775807) (hm : ∀ s ∈ l, s.length <= 9223372036854775807) : qc id_laws_szStringS [.sl false (vT l), .int .i64 n] = some (.int .i64 (szT l n)) := by
 have hs := n_sub (.int .i64) n l.length (by omega) (by omega)
 have run : ∃ H, cv id_laws_szStringS [.sl false (vT l), .int .i64 n] [] = some (.int .i64 (szT l n), H) := by
  rw [laws_szStringS_eq]
  unfold szT
  by_cases hn : n - l.length < 0
  ·simp only [evv, hs, hn]; exact ⟨_, rfl⟩
  ·simp only [evv, hs, hn]
   obtain ⟨m, hm1, hm2⟩ := lv_sz (m0 := 0) (m1 := 1) (f := szB) (B := laws_szStringS_l5) (H := []) (fun k i => [.sl false (vT l), .int .i64 k, .int .i64 (i : Nat)]) l (fun a _ k _ => szB_le a k)
    (fun i hi k hk1 hk2 => by
     have hid := vT_idx false l .i64 i hi
     have hlen := hm l[i] (List.getElem_mem hi)
     have e1 := n_sub (.int .i64) k (l[i]).length (by omega) (by omega)
     have e2 : vBinV (.int .i64) .add (.int .i64 (i : Int)) (.int .i64 1) = some (.int .i64 ((i + 1 : Nat) : Int)) := n_addN _ i 1 (by omega)
     rw [laws_szStringS_l5_eq]
     simp only [evv, hid, e1, e2, szB, show ((i : Int) < (l.length : Int)) from by omega]
     by_cases e : k - (l[i]).length < 0 <;> simp only [evv, e])
    (fun k => by
     rw [laws_szStringS_l5_eq]
     simp only [evv, show ¬ ((l.length : Int) < (l.length : Int)) from by omega]) (n - l.length) (by omega) (by omega)
   have hm1' : lpW' laws_szStringS_l5 [.sl false (vT l), .int .i64 (n - l.length), .int .i64 0] [] = _ := hm1
   rw [hm1']
   rcases hm2 with rfl | rfl <;> simp only [evv] <;> exact ⟨_, rfl⟩
 obtain ⟨H, run⟩ := run
 exact qc_of run (by simp only [evv]) rfl
theorem eqStringS_c (a b : List Bs) (h : a.length <= 1049600) : qc id_laws_eqStringS [.sl false (vT a), .sl false (vT b)] = some (.bool (decide (a = b))) := by
 refine qc_of (H := []) ?_ (by simp only [evv]) rfl
 show cv _ _ _ = _
 rw [laws_eqStringS_eq]
 by_cases hl : a.length = b.length
 ·have loop := lv_eq (B := laws_eqStringS_l4) (S := fun i => [.sl false (vT a), .sl false (vT b), .int .i64 (i : Nat)]) (H := []) (m0 := 0) (m1 := 1) (vs0 := []) (vs1 := [.bool false]) a b hl
   (fun i hi => by
    have i1 := vT_idx false a .i64 i hi
    have i2 := vT_idx false b .i64 i (by omega)
    have e2 : vBinV (.int .i64) .add (.int .i64 (i : Int)) (.int .i64 1) = some (.int .i64 ((i + 1 : Nat) : Int)) := n_addN _ i 1 (by omega)
    rw [laws_eqStringS_l4_eq]
    simp only [evv, i1, i2, e2, show ((i : Int) < (a.length : Int)) from by omega]
    by_cases e : a[i] = b[i] <;> simp only [evv, e])
   (by
    rw [laws_eqStringS_l4_eq]
    simp only [evv, show ¬ ((a.length : Int) < (a.length : Int)) from by omega])
  have loop' : lpW' laws_eqStringS_l4 [.sl false (vT a), .sl false (vT b), .int .i64 0] [] = _ := loop
  simp only [evv, hl, loop']
  by_cases e : a = b <;> simp only [evv, e]
 ·have : a ≠ b := fun e => hl (by rw [e])
  simp only [evv, show ¬ ((a.length : Int) = (b.length : Int)) from by omega, this]
theorem szMail_c (m : Mail) (n : Int) (h0 : 0 <= n) (h1 : n <= 1048576) (hf : m.from_.length <= 9223372036854775807) (ht : m.to.length <= 9223372036854775807) (htm : ∀ s ∈ m.to, s.length <= 9223372036854775807) (hl : m.lines.length <= 9223372036854775807) (hlm : ∀ s ∈ m.lines, s.length <= 9223372036854775807) :
 qc id_laws_szMail [.agg (cM m), .int .i64 n] = some (.int .i64 (szM m n)) := by
 have e1 := n_sub (.int .i64) n m.from_.length (by omega) (by omega)
 have run : ∃ H, cv id_laws_szMail [.agg (cM m), .int .i64 n] [] = some (.int .i64 (szM m n), H) := by
  rw [laws_szMail_eq]
  unfold szM
  by_cases h2 : n - m.from_.length < 0
  ·simp only [evv, e1, h2]; exact ⟨_, rfl⟩
  ·have e2 := szStringS_c m.to (n - m.from_.length) (by omega) (by omega) ht htm
   have h3 := szT_le (l := m.to) (n := n - m.from_.length) (by omega)
   by_cases h4 : szT m.to (n - m.from_.length) < 0
   ·simp only [evv, e1, h2, e2, h4]; exact ⟨_, rfl⟩
   ·have e3 := szStringS_c m.lines (szT m.to (n - m.from_.length)) (by omega) (by omega) hl hlm
    by_cases h5 : szT m.lines (szT m.to (n - m.from_.length)) < 0
    ·simp only [evv, e1, h2, e2, h4, e3, h5]; exact ⟨_, rfl⟩
    ·simp only [evv, e1, h2, e2, h4, e3, h5]; exact ⟨_, rfl⟩
 obtain ⟨H, run⟩ := run
 exact qc_of run (by simp only [evv]) rfl
theorem eqMail_c (a b : Mail) (h : SmM a) : qc id_laws_eqMail [.agg (cM a), .agg (cM b)] = some (.bool (decide (a = b))) := by
 have e1 := eqStringS_c a.to b.to h.2.1.1
 have e2 := eqStringS_c a.lines b.lines h.2.2.1
 refine qc_of (H := []) ?_ (by simp only [evv]) rfl
 show cv _ _ _ = _
 rw [laws_eqMail_eq]
 have key : (a = b) ↔ (a.from_ = b.from_ /\ a.to = b.to /\ a.lines = b.lines) := by cases a; cases b; simp
 simp only [evv, e1, e2, key]
 by_cases h1 : a.from_ = b.from_ <;> by_cases h2 : a.to = b.to <;> by_cases h3 : a.lines = b.lines <;> simp [evv, h1, h2, h3]
def BgT (l : List Bs) : Prop := l.length <= 9223372036854775807 /\ ∀ s ∈ l, s.length <= 9223372036854775807
def BgM (m : Mail) : Prop := m.from_.length <= 9223372036854775807 /\ BgT m.to /\ BgT m.lines
def tyT : Ty := .sl .str
def tyM : Ty := .st [.str, tyT, tyT]
theorem hasT {vs : List V} (h : HasTy tyT vs) : ∃ l : List Bs, vs = [.sl false (vT l)] /\ BgT l := by
 simp only [tyT, HasTy] at h
 obtain ⟨xs, rfl, h1, h2⟩ := h
 have : ∀ {l : List (List V)}, (∀ x ∈ l, ∃ s : Bs, x = [.str s] /\ s.length <= maxLen) -> ∃ m : List Bs, l = vT m /\ ∀ s ∈ m, s.length <= maxLen := by
  intro l
  induction l with
  | nil => intro _; exact ⟨[], rfl, by simp⟩
  | cons a l ih =>
    intro hl
    obtain ⟨s, rfl, hs⟩ := hl a (by simp)
    obtain ⟨m, rfl, hm⟩ := ih (fun x hx => hl x (by simp [hx]))
    exact ⟨s :: m, rfl, fun t ht => by rcases List.mem_cons.1 ht with rfl | ht; exact hs; exact hm t ht⟩
 obtain ⟨m, rfl, hm⟩ := this h2
 have e : maxLen = 9223372036854775807 := rfl
 exact ⟨m, rfl, by rw [vT_len] at h1; omega, fun s hs => by have := hm s hs; omega⟩
theorem hasM {vs : List V} (h : HasTy tyM vs) : ∃ m : Mail, vs = cM m /\ BgM m := by
 simp only [tyM, HasTy, HasTys] at h
 obtain ⟨a, b, rfl, ⟨f, rfl, hf⟩, c, d, rfl, h1, e, g, rfl, h2, rfl⟩ := h
 obtain ⟨t, rfl, ht⟩ := hasT h1
 obtain ⟨l, rfl, hl⟩ := hasT h2
 have e : maxLen = 9223372036854775807 := rfl
 exact ⟨⟨f, t, l⟩, rfl, by show f.length <= _; omega, ht, hl⟩
end Go.Proofs.YtjpkhkndkockiaaGreatDoor.Q

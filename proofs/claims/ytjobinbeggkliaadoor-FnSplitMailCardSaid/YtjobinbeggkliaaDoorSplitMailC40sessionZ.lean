/- Contracts: sessions and mailboxes of exact statements. -/
import Derived.Test.YtjobinbeggkliaaDoorSplitMailC32drawsZ
namespace Go.Proofs.YtjobinbeggkliaaDoor.Q
open Go Go.AM
set_option linter.unusedSimpArgs false
set_option linter.unusedVariables false
set_option linter.unusedSectionVars false
def SmMs (l : List Mail) : Prop := l.length ≤ 1048576 ∧ ∀ m ∈ l, SmM m
def SmS (s : Session) : Prop := s.host.length ≤ 1048576 ∧ SmM s.draft ∧ SmMs s.done
def SmX (b : Box) : Prop := b.path.length ≤ 1048576 ∧ SmMs b.mails
def SmXs (l : List Box) : Prop := l.length ≤ 1048576 ∧ ∀ m ∈ l, SmX m
def BgMs (l : List Mail) : Prop := l.length ≤ 9223372036854775807 ∧ ∀ m ∈ l, BgM m
def BgS (s : Session) : Prop := s.host.length ≤ 9223372036854775807 ∧ BgM s.draft ∧ BgMs s.done
def BgX (b : Box) : Prop := b.path.length ≤ 9223372036854775807 ∧ BgMs b.mails
def BgXs (l : List Box) : Prop := l.length ≤ 9223372036854775807 ∧ ∀ m ∈ l, BgX m
def szSn (s : Session) (n : Int) : Int := if n - s.host.length < 0 then -1 else if szM s.draft (n - s.host.length) < 0 then -1 else if szMs s.done (szM s.draft (n - s.host.length)) < 0 then -1 else szMs s.done (szM s.draft (n - s.host.length))
def szX (b : Box) (n : Int) : Int := if n - b.path.length < 0 then -1 else if szMs b.mails (n - b.path.length) < 0 then -1 else szMs b.mails (n - b.path.length)
def szXs (l : List Box) (n : Int) : Int := if n - l.length < 0 then -1 else szGo szX l (n - l.length)
theorem szMs_le {l : List Mail} {n : Int} (h : 0 ≤ n) : szMs l n ≤ n := by
  unfold szMs
  split
  · omega
  · have := szGo_le (f := szM) (l := l) (fun a _ k hk => szM_le hk) (n := n - l.length) (by omega)
    omega
theorem szSn_le {s : Session} {n : Int} (h : 0 ≤ n) : szSn s n ≤ n := by
  unfold szSn
  split
  · omega
  · have h1 := szM_le (m := s.draft) (n := n - s.host.length) (by omega)
    split
    · omega
    · have h2 := szMs_le (l := s.done) (n := szM s.draft (n - s.host.length)) (by omega)
      split <;> omega
theorem szX_le {s : Box} {n : Int} (h : 0 ≤ n) : szX s n ≤ n := by
  unfold szX
  split
  · omega
  · have h1 := szMs_le (l := s.mails) (n := n - s.path.length) (by omega)
    split <;> omega
theorem szXs_le {l : List Box} {n : Int} (h : 0 ≤ n) : szXs l n ≤ n := by
  unfold szXs
  split
  · omega
  · have := szGo_le (f := szX) (l := l) (fun a _ k hk => szX_le hk) (n := n - l.length) (by omega)
    omega
theorem SmMs.of {l : List Mail} {n : Int} (h : 0 ≤ n) (hn : n ≤ 1048576) (h2 : 0 ≤ szMs l n) : SmMs l := by
  unfold szMs at h2
  split at h2
  · omega
  · refine ⟨by omega, fun s hs => ?_⟩
    obtain ⟨k, h3, h4, h5⟩ := szGo_mem (f := szM) (l := l) (fun a _ k hk => szM_le hk) (n := n - l.length) (by omega) h2 s hs
    exact SmM.of h3 (by omega) h5
theorem SmS.of {s : Session} {n : Int} (h : 0 ≤ n) (hn : n ≤ 1048576) (h2 : 0 ≤ szSn s n) : SmS s := by
  unfold szSn at h2
  split at h2
  · omega
  · split at h2
    · omega
    · have h5 := szM_le (m := s.draft) (n := n - s.host.length) (by omega)
      split at h2
      · omega
      · exact ⟨by omega, SmM.of (n := n - s.host.length) (by omega) (by omega) (by omega), SmMs.of (n := szM s.draft (n - s.host.length)) (by omega) (by omega) h2⟩
theorem SmX.of {s : Box} {n : Int} (h : 0 ≤ n) (hn : n ≤ 1048576) (h2 : 0 ≤ szX s n) : SmX s := by
  unfold szX at h2
  split at h2
  · omega
  · split at h2
    · omega
    · exact ⟨by omega, SmMs.of (n := n - s.path.length) (by omega) (by omega) (by omega)⟩
theorem SmXs.of {l : List Box} {n : Int} (h : 0 ≤ n) (hn : n ≤ 1048576) (h2 : 0 ≤ szXs l n) : SmXs l := by
  unfold szXs at h2
  split at h2
  · omega
  · refine ⟨by omega, fun s hs => ?_⟩
    obtain ⟨k, h3, h4, h5⟩ := szGo_mem (f := szX) (l := l) (fun a _ k hk => szX_le hk) (n := n - l.length) (by omega) h2 s hs
    exact SmX.of h3 (by omega) h5
theorem session_eq (a b : Session) : (a = b) ↔ (a.state = b.state ∧ a.host = b.host ∧ a.draft = b.draft ∧ a.done = b.done) := by cases a; cases b; simp
theorem box_eq (a b : Box) : (a = b) ↔ (a.path = b.path ∧ a.mails = b.mails) := by cases a; cases b; simp

def tyMs : Ty := .sl tyM
def tyS : Ty := .st [.int .i64, .str, tyM, tyMs]
def tyX : Ty := .st [.str, tyMs]
def tyXs : Ty := .sl tyX
theorem hasR {α : Type} {E : Ec α} {t : Ty} {P : α → Prop} (h0 : ∀ vs, HasTy t vs → ∃ a, vs = E.e a ∧ P a) {vs : List V} (h : HasTy (.sl t) vs) : ∃ l : List α, vs = [.sl false (vR E l)] ∧ l.length ≤ 9223372036854775807 ∧ ∀ a ∈ l, P a := by
  simp only [HasTy] at h
  obtain ⟨xs, rfl, h1, h2⟩ := h
  have : ∀ {l : List (List V)}, (∀ x ∈ l, HasTy t x) → ∃ m : List α, l = vR E m ∧ ∀ s ∈ m, P s := by
    intro l
    induction l with
    | nil => intro _; exact ⟨[], rfl, by simp⟩
    | cons a l ih =>
      intro hl
      obtain ⟨s, rfl, hs⟩ := h0 a (hl a (by simp))
      obtain ⟨m, rfl, hm⟩ := ih (fun x hx => hl x (by simp [hx]))
      exact ⟨s :: m, rfl, fun t ht => by rcases List.mem_cons.1 ht with rfl | ht; exact hs; exact hm t ht⟩
  obtain ⟨m, rfl, hm⟩ := this h2
  have e : maxLen = 9223372036854775807 := rfl
  exact ⟨m, rfl, by rw [vR_len] at h1; omega, hm⟩
theorem hasMs {vs : List V} (h : HasTy tyMs vs) : ∃ l : List Mail, vs = [.sl false (vR eM l)] ∧ BgMs l :=
  hasR (E := eM) (P := BgM) (fun vs h => hasM h) h
theorem hasS {vs : List V} (h : HasTy tyS vs) : ∃ s : Session, vs = cS s ∧ BgS s := by
  simp only [tyS, HasTy, HasTys] at h
  obtain ⟨a, b, rfl, ⟨i, rfl, hi⟩, c, d, rfl, ⟨f, rfl, hf⟩, e, g, rfl, h1, p, q, rfl, h2, rfl⟩ := h
  obtain ⟨m, rfl, hm⟩ := hasM h1
  obtain ⟨l, rfl, hl⟩ := hasMs h2
  have e : maxLen = 9223372036854775807 := rfl
  exact ⟨⟨i, f, m, l⟩, rfl, by show f.length ≤ _; omega, hm, hl⟩
theorem hasX {vs : List V} (h : HasTy tyX vs) : ∃ s : Box, vs = cX s ∧ BgX s := by
  simp only [tyX, HasTy, HasTys] at h
  obtain ⟨c, d, rfl, ⟨f, rfl, hf⟩, p, q, rfl, h2, rfl⟩ := h
  obtain ⟨l, rfl, hl⟩ := hasMs h2
  have e : maxLen = 9223372036854775807 := rfl
  exact ⟨⟨f, l⟩, rfl, by show f.length ≤ _; omega, hl⟩
theorem hasXs {vs : List V} (h : HasTy tyXs vs) : ∃ l : List Box, vs = [.sl false (vR eX l)] ∧ BgXs l :=
  hasR (E := eX) (P := BgX) (fun vs h => hasX h) h
theorem argS {u : V} (h : HasArg tyS u) : ∃ m : Session, u = .agg (cS m) ∧ BgS m := by
  obtain ⟨vs, rfl, h⟩ := h
  obtain ⟨m, rfl, hm⟩ := hasS (vs := vs) (by simp only [tyS, HasTy]; exact h)
  exact ⟨m, rfl, hm⟩
theorem argMs {u : V} (h : HasArg tyMs u) : ∃ l : List Mail, u = .sl false (vR eM l) ∧ BgMs l := by
  obtain ⟨l, h1, h2⟩ := hasMs (vs := [u]) h
  exact ⟨l, by simpa using h1, h2⟩
theorem argXs {u : V} (h : HasArg tyXs u) : ∃ l : List Box, u = .sl false (vR eX l) ∧ BgXs l := by
  obtain ⟨l, h1, h2⟩ := hasXs (vs := [u]) h
  exact ⟨l, by simpa using h1, h2⟩
theorem argX {u : V} (h : HasArg tyX u) : ∃ m : Box, u = .agg (cX m) ∧ BgX m := by
  obtain ⟨vs, rfl, h⟩ := h
  obtain ⟨m, rfl, hm⟩ := hasX (vs := vs) (by simp only [tyX, HasTy]; exact h)
  exact ⟨m, rfl, hm⟩


end Go.Proofs.YtjobinbeggkliaaDoor.Q

/- Contracts: sessions and mailboxes of exact statements. -/
import Derived.Test.YtjpkhkndkockiaaGreatDoorExactSayAllC32drawsZ
namespace Go.Proofs.YtjpkhkndkockiaaGreatDoor.Q
open Go Go.AM
set_option linter.unusedSimpArgs false
set_option linter.unusedVariables false
set_option linter.unusedSectionVars false
def SmMs (l : List Mail) : Prop := l.length <= 1049600 /\ ∀ m ∈ l, SmM m
def SmS (s : Session) : Prop := s.host.length <= 1049600 /\ SmM s.draft /\ SmMs s.done
def SmX (b : Box) : Prop := b.path.length <= 1049600 /\ SmMs b.mails
def SmXs (l : List Box) : Prop := l.length <= 1049600 /\ ∀ m ∈ l, SmX m
def BgMs (l : List Mail) : Prop := l.length <= 9223372036854775807 /\ ∀ m ∈ l, BgM m
def BgS (s : Session) : Prop := s.host.length <= 9223372036854775807 /\ BgM s.draft /\ BgMs s.done
def BgX (b : Box) : Prop := b.path.length <= 9223372036854775807 /\ BgMs b.mails
def BgXs (l : List Box) : Prop := l.length <= 9223372036854775807 /\ ∀ m ∈ l, BgX m
def szSn (s : Session) (n : Int) : Int := if n - s.host.length < 0 then -1 else if szM s.draft (n - s.host.length) < 0 then -1 else if szMs s.done (szM s.draft (n - s.host.length)) < 0 then -1 else szMs s.done (szM s.draft (n - s.host.length))
def szX (b : Box) (n : Int) : Int := if n - b.path.length < 0 then -1 else if szMs b.mails (n - b.path.length) < 0 then -1 else szMs b.mails (n - b.path.length)
def szXs (l : List Box) (n : Int) : Int := if n - l.length < 0 then -1 else szGo szX l (n - l.length)
theorem szMs_le {l : List Mail} {n : Int} (h : 0 <= n) : szMs l n <= n := by
 unfold szMs
 split
 ·omega
 ·have := szGo_le (f := szM) (l := l) (fun a _ k hk => szM_le hk) (n := n - l.length) (by omega)
  omega
theorem szSn_le {s : Session} {n : Int} (h : 0 <= n) : szSn s n <= n := by
 unfold szSn
 split
 ·omega
 ·have h1 := szM_le (m := s.draft) (n := n - s.host.length) (by omega)
  split
  ·omega
  ·have h2 := szMs_le (l := s.done) (n := szM s.draft (n - s.host.length)) (by omega)
   split <;> omega
theorem szX_le {s : Box} {n : Int} (h : 0 <= n) : szX s n <= n := by
 unfold szX
 split
 ·omega
 ·have h1 := szMs_le (l := s.mails) (n := n - s.path.length) (by omega)
  split <;> omega
theorem SmMs.of {l : List Mail} {n : Int} (h : 0 <= n) (hn : n <= 1049600) (h2 : 0 <= szMs l n) : SmMs l := by
 unfold szMs at h2
 split at h2
 ·omega
 ·refine ⟨by omega, fun s hs => ?_⟩
  obtain ⟨k, h3, h4, h5⟩ := szGo_mem (f := szM) (l := l) (fun a _ k hk => szM_le hk) (n := n - l.length) (by omega) h2 s hs
  exact SmM.of h3 (by omega) h5
theorem SmS.of {s : Session} {n : Int} (h : 0 <= n) (hn : n <= 1049600) (h2 : 0 <= szSn s n) : SmS s := by
 unfold szSn at h2
 split at h2
 ·omega
 ·split at h2
  ·omega
  ·have h5 := szM_le (m := s.draft) (n := n - s.host.length) (by omega)
   split at h2
   ·omega
   ·exact ⟨by omega, SmM.of (n := n - s.host.length) (by omega) (by omega) (by omega), SmMs.of (n := szM s.draft (n - s.host.length)) (by omega) (by omega) h2⟩
theorem SmX.of {s : Box} {n : Int} (h : 0 <= n) (hn : n <= 1049600) (h2 : 0 <= szX s n) : SmX s := by
 unfold szX at h2
 split at h2
 ·omega
 ·split at h2
  ·omega
  ·exact ⟨by omega, SmMs.of (n := n - s.path.length) (by omega) (by omega) (by omega)⟩
theorem SmXs.of {l : List Box} {n : Int} (h : 0 <= n) (hn : n <= 1049600) (h2 : 0 <= szXs l n) : SmXs l := by
 unfold szXs at h2
 split at h2
 ·omega
 ·refine ⟨by omega, fun s hs => ?_⟩
  obtain ⟨k, h3, h4, h5⟩ := szGo_mem (f := szX) (l := l) (fun a _ k hk => szX_le hk) (n := n - l.length) (by omega) h2 s hs
  exact SmX.of h3 (by omega) h5
theorem session_eq (a b : Session) : (a = b) ↔ (a.state = b.state /\ a.host = b.host /\ a.draft = b.draft /\ a.done = b.done) := by cases a; cases b; simp
def tyMs : Ty := .sl tyM
def tyS : Ty := .st [.int .i64, .str, tyM, tyMs]
def tyX : Ty := .st [.str, tyMs]
def tyXs : Ty := .sl tyX
theorem hasR {α : Type} {E : Ec α} {t : Ty} {P : α -> Prop} (h0 : ∀ vs, HasTy t vs -> ∃ a, vs = E.e a /\ P a) {vs : List V} (h : HasTy (.sl t) vs) : ∃ l : List α, vs = [.sl false (vR E l)] /\ l.length <= 9223372036854775807 /\ ∀ a ∈ l, P a := by
 simp only [HasTy] at h
 obtain ⟨xs, rfl, h1, h2⟩ := h
 have : ∀ {l : List (List V)}, (∀ x ∈ l, HasTy t x) -> ∃ m : List α, l = vR E m /\ ∀ s ∈ m, P s := by
  intro l
  induction l with
  | nil => intro _; exact ⟨[], rfl, by simp⟩
  | cons a l ih =>
    intro hl
    obtain ⟨s, rfl, hs⟩ := h0 a (hl a (by simp))
    obtain ⟨m, rfl, hm⟩ := ih (fun x hx => hl x (by simp [hx]))
    exact ⟨s :: m, rfl, fun t ht => by rcases List.mem_cons.1 ht with rfl | ht; exact hs; exact hm t ht⟩
 obtain ⟨m, rfl, hm⟩ := this h2
 have e : maxLen = 9223372036854775807 := rfl
 exact ⟨m, rfl, by rw [vR_len] at h1; omega, hm⟩
theorem hasMs {vs : List V} (h : HasTy tyMs vs) : ∃ l : List Mail, vs = [.sl false (vR eM l)] /\ BgMs l :=
 hasR (E := eM) (P := BgM) (fun vs h => hasM h) h
theorem hasS {vs : List V} (h : HasTy tyS vs) : ∃ s : Session, vs = cS s /\ BgS s := by
 simp only [tyS, HasTy, HasTys] at h
 obtain ⟨a, b, rfl, ⟨i, rfl, hi⟩, c, d, rfl, ⟨f, rfl, hf⟩, e, g, rfl, h1, p, q, rfl, h2, rfl⟩ := h
 obtain ⟨m, rfl, hm⟩ := hasM h1
 obtain ⟨l, rfl, hl⟩ := hasMs h2
 have e : maxLen = 9223372036854775807 := rfl
 exact ⟨⟨i, f, m, l⟩, rfl, by show f.length <= _; omega, hm, hl⟩
theorem argS {u : V} (h : HasArg tyS u) : ∃ m : Session, u = .agg (cS m) /\ BgS m := by
 obtain ⟨vs, rfl, h⟩ := h
 obtain ⟨m, rfl, hm⟩ := hasS (vs := vs) (by simp only [tyS, HasTy]; exact h)
 exact ⟨m, rfl, hm⟩
theorem szMailS_c (l : List Mail) (n : Int) (h0 : 0 <= n) (h1 : n <= 1048576) (hb : BgMs l) : qc id_laws_szMailS [.sl false (vR eM l), .int .i64 n] = some (.int .i64 (szMs l n)) := by
 have hl := hb.1
 have hs := n_sub (.int .i64) n l.length (by omega) (by omega)
 have run : ∃ H, cv id_laws_szMailS [.sl false (vR eM l), .int .i64 n] [] = some (.int .i64 (szMs l n), H) := by
  rw [laws_szMailS_eq]
  unfold szMs
  by_cases hn : n - l.length < 0
  ·simp only [evv, hs, hn]; exact ⟨_, rfl⟩
  ·simp only [evv, hs, hn]
   obtain ⟨m, hm1, hm2⟩ := lv_sz (m0 := 0) (m1 := 1) (f := szM) (B := laws_szMailS_l5) (H := []) (fun k i => [.sl false (vR eM l), .int .i64 k, .int .i64 (i : Nat)]) l (fun a _ k hk => szM_le hk)
    (fun i hi k hk1 hk2 => by
     have hid := vM_idx false l .i64 i hi
     have bg := hb.2 l[i] (List.getElem_mem hi)
     have e1 := szMail_c l[i] k hk1 hk2 bg.1 bg.2.1.1 bg.2.1.2 bg.2.2.1 bg.2.2.2
     simp only [cM_e] at e1
     have e2 : vBinV (.int .i64) .add (.int .i64 (i : Int)) (.int .i64 1) = some (.int .i64 ((i + 1 : Nat) : Int)) := n_addN _ i 1 (by omega)
     rw [laws_szMailS_l5_eq]
     simp only [evv, hid, e1, e2, show ((i : Int) < (l.length : Int)) from by omega]
     by_cases e : szM l[i] k < 0 <;> simp only [evv, e])
    (fun k => by
     rw [laws_szMailS_l5_eq]
     simp only [evv, show ¬ ((l.length : Int) < (l.length : Int)) from by omega]) (n - l.length) (by omega) (by omega)
   have hm1' : lpW' laws_szMailS_l5 [.sl false (vR eM l), .int .i64 (n - l.length), .int .i64 0] [] = _ := hm1
   rw [hm1']
   rcases hm2 with rfl | rfl <;> simp only [evv] <;> exact ⟨_, rfl⟩
 obtain ⟨H, run⟩ := run
 exact qc_of run (by simp only [evv]) rfl
theorem eqMailS_c (a b : List Mail) (h : SmMs a) : qc id_laws_eqMailS [.sl false (vR eM a), .sl false (vR eM b)] = some (.bool (decide (a = b))) := by
 have ha := h.1
 refine qc_of (H := []) ?_ (by simp only [evv]) rfl
 show cv _ _ _ = _
 rw [laws_eqMailS_eq]
 by_cases hl : a.length = b.length
 ·have loop := lv_eq (B := laws_eqMailS_l4) (S := fun i => [.sl false (vR eM a), .sl false (vR eM b), .int .i64 (i : Nat)]) (H := []) (m0 := 0) (m1 := 1) (vs0 := []) (vs1 := [.bool false]) a b hl
   (fun i hi => by
    have i1 := vM_idx false a .i64 i hi
    have i2 := vM_idx false b .i64 i (by omega)
    have e1 := eqMail_c a[i] (b[i]'(by omega)) (h.2 _ (List.getElem_mem hi))
    simp only [cM_e] at e1
    have e2 : vBinV (.int .i64) .add (.int .i64 (i : Int)) (.int .i64 1) = some (.int .i64 ((i + 1 : Nat) : Int)) := n_addN _ i 1 (by omega)
    rw [laws_eqMailS_l4_eq]
    simp only [evv, i1, i2, e1, e2, show ((i : Int) < (a.length : Int)) from by omega]
    by_cases e : a[i] = b[i] <;> simp only [evv, e])
   (by
    rw [laws_eqMailS_l4_eq]
    simp only [evv, show ¬ ((a.length : Int) < (a.length : Int)) from by omega])
  have loop' : lpW' laws_eqMailS_l4 [.sl false (vR eM a), .sl false (vR eM b), .int .i64 0] [] = _ := loop
  simp only [evv, hl, loop']
  by_cases e : a = b <;> simp only [evv, e]
 ·have : a ≠ b := fun e => hl (by rw [e])
  simp only [evv, show ¬ ((a.length : Int) = (b.length : Int)) from by omega, this]
theorem szSession_c (s : Session) (n : Int) (h0 : 0 <= n) (h1 : n <= 1048576) (h : BgS s) :
 qc id_laws_szSession [.agg (cS s), .int .i64 n] = some (.int .i64 (szSn s n)) := by
 have hh := h.1
 have e1 := n_sub (.int .i64) n s.host.length (by omega) (by omega)
 have run : ∃ H, cv id_laws_szSession [.agg (cS s), .int .i64 n] [] = some (.int .i64 (szSn s n), H) := by
  rw [laws_szSession_eq]
  unfold szSn
  by_cases h2 : n - s.host.length < 0
  ·simp only [evv, e1, h2]; exact ⟨_, rfl⟩
  ·have bg := h.2.1
   have e2 := szMail_c s.draft (n - s.host.length) (by omega) (by omega) bg.1 bg.2.1.1 bg.2.1.2 bg.2.2.1 bg.2.2.2
   simp only [cM_e] at e2
   have h3 := szM_le (m := s.draft) (n := n - s.host.length) (by omega)
   by_cases h4 : szM s.draft (n - s.host.length) < 0
   ·simp only [evv, e1, h2, e2, h4]; exact ⟨_, rfl⟩
   ·have e3 := szMailS_c s.done (szM s.draft (n - s.host.length)) (by omega) (by omega) h.2.2
    by_cases h5 : szMs s.done (szM s.draft (n - s.host.length)) < 0
    ·simp only [evv, e1, h2, e2, h4, e3, h5]; exact ⟨_, rfl⟩
    ·simp only [evv, e1, h2, e2, h4, e3, h5]; exact ⟨_, rfl⟩
 obtain ⟨H, run⟩ := run
 exact qc_of run (by simp only [evv]) rfl
theorem eqSession_c (a b : Session) (h : SmS a) : qc id_laws_eqSession [.agg (cS a), .agg (cS b)] = some (.bool (decide (a = b))) := by
 have e1 := eqMail_c a.draft b.draft h.2.1
 have e2 := eqMailS_c a.done b.done h.2.2
 simp only [cM_e] at e1
 refine qc_of (H := []) ?_ (by simp only [evv]) rfl
 show cv _ _ _ = _
 rw [laws_eqSession_eq]
 simp only [evv, e1, e2, session_eq]
 by_cases h0 : a.state = b.state <;> by_cases h1 : a.host = b.host <;> by_cases h2 : a.draft = b.draft <;> by_cases h3 : a.done = b.done <;> simp [evv, h0, h1, h2, h3]
end Go.Proofs.YtjpkhkndkockiaaGreatDoor.Q

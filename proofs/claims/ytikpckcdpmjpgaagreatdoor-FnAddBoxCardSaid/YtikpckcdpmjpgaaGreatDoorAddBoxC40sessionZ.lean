/- Contracts: sessions and mailboxes of exact statements. -/
import Derived.Test.YtikpckcdpmjpgaaGreatDoorAddBoxC32drawsZ
namespace Go.Proofs.YtikpckcdpmjpgaaGreatDoor.Q
open Go Go.AM
set_option linter.unusedSimpArgs false
set_option linter.unusedVariables false
set_option linter.unusedSectionVars false
def SmMs (l : List Mail) : Prop := l.length <= 1048576 /\ ∀ m ∈ l, SmM m
def SmS (s : Session) : Prop := s.host.length <= 1048576 /\ SmM s.draft /\ SmMs s.done
def SmX (b : Box) : Prop := b.path.length <= 1048576 /\ SmMs b.mails
def SmXs (l : List Box) : Prop := l.length <= 1048576 /\ ∀ m ∈ l, SmX m
def BgMs (l : List Mail) : Prop := l.length <= 9223372036854775807 /\ ∀ m ∈ l, BgM m
def BgS (s : Session) : Prop := s.host.length <= 9223372036854775807 /\ BgM s.draft /\ BgMs s.done
def BgX (b : Box) : Prop := b.path.length <= 9223372036854775807 /\ BgMs b.mails
def BgXs (l : List Box) : Prop := l.length <= 9223372036854775807 /\ ∀ m ∈ l, BgX m
def szSn (s : Session) (n : Int) : Int := if n - s.host.length < 0 then -1 else if szM s.draft (n - s.host.length) < 0 then -1 else if szMs s.done (szM s.draft (n - s.host.length)) < 0 then -1 else szMs s.done (szM s.draft (n - s.host.length))
def szX (b : Box) (n : Int) : Int := if n - b.path.length < 0 then -1 else if szMs b.mails (n - b.path.length) < 0 then -1 else szMs b.mails (n - b.path.length)
def szXs (l : List Box) (n : Int) : Int := if n - l.length < 0 then -1 else szGo szX l (n - l.length)
theorem szMs_le {l : List Mail} {n : Int} (h : 0 <= n) : szMs l n <= n := by
 unfold szMs
 split
 ·omega
 ·have := szGo_le (f := szM) (l := l) (fun a _ k hk => szM_le hk) (n := n - l.length) (by omega)
  omega
theorem szX_le {s : Box} {n : Int} (h : 0 <= n) : szX s n <= n := by
 unfold szX
 split
 ·omega
 ·have h1 := szMs_le (l := s.mails) (n := n - s.path.length) (by omega)
  split <;> omega
theorem SmMs.of {l : List Mail} {n : Int} (h : 0 <= n) (hn : n <= 1048576) (h2 : 0 <= szMs l n) : SmMs l := by
 unfold szMs at h2
 split at h2
 ·omega
 ·refine ⟨by omega, fun s hs => ?_⟩
  obtain ⟨k, h3, h4, h5⟩ := szGo_mem (f := szM) (l := l) (fun a _ k hk => szM_le hk) (n := n - l.length) (by omega) h2 s hs
  exact SmM.of h3 (by omega) h5
theorem SmS.of {s : Session} {n : Int} (h : 0 <= n) (hn : n <= 1048576) (h2 : 0 <= szSn s n) : SmS s := by
 unfold szSn at h2
 split at h2
 ·omega
 ·split at h2
  ·omega
  ·have h5 := szM_le (m := s.draft) (n := n - s.host.length) (by omega)
   split at h2
   ·omega
   ·exact ⟨by omega, SmM.of (n := n - s.host.length) (by omega) (by omega) (by omega), SmMs.of (n := szM s.draft (n - s.host.length)) (by omega) (by omega) h2⟩
theorem SmX.of {s : Box} {n : Int} (h : 0 <= n) (hn : n <= 1048576) (h2 : 0 <= szX s n) : SmX s := by
 unfold szX at h2
 split at h2
 ·omega
 ·split at h2
  ·omega
  ·exact ⟨by omega, SmMs.of (n := n - s.path.length) (by omega) (by omega) (by omega)⟩
theorem SmXs.of {l : List Box} {n : Int} (h : 0 <= n) (hn : n <= 1048576) (h2 : 0 <= szXs l n) : SmXs l := by
 unfold szXs at h2
 split at h2
 ·omega
 ·refine ⟨by omega, fun s hs => ?_⟩
  obtain ⟨k, h3, h4, h5⟩ := szGo_mem (f := szX) (l := l) (fun a _ k hk => szX_le hk) (n := n - l.length) (by omega) h2 s hs
  exact SmX.of h3 (by omega) h5
theorem box_eq (a b : Box) : (a = b) ↔ (a.path = b.path /\ a.mails = b.mails) := by cases a; cases b; simp
def tyMs : Ty := .sl tyM
def tyS : Ty := .st [.int .i64, .str, tyM, tyMs]
def tyX : Ty := .st [.str, tyMs]
def tyXs : Ty := .sl tyX
theorem equalFuncM_c (a b : List Mail) (h : SmMs a) : qc id_slices_EqualFunc___impl_Mail___impl_Mail_impl_Mail_impl_Mail_ [.sl false (vR eM a), .sl false (vR eM b), .fn id_impl_MailSame []] = some (.bool (decide (a = b))) := by
 have ha := h.1
 refine qc_of (H := []) ?_ (by simp only [evv]) rfl
 show cv _ _ _ = _
 rw [slices_EqualFunc___impl_Mail___impl_Mail_impl_Mail_impl_Mail__eq]
 by_cases hl : a.length = b.length
 ·have loop := lv_eq (B := slices_EqualFunc___impl_Mail___impl_Mail_impl_Mail_impl_Mail__l4) (S := fun i => [.sl false (vR eM b), .fn id_impl_MailSame [], .sl false (vR eM a), .int .i64 (a.length : Nat), .int .i64 (i : Nat)]) (H := []) (m0 := 0) (m1 := 1) (vs0 := []) (vs1 := [.bool false]) a b hl
   (fun i hi => by
    have i1 := vM_idx false a .i64 i hi
    have i2 := vM_idx false b .i64 i (by omega)
    have e1 := impl_MailSame_c a[i] (b[i]'(by omega)) (h.2 _ (List.getElem_mem hi))
    simp only [cM_e] at e1
    have e2 : vBinV (.int .i64) .add (.int .i64 (i : Int)) (.int .i64 1) = some (.int .i64 ((i + 1 : Nat) : Int)) := n_addN _ i 1 (by omega)
    rw [slices_EqualFunc___impl_Mail___impl_Mail_impl_Mail_impl_Mail__l4_eq]
    simp only [evv, i1, i2, e1, e2, show ((i : Int) < (a.length : Int)) from by omega]
    by_cases e : a[i] = b[i] <;> simp only [evv, e])
   (by
    rw [slices_EqualFunc___impl_Mail___impl_Mail_impl_Mail_impl_Mail__l4_eq]
    simp only [evv, show ¬ ((a.length : Int) < (a.length : Int)) from by omega])
  have loop' : lpW' slices_EqualFunc___impl_Mail___impl_Mail_impl_Mail_impl_Mail__l4 [.sl false (vR eM b), .fn id_impl_MailSame [], .sl false (vR eM a), .int .i64 (b.length : Nat), .int .i64 0] [] = if a = b then some (0, [], []) else some (1, [.bool false], []) := by rw [<- hl]; exact loop
  simp only [evv, hl, loop']
  by_cases e : a = b <;> simp only [evv, e]
 ·have : a ≠ b := fun e => hl (by rw [e])
  simp only [evv, show ¬ ((a.length : Int) = (b.length : Int)) from by omega, this]
theorem impl_BoxesSame_1_c (a b : Box) (h : SmX a) : qc id_impl_BoxesSame_1 [.agg (cX a), .agg (cX b)] = some (.bool (decide (a = b))) := by
 have e2 := equalFuncM_c a.mails b.mails h.2
 refine qc_of (H := []) ?_ (by simp only [evv]) rfl
 show cv _ _ _ = _
 rw [impl_BoxesSame_1_eq]
 simp only [evv, e2, box_eq]
 by_cases h0 : a.path = b.path <;> by_cases h3 : a.mails = b.mails <;> simp [h0, h3]
theorem equalFuncX_c (a b : List Box) (h : SmXs a) : qc id_slices_EqualFunc___impl_Box___impl_Box_impl_Box_impl_Box_ [.sl false (vR eX a), .sl false (vR eX b), .fn id_impl_BoxesSame_1 []] = some (.bool (decide (a = b))) := by
 have ha := h.1
 refine qc_of (H := []) ?_ (by simp only [evv]) rfl
 show cv _ _ _ = _
 rw [slices_EqualFunc___impl_Box___impl_Box_impl_Box_impl_Box__eq]
 by_cases hl : a.length = b.length
 ·have loop := lv_eq (B := slices_EqualFunc___impl_Box___impl_Box_impl_Box_impl_Box__l4) (S := fun i => [.sl false (vR eX b), .fn id_impl_BoxesSame_1 [], .sl false (vR eX a), .int .i64 (a.length : Nat), .int .i64 (i : Nat)]) (H := []) (m0 := 0) (m1 := 1) (vs0 := []) (vs1 := [.bool false]) a b hl
   (fun i hi => by
    have i1 := vX_idx false a .i64 i hi
    have i2 := vX_idx false b .i64 i (by omega)
    have e1 := impl_BoxesSame_1_c a[i] (b[i]'(by omega)) (h.2 _ (List.getElem_mem hi))
    simp only [cX_e] at e1
    have e2 : vBinV (.int .i64) .add (.int .i64 (i : Int)) (.int .i64 1) = some (.int .i64 ((i + 1 : Nat) : Int)) := n_addN _ i 1 (by omega)
    rw [slices_EqualFunc___impl_Box___impl_Box_impl_Box_impl_Box__l4_eq]
    simp only [evv, i1, i2, e1, e2, show ((i : Int) < (a.length : Int)) from by omega]
    by_cases e : a[i] = b[i] <;> simp only [evv, e])
   (by
    rw [slices_EqualFunc___impl_Box___impl_Box_impl_Box_impl_Box__l4_eq]
    simp only [evv, show ¬ ((a.length : Int) < (a.length : Int)) from by omega])
  have loop' : lpW' slices_EqualFunc___impl_Box___impl_Box_impl_Box_impl_Box__l4 [.sl false (vR eX b), .fn id_impl_BoxesSame_1 [], .sl false (vR eX a), .int .i64 (b.length : Nat), .int .i64 0] [] = if a = b then some (0, [], []) else some (1, [.bool false], []) := by rw [<- hl]; exact loop
  simp only [evv, hl, loop']
  by_cases e : a = b <;> simp only [evv, e]
 ·have : a ≠ b := fun e => hl (by rw [e])
  simp only [evv, show ¬ ((a.length : Int) = (b.length : Int)) from by omega, this]
theorem impl_BoxesSame_c (a b : List Box) (h : SmXs a) : qc id_impl_BoxesSame [.sl false (vR eX a), .sl false (vR eX b)] = some (.bool (decide (a = b))) := by
 have e2 := equalFuncX_c a b h
 refine qc_of (H := []) ?_ (by simp only [evv]) rfl
 show cv _ _ _ = _
 rw [impl_BoxesSame_eq]
 simp only [evv, e2]
end Go.Proofs.YtikpckcdpmjpgaaGreatDoor.Q

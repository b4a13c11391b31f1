/- Contracts: mails come to mailboxes. -/
import Derived.Test.YtpmpggihngmnoaaGreatDoorScriptSayC90boxownZ
namespace Go.Proofs.YtpmpggihngmnoaaGreatDoor.Q
open Go Go.AM
set_option linter.unusedSimpArgs false
set_option linter.unusedVariables false
set_option linter.unusedSectionVars false
theorem qco_d {f : FuncId} {H : VH} {vs : List V} (h : dataL vs = true) : qco f H vs = qc f (vs.map strip) := qpcallO_d h
def HoX (v : V) (H : VH) (l : List Box) : Prop := (l = [] /\ v = .sl true []) ∨ (l ≠ [] /\ ∃ k, v = .obs k 0 l.length 2 /\ H[k]? = some (vOX l).flatten)
theorem HoX.strip {v : V} {H : VH} {l : List Box} (h : HoX v H l) : Go.AM.strip v = (if l = [] then .sl false [] else v) := by
 rcases h with ⟨rfl, rfl⟩ | ⟨hne, k, rfl, _⟩
 ·rfl
 ·rw [if_neg hne]; rfl
theorem HoX.q {v : V} {H : VH} {l : List Box} (h : HoX v H l) (f : FuncId) (us : List V) (ha : dataL us = true) : qco f H (Go.AM.strip v :: us) = qc f (.sl false (vR eX l) :: us.map Go.AM.strip) := by
 rcases h with ⟨rfl, rfl⟩ | ⟨hne, k, rfl, hk⟩
 ·exact qco_d (by simp only [Go.AM.strip, stripLL, dataL, data, dataLL, ha, Bool.and_self])
 ·have h1 : noObsL (Go.AM.strip (.obs k 0 l.length 2) :: us) = false := by simp only [Go.AM.strip, noObsL, noObs, Bool.false_and]
  show qpcallO cv f H _ = _
  rw [qpcallO_o h1]
  have h2 : frD 3 H (.obs k 0 l.length 2) = .sl false (vR eX l) := by
   have := frD_obs 3 hk (vOX_rows l) (vOX_data l)
   rw [vOX_len, vOX_strip] at this
   exact this
  show qpcall cv f (frD 3 H (.obs k 0 l.length 2) :: us.map (frD 3 H)) = _
  rw [h2, map_frD ha]
  rfl
theorem HoX.ne {v : V} {H : VH} {l : List Box} (h : HoX v H l) (hne : l ≠ []) : ∃ k, v = .obs k 0 l.length 2 /\ H[k]? = some (vOX l).flatten := by
 rcases h with ⟨h, _⟩ | ⟨_, h⟩
 ·exact absurd h hne
 ·exact h
section
variable {k i : Nat} {H : VH} {l : List Box} (hk : H[k]? = some (vOX l).flatten) (hi : i < l.length)
include hk hi
end
def put1 (m : Mail) (to : Bs) : Mail := ⟨m.from_, [to], m.lines⟩
def dl1 (l : List Box) (m : Mail) (to : Bs) : List Box × Int :=
 if l.any (isP to) = true then
  if (boxAt l (l.findIdx (isP to))).mails.length = 4 then (l, 452)
  else (l.set (l.findIdx (isP to)) ⟨(boxAt l (l.findIdx (isP to))).path, (boxAt l (l.findIdx (isP to))).mails ++ [put1 m to]⟩, 250)
 else (l, 550)
def dlS (m : Mail) (s : List Box × List Int) (to : Bs) : List Box × List Int := ((dl1 s.1 m to).1, s.2 ++ [(dl1 s.1 m to).2])
def dlN (m : Mail) (tos : List Bs) (s : List Box × List Int) : List Box × List Int := tos.foldl (dlS m) s
def dlvR (l : List Box) (m : Mail) : List Box × List Int := if boxesT l && mailT m 1 30 then dlN m m.to (l, []) else ([], [])
def dlvB (l : List Box) (m : Mail) : Bool := boxesT l && mailT m 1 30
theorem dl1_len (l : List Box) (m : Mail) (to : Bs) : (dl1 l m to).1.length = l.length := by
 unfold dl1
 split
 ·split <;> simp
 ·rfl
theorem findIdx_isP {l : List Box} {p : Bs} (h : l.any (isP p) = true) : l.findIdx (isP p) < l.length := by
 rw [List.any_eq_true] at h
 exact List.findIdx_lt_length_of_exists h
theorem boxAt_mem {l : List Box} {i : Nat} (h : i < l.length) : boxAt l i ∈ l := by rw [boxAt_get h]; exact List.getElem_mem h
def OkX (n : Nat) (l : List Box) : Prop := l.length <= 1049600 /\ ∀ b ∈ l, b.path.length <= 1049600 /\ b.mails.length <= n /\ ∀ m ∈ b.mails, SmM m
theorem OkX.sm {n : Nat} {l : List Box} (h : OkX n l) (hn : n <= 1049600) : SmXs l := ⟨by have := h.1; omega, fun b hb => ⟨by have := (h.2 b hb).1; omega, by have := (h.2 b hb).2.1; omega, (h.2 b hb).2.2⟩⟩
theorem OkX.le {n k : Nat} {l : List Box} (h : OkX n l) (hn : n <= k) : OkX k l := ⟨h.1, fun b hb => ⟨(h.2 b hb).1, by have := (h.2 b hb).2.1; omega, (h.2 b hb).2.2⟩⟩
end Go.Proofs.YtpmpggihngmnoaaGreatDoor.Q

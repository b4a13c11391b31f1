/- Contracts: mailboxes in new memory, and where a path is. -/
import Derived.Test.YtpmpggihngmnoaaGreatDoorScriptReturnC86fdrawsZ
import Derived.Test.YtpmpggihngmnoaaGreatDoorFnScriptReturnK5
namespace Go.Proofs.YtpmpggihngmnoaaGreatDoor.Q
open Go Go.AM
set_option linter.unusedSimpArgs false
set_option linter.unusedVariables false
set_option linter.unusedSectionVars false
def cOx (b : Box) : List V := [.str b.path, .sl true (vO b.mails)]
theorem eX_e (b : Box) : eX.e b = [.str b.path, .sl false (vR eM b.mails)] := by exact id rfl
def vOX (l : List Box) : List (List V) := l.map cOx
theorem vOX_len (l : List Box) : (vOX l).length = l.length := by simp [vOX]
theorem cOx_strip (b : Box) : stripL (cOx b) = eX.e b := by simp only [cOx, eX_e, stripL, strip, vO_strip]
theorem vOX_strip : ∀ l : List Box, stripLL (vOX l) = vR eX l
 | [] => rfl
 | m :: l => by
   show stripL (cOx m) :: stripLL (vOX l) = _
   rw [vOX_strip l, cOx_strip]; rfl
theorem vOX_esz (l : List Box) : eszOk 2 (vOX l) = true := by simp [eszOk, vOX, cOx]
theorem vOX_app (l k : List Box) : vOX l ++ vOX k = vOX (l ++ k) := by simp [vOX]
theorem vOX_data : ∀ l : List Box, dataLL (vOX l) = true
 | [] => rfl
 | m :: l => by
   show (dataL (cOx m) && dataLL (vOX l)) = true
   rw [vOX_data l, Bool.and_true]
   simp only [cOx, dataL, data, vO_data, Bool.and_self]
theorem vOX_rows (l : List Box) : Go.AM.Rows 2 (vOX l) := fun x hx => by
 obtain ⟨b, _, rfl⟩ := List.mem_map.1 hx
 rfl
theorem vT_own : ∀ l : List Bs, ownALL (vT l) = true
 | [] => rfl
 | m :: l => by
   show (ownAL [.str m] && ownALL (vT l)) = true
   rw [vT_own l]; rfl
theorem vO_own : ∀ l : List Mail, ownALL (vO l) = true
 | [] => rfl
 | m :: l => by
   show (ownAL (cO m) && ownALL (vO l)) = true
   rw [vO_own l]
   simp only [cO, ownAL, ownA, vT_own, Bool.true_or, Bool.and_self]
theorem vOX_own : ∀ l : List Box, ownALL (vOX l) = true
 | [] => rfl
 | m :: l => by
   show (ownAL (cOx m) && ownALL (vOX l)) = true
   rw [vOX_own l]
   simp only [cOx, ownAL, ownA, vO_own, Bool.true_or, Bool.and_self]
theorem vOX_get (l : List Box) (i : Nat) (h : i < l.length) : (vOX l)[i]? = some (cOx l[i]) := by simp [vOX, List.getElem?_eq_getElem h]
theorem boxes_app {l : List Box} (b : Box) (h : l.length + 1 <= 2000000) : appV false 2 40 (vOX l) (.sl true [[.str b.path, .sl true (vO b.mails)]]) = some (.sl true (vOX (l ++ [b]))) := by
 have := v_app 2 40 (vOX l) true (vOX [b]) (vOX_esz _) (vOX_esz _) (by rw [vOX_len, vOX_len]; simp; omega)
 rw [vOX_app] at this
 exact this
theorem copyBoxes_c (l : List Box) (h : SmXs l) : pc id_impl_copyBoxes [.sl false (vR eX l)] = some (.sl true (vOX l)) := by
 have hl := h.1
 suffices hg : Gets (cv id_impl_copyBoxes [.sl false (vR eX l)] []) fun r => r.1 = .sl true (vOX l) by
  obtain ⟨⟨v, H⟩, e, h⟩ := hg
  have h : v = _ := h
  subst h
  exact pc_of e (by simp only [evv]) (by simp only [evv, vOX_data])
 rw [impl_copyBoxes_eq]
 simp only [evv]
 refine Gets.loop2 (I := fun n st H => ∃ i : Nat, n = l.length - i /\ i <= l.length /\ st = [.sl true (vOX (l.take i)), .sl false (vR eX l), .int .i64 (l.length : Nat), .int .i64 (i : Nat)])
  (P := fun q vs H => q = 0 /\ vs = [.sl true (vOX l)]) (n := l.length) ?_ ⟨0, by omega, by omega, rfl⟩ ?_
 ·rintro n st H ⟨i, rfl, hi, rfl⟩
  rw [impl_copyBoxes_l3_eq]
  by_cases hlt : i < l.length
  ·have i1 := vX_idx false l .i64 i hlt
   have e1 := copyMails_c l[i].mails (h.2 _ (List.getElem_mem hlt)).2
   have ap := boxes_app (l := l.take i) l[i] (by simp; omega)
   rw [<- List.take_succ_eq_append_getElem hlt] at ap
   have e3 : vBinV (.int .i64) .add (.int .i64 (i : Int)) (.int .i64 1) = some (.int .i64 ((i + 1 : Nat) : Int)) := n_addN _ i 1 (by omega)
   simp only [evv, i1, eX_e, e1, ap, e3, show ((i : Int) < (l.length : Int)) from by omega]
   exact ⟨_, rfl, .inr ⟨rfl, l.length - (i + 1), by omega, i + 1, rfl, by omega, rfl⟩⟩
  ·have : i = l.length := by omega
   subst this
   rw [List.take_length]
   simp only [evv, show ¬ ((l.length : Int) < (l.length : Int)) from by omega]
   exact ⟨_, rfl, .inl ⟨0, rfl, rfl, rfl⟩⟩
 rintro _ _ H ⟨rfl, rfl⟩
 simp only [evv]
 exact Gets.here rfl
def isP (p : Bs) (b : Box) : Bool := decide (b.path = p)
end Go.Proofs.YtpmpggihngmnoaaGreatDoor.Q

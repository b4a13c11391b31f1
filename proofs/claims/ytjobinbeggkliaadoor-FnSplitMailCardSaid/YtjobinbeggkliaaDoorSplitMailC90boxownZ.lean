/- Contracts: mailboxes in new memory, and where a path is. -/
import Derived.Test.YtjobinbeggkliaaDoorSplitMailC86fdrawsZ
import Derived.Test.YtjobinbeggkliaaDoorK5
namespace Go.Proofs.YtjobinbeggkliaaDoor.Q
open Go Go.AM
set_option linter.unusedSimpArgs false
set_option linter.unusedVariables false
set_option linter.unusedSectionVars false
def cOx (b : Box) : List V := [.str b.path, .sl true (vO b.mails)]
theorem cOx_e (b : Box) : cOx b = [.str b.path, .sl true (vO b.mails)] := by exact id rfl
theorem eX_e (b : Box) : eX.e b = [.str b.path, .sl false (vR eM b.mails)] := by exact id rfl
def vOX (l : List Box) : List (List V) := l.map cOx
theorem vOX_len (l : List Box) : (vOX l).length = l.length := by simp [vOX]
theorem cOx_strip (b : Box) : stripL (cOx b) = eX.e b := by simp only [cOx, eX_e, stripL, strip, vO_strip]
theorem vOX_strip : ∀ l : List Box, stripLL (vOX l) = vR eX l
  | [] => rfl
  | m :: l => by
    show stripL (cOx m) :: stripLL (vOX l) = _
    rw [vOX_strip l, cOx_strip]; rfl
theorem vOX_esz (l : List Box) : eszOk 2 (vOX l) = true := by simp [eszOk, vOX, cOx]
theorem vOX_app (l k : List Box) : vOX l ++ vOX k = vOX (l ++ k) := by simp [vOX]
theorem vOX_data : ∀ l : List Box, dataLL (vOX l) = true
  | [] => rfl
  | m :: l => by
    show (dataL (cOx m) && dataLL (vOX l)) = true
    rw [vOX_data l, Bool.and_true]
    simp only [cOx, dataL, data, vO_data, Bool.and_self]
theorem vOX_rows (l : List Box) : Go.AM.Rows 2 (vOX l) := fun x hx => by
  obtain ⟨b, _, rfl⟩ := List.mem_map.1 hx
  rfl
theorem vT_own : ∀ l : List Bs, ownALL (vT l) = true
  | [] => rfl
  | m :: l => by
    show (ownAL [.str m] && ownALL (vT l)) = true
    rw [vT_own l]; rfl
theorem vO_own : ∀ l : List Mail, ownALL (vO l) = true
  | [] => rfl
  | m :: l => by
    show (ownAL (cO m) && ownALL (vO l)) = true
    rw [vO_own l]
    simp only [cO, ownAL, ownA, vT_own, Bool.true_or, Bool.and_self]
theorem vOX_own : ∀ l : List Box, ownALL (vOX l) = true
  | [] => rfl
  | m :: l => by
    show (ownAL (cOx m) && ownALL (vOX l)) = true
    rw [vOX_own l]
    simp only [cOx, ownAL, ownA, vO_own, Bool.true_or, Bool.and_self]
theorem vOX_get (l : List Box) (i : Nat) (h : i < l.length) : (vOX l)[i]? = some (cOx l[i]) := by simp [vOX, List.getElem?_eq_getElem h]
theorem boxes_app {l : List Box} (b : Box) (h : l.length + 1 ≤ 2000000) : appV false 2 40 (vOX l) (.sl true [[.str b.path, .sl true (vO b.mails)]]) = some (.sl true (vOX (l ++ [b]))) := by
  have := v_app 2 40 (vOX l) true (vOX [b]) (vOX_esz _) (vOX_esz _) (by rw [vOX_len, vOX_len]; simp; omega)
  rw [vOX_app] at this
  exact this

theorem l10Mail_s (m : Mail) (h : SmM m) : pc id_spec_l10Mail [.agg (cM m)] = some (.agg (cO m)) := by
  have a1 : appV false 1 16 [] (.sl false (vT m.to)) = some (.sl true (vT ([] ++ m.to))) := v_app 1 16 [] false (vT m.to) rfl (vT_esz _) (by have := h.2.1.1; rw [vT_len]; simp; omega)
  have a2 : appV false 1 16 [] (.sl false (vT m.lines)) = some (.sl true (vT ([] ++ m.lines))) := v_app 1 16 [] false (vT m.lines) rfl (vT_esz _) (by have := h.2.2.1; rw [vT_len]; simp; omega)
  rw [List.nil_append] at a1 a2
  refine pc_of (H := []) ?_ (by simp only [evv, Nat.zero_add, if_true, if_false, decide_true, decide_false, Bool.false_eq_true, Bool.not_true, Bool.not_false]) (by simp only [evv, Nat.zero_add, if_true, if_false, decide_true, decide_false, Bool.false_eq_true, Bool.not_true, Bool.not_false, cO_e])
  show cv _ _ _ = _
  rw [spec_l10Mail_eq]
  simp only [evv, Nat.zero_add, if_true, if_false, decide_true, decide_false, Bool.false_eq_true, Bool.not_true, Bool.not_false, a1, a2, cO_e]

def isP (p : Bs) (b : Box) : Bool := decide (b.path = p)

end Go.Proofs.YtjobinbeggkliaaDoor.Q

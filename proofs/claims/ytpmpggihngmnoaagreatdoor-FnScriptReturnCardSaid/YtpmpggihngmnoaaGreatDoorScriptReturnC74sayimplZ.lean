/- Contracts: a dialogue, as the program tells it. -/
import Derived.Test.YtpmpggihngmnoaaGreatDoorScriptReturnC72sayZ
namespace Go.Proofs.YtpmpggihngmnoaaGreatDoor.Q
open Go Go.AM
set_option linter.unusedSimpArgs false
set_option linter.unusedVariables false
set_option linter.unusedSectionVars false
theorem CloneT_c (l : List Bs) (h : l.length <= 2000000) : pc id_slices_Clone___string_string_ [.sl false (vT l)] = some (.sl true (vT l)) := by
 have a1 : appV false 1 16 [] (.sl false (vT l)) = some (.sl true (vT ([] ++ l))) := v_app 1 16 [] false (vT l) rfl (vT_esz _) (by rw [vT_len]; simp; omega)
 rw [List.nil_append] at a1
 refine pc_of (H := []) ?_ (by simp only [evv]) (by simp only [evv])
 show cv _ _ _ = _
 rw [slices_Clone___string_string__eq]
 cases l with
 | nil =>
   have e : vNilEqV .eql (.sl false (vT [])) = some .ub := rfl
   have a2 : appV false 1 16 [] (.sl false (vT [])) = some (.sl true []) := a1
   simp only [evv, e, a2]
   rfl
 | cons a l =>
   have e : vNilEqV .eql (.sl false (vT (a :: l))) = some (.bool false) := rfl
   simp only [evv, e, a1]
theorem copyMail_c (m : Mail) (h : SmM m) : pc id_impl_copyMail [.agg (cM m)] = some (.agg (cO m)) := by
 have a1 := CloneT_c m.to (by have := h.2.1.1; omega)
 have a2 := CloneT_c m.lines (by have := h.2.2.1; omega)
 refine pc_of (H := []) ?_ (by simp only [evv]) (by simp only [evv, cO_e])
 show cv _ _ _ = _
 rw [impl_copyMail_eq]
 simp only [evv, a1, a2, cO_e]
theorem copyMails_c (l : List Mail) (h : SmMs l) : pc id_impl_copyMails [.sl false (vR eM l)] = some (.sl true (vO l)) := by
 have hl := h.1
 suffices hg : Gets (cv id_impl_copyMails [.sl false (vR eM l)] []) fun r => r.1 = .sl true (vO l) by
  obtain ⟨⟨v, H⟩, e, h⟩ := hg
  have h : v = _ := h
  subst h
  exact pc_of e (by simp only [evv]) (by simp only [evv, vO_data])
 rw [impl_copyMails_eq]
 simp only [evv]
 refine Gets.loop2 (I := fun n st H => ∃ i : Nat, n = l.length - i /\ i <= l.length /\ st = [.sl true (vO (l.take i)), .sl false (vR eM l), .int .i64 (l.length : Nat), .int .i64 (i : Nat)])
  (P := fun q vs H => q = 0 /\ vs = [.sl true (vO l)]) (n := l.length) ?_ ⟨0, by omega, by omega, rfl⟩ ?_
 ·rintro n st H ⟨i, rfl, hi, rfl⟩
  rw [impl_copyMails_l3_eq]
  by_cases hlt : i < l.length
  ·have i1 := vM_idx false l .i64 i hlt
   have e1 := copyMail_c l[i] (h.2 _ (List.getElem_mem hlt))
   simp only [cM_e, cO_e] at e1
   have ap := mails_app (l := l.take i) l[i] (by simp; omega)
   rw [<- List.take_succ_eq_append_getElem hlt] at ap
   have e3 : vBinV (.int .i64) .add (.int .i64 (i : Int)) (.int .i64 1) = some (.int .i64 ((i + 1 : Nat) : Int)) := n_addN _ i 1 (by omega)
   simp only [evv, i1, e1, ap, e3, show ((i : Int) < (l.length : Int)) from by omega]
   exact ⟨_, rfl, .inr ⟨rfl, l.length - (i + 1), by omega, i + 1, rfl, by omega, rfl⟩⟩
  ·have : i = l.length := by omega
   subst this
   rw [List.take_length]
   simp only [evv, show ¬ ((l.length : Int) < (l.length : Int)) from by omega]
   exact ⟨_, rfl, .inl ⟨0, rfl, rfl, rfl⟩⟩
 rintro _ _ H ⟨rfl, rfl⟩
 simp only [evv]
 exact Gets.here rfl
def OutR (c : UInt8) (s : Bs) (i : Int) : Prop := ((34 : UInt8) ∉ cutA c s /\ i = if c ∈ s then ((s.idxOf c : Nat) : Int) else -1) ∨ ((34 : UInt8) ∈ cutA c s /\ (i = -1 ∨ ∃ k : Nat, i = k /\ k < s.length /\ (34 : UInt8) ∈ s.take k))
def okB (s : Session) (line : Bs) : Bool := !decide (s.state = 5) && textT line
end Go.Proofs.YtpmpggihngmnoaaGreatDoor.Q

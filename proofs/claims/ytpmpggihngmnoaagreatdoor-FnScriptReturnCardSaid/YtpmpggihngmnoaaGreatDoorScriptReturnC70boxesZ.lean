/- Contracts: valid mailboxes, and how many mails they hold. -/
import Derived.Test.YtpmpggihngmnoaaGreatDoorScriptReturnC66sessionsZ
namespace Go.Proofs.YtpmpggihngmnoaaGreatDoor.Q
open Go Go.AM
set_option linter.unusedSimpArgs false
set_option linter.unusedVariables false
set_option linter.unusedSectionVars false
def ltT (a b : Bs) : Bool := Op.bytesLess a b
theorem t_geq (tk : TK) (s t : Bs) : vBinV tk .geq (.str s) (.str t) = some (.bool (!ltT s t)) := by
 simp only [vBinV, toA, vBin, vStrOp, ofA, Option.bind_some, ByteArray.toList_eq]
 rfl
def boxAt (l : List Box) (i : Nat) : Box := l.getD i ⟨[], []⟩
theorem boxAt_get {l : List Box} {i : Nat} (h : i < l.length) : boxAt l i = l[i] := by
 unfold boxAt
 rw [List.getD_eq_getElem?_getD, List.getElem?_eq_getElem h]; rfl
def badX (l : List Box) (i : Nat) : Bool := !pathT (boxAt l i).path || (decide (4 < (boxAt l i).mails.length) || ((decide (0 < i) && !ltT (boxAt l (i - 1)).path (boxAt l i).path) || (boxAt l i).mails.any fun m => !mailT m 1 30))
def boxesT (l : List Box) : Bool := decide (l.length <= 8) && !(List.range l.length).any (badX l)
theorem lv_anyN {B : List V -> VH -> Option (Option Nat × List V × VH)} {S : Nat -> List V} {H : VH} {m0 m1 : Nat} {vs0 vs1 : List V} (n : Nat) (p : Nat -> Bool) (hr : ∀ i, i < n -> B (S i) H = if p i = true then some (some m1, vs1, H) else some (none, S (i + 1), H))
 (he : B (S n) H = some (some m0, vs0, H)) : lpW' B (S 0) H = if (List.range n).any p = true then some (m1, vs1, H) else some (m0, vs0, H) :=
 lv_any (List.range n) p (fun i hi => by
  have h : i < n := by simpa using hi
  rw [List.getElem_range]; exact hr i h) (by rw [List.length_range]; exact he)
theorem impl_BoxesValid_c (l : List Box) (h : SmXs l) : qc id_impl_BoxesValid [.sl false (vR eX l)] = some (.bool (boxesT l)) := by
 have hl := h.1
 refine qc_of (H := []) ?_ (by simp only [evv]) rfl
 show cv _ _ _ = _
 rw [impl_BoxesValid_eq]
 have loop := lv_anyN (B := impl_BoxesValid_l2) (S := fun i => [.sl false (vR eX l), .sl false (vR eX l), .int .i64 (l.length : Nat), .int .i64 (i : Nat)]) (H := []) (m0 := 0) (m1 := 1) (vs0 := [.sl false (vR eX l)]) (vs1 := [.bool false]) l.length (badX l)
  (fun i hi => by
   have i1 := vX_idx false l .i64 i hi
   have hs := h.2 _ (List.getElem_mem hi)
   have hp := hs.1
   have e1 := isPath_c l[i].path (by omega)
   have e2 := mailsValid_c l[i].mails 4 hs.2
   have e3 : vBinV (.int .i64) .add (.int .i64 (i : Int)) (.int .i64 1) = some (.int .i64 ((i + 1 : Nat) : Int)) := n_addN _ i 1 (by omega)
   rw [impl_BoxesValid_l2_eq]
   unfold badX
   rw [boxAt_get hi]
   by_cases h1 : pathT l[i].path = true
   ·by_cases h2 : 4 < l[i].mails.length
    ·have k2 : (decide ((l[i].mails.length : Int) <= 4) && !l[i].mails.any fun m => !mailT m 1 30) = false := by rw [decide_eq_false (by omega), Bool.false_and]
     rw [k2] at e2
     simp only [evv, i1, e1, e2, h1, h2, show ((i : Int) < (l.length : Int)) from by omega, Bool.true_or, Bool.or_true]
    ·have k2 : decide ((l[i].mails.length : Int) <= 4) = true := decide_eq_true (by omega)
     rw [k2, Bool.true_and] at e2
     by_cases h3 : (l[i].mails.any fun m => !mailT m 1 30) = true
     ·rw [h3] at e2
      simp only [evv, i1, e1, e2, h1, h2, h3, show ((i : Int) < (l.length : Int)) from by omega, Bool.true_or, Bool.or_true]
     ·have h3' : (l[i].mails.any fun m => !mailT m 1 30) = false := by simpa using h3
      rw [h3'] at e2
      by_cases h4 : 0 < i
      ·have i2 := vX_idx false l .i64 (i - 1) (by omega)
       have e4 : vBinV (.int .i64) .sub (.int .i64 (i : Int)) (.int .i64 1) = some (.int .i64 ((i - 1 : Nat) : Int)) := n_subN _ i 1 (by omega) (by omega)
       have e5 := t_geq .str (l[i - 1]'(by omega)).path l[i].path
       rw [boxAt_get (l := l) (i := i - 1) (by omega)]
       by_cases h5 : ltT (l[i - 1]'(by omega)).path l[i].path = true
       ·simp only [evv, i1, i2, e1, e2, e3, e4, e5, h1, h2, h3', h4, h5, show ((i : Int) > 0) from by omega, show ((i : Int) < (l.length : Int)) from by omega, Bool.or_false, Bool.and_false, Bool.or_self]
       ·have h5' : ltT (l[i - 1]'(by omega)).path l[i].path = false := by simpa using h5
        simp only [evv, i1, i2, e1, e2, e3, e4, e5, h1, h2, h3', h4, h5', show ((i : Int) > 0) from by omega, show ((i : Int) < (l.length : Int)) from by omega, Bool.or_false, Bool.and_self, Bool.or_true]
      ·simp only [evv, i1, e1, e2, e3, h1, h2, h3', h4, show ¬ ((i : Int) > 0) from by omega, show ((i : Int) < (l.length : Int)) from by omega, Bool.or_false, Bool.false_and, Bool.or_self]
   ·have h1' : pathT l[i].path = false := by simpa using h1
    simp only [evv, i1, e1, h1', show ((i : Int) < (l.length : Int)) from by omega, Bool.true_or])
  (by
   rw [impl_BoxesValid_l2_eq]
   simp only [evv, show ¬ ((l.length : Int) < (l.length : Int)) from by omega])
 have loop' : lpW' impl_BoxesValid_l2 [.sl false (vR eX l), .sl false (vR eX l), .int .i64 (l.length : Nat), .int .i64 0] [] = _ := loop
 unfold boxesT
 simp only [evv, loop']
 by_cases h1 : (List.range l.length).any (badX l) = true
 ·simp only [evv, h1, Bool.and_false]
 ·have h1' : (List.range l.length).any (badX l) = false := by simpa using h1
  simp only [evv, h1', Bool.and_true]
  by_cases h2 : l.length <= 8
  ·rw [decide_eq_true h2, decide_eq_true (show (l.length : Int) <= 8 from by omega)]
  ·rw [decide_eq_false h2, decide_eq_false (show ¬ (l.length : Int) <= 8 from by omega)]
def heldN (l : List Box) : Nat := (l.map fun b => b.mails.length).sum
def cheldN (l : List Box) : Nat := if boxesT l = true then heldN l else 0
theorem heldN_take {l : List Box} {i : Nat} (h : i < l.length) : heldN (l.take (i + 1)) = heldN (l.take i) + l[i].mails.length := by
 unfold heldN
 rw [List.take_succ_eq_append_getElem h, List.map_append, List.sum_append]; simp
theorem heldN_le {l : List Box} (h : SmXs l) : ∀ i, heldN (l.take i) <= i * 1049600
 | 0 => by simp [heldN]
 | i + 1 => by
   have ih := heldN_le h i
   by_cases hi : i < l.length
   ·rw [heldN_take hi]
    have := (h.2 _ (List.getElem_mem hi)).2.1
    omega
   ·rw [List.take_of_length_le (by omega)] at ih ⊢
    exact Nat.le_trans ih (Nat.mul_le_mul_right _ (Nat.le_succ i))
theorem impl_CountHeld_c (l : List Box) (h : SmXs l) : qc id_impl_CountHeld [.sl false (vR eX l)] = some (.int .i64 (cheldN l : Nat)) := by
 have hl := h.1
 have e1 := impl_BoxesValid_c l h
 suffices hg : Gets (cv id_impl_CountHeld [.sl false (vR eX l)] []) fun r => r.1 = .int .i64 (cheldN l : Nat) by
  obtain ⟨⟨v, H⟩, e, h⟩ := hg
  have h : v = _ := h
  subst h
  exact qc_of e (by simp only [evv]) rfl
 rw [impl_CountHeld_eq]
 unfold cheldN
 by_cases hb : boxesT l = true
 ·have h8 : l.length <= 8 := by unfold boxesT at hb; rw [Bool.and_eq_true, decide_eq_true_eq] at hb; exact hb.1
  simp only [evv, e1, hb]
  refine Gets.loop2 (I := fun n st H => ∃ i : Nat, n = l.length - i /\ i <= l.length /\ st = [.int .i64 (heldN (l.take i) : Nat), .sl false (vR eX l), .int .i64 (l.length : Nat), .int .i64 (i : Nat)])
   (P := fun q vs H => q = 0 /\ vs = [.int .i64 (heldN l : Nat)]) (n := l.length) ?_ ⟨0, by omega, by omega, rfl⟩ ?_
  ·rintro n st H ⟨i, rfl, hi, rfl⟩
   rw [impl_CountHeld_l5_eq]
   by_cases hlt : i < l.length
   ·have i1 := vX_idx false l .i64 i hlt
    have hle := heldN_le h i
    have hm := (h.2 _ (List.getElem_mem hlt)).2.1
    have e3 : vBinV (.int .i64) .add (.int .i64 (i : Int)) (.int .i64 1) = some (.int .i64 ((i + 1 : Nat) : Int)) := n_addN _ i 1 (by omega)
    have e4 := n_addN (.int .i64) (heldN (l.take i)) l[i].mails.length (by omega)
    rw [<- heldN_take hlt] at e4
    simp only [evv, i1, e3, e4, show ((i : Int) < (l.length : Int)) from by omega]
    exact ⟨_, rfl, .inr ⟨rfl, l.length - (i + 1), by omega, i + 1, rfl, by omega, rfl⟩⟩
   ·have : i = l.length := by omega
    subst this
    rw [List.take_length]
    simp only [evv, show ¬ ((l.length : Int) < (l.length : Int)) from by omega]
    exact ⟨_, rfl, .inl ⟨0, rfl, rfl, rfl⟩⟩
  rintro _ _ H ⟨rfl, rfl⟩
  simp only [evv]
  exact Gets.here rfl
 ·have hb' : boxesT l = false := by simpa using hb
  simp only [evv, e1, hb']
  exact Gets.here rfl
end Go.Proofs.YtpmpggihngmnoaaGreatDoor.Q

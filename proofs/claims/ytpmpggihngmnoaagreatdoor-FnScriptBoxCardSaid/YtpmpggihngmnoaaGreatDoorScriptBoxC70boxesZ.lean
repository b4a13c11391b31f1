/- Contracts: valid mailboxes, and how many mails they hold. -/
import Derived.Test.YtpmpggihngmnoaaGreatDoorScriptBoxC66sessionsZ
namespace Go.Proofs.YtpmpggihngmnoaaGreatDoor.Q
open Go Go.AM
set_option linter.unusedSimpArgs false
set_option linter.unusedVariables false
set_option linter.unusedSectionVars false
def ltT (a b : Bs) : Bool := Op.bytesLess a b
theorem t_geq (tk : TK) (s t : Bs) : vBinV tk .geq (.str s) (.str t) = some (.bool (!ltT s t)) := by
 simp only [vBinV, toA, vBin, vStrOp, ofA, Option.bind_some, ByteArray.toList_eq]
 rfl
def boxAt (l : List Box) (i : Nat) : Box := l.getD i ⟨[], []⟩
theorem boxAt_get {l : List Box} {i : Nat} (h : i < l.length) : boxAt l i = l[i] := by
 unfold boxAt
 rw [List.getD_eq_getElem?_getD, List.getElem?_eq_getElem h]; rfl
def badX (l : List Box) (i : Nat) : Bool := !pathT (boxAt l i).path || (decide (4 < (boxAt l i).mails.length) || ((decide (0 < i) && !ltT (boxAt l (i - 1)).path (boxAt l i).path) || (boxAt l i).mails.any fun m => !mailT m 1 30))
def boxesT (l : List Box) : Bool := decide (l.length <= 8) && !(List.range l.length).any (badX l)
theorem lv_anyN {B : List V -> VH -> Option (Option Nat × List V × VH)} {S : Nat -> List V} {H : VH} {m0 m1 : Nat} {vs0 vs1 : List V} (n : Nat) (p : Nat -> Bool) (hr : ∀ i, i < n -> B (S i) H = if p i = true then some (some m1, vs1, H) else some (none, S (i + 1), H))
 (he : B (S n) H = some (some m0, vs0, H)) : lpW' B (S 0) H = if (List.range n).any p = true then some (m1, vs1, H) else some (m0, vs0, H) :=
 lv_any (List.range n) p (fun i hi => by
  have h : i < n := by simpa using hi
  rw [List.getElem_range]; exact hr i h) (by rw [List.length_range]; exact he)
theorem spec_BoxesValid_c (l : List Box) (h : SmXs l) : qc id_spec_BoxesValid [.sl false (vR eX l)] = some (.bool (boxesT l)) := by
 have hl := h.1
 refine qc_of (H := []) ?_ (by simp only [evv]) rfl
 show cv _ _ _ = _
 rw [spec_BoxesValid_eq]
 have loop := lv_anyN (B := spec_BoxesValid_l2) (S := fun i => [.sl false (vR eX l), .int .i64 (i : Nat)]) (H := []) (m0 := 0) (m1 := 1) (vs0 := [.sl false (vR eX l)]) (vs1 := [.bool false]) (min l.length 9) (badX l)
  (fun i hi9 => by
   have hi : i < l.length := by omega
   have i1 := vX_idx false l .i64 i hi
   have hs := h.2 _ (List.getElem_mem hi)
   have hp := hs.1
   have hml := hs.2.1
   have e1 := l10Box_c l[i].path (by omega)
   have e3 : vBinV (.int .i64) .add (.int .i64 (i : Int)) (.int .i64 1) = some (.int .i64 ((i + 1 : Nat) : Int)) := n_addN _ i 1 (by omega)
   have inner := lv_any (B := spec_BoxesValid_l7) (S := fun k => [.sl false (vR eX l), .int .i64 (i : Nat), .int .i64 (k : Nat)]) (H := []) (m0 := 0) (m1 := 1) (vs0 := [.sl false (vR eX l), .int .i64 (i : Nat)]) (vs1 := [.bool false]) l[i].mails (fun m => !mailT m 1 30)
    (fun k hk => by
     have j1 := vM_idx false l[i].mails .i64 k hk
     have v1 := spec_MailValid_c l[i].mails[k] (hs.2.2 _ (List.getElem_mem hk))
     simp only [cM_e] at v1
     have e4 : vBinV (.int .i64) .add (.int .i64 (k : Int)) (.int .i64 1) = some (.int .i64 ((k + 1 : Nat) : Int)) := n_addN _ k 1 (by omega)
     rw [spec_BoxesValid_l7_eq]
     by_cases hv : mailT l[i].mails[k] 1 30 = true
     ·simp only [evv, i1, j1, v1, e4, hv, show ((k : Int) < (l[i].mails.length : Int)) from by omega]
     ·have hv' : mailT l[i].mails[k] 1 30 = false := by simpa using hv
      simp only [evv, i1, j1, v1, hv', show ((k : Int) < (l[i].mails.length : Int)) from by omega])
    (by
     rw [spec_BoxesValid_l7_eq]
     simp only [evv, i1, show ¬ ((l[i].mails.length : Int) < (l[i].mails.length : Int)) from by omega])
   have inner' : lpW' spec_BoxesValid_l7 [.sl false (vR eX l), .int .i64 (i : Nat), .int .i64 0] [] = _ := inner
   rw [spec_BoxesValid_l2_eq]
   unfold badX
   rw [boxAt_get hi]
   by_cases h1 : pathT l[i].path = true
   ·by_cases h2 : 4 < l[i].mails.length
    ·simp only [evv, i1, e1, h1, h2, show ((l[i].mails.length : Int) > 4) from by omega, show ((i : Int) < (l.length : Int)) from by omega, show ((i : Int) <= 8) from by omega, Bool.true_or, Bool.or_true]
    ·by_cases h4 : 0 < i
     ·have i2 := vX_idx false l .i64 (i - 1) (by omega)
      have e4 : vBinV (.int .i64) .sub (.int .i64 (i : Int)) (.int .i64 1) = some (.int .i64 ((i - 1 : Nat) : Int)) := n_subN _ i 1 (by omega) (by omega)
      have e5 := t_geq .str (l[i - 1]'(by omega)).path l[i].path
      rw [boxAt_get (l := l) (i := i - 1) (by omega)]
      by_cases h5 : ltT (l[i - 1]'(by omega)).path l[i].path = true
      ·by_cases h3 : (l[i].mails.any fun m => !mailT m 1 30) = true
       ·simp only [evv, i1, i2, e1, e3, e4, e5, h1, h2, h3, h4, h5, inner', show ¬ ((l[i].mails.length : Int) > 4) from by omega, show ((i : Int) > 0) from by omega, show ((i : Int) < (l.length : Int)) from by omega, show ((i : Int) <= 8) from by omega, Bool.or_true]
       ·have h3' : (l[i].mails.any fun m => !mailT m 1 30) = false := by simpa using h3
        simp only [evv, i1, i2, e1, e3, e4, e5, h1, h2, h3', h4, h5, inner', show ¬ ((l[i].mails.length : Int) > 4) from by omega, show ((i : Int) > 0) from by omega, show ((i : Int) < (l.length : Int)) from by omega, show ((i : Int) <= 8) from by omega, Bool.or_false, Bool.and_false, Bool.or_self]
      ·have h5' : ltT (l[i - 1]'(by omega)).path l[i].path = false := by simpa using h5
       simp only [evv, i1, i2, e1, e3, e4, e5, h1, h2, h4, h5', show ¬ ((l[i].mails.length : Int) > 4) from by omega, show ((i : Int) > 0) from by omega, show ((i : Int) < (l.length : Int)) from by omega, show ((i : Int) <= 8) from by omega, Bool.and_self, Bool.true_or, Bool.or_true]
     ·by_cases h3 : (l[i].mails.any fun m => !mailT m 1 30) = true
      ·simp only [evv, i1, e1, e3, h1, h2, h3, h4, inner', show ¬ ((l[i].mails.length : Int) > 4) from by omega, show ¬ ((i : Int) > 0) from by omega, show ((i : Int) < (l.length : Int)) from by omega, show ((i : Int) <= 8) from by omega, Bool.or_true]
      ·have h3' : (l[i].mails.any fun m => !mailT m 1 30) = false := by simpa using h3
       simp only [evv, i1, e1, e3, h1, h2, h3', h4, inner', show ¬ ((l[i].mails.length : Int) > 4) from by omega, show ¬ ((i : Int) > 0) from by omega, show ((i : Int) < (l.length : Int)) from by omega, show ((i : Int) <= 8) from by omega, Bool.or_false, Bool.false_and, Bool.or_self]
   ·have h1' : pathT l[i].path = false := by simpa using h1
    simp only [evv, i1, e1, h1', show ((i : Int) < (l.length : Int)) from by omega, show ((i : Int) <= 8) from by omega, Bool.true_or])
  (by
   rw [spec_BoxesValid_l2_eq]
   by_cases h9 : l.length <= 9
   ·rw [Nat.min_eq_left h9]
    simp only [evv, show ¬ ((l.length : Int) < (l.length : Int)) from by omega]
   ·rw [Nat.min_eq_right (by omega)]
    simp only [evv, show (((9 : Nat) : Int) < (l.length : Int)) from by omega, show ¬ (((9 : Nat) : Int) <= 8) from by omega])
 have loop' : lpW' spec_BoxesValid_l2 [.sl false (vR eX l), .int .i64 0] [] = _ := loop
 unfold boxesT
 by_cases h2 : l.length <= 8
 ·rw [Nat.min_eq_left (by omega)] at loop'
  simp only [evv, loop']
  by_cases h1 : (List.range l.length).any (badX l) = true
  ·simp only [evv, h1, Bool.and_false]
  ·have h1' : (List.range l.length).any (badX l) = false := by simpa using h1
   simp only [evv, h1', Bool.and_true]
   rw [decide_eq_true h2, decide_eq_true (show (l.length : Int) <= 8 from by omega)]
 ·have h2' : ¬ (l.length : Int) <= 8 := by omega
  rw [decide_eq_false h2, Bool.false_and]
  by_cases h1 : (List.range (min l.length 9)).any (badX l) = true
  ·simp only [evv, loop', h1]
  ·simp only [evv, loop', h1, h2']
def heldN (l : List Box) : Nat := (l.map fun b => b.mails.length).sum
def cheldN (l : List Box) : Nat := if boxesT l = true then heldN l else 0
end Go.Proofs.YtpmpggihngmnoaaGreatDoor.Q

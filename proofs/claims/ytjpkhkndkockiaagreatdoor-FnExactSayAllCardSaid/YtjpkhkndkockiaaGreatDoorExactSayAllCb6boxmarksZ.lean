/- Contracts: marks that are held, on lists of mails and of mailboxes. -/
import Derived.Test.YtjpkhkndkockiaaGreatDoorExactSayAllCb5rowmarksZ
import Derived.Test.YtjpkhkndkockiaaGreatDoorFnExactSayAllK4
namespace Go.Proofs.YtjpkhkndkockiaaGreatDoor.Q
open Go Go.AM
set_option linter.unusedSimpArgs false
set_option linter.unusedVariables false
set_option linter.unusedSectionVars false
theorem mkMs_mid (k : Nat) (l1 l2 : List Mail) (m : Mail) : (mkMs k (l1 ++ m :: l2))[l1.length]? = some (mk1 (k + szMk l1) m) := by
 rw [mkMs_app, List.getElem?_append_right (by rw [mkMs_len]; exact Nat.le_refl _), mkMs_len, Nat.sub_self]
 rfl
theorem heldMailS_c (k : Nat) (l : List Mail) (hk : k + szMk l <= 9000000000000000000) : qc id_laws_heldMailS [.sl false (vR eM (mkMs k l)), .int .i64 (k : Nat)] = some (.int .i64 ((k + szMk l : Nat) : Int)) := by
 suffices hg : Gets (cv id_laws_heldMailS [.sl false (vR eM (mkMs k l)), .int .i64 (k : Nat)] []) fun r => r.1 = .int .i64 ((k + szMk l : Nat) : Int) by
  obtain ⟨⟨v, H⟩, e, h⟩ := hg
  cases h
  exact qc_of e (by simp only [evv]) rfl
 have hl := mkMs_len k l
 rw [laws_heldMailS_eq]
 refine Gets.loop2 (I := fun n st G => ∃ l1 l2 : List Mail, n = l2.length /\ l = l1 ++ l2 /\ st = [.sl false (vR eM (mkMs k l)), .int .i64 ((k + szMk l1 : Nat) : Int), .int .i64 (l1.length : Nat)])
  (P := fun q vs G => q = 0 /\ vs = [.int .i64 ((k + szMk l : Nat) : Int)]) (n := l.length) ?_ ⟨[], l, rfl, rfl, rfl⟩ ?_
 ·rintro n st G ⟨l1, l2, rfl, rfl, rfl⟩
  rw [laws_heldMailS_l2_eq]
  cases l2 with
  | nil =>
    simp only [List.append_nil] at hl ⊢
    simp only [evv, vR_len, hl, show ¬ ((l1.length : Int) < (l1.length : Int)) from by omega]
    exact ⟨_, rfl, .inl ⟨0, rfl, rfl, rfl⟩⟩
  | cons m l2 =>
    have hlt : l1.length < (mkMs k (l1 ++ m :: l2)).length := by rw [hl]; simp
    have i1 := vM_idx false (mkMs k (l1 ++ m :: l2)) .i64 l1.length hlt
    have hg := mkMs_mid k l1 l2 m
    rw [List.getElem?_eq_getElem hlt] at hg
    rw [Option.some.inj hg] at i1
    have hem : ∀ x, eM.e x = cM x := fun _ => rfl
    rw [hem, cM_e] at i1
    have hsz : szMk (l1 ++ m :: l2) = szMk l1 + (1 + m.to.length + m.lines.length) + szMk l2 := by rw [szMk_app]; simp only [szMk, sz1]; omega
    have hge := szMk_ge l1
    have m1 := markText_c (k + szMk l1) (by omega)
    have e1 : vBinV (.int .i64) .add (.int .i64 ((k + szMk l1 : Nat) : Int)) (.int .i64 1) = some (.int .i64 ((k + szMk l1 + 1 : Nat) : Int)) := n_addN _ _ 1 (by omega)
    have e2 : vBinV (.int .i64) .add (.int .i64 (l1.length : Nat)) (.int .i64 1) = some (.int .i64 ((l1.length + 1 : Nat) : Int)) := n_addN _ _ 1 (by omega)
    have h1 := heldStringS_c (k + szMk l1 + 1) m.to.length (by omega)
    have h2 := heldStringS_c (k + szMk l1 + 1 + m.to.length) m.lines.length (by omega)
    have hnew : k + szMk l1 + 1 + m.to.length + m.lines.length = k + szMk (l1 ++ [m]) := by rw [szMk_app]; simp only [szMk, sz1]; omega
    have hl' : ((mkMs k (l1 ++ m :: l2)).length : Int) = ((l1.length + 1 + l2.length : Nat) : Int) := by rw [hl]; simp; omega
    simp only [mk1] at i1
    generalize hnum : k + szMk l1 = num at *
    generalize mkMs k (l1 ++ m :: l2) = Z at *
    simp only [evv, vR_len, hl', i1, m1, e1, e2, h1, h2, vT_strip, show ((l1.length : Int) < ((l1.length + 1 + l2.length : Nat) : Int)) from by omega, show ¬ (((num + 1 + m.to.length : Nat) : Int) < 0) from by omega, show ¬ (((num + 1 + m.to.length + m.lines.length : Nat) : Int) < 0) from by omega]
    exact ⟨_, rfl, .inr ⟨rfl, l2.length, by simp, l1 ++ [m], l2, rfl, by simp, by rw [<- hnew]; simp⟩⟩
 ·rintro _ _ G ⟨rfl, rfl⟩
  simp only [evv]
  exact Gets.here rfl
end Go.Proofs.YtjpkhkndkockiaaGreatDoor.Q

/- Contracts: mailboxes in new memory, and where a path is. -/
import Derived.Test.YtpmpggihngmnoaaGreatDoorScriptBoxC86fdrawsZ
import Derived.Test.YtpmpggihngmnoaaGreatDoorFnScriptBoxK5
namespace Go.Proofs.YtpmpggihngmnoaaGreatDoor.Q
open Go Go.AM
set_option linter.unusedSimpArgs false
set_option linter.unusedVariables false
set_option linter.unusedSectionVars false
def cOx (b : Box) : List V := [.str b.path, .sl true (vO b.mails)]
theorem cOx_e (b : Box) : cOx b = [.str b.path, .sl true (vO b.mails)] := by exact id rfl
theorem eX_e (b : Box) : eX.e b = [.str b.path, .sl false (vR eM b.mails)] := by exact id rfl
def vOX (l : List Box) : List (List V) := l.map cOx
theorem vOX_len (l : List Box) : (vOX l).length = l.length := by simp [vOX]
theorem cOx_strip (b : Box) : stripL (cOx b) = eX.e b := by simp only [cOx, eX_e, stripL, strip, vO_strip]
theorem vOX_strip : ∀ l : List Box, stripLL (vOX l) = vR eX l
 | [] => rfl
 | m :: l => by
   show stripL (cOx m) :: stripLL (vOX l) = _
   rw [vOX_strip l, cOx_strip]; rfl
theorem vOX_esz (l : List Box) : eszOk 2 (vOX l) = true := by simp [eszOk, vOX, cOx]
theorem vOX_app (l k : List Box) : vOX l ++ vOX k = vOX (l ++ k) := by simp [vOX]
theorem vOX_data : ∀ l : List Box, dataLL (vOX l) = true
 | [] => rfl
 | m :: l => by
   show (dataL (cOx m) && dataLL (vOX l)) = true
   rw [vOX_data l, Bool.and_true]
   simp only [cOx, dataL, data, vO_data, Bool.and_self]
theorem vOX_rows (l : List Box) : Go.AM.Rows 2 (vOX l) := fun x hx => by
 obtain ⟨b, _, rfl⟩ := List.mem_map.1 hx
 rfl
theorem vT_own : ∀ l : List Bs, ownALL (vT l) = true
 | [] => rfl
 | m :: l => by
   show (ownAL [.str m] && ownALL (vT l)) = true
   rw [vT_own l]; rfl
theorem vO_own : ∀ l : List Mail, ownALL (vO l) = true
 | [] => rfl
 | m :: l => by
   show (ownAL (cO m) && ownALL (vO l)) = true
   rw [vO_own l]
   simp only [cO, ownAL, ownA, vT_own, Bool.true_or, Bool.and_self]
theorem vOX_own : ∀ l : List Box, ownALL (vOX l) = true
 | [] => rfl
 | m :: l => by
   show (ownAL (cOx m) && ownALL (vOX l)) = true
   rw [vOX_own l]
   simp only [cOx, ownAL, ownA, vO_own, Bool.true_or, Bool.and_self]
theorem vOX_get (l : List Box) (i : Nat) (h : i < l.length) : (vOX l)[i]? = some (cOx l[i]) := by simp [vOX, List.getElem?_eq_getElem h]
theorem boxes_app {l : List Box} (b : Box) (h : l.length + 1 <= 2000000) : appV false 2 40 (vOX l) (.sl true [[.str b.path, .sl true (vO b.mails)]]) = some (.sl true (vOX (l ++ [b]))) := by
 have := v_app 2 40 (vOX l) true (vOX [b]) (vOX_esz _) (vOX_esz _) (by rw [vOX_len, vOX_len]; simp; omega)
 rw [vOX_app] at this
 exact this
theorem l10Mail_s (m : Mail) (h : SmM m) : pc id_spec_l10Mail [.agg (cM m)] = some (.agg (cO m)) := by
 have a1 : appV false 1 16 [] (.sl false (vT m.to)) = some (.sl true (vT ([] ++ m.to))) := v_app 1 16 [] false (vT m.to) rfl (vT_esz _) (by have := h.2.1.1; rw [vT_len]; simp; omega)
 have a2 : appV false 1 16 [] (.sl false (vT m.lines)) = some (.sl true (vT ([] ++ m.lines))) := v_app 1 16 [] false (vT m.lines) rfl (vT_esz _) (by have := h.2.2.1; rw [vT_len]; simp; omega)
 rw [List.nil_append] at a1 a2
 refine pc_of (H := []) ?_ (by simp only [evv]) (by simp only [evv, cO_e])
 show cv _ _ _ = _
 rw [spec_l10Mail_eq]
 simp only [evv, a1, a2, cO_e]
theorem l11Copy_c (l : List Box) (h : SmXs l) : pc id_spec_l11Copy [.sl false (vR eX l)] = some (.sl true (vOX l)) := by
 have hl := h.1
 suffices hg : Gets (cv id_spec_l11Copy [.sl false (vR eX l)] []) fun r => r.1 = .sl true (vOX l) by
  obtain ⟨⟨v, H⟩, e, h⟩ := hg
  have h : v = _ := h
  subst h
  exact pc_of e (by simp only [evv]) (by simp only [evv, vOX_data])
 rw [spec_l11Copy_eq]
 refine Gets.loop2 (I := fun n st H => ∃ i : Nat, n = l.length - i /\ i <= l.length /\ st = [.sl false (vR eX l), .sl true (vOX (l.take i)), .int .i64 (i : Nat)])
  (P := fun q vs H => q = 0 /\ vs = [.sl true (vOX l)]) (n := l.length) ?_ ⟨0, by omega, by omega, rfl⟩ ?_
 ·rintro n st H ⟨i, rfl, hi, rfl⟩
  rw [spec_l11Copy_l3_eq]
  by_cases hlt : i < l.length
  ·have i1 := vX_idx false l .i64 i hlt
   have hb := h.2 _ (List.getElem_mem hlt)
   generalize hbx : l[i] = b at *
   have hml := hb.2.1
   have ap := boxes_app (l := l.take i) b (by simp; omega)
   rw [<- hbx, <- List.take_succ_eq_append_getElem hlt, hbx] at ap
   have e3 : vBinV (.int .i64) .add (.int .i64 (i : Int)) (.int .i64 1) = some (.int .i64 ((i + 1 : Nat) : Int)) := n_addN _ i 1 (by omega)
   simp only [evv, i1, eX_e, show ((i : Int) < (l.length : Int)) from by omega]
   refine Gets.loop2 (I := fun n st H => ∃ k : Nat, n = b.mails.length - k /\ k <= b.mails.length /\ st = [.sl false (vR eX l), .sl true (vOX (l.take i)), .int .i64 (i : Nat), .int .i64 (k : Nat), .str b.path, .sl true (vO (b.mails.take k))])
    (P := fun q vs H => q = 0 /\ vs = [.sl false (vR eX l), .sl true (vOX (l.take i)), .int .i64 (i : Nat), .str b.path, .sl true (vO b.mails)]) (n := b.mails.length) ?_ ⟨0, by omega, by omega, rfl⟩ ?_
   ·rintro n st H ⟨k, rfl, hk, rfl⟩
    rw [spec_l11Copy_l7_eq]
    by_cases hlk : k < b.mails.length
    ·have j1 := vM_idx false b.mails .i64 k hlk
     have f1 := l10Mail_s b.mails[k] (hb.2.2 _ (List.getElem_mem hlk))
     simp only [cM_e, cO_e] at f1
     have am := mails_app (l := b.mails.take k) b.mails[k] (by simp; omega)
     rw [<- List.take_succ_eq_append_getElem hlk] at am
     have e4 : vBinV (.int .i64) .add (.int .i64 (k : Int)) (.int .i64 1) = some (.int .i64 ((k + 1 : Nat) : Int)) := n_addN _ k 1 (by omega)
     simp only [evv, i1, hbx, eX_e, j1, f1, am, e4, show ((k : Int) < (b.mails.length : Int)) from by omega]
     exact ⟨_, rfl, .inr ⟨rfl, b.mails.length - (k + 1), by omega, k + 1, rfl, by omega, rfl⟩⟩
    ·have : k = b.mails.length := by omega
     subst this
     rw [List.take_length]
     simp only [evv, i1, hbx, eX_e, show ¬ ((b.mails.length : Int) < (b.mails.length : Int)) from by omega]
     exact ⟨_, rfl, .inl ⟨0, rfl, rfl, rfl⟩⟩
   ·rintro _ _ H ⟨rfl, rfl⟩
    simp only [evv, ap, e3]
    exact ⟨_, rfl, .inr ⟨rfl, l.length - (i + 1), by omega, i + 1, rfl, by omega, rfl⟩⟩
  ·have : i = l.length := by omega
   subst this
   rw [List.take_length]
   simp only [evv, show ¬ ((l.length : Int) < (l.length : Int)) from by omega]
   exact ⟨_, rfl, .inl ⟨0, rfl, rfl, rfl⟩⟩
 rintro _ _ H ⟨rfl, rfl⟩
 simp only [evv]
 exact Gets.here rfl
theorem l13OwnBox_c (b : Box) (h : SmX b) : pc id_spec_l13OwnBox [.agg (eX.e b)] = some (.agg (cOx b)) := by
 have e1 := l13OwnListMail_c b.mails h.2
 rw [eX_e]
 refine pc_of (H := []) ?_ (by simp only [evv]) (by simp only [evv, cOx_e, vO_data])
 show cv _ _ _ = _
 rw [spec_l13OwnBox_eq]
 simp only [evv, e1, cOx_e]
theorem l13OwnListBox_c (l : List Box) (h : SmXs l) : pc id_spec_l13OwnListBox [.sl false (vR eX l)] = some (.sl true (vOX l)) := by
 have hl := h.1
 suffices hg : Gets (cv id_spec_l13OwnListBox [.sl false (vR eX l)] []) fun r => r.1 = .sl true (vOX l) by
  obtain ⟨⟨v, H⟩, e, h⟩ := hg
  have h : v = _ := h
  subst h
  exact pc_of e (by simp only [evv]) (by simp only [evv, vOX_data])
 rw [spec_l13OwnListBox_eq]
 simp only [evv]
 refine Gets.loop2 (I := fun n st H => ∃ i : Nat, n = l.length - i /\ i <= l.length /\ st = [.sl true (vOX (l.take i)), .sl false (vR eX l), .int .i64 (l.length : Nat), .int .i64 (i : Nat)])
  (P := fun q vs H => q = 0 /\ vs = [.sl true (vOX l)]) (n := l.length) ?_ ⟨0, by omega, by omega, rfl⟩ ?_
 ·rintro n st H ⟨i, rfl, hi, rfl⟩
  rw [spec_l13OwnListBox_l3_eq]
  by_cases hlt : i < l.length
  ·have i1 := vX_idx false l .i64 i hlt
   have e1 := l13OwnBox_c l[i] (h.2 _ (List.getElem_mem hlt))
   rw [eX_e, cOx_e] at e1
   have ap := boxes_app (l := l.take i) l[i] (by simp; omega)
   rw [<- List.take_succ_eq_append_getElem hlt] at ap
   have e3 : vBinV (.int .i64) .add (.int .i64 (i : Int)) (.int .i64 1) = some (.int .i64 ((i + 1 : Nat) : Int)) := n_addN _ i 1 (by omega)
   simp only [evv, i1, eX_e, e1, ap, e3, show ((i : Int) < (l.length : Int)) from by omega]
   exact ⟨_, rfl, .inr ⟨rfl, l.length - (i + 1), by omega, i + 1, rfl, by omega, rfl⟩⟩
  ·have : i = l.length := by omega
   subst this
   rw [List.take_length]
   simp only [evv, show ¬ ((l.length : Int) < (l.length : Int)) from by omega]
   exact ⟨_, rfl, .inl ⟨0, rfl, rfl, rfl⟩⟩
 rintro _ _ H ⟨rfl, rfl⟩
 simp only [evv]
 exact Gets.here rfl
def isP (p : Bs) (b : Box) : Bool := decide (b.path = p)
theorem l11Find_c (l : List Box) (p : Bs) (hl : l.length <= 1000000000) : qc id_spec_l11Find [.sl false (vR eX l), .str p] = some (.int .i64 (if l.any (isP p) = true then ((l.findIdx (isP p) : Nat) : Int) else -1)) := by
 refine qc_of (H := []) ?_ (by simp only [evv]) rfl
 show cv _ _ _ = _
 rw [spec_l11Find_eq]
 have loop := lv_first (B := spec_l11Find_l2) (S := fun i => [.sl false (vR eX l), .str p, .int .i64 (i : Nat)]) (H := []) (m0 := 0) (m1 := 1) (vs0 := []) l (isP p)
  (fun i hi => by
   have i1 := vX_idx false l .i64 i hi
   have e2 : vBinV (.int .i64) .add (.int .i64 (i : Int)) (.int .i64 1) = some (.int .i64 ((i + 1 : Nat) : Int)) := n_addN _ i 1 (by omega)
   rw [spec_l11Find_l2_eq]
   by_cases hp : l[i].path = p <;> simp only [evv, i1, eX_e, isP, e2, hp, show ((i : Int) < (l.length : Int)) from by omega])
  (by
   rw [spec_l11Find_l2_eq]
   simp only [evv, show ¬ ((l.length : Int) < (l.length : Int)) from by omega])
 have loop' : lpW' spec_l11Find_l2 [.sl false (vR eX l), .str p, .int .i64 0] [] = _ := loop
 simp only [evv, loop']
 by_cases h : l.any (isP p) = true <;> simp only [evv, h]
end Go.Proofs.YtpmpggihngmnoaaGreatDoor.Q

/- Contracts: hops of a mail. -/
import Derived.Test.YtpmpggihngmnoaaGreatDoorScriptReturnC50mailZ
namespace Go.Proofs.YtpmpggihngmnoaaGreatDoor.Q
open Go Go.AM
set_option linter.unusedSimpArgs false
set_option linter.unusedVariables false
set_option linter.unusedSectionVars false
def preT (s t : Bs) : Bool := decide (s.take t.length = t)
def recB : Bs := [114, 101, 99, 101, 105, 118, 101, 100, 58]
def hopB (l : Bs) : Bool := preT (lowT l) recB
def hopsN : List Bs -> Nat
 | [] => 0
 | l :: r => if l = [] then 0 else (if hopB l = true then 1 else 0) + hopsN r
theorem sHasPrefix_c (s t : Bs) (hs : s.length <= 1000000000) : qc id_internal_stringslite_HasPrefix [.str s, .str t] = some (.bool (preT s t)) := by
 refine qc_of (H := []) ?_ (by simp only [evv]) rfl
 show cv _ _ _ = _
 rw [internal_stringslite_HasPrefix_eq]
 by_cases h : t.length <= s.length
 ·have p1 := t_pre s .i64 t.length h
  simp only [evv, p1, preT, show ((s.length : Int) ≥ (t.length : Int)) from by omega]
 ·have : ¬ s.take t.length = t := fun e => by
   have := congrArg List.length e
   simp at this; omega
  simp only [evv, preT, this, show ¬ ((s.length : Int) ≥ (t.length : Int)) from by omega]
theorem HasPrefix_c (s t : Bs) (hs : s.length <= 1000000000) : qc id_strings_HasPrefix [.str s, .str t] = some (.bool (preT s t)) := by
 have e1 := sHasPrefix_c s t hs
 refine qc_of (H := []) ?_ (by simp only [evv]) rfl
 show cv _ _ _ = _
 rw [strings_HasPrefix_eq]
 simp only [evv, e1]
theorem impl_LowerText_c (s : Bs) (hs : s.length <= 1000000000) : qc id_impl_LowerText [.str s] = some (.str (lowT s)) := by
 suffices h : Gets (cv id_impl_LowerText [.str s] []) fun r => r.1 = .str (lowT s) by
  obtain ⟨⟨v, H⟩, e, h⟩ := h
  have h : v = _ := h
  subst h
  exact qc_of e (by simp only [evv]) rfl
 rw [impl_LowerText_eq]
 simp only [evv, s2b_c, cB_len, List.nil_append]
 refine Gets.loop2 (I := fun n st H => ∃ i : Nat, n = s.length - i /\ i <= s.length /\ st = [.obs 0 0 s.length 1, .obs 0 0 s.length 1, .int .i64 (s.length : Nat), .int .i64 (i : Nat)] /\ H[0]? = some (cB (lowI s i)))
  (P := fun m vs H => m = 0 /\ vs = [.obs 0 0 s.length 1] /\ H[0]? = some (cB (lowT s))) (n := s.length) ?_ ⟨0, by omega, by omega, rfl, by simp [lowI]⟩ ?_
 ·rintro n st H ⟨i, rfl, hi, rfl, hk⟩
  rw [impl_LowerText_l3_eq]
  by_cases hlt : i < s.length
  ·have ho := ob_idx 0 0 s.length 1 .i64 i hlt
   have hl := ld_c (g := globB) (i := i) hk (by rw [lowI_len]; exact hlt)
   rw [lowI_get s i hlt] at hl
   have e2 : vBinV (.int .i64) .add (.int .i64 (i : Int)) (.int .i64 1) = some (.int .i64 ((i + 1 : Nat) : Int)) := n_addN _ i 1 (by omega)
   have hst := st_c (i := i) (lowB s[i]) hk (by rw [lowI_len]; exact hlt)
   rw [lowI_step s i hlt] at hst
   simp only [Nat.zero_add, Nat.mul_one] at ho
   have hself : (lowI s i).set i s[i] = lowI s i := by
    have h := lowI_get s i hlt
    rw [<- h]
    exact List.set_getElem_self _
   have stay : lowB s[i] = s[i] -> H[0]? = some (cB (lowI s (i + 1))) := fun hb => by
    rw [hk, <- lowI_step s i hlt, hb, hself]
   by_cases h1 : (s[i].toNat : Int) ≥ 65
   ·by_cases h2 : (s[i].toNat : Int) <= 90
    ·have e3 := n_add8 (.int .u8) (s[i].toNat : Int) 32 (by omega) (by omega)
     rw [<- lowB_nat h1 h2] at e3
     simp only [evv, ho, hl, h1, h2, e3, hst, e2, show ((i : Int) < (s.length : Int)) from by omega]
     exact ⟨_, rfl, .inr ⟨rfl, s.length - (i + 1), by omega, i + 1, rfl, by omega, rfl, by rw [List.getElem?_set, if_pos rfl, if_pos (List.getElem?_eq_some_iff.1 hk).1]⟩⟩
    ·simp only [evv, ho, hl, h1, h2, e2, show ((i : Int) < (s.length : Int)) from by omega]
     exact ⟨_, rfl, .inr ⟨rfl, s.length - (i + 1), by omega, i + 1, rfl, by omega, rfl, stay (lowB_no (by omega))⟩⟩
   ·simp only [evv, ho, hl, h1, e2, show ((i : Int) < (s.length : Int)) from by omega]
    exact ⟨_, rfl, .inr ⟨rfl, s.length - (i + 1), by omega, i + 1, rfl, by omega, rfl, stay (lowB_no (by omega))⟩⟩
  ·have : i = s.length := by omega
   subst this
   simp only [evv, show ¬ ((s.length : Int) < (s.length : Int)) from by omega]
   exact ⟨_, rfl, .inl ⟨0, rfl, rfl, rfl, by rw [hk, lowI_all]⟩⟩
 rintro _ _ H ⟨rfl, rfl, hk⟩
 have hb := b2s_c hk
 have hl : (lowT s).length = s.length := by simp [lowT]
 rw [hl] at hb
 simp only [evv, hb]
 exact Gets.here rfl
theorem impl_hops_c (m : Mail) (h : SmM m) : qc id_impl_hops [.agg (cM m)] = some (.int .i64 (hopsN m.lines : Nat)) := by
 have hl := h.2.2.1
 suffices hg : Gets (cv id_impl_hops [.agg (cM m)] []) fun r => r.1 = .int .i64 (hopsN m.lines : Nat) by
  obtain ⟨⟨v, H⟩, e, h⟩ := hg
  have h : v = _ := h
  subst h
  exact qc_of e (by simp only [evv]) rfl
 rw [impl_hops_eq]
 simp only [evv]
 refine Gets.loop2 (I := fun n st H => ∃ (i k : Nat), n = m.lines.length - i /\ i <= m.lines.length /\ k <= i /\ st = [.int .i64 (k : Nat), .sl false (vT m.lines), .int .i64 (m.lines.length : Nat), .int .i64 (i : Nat)] /\ k + hopsN (m.lines.drop i) = hopsN m.lines)
  (P := fun q vs H => q = 0 /\ vs = [.int .i64 (hopsN m.lines : Nat)]) (n := m.lines.length) ?_ ⟨0, 0, by omega, by omega, by omega, rfl, by simp⟩ ?_
 ·rintro n st H ⟨i, k, rfl, hi, hk, rfl, inv⟩
  rw [impl_hops_l3_eq]
  by_cases hlt : i < m.lines.length
  ·have i1 := vT_idx false m.lines .i64 i hlt
   have hsm := h.2.2.2 _ (List.getElem_mem hlt)
   have e1 := impl_LowerText_c m.lines[i] (by omega)
   have e3 : qc id_strings_HasPrefix [.str (lowT m.lines[i]), .str [114, 101, 99, 101, 105, 118, 101, 100, 58]] = some (.bool (hopB m.lines[i])) := HasPrefix_c (lowT m.lines[i]) recB (by simp [lowT]; omega)
   have e2 : vBinV (.int .i64) .add (.int .i64 (i : Int)) (.int .i64 1) = some (.int .i64 ((i + 1 : Nat) : Int)) := n_addN _ i 1 (by omega)
   have e4 : vBinV (.int .i64) .add (.int .i64 (k : Int)) (.int .i64 1) = some (.int .i64 ((k + 1 : Nat) : Int)) := n_addN _ k 1 (by omega)
   rw [List.drop_eq_getElem_cons hlt, hopsN] at inv
   by_cases h0 : m.lines[i] = []
   ·rw [if_pos h0, Nat.add_zero] at inv
    subst inv
    simp only [evv, i1, h0, show ((i : Int) < (m.lines.length : Int)) from by omega]
    exact ⟨_, rfl, .inl ⟨0, rfl, rfl, rfl⟩⟩
   ·rw [if_neg h0] at inv
    by_cases hb : hopB m.lines[i] = true
    ·rw [if_pos hb] at inv
     simp only [evv, i1, h0, e1, e3, hb, e2, e4, show ((i : Int) < (m.lines.length : Int)) from by omega]
     exact ⟨_, rfl, .inr ⟨rfl, m.lines.length - (i + 1), by omega, i + 1, k + 1, rfl, by omega, by omega, rfl, by omega⟩⟩
    ·rw [if_neg hb] at inv
     simp only [evv, i1, h0, e1, e3, hb, e2, show ((i : Int) < (m.lines.length : Int)) from by omega]
     exact ⟨_, rfl, .inr ⟨rfl, m.lines.length - (i + 1), by omega, i + 1, k, rfl, by omega, by omega, rfl, by omega⟩⟩
  ·have : i = m.lines.length := by omega
   subst this
   rw [List.drop_length, hopsN, Nat.add_zero] at inv
   subst inv
   simp only [evv, show ¬ ((m.lines.length : Int) < (m.lines.length : Int)) from by omega]
   exact ⟨_, rfl, .inl ⟨0, rfl, rfl, rfl⟩⟩
 rintro _ _ H ⟨rfl, rfl⟩
 simp only [evv]
 exact Gets.here rfl
theorem spec_SameText_c (s t : Bs) (hs : s.length <= 1000000000) (ht : t.length <= 1000000000) : qc id_spec_SameText [.str s, .str t] = some (.bool (decide (lowT s = lowT t))) := by
 have e1 := spec_LowerText_c s hs
 have e2 := spec_LowerText_c t ht
 refine qc_of (H := []) ?_ (by simp only [evv]) rfl
 show cv _ _ _ = _
 rw [spec_SameText_eq]
 simp only [evv, e1, e2]
theorem l11Hop_c (s : Bs) (hs : s.length <= 1000000000) : qc id_spec_l11Hop [.str s] = some (.bool (hopB s)) := by
 refine qc_of (H := []) ?_ (by simp only [evv]) rfl
 show cv _ _ _ = _
 rw [spec_l11Hop_eq]
 by_cases h : 9 <= s.length
 ·have p1 : vSliceSV (.str s) none (some (.int .i64 9)) = some (.str (s.take 9)) := t_pre s .i64 9 h
  have e1 := spec_SameText_c (s.take 9) [82, 101, 99, 101, 105, 118, 101, 100, 58] (by simp; omega) (by simp)
  have k : decide (lowT (s.take 9) = lowT [82, 101, 99, 101, 105, 118, 101, 100, 58]) = hopB s := by
   unfold hopB preT
   rw [show lowT [82, 101, 99, 101, 105, 118, 101, 100, 58] = recB from rfl, show recB.length = 9 from rfl]
   unfold lowT
   rw [List.map_take]
  rw [k] at e1
  simp only [evv, p1, e1, show ((s.length : Int) ≥ 9) from by omega]
 ·have : hopB s = false := by
   unfold hopB preT
   refine decide_eq_false fun e => ?_
   have := congrArg List.length e
   rw [show recB.length = 9 from rfl] at this
   simp [lowT] at this; omega
  simp only [evv, this, show ¬ ((s.length : Int) ≥ 9) from by omega]
theorem l11Hops_c (l : List Bs) (h : SmT l) : qc id_spec_l11Hops [.sl false (vT l)] = some (.int .i64 (hopsN l : Nat)) := by
 have hl := h.1
 suffices hg : Gets (cv id_spec_l11Hops [.sl false (vT l)] []) fun r => r.1 = .int .i64 (hopsN l : Nat) by
  obtain ⟨⟨v, H⟩, e, h⟩ := hg
  have h : v = _ := h
  subst h
  exact qc_of e (by simp only [evv]) rfl
 rw [spec_l11Hops_eq]
 refine Gets.loop2 (I := fun n st H => ∃ (i k : Nat), n = l.length - i /\ i <= l.length /\ k <= i /\ st = [.sl false (vT l), .int .i64 (k : Nat), .int .i64 (i : Nat)] /\ k + hopsN (l.drop i) = hopsN l)
  (P := fun q vs H => q = 0 /\ vs = [.int .i64 (hopsN l : Nat)]) (n := l.length) ?_ ⟨0, 0, by omega, by omega, by omega, rfl, by simp⟩ ?_
 ·rintro n st H ⟨i, k, rfl, hi, hk, rfl, inv⟩
  rw [spec_l11Hops_l3_eq]
  by_cases hlt : i < l.length
  ·have i1 := vT_idx false l .i64 i hlt
   have hsm := h.2 _ (List.getElem_mem hlt)
   have e1 := l11Hop_c l[i] (by omega)
   have e2 : vBinV (.int .i64) .add (.int .i64 (i : Int)) (.int .i64 1) = some (.int .i64 ((i + 1 : Nat) : Int)) := n_addN _ i 1 (by omega)
   have e4 : vBinV (.int .i64) .add (.int .i64 (k : Int)) (.int .i64 1) = some (.int .i64 ((k + 1 : Nat) : Int)) := n_addN _ k 1 (by omega)
   rw [List.drop_eq_getElem_cons hlt, hopsN] at inv
   by_cases h0 : l[i] = []
   ·rw [if_pos h0, Nat.add_zero] at inv
    subst inv
    simp only [evv, i1, h0, show ((i : Int) < (l.length : Int)) from by omega]
    exact ⟨_, rfl, .inl ⟨0, rfl, rfl, rfl⟩⟩
   ·rw [if_neg h0] at inv
    by_cases hb : hopB l[i] = true
    ·rw [if_pos hb] at inv
     simp only [evv, i1, h0, e1, hb, e2, e4, show ((i : Int) < (l.length : Int)) from by omega]
     exact ⟨_, rfl, .inr ⟨rfl, l.length - (i + 1), by omega, i + 1, k + 1, rfl, by omega, by omega, rfl, by omega⟩⟩
    ·rw [if_neg hb] at inv
     simp only [evv, i1, h0, e1, hb, e2, show ((i : Int) < (l.length : Int)) from by omega]
     exact ⟨_, rfl, .inr ⟨rfl, l.length - (i + 1), by omega, i + 1, k, rfl, by omega, by omega, rfl, by omega⟩⟩
  ·have : i = l.length := by omega
   subst this
   rw [List.drop_length, hopsN, Nat.add_zero] at inv
   subst inv
   simp only [evv, show ¬ ((l.length : Int) < (l.length : Int)) from by omega]
   exact ⟨_, rfl, .inl ⟨0, rfl, rfl, rfl⟩⟩
 rintro _ _ H ⟨rfl, rfl⟩
 simp only [evv]
 exact Gets.here rfl
def chN (m : Mail) : Int := if mailT m 1 30 = true then (hopsN m.lines : Nat) else 0
theorem impl_CountHops_c (m : Mail) (h : SmM m) : qc id_impl_CountHops [.agg (cM m)] = some (.tup [.int .i64 (chN m), .bool (mailT m 1 30)]) := by
 have e1 := impl_MailValid_c m h
 have e2 := impl_hops_c m h
 simp only [cM_e] at e1 e2
 refine qc_of (H := []) ?_ (by simp only [evv]) (by simp only [evv])
 show cv _ _ _ = _
 rw [impl_CountHops_eq]
 unfold chN
 by_cases hv : mailT m 1 30 = true
 ·simp only [evv, e1, e2, hv]
 ·simp only [evv, e1, e2, hv]
theorem spec_CountHops_c (m : Mail) (h : SmM m) : qc id_spec_CountHops [.agg (cM m)] = some (.tup [.int .i64 (chN m), .bool (mailT m 1 30)]) := by
 have e1 := spec_MailValid_c m h
 have e2 := l11Hops_c m.lines h.2.2
 simp only [cM_e] at e1
 refine qc_of (H := []) ?_ (by simp only [evv]) (by simp only [evv])
 show cv _ _ _ = _
 rw [spec_CountHops_eq]
 unfold chN
 by_cases hv : mailT m 1 30 = true
 ·simp only [evv, e1, e2, hv]
 ·simp only [evv, e1, e2, hv]
end Go.Proofs.YtpmpggihngmnoaaGreatDoor.Q

/- Contracts: a dialogue, as the program tells it. -/
import Derived.Test.YtpmpggihngmnoaaGreatDoorScriptSayC72sayZ
namespace Go.Proofs.YtpmpggihngmnoaaGreatDoor.Q
open Go Go.AM
set_option linter.unusedSimpArgs false
set_option linter.unusedVariables false
set_option linter.unusedSectionVars false
theorem CloneT_c (l : List Bs) (h : l.length <= 2000000) : pc id_slices_Clone___string_string_ [.sl false (vT l)] = some (.sl true (vT l)) := by
 have a1 : appV false 1 16 [] (.sl false (vT l)) = some (.sl true (vT ([] ++ l))) := v_app 1 16 [] false (vT l) rfl (vT_esz _) (by rw [vT_len]; simp; omega)
 rw [List.nil_append] at a1
 refine pc_of (H := []) ?_ (by simp only [evv]) (by simp only [evv])
 show cv _ _ _ = _
 rw [slices_Clone___string_string__eq]
 cases l with
 | nil =>
   have e : vNilEqV .eql (.sl false (vT [])) = some .ub := rfl
   have a2 : appV false 1 16 [] (.sl false (vT [])) = some (.sl true []) := a1
   simp only [evv, e, a2]
   rfl
 | cons a l =>
   have e : vNilEqV .eql (.sl false (vT (a :: l))) = some (.bool false) := rfl
   simp only [evv, e, a1]
theorem copyMail_c (m : Mail) (h : SmM m) : pc id_impl_copyMail [.agg (cM m)] = some (.agg (cO m)) := by
 have a1 := CloneT_c m.to (by have := h.2.1.1; omega)
 have a2 := CloneT_c m.lines (by have := h.2.2.1; omega)
 refine pc_of (H := []) ?_ (by simp only [evv]) (by simp only [evv, cO_e])
 show cv _ _ _ = _
 rw [impl_copyMail_eq]
 simp only [evv, a1, a2, cO_e]
theorem copyMails_c (l : List Mail) (h : SmMs l) : pc id_impl_copyMails [.sl false (vR eM l)] = some (.sl true (vO l)) := by
 have hl := h.1
 suffices hg : Gets (cv id_impl_copyMails [.sl false (vR eM l)] []) fun r => r.1 = .sl true (vO l) by
  obtain ⟨⟨v, H⟩, e, h⟩ := hg
  have h : v = _ := h
  subst h
  exact pc_of e (by simp only [evv]) (by simp only [evv, vO_data])
 rw [impl_copyMails_eq]
 simp only [evv]
 refine Gets.loop2 (I := fun n st H => ∃ i : Nat, n = l.length - i /\ i <= l.length /\ st = [.sl true (vO (l.take i)), .sl false (vR eM l), .int .i64 (l.length : Nat), .int .i64 (i : Nat)])
  (P := fun q vs H => q = 0 /\ vs = [.sl true (vO l)]) (n := l.length) ?_ ⟨0, by omega, by omega, rfl⟩ ?_
 ·rintro n st H ⟨i, rfl, hi, rfl⟩
  rw [impl_copyMails_l3_eq]
  by_cases hlt : i < l.length
  ·have i1 := vM_idx false l .i64 i hlt
   have e1 := copyMail_c l[i] (h.2 _ (List.getElem_mem hlt))
   simp only [cM_e, cO_e] at e1
   have ap := mails_app (l := l.take i) l[i] (by simp; omega)
   rw [<- List.take_succ_eq_append_getElem hlt] at ap
   have e3 : vBinV (.int .i64) .add (.int .i64 (i : Int)) (.int .i64 1) = some (.int .i64 ((i + 1 : Nat) : Int)) := n_addN _ i 1 (by omega)
   simp only [evv, i1, e1, ap, e3, show ((i : Int) < (l.length : Int)) from by omega]
   exact ⟨_, rfl, .inr ⟨rfl, l.length - (i + 1), by omega, i + 1, rfl, by omega, rfl⟩⟩
  ·have : i = l.length := by omega
   subst this
   rw [List.take_length]
   simp only [evv, show ¬ ((l.length : Int) < (l.length : Int)) from by omega]
   exact ⟨_, rfl, .inl ⟨0, rfl, rfl, rfl⟩⟩
 rintro _ _ H ⟨rfl, rfl⟩
 simp only [evv]
 exact Gets.here rfl
theorem copySession_c (s : Session) (h : SmS s) : pc id_impl_copySession [.agg (cS s)] = some (.agg (cSo s)) := by
 have e1 := copyMail_c s.draft h.2.1
 have e2 := copyMails_c s.done h.2.2
 simp only [cM_e, cO_e] at e1
 refine pc_of (H := []) ?_ (by simp only [evv]) (by simp only [evv, cSo_e, vO_data])
 show cv _ _ _ = _
 rw [impl_copySession_eq]
 simp only [evv, e1, e2, cSo_e]
theorem impl_SameText_c (s t : Bs) (hs : s.length <= 1000000000) (ht : t.length <= 1000000000) : qc id_impl_SameText [.str s, .str t] = some (.bool (decide (lowT s = lowT t))) := by
 have e1 := impl_LowerText_c s hs
 have e2 := impl_LowerText_c t ht
 refine qc_of (H := []) ?_ (by simp only [evv]) rfl
 show cv _ _ _ = _
 rw [impl_SameText_eq]
 simp only [evv, e1, e2]
theorem sTrim_c (s : Bs) (hs : s.length <= 1000000000) : qc id_internal_stringslite_TrimPrefix [.str s, .str [46]] = some (.str (unst s)) := by
 have e1 := sHasPrefix_c s [46] hs
 rw [pre_dot] at e1
 refine qc_of (H := []) ?_ (by simp only [evv]) rfl
 show cv _ _ _ = _
 rw [internal_stringslite_TrimPrefix_eq]
 unfold unst
 by_cases h : s.head? = some 46
 ·have hl : 1 <= s.length := by cases s with | nil => cases h | cons a s => simp
  have p2 : vSliceSV (.str s) (some (.int .i64 1)) none = some (.str (s.drop 1)) := t_suf s .i64 1 hl
  simp only [evv, e1, h, List.length_cons, List.length_nil, show (((0 + 1 : Nat)) : Int) = 1 from rfl, p2]
 ·simp only [evv, e1, h]
theorem Trim_c (s : Bs) (hs : s.length <= 1000000000) : qc id_strings_TrimPrefix [.str s, .str [46]] = some (.str (unst s)) := by
 have e1 := sTrim_c s hs
 refine qc_of (H := []) ?_ (by simp only [evv]) rfl
 show cv _ _ _ = _
 rw [strings_TrimPrefix_eq]
 simp only [evv, e1]
theorem sHasSuffix_c (s : Bs) (c : UInt8) (hs : s.length <= 1000000000) : qc id_internal_stringslite_HasSuffix [.str s, .str [c]] = some (.bool (decide (s.getLast? = some c))) := by
 refine qc_of (H := []) ?_ (by simp only [evv]) rfl
 show cv _ _ _ = _
 rw [internal_stringslite_HasSuffix_eq]
 by_cases h : 1 <= s.length
 ·have e1 : vBinV (.int .i64) .sub (.int .i64 (s.length : Int)) (.int .i64 1) = some (.int .i64 ((s.length - 1 : Nat) : Int)) := n_subN _ s.length 1 h (by omega)
  have p2 := t_suf s .i64 (s.length - 1) (by omega)
  have hd : s.drop (s.length - 1) = [s[s.length - 1]'(by omega)] := by
   rw [List.drop_eq_getElem_cons (by omega), show s.length - 1 + 1 = s.length from by omega, List.drop_length]
  have hz : s.getLast? = some (s[s.length - 1]'(by omega)) := by rw [List.getLast?_eq_getElem?, List.getElem?_eq_getElem (by omega)]
  rw [hd] at p2
  have k : ([s[s.length - 1]'(by omega)] = [c]) ↔ (some (s[s.length - 1]'(by omega)) = some c) := by simp
  simp only [evv, List.length_cons, List.length_nil, show (((0 + 1 : Nat)) : Int) = 1 from rfl, e1, p2, hz, k, show ((s.length : Int) ≥ 1) from by omega]
 ·have : s = [] := List.length_eq_zero_iff.1 (by omega)
  subst this
  simp only [evv, List.length_cons, List.length_nil, show ¬ (((0 : Nat) : Int) ≥ ((0 + 1 : Nat) : Int)) from by omega]
  rfl
theorem sCutSuffix_c (s : Bs) (c : UInt8) (hs : s.length <= 1000000000) : qc id_internal_stringslite_CutSuffix [.str s, .str [c]] = some (.tup [.str (if s.getLast? = some c then s.take (s.length - 1) else s), .bool (decide (s.getLast? = some c))]) := by
 have e0 := sHasSuffix_c s c hs
 refine qc_of (H := []) ?_ (by simp only [evv]) (by simp only [evv])
 show cv _ _ _ = _
 rw [internal_stringslite_CutSuffix_eq]
 by_cases h : s.getLast? = some c
 ·have hl : 1 <= s.length := by cases s with | nil => cases h | cons a s => simp
  have e1 : vBinV (.int .i64) .sub (.int .i64 (s.length : Int)) (.int .i64 1) = some (.int .i64 ((s.length - 1 : Nat) : Int)) := n_subN _ s.length 1 hl (by omega)
  have p2 := t_pre s .i64 (s.length - 1) (by omega)
  simp only [evv, e0, h, List.length_cons, List.length_nil, show (((0 + 1 : Nat)) : Int) = 1 from rfl, e1, p2]
 ·simp only [evv, e0, h]
theorem CutSuffix_c (s : Bs) (c : UInt8) (hs : s.length <= 1000000000) : qc id_strings_CutSuffix [.str s, .str [c]] = some (.tup [.str (if s.getLast? = some c then s.take (s.length - 1) else s), .bool (decide (s.getLast? = some c))]) := by
 have e0 := sCutSuffix_c s c hs
 refine qc_of (H := []) ?_ (by simp only [evv]) (by simp only [evv])
 show cv _ _ _ = _
 rw [strings_CutSuffix_eq]
 simp only [evv, e0]
theorem pre_one (l : Bs) (c : UInt8) : preT l [c] = decide (l.head? = some c) := by
 unfold preT
 cases l with
 | nil => rfl
 | cons b r => simp
theorem sCutPrefix_c (s : Bs) (c : UInt8) (hs : s.length <= 1000000000) : qc id_internal_stringslite_CutPrefix [.str s, .str [c]] = some (.tup [.str (if s.head? = some c then s.drop 1 else s), .bool (decide (s.head? = some c))]) := by
 have e0 := sHasPrefix_c s [c] hs
 rw [pre_one] at e0
 refine qc_of (H := []) ?_ (by simp only [evv]) (by simp only [evv])
 show cv _ _ _ = _
 rw [internal_stringslite_CutPrefix_eq]
 by_cases h : s.head? = some c
 ·have hl : 1 <= s.length := by cases s with | nil => cases h | cons a s => simp
  have p2 : vSliceSV (.str s) (some (.int .i64 1)) none = some (.str (s.drop 1)) := t_suf s .i64 1 hl
  simp only [evv, e0, h, List.length_cons, List.length_nil, show (((0 + 1 : Nat)) : Int) = 1 from rfl, p2]
 ·simp only [evv, e0, h]
theorem CutPrefix_c (s : Bs) (c : UInt8) (hs : s.length <= 1000000000) : qc id_strings_CutPrefix [.str s, .str [c]] = some (.tup [.str (if s.head? = some c then s.drop 1 else s), .bool (decide (s.head? = some c))]) := by
 have e0 := sCutPrefix_c s c hs
 refine qc_of (H := []) ?_ (by simp only [evv]) (by simp only [evv])
 show cv _ _ _ = _
 rw [strings_CutPrefix_eq]
 simp only [evv, e0]
theorem pathIn_g (r w : Bs) (hr : r.length <= 4000000) (hw : w.length <= 100) : ∃ p ok, qc id_impl_pathIn [.str r, .str w] = some (.tup [.str p, .bool ok]) /\ (ok = true -> p.length <= r.length) /\ argP (lowT w) r = if ok = true then some p else none := by
 have hwl : (lowT w).length = w.length := by simp [lowT]
 suffices hg : Gets (cv id_impl_pathIn [.str r, .str w] []) fun q => ∃ p ok, q.1 = .tup [.str p, .bool ok] /\ argP (lowT w) r = if ok = true then some p else none by
  obtain ⟨⟨v, H⟩, e, p, ok, h, h2⟩ := hg
  have h : v = _ := h
  subst h
  refine ⟨p, ok, qc_of e (by simp only [evv]) (by simp only [evv]), fun hok => ?_, h2⟩
  rw [if_pos hok] at h2
  exact argP_len h2
 rw [impl_pathIn_eq]
 unfold argP
 rw [hwl]
 by_cases h1 : r.length < w.length
 ·rw [if_neg (fun h => by omega)]
  simp only [evv, show ((r.length : Int) < (w.length : Int)) from by omega]
  exact Gets.here ⟨[], false, rfl, rfl⟩
 ·have p1 := t_pre r .i64 w.length (by omega)
  have e2 := impl_SameText_c (r.take w.length) w (by simp; omega) (by omega)
  by_cases h2 : lowT (r.take w.length) = lowT w
  ·rw [if_pos ⟨by omega, h2⟩]
   have p2 := t_suf r .i64 w.length (by omega)
   have hq : (r.drop w.length).length <= r.length := by simp
   generalize r.drop w.length = q at *
   have e3 := CutSuffix_c q 62 (by omega)
   have hq2 : (if q.getLast? = some 62 then q.take (q.length - 1) else q).length <= q.length := by split <;> simp
   have e4 := CutPrefix_c (if q.getLast? = some 62 then q.take (q.length - 1) else q) 60 (by omega)
   simp only [evv, p1, e2, h2, p2, e3, e4, show ¬ ((r.length : Int) < (w.length : Int)) from by omega]
   by_cases h3 : q.getLast? = some 62
   ·have hl1 : 1 <= q.length := by cases q with | nil => cases h3 | cons a s => simp
    by_cases h4 : (q.take (q.length - 1)).head? = some 60
    ·have hl2 : 2 <= q.length := by
      by_cases h : 2 <= q.length
      ·exact h
      ·rw [show q.length - 1 = 0 from by omega] at h4; cases h4
     have h5 : q.head? = some 60 := by
      rw [List.head?_eq_getElem?] at h4 ⊢
      rw [<- h4, List.getElem?_take, if_pos (by omega)]
     have hin : innP q = some ((q.take (q.length - 1)).drop 1) := by
      unfold innP
      rw [if_pos ⟨hl2, h5, h3⟩, List.drop_take]
      congr 2
     rw [hin, Option.bind_some]
     unfold okP
     have hs : ((q.take (q.length - 1)).drop 1).length <= 4000000 := by simp; omega
     simp only [evv, h3, h4]
     generalize (q.take (q.length - 1)).drop 1 = s at *
     have e5 := Cut_c s 64 (by omega)
     have hzl := cutZ_len 64 s
     have hal := cutA_len 64 s
     have e6 := impl_LowerText_c (cutZ 64 s) (by omega)
     have a1 := t_add .str (cutA 64 s) [64] (by simp; omega)
     have a2 := t_add .str (cutA 64 s ++ [64]) (lowT (cutZ 64 s)) (by simp [lowT]; omega)
     have e7 := isFrom_c (pathF s) (by
      unfold pathF
      split
      ·simp [lowT]; omega
      ·omega)
     by_cases hm : (64 : UInt8) ∈ s
     ·have hpf : pathF s = cutA 64 s ++ [64] ++ lowT (cutZ 64 s) := by unfold pathF; rw [if_pos hm]
      rw [hpf] at e7 ⊢
      simp only [evv, e5, e6, a1, a2, e7, hm]
      exact Gets.here ⟨_, _, rfl, rfl⟩
     ·have hpf : pathF s = s := by unfold pathF; rw [if_neg hm]
      rw [hpf] at e7 ⊢
      simp only [evv, e5, e7, hm]
      exact Gets.here ⟨_, _, rfl, rfl⟩
    ·have hin : innP q = none := by
      unfold innP
      rw [if_neg]
      rintro ⟨g1, g2, g3⟩
      apply h4
      rw [List.head?_eq_getElem?] at g2 ⊢
      rw [<- g2, List.getElem?_take, if_pos (by omega)]
     rw [hin, Option.bind_none]
     simp only [evv, h3, h4]
     exact Gets.here ⟨[], false, rfl, rfl⟩
   ·have hin : innP q = none := by
     unfold innP
     rw [if_neg]
     rintro ⟨g1, g2, g3⟩
     exact h3 g3
    rw [hin, Option.bind_none]
    simp only [evv, h3]
    exact Gets.here ⟨[], false, rfl, rfl⟩
  ·rw [if_neg (fun h => h2 h.2)]
   simp only [evv, p1, e2, h2, show ¬ ((r.length : Int) < (w.length : Int)) from by omega]
   exact Gets.here ⟨[], false, rfl, rfl⟩
theorem quoted_g (s : Bs) (hs : s.length <= 1049600) : ∃ t n ok, qc id_impl_quoted [.str s] = some (.tup [.str t, .int .i64 n, .bool ok]) /\ (ok = true -> ∃ k : Nat, n = k /\ 1 <= k /\ k <= s.length) := by
 suffices hg : Gets (cv id_impl_quoted [.str s] []) fun q => ∃ t n ok, q.1 = .tup [.str t, .int .i64 n, .bool ok] /\ (ok = true -> ∃ k : Nat, n = k /\ 1 <= k /\ k <= s.length) by
  obtain ⟨⟨v, H⟩, e, t, n, ok, h, h2⟩ := hg
  have h : v = _ := h
  subst h
  exact ⟨t, n, ok, qc_of e (by simp only [evv]) (by simp only [evv]), h2⟩
 rw [impl_quoted_eq]
 refine Gets.loop2 (I := fun n st H => ∃ (i : Nat) (t : Bs), n = s.length - i /\ 1 <= i /\ t.length <= i /\ st = [.str s, .sl true (vB t), .int .i64 (i : Nat)])
  (P := fun q vs H => (q = 0 /\ vs = []) ∨ ∃ t n ok, q = 1 /\ vs = [.str t, .int .i64 n, .bool ok] /\ (ok = true -> ∃ k : Nat, n = k /\ 1 <= k /\ k <= s.length)) (n := s.length - 1) ?_ ⟨1, [], rfl, by omega, by simp, rfl⟩ ?_
 ·rintro n st H ⟨i, t, rfl, hi, ht, rfl⟩
  rw [impl_quoted_l3_eq]
  by_cases hlt : i < s.length
  ·have i1 := t_idx s .i64 i hlt
   have e2 : vBinV (.int .i64) .add (.int .i64 (i : Int)) (.int .i64 1) = some (.int .i64 ((i + 1 : Nat) : Int)) := n_addN _ i 1 (by omega)
   have ap : ∀ b : UInt8, appV false 1 1 (vB t) (.sl true [[.int .u8 (b.toNat : Int)]]) = some (.sl true (vB (t ++ [b]))) := fun b => by
    have := v_app 1 1 (vB t) true (vB [b]) (vB_esz _) (vB_esz _) (by rw [vB_len, vB_len]; simp; omega)
    rw [show vB t ++ vB [b] = vB (t ++ [b]) from by simp [vB]] at this
    exact this
   have b1 : b2sV (.sl false (vB t)) H = some (.str t) := by simp only [b2sV, b2sL_vB, Option.map_some]
   by_cases h1 : (s[i].toNat : Int) = 34
   ·simp only [evv, i1, h1, b1, e2, show ((i : Int) < (s.length : Int)) from by omega]
    exact ⟨_, rfl, .inl ⟨1, rfl, .inr ⟨t, _, true, rfl, rfl, fun _ => ⟨i + 1, rfl, by omega, by omega⟩⟩⟩⟩
   ·by_cases h2 : (s[i].toNat : Int) = 92
    ·by_cases h3 : i + 1 = s.length
     ·simp only [evv, i1, h1, h2, e2, show ¬ ((92 : Int) = 34) from by decide, show (((i + 1 : Nat) : Int) = (s.length : Int)) from by omega, show ((i : Int) < (s.length : Int)) from by omega]
      exact ⟨_, rfl, .inl ⟨1, rfl, .inr ⟨[], 0, false, rfl, rfl, fun h => by cases h⟩⟩⟩
     ·have i2 := t_idx s .i64 (i + 1) (by omega)
      have e3 : vBinV (.int .i64) .add (.int .i64 ((i + 1 : Nat) : Int)) (.int .i64 1) = some (.int .i64 ((i + 1 + 1 : Nat) : Int)) := n_addN _ (i + 1) 1 (by omega)
      simp only [evv, i1, h1, h2, e2, i2, ap, e3, show ¬ ((92 : Int) = 34) from by decide, show ¬ (((i + 1 : Nat) : Int) = (s.length : Int)) from by omega, show ((i : Int) < (s.length : Int)) from by omega]
      exact ⟨_, rfl, .inr ⟨rfl, s.length - (i + 1 + 1), by omega, i + 1 + 1, _, rfl, by omega, by simp; omega, rfl⟩⟩
    ·simp only [evv, i1, h1, h2, ap, e2, show ((i : Int) < (s.length : Int)) from by omega]
     exact ⟨_, rfl, .inr ⟨rfl, s.length - (i + 1), by omega, i + 1, _, rfl, by omega, by simp; omega, rfl⟩⟩
  ·simp only [evv, show ¬ ((i : Int) < (s.length : Int)) from by omega]
   exact ⟨_, rfl, .inl ⟨0, rfl, .inl ⟨rfl, rfl⟩⟩⟩
 rintro _ _ H (⟨rfl, rfl⟩ | ⟨t, n, ok, rfl, rfl, h⟩)
 ·simp only [evv]
  exact Gets.here ⟨[], 0, false, rfl, fun h => by cases h⟩
 ·simp only [evv]
  exact Gets.here ⟨t, n, ok, rfl, h⟩
def OutR (c : UInt8) (s : Bs) (i : Int) : Prop := ((34 : UInt8) ∉ cutA c s /\ i = if c ∈ s then ((s.idxOf c : Nat) : Int) else -1) ∨ ((34 : UInt8) ∈ cutA c s /\ (i = -1 ∨ ∃ k : Nat, i = k /\ k < s.length /\ (34 : UInt8) ∈ s.take k))
theorem cutA_sub {c : UInt8} {s : Bs} {b : UInt8} (h : b ∈ cutA c s) : b ∈ s := by
 unfold cutA at h
 split at h
 ·exact List.mem_of_mem_take h
 ·exact h
theorem cutA_at2 {c : UInt8} {s : Bs} {i : Nat} (hi : i < s.length) (h : s[i] = c) (hn : c ∉ s.take i) : c ∈ s /\ s.idxOf c = i := by
 have hm : c ∈ s := by rw [<- h]; exact List.getElem_mem hi
 refine ⟨hm, ?_⟩
 have e : s = s.take i ++ c :: s.drop (i + 1) := by
  conv => lhs; rw [<- List.take_append_drop i s, List.drop_eq_getElem_cons hi, h]
 rw [e, List.idxOf_append, if_neg hn]
 simp; omega
theorem outside_g (s : Bs) (c : UInt8) (hc : c ≠ 34) (hs : s.length <= 1049600) : ∃ i : Int, qc id_impl_outside [.str s, .int .u8 (c.toNat : Int)] = some (.int .i64 i) /\ OutR c s i := by
 suffices h : Gets (cv id_impl_outside [.str s, .int .u8 (c.toNat : Int)] []) fun r => ∃ i : Int, r.1 = .int .i64 i /\ OutR c s i by
  obtain ⟨⟨v, H⟩, e, i, h, hj⟩ := h
  have h : v = _ := h
  subst h
  exact ⟨i, qc_of e (by simp only [evv]) rfl, hj⟩
 rw [impl_outside_eq]
 refine Gets.loop2 (I := fun n st H => ∃ (i : Nat), n = s.length - i /\ i <= s.length /\ st = [.str s, .int .u8 (c.toNat : Int), .int .i64 (i : Nat)] /\ ((c ∉ s.take i /\ (34 : UInt8) ∉ s.take i) ∨ ((34 : UInt8) ∈ s.take i /\ (34 : UInt8) ∈ cutA c s)))
  (P := fun m vs H => (m = 0 /\ vs = [] /\ OutR c s (-1)) ∨ ∃ i : Int, m = 1 /\ vs = [.int .i64 i] /\ OutR c s i) (n := s.length) ?_ ⟨0, by omega, by omega, rfl, .inl ⟨by simp, by simp⟩⟩ ?_
 ·rintro n st H ⟨i, rfl, hi, rfl, inv⟩
  rw [impl_outside_l2_eq]
  by_cases hlt : i < s.length
  ·have i1 := t_idx s .i64 i hlt
   have hts : s.take (i + 1) = s.take i ++ [s[i]] := List.take_succ_eq_append_getElem hlt
   have e2 : vBinV (.int .i64) .add (.int .i64 (i : Int)) (.int .i64 1) = some (.int .i64 ((i + 1 : Nat) : Int)) := n_addN _ i 1 (by omega)
   by_cases h1 : (s[i].toNat : Int) = 34
   ·have hq : s[i] = 34 := UInt8.toNat_inj.1 (by rw [show s[i].toNat = 34 from by omega]; rfl)
    have hA : (34 : UInt8) ∈ cutA c s := by
     rcases inv with ⟨hn, _⟩ | ⟨_, h⟩
     ·unfold cutA
      split
      ·rename_i hm
       have hge : i + 1 <= s.idxOf c := by
        by_cases hlt2 : s.idxOf c < i + 1
        ·exfalso
         have hlt3 := List.idxOf_lt_length_iff.2 hm
         have hg : s[s.idxOf c] = c := List.getElem_idxOf hlt3
         by_cases he : s.idxOf c = i
         ·simp only [he] at hg; rw [hq] at hg; exact hc hg.symm
         ·exact hn (by
           have : c = (s.take i)[s.idxOf c]'(by simp; omega) := by rw [List.getElem_take, hg]
           rw [this]; exact List.getElem_mem _)
        ·omega
       have : (34 : UInt8) ∈ s.take (i + 1) := by rw [hts, hq]; simp
       exact List.take_subset_take_left s hge this
      ·rw [<- hq]; exact List.getElem_mem hlt
     ·exact h
    have p2 := t_suf s .i64 i (by omega)
    obtain ⟨t, n, ok, e3, hj⟩ := quoted_g (s.drop i) (by simp; omega)
    by_cases hok : ok = true
    ·obtain ⟨k, rfl, hk1, hk2⟩ := hj hok
     rw [List.length_drop] at hk2
     have a1 : vBinV (.int .i64) .sub (.int .i64 (k : Int)) (.int .i64 1) = some (.int .i64 ((k - 1 : Nat) : Int)) := n_subN _ k 1 hk1 (by omega)
     have a2 := n_addN (.int .i64) i (k - 1) (by omega)
     have a3 : vBinV (.int .i64) .add (.int .i64 ((i + (k - 1) : Nat) : Int)) (.int .i64 1) = some (.int .i64 ((i + (k - 1) + 1 : Nat) : Int)) := n_addN _ (i + (k - 1)) 1 (by omega)
     simp only [evv, i1, h1, p2, e3, hok, a1, a2, a3, show ((i : Int) < (s.length : Int)) from by omega]
     refine ⟨_, rfl, .inr ⟨rfl, s.length - (i + (k - 1) + 1), by omega, i + (k - 1) + 1, rfl, by omega, rfl, .inr ⟨?_, hA⟩⟩⟩
     have : (34 : UInt8) ∈ s.take (i + 1) := by rw [hts, hq]; simp
     exact List.take_subset_take_left s (by omega) this
    ·simp only [evv, i1, h1, p2, e3, hok, show ((i : Int) < (s.length : Int)) from by omega]
     exact ⟨_, rfl, .inl ⟨1, rfl, .inr ⟨-1, rfl, rfl, .inr ⟨hA, .inl rfl⟩⟩⟩⟩
   ·have hq : ¬ (34 : UInt8) = s[i] := fun e => h1 (by rw [<- e]; rfl)
    have hk : ((s[i].toNat : Int) = (c.toNat : Int)) ↔ s[i] = c := by
     constructor
     ·intro h; exact UInt8.toNat_inj.1 (by omega)
     ·intro h; rw [h]
    by_cases h2 : s[i] = c
    ·have h3 : ¬ (c.toNat : Int) = 34 := by rw [<- h2]; exact h1
     rw [h2] at i1
     simp only [evv, i1, h3, show ((i : Int) < (s.length : Int)) from by omega]
     refine ⟨_, rfl, .inl ⟨1, rfl, .inr ⟨_, rfl, rfl, ?_⟩⟩⟩
     rcases inv with ⟨hn, hn2⟩ | ⟨h, hA⟩
     ·obtain ⟨hm, hix⟩ := cutA_at2 hlt h2 hn
      have eA : cutA c s = s.take i := by unfold cutA; rw [if_pos hm, hix]
      exact .inl ⟨by rw [eA]; exact hn2, by rw [if_pos hm, hix]⟩
     ·exact .inr ⟨hA, .inr ⟨i, rfl, hlt, h⟩⟩
    ·simp only [evv, i1, h1, hk, h2, e2, show ((i : Int) < (s.length : Int)) from by omega]
     refine ⟨_, rfl, .inr ⟨rfl, s.length - (i + 1), by omega, i + 1, rfl, by omega, rfl, ?_⟩⟩
     rcases inv with ⟨hn, hn2⟩ | ⟨h, hA⟩
     ·refine .inl ⟨fun h => ?_, fun h => ?_⟩
      ·rw [hts, List.mem_append, List.mem_singleton] at h
       rcases h with h | h
       ·exact hn h
       ·exact h2 h.symm
      ·rw [hts, List.mem_append, List.mem_singleton] at h
       rcases h with h | h
       ·exact hn2 h
       ·exact hq h
     ·exact .inr ⟨by rw [hts, List.mem_append]; exact .inl h, hA⟩
  ·have : i = s.length := by omega
   subst this
   simp only [evv, show ¬ ((s.length : Int) < (s.length : Int)) from by omega]
   refine ⟨_, rfl, .inl ⟨0, rfl, .inl ⟨rfl, rfl, ?_⟩⟩⟩
   rw [List.take_length] at inv
   rcases inv with ⟨hn, hn2⟩ | ⟨h, hA⟩
   ·exact .inl ⟨fun h => hn2 (cutA_sub h), by rw [if_neg hn]⟩
   ·exact .inr ⟨hA, .inl rfl⟩
 rintro _ _ H (⟨rfl, rfl, h⟩ | ⟨i, rfl, rfl, h⟩)
 ·simp only [evv]
  exact Gets.here ⟨-1, rfl, h⟩
 ·simp only [evv]
  exact Gets.here ⟨i, rfl, h⟩
theorem st_get {G : VH} {k : Nat} {cs : List V} (hk : k < G.length) : (G.set k cs)[k]? = some cs := by
 rw [List.getElem?_set, if_pos rfl, if_pos hk]
theorem ob_ld {g : Nat -> Option (List V)} {G : VH} {k off : Nat} {cs : List V} {v u : V} (hk : k < G.length) (hv : cs[off]? = some v) (hu : strip v = u) : ldO g false false 1 (.ptr k off) (G.set k cs) = some (u, G.set k cs) := lp_cell (st_get hk) hv hu
theorem ob_tk {g : Nat -> Option (List V)} {G : VH} {k off : Nat} {cs cs' : List V} {v : V} (hk : k < G.length) (hv : cs[off]? = some v) (hc : gseg cs off [strip v] = cs') : ldO g true false 1 (.ptr k off) (G.set k cs) = some (v, G.set k cs') := by
 rw [ld_take (st_get hk) hv, hc, List.set_set]
theorem ob_st {G : VH} {k off : Nat} {cs cs' c : List V} (hk : k < G.length) (ho : off + c.length <= cs.length) (hc : gseg cs off c = cs') : stO (.ptr k off) c (G.set k cs) = some (G.set k cs') := by
 rw [so_seg (st_get hk) ho, hc, List.set_set]
theorem ob_tka {g : Nat -> Option (List V)} {G : VH} {k off n : Nat} {cs cs' c : List V} (hk : k < G.length) (hv : gcut cs off n = some c) (hc : gseg cs off (stripL c) = cs') : ldO g true true n (.ptr k off) (G.set k cs) = some (.agg c, G.set k cs') := by
 simp only [ldO, st_get hk, loadC, hv, Option.bind_some, Option.map_some, hc, List.set_set]
theorem sayData_c (s : Session) (line : Bs) (G : VH) (k : Nat) (hk : k < G.length) (hs : SmS s) (hl : line.length <= 1049600) : cv id_impl_Session_sayData [.ptr k 0, .str line] (G.set k (cSo s)) = some (.int .i64 (dataF s line).2, G.set k (cSo (dataF s line).1)) := by
 have hll := hs.2.1.2.2.1
 have hdl := hs.2.2.1
 rw [impl_Session_sayData_eq]
 unfold dataF
 simp only [cSo_e]
 by_cases h1 : line = [46]
 ·have t1 : ldO globB true true 3 (.ptr k 2) (G.set k [.int .i64 s.state, .str s.host, .str s.draft.from_, .sl true (vT s.draft.to), .sl true (vT s.draft.lines), .sl true (vO s.done)]) = some (.agg [.str s.draft.from_, .sl true (vT s.draft.to), .sl true (vT s.draft.lines)], G.set k [.int .i64 s.state, .str s.host, .str s.draft.from_, .sl false (vT s.draft.to), .sl false (vT s.draft.lines), .sl true (vO s.done)]) := ob_tka hk rfl (by simp only [stripL, strip, vT_strip]; rfl)
  have t2 : stO (.ptr k 0) [.int .i64 1] (G.set k [.int .i64 s.state, .str s.host, .str s.draft.from_, .sl false (vT s.draft.to), .sl false (vT s.draft.lines), .sl true (vO s.done)]) = some (G.set k [.int .i64 1, .str s.host, .str s.draft.from_, .sl false (vT s.draft.to), .sl false (vT s.draft.lines), .sl true (vO s.done)]) := ob_st hk (by simp) rfl
  have t3 : stO (.ptr k 2) [.str [], .sl true [], .sl true []] (G.set k [.int .i64 1, .str s.host, .str s.draft.from_, .sl false (vT s.draft.to), .sl false (vT s.draft.lines), .sl true (vO s.done)]) = some (G.set k [.int .i64 1, .str s.host, .str [], .sl true [], .sl true [], .sl true (vO s.done)]) := ob_st hk (by simp) rfl
  have t4 : ldO globB false false 1 (.ptr k 5) (G.set k [.int .i64 1, .str s.host, .str [], .sl true [], .sl true [], .sl true (vO s.done)]) = some (.sl false (vR eM s.done), G.set k [.int .i64 1, .str s.host, .str [], .sl true [], .sl true [], .sl true (vO s.done)]) := ob_ld hk rfl (by simp only [strip, vO_strip])
  by_cases h2 : 30 < s.draft.lines.length
  ·simp only [evv, h1, t1, t2, t3, h2, show ((s.draft.lines.length : Int) > 30) from by omega]
   rfl
  ·by_cases h3 : s.done.length = 5
   ·simp only [evv, h1, t1, t2, t3, t4, h2, h3, show ¬ ((s.draft.lines.length : Int) > 30) from by omega, show (((5 : Nat) : Int) = 5) from rfl]
    rfl
   ·have h3' : ¬ ((s.done.length : Nat) : Int) = 5 := by omega
    have t5 : ldO globB true false 1 (.ptr k 5) (G.set k [.int .i64 1, .str s.host, .str [], .sl true [], .sl true [], .sl true (vO s.done)]) = some (.sl true (vO s.done), G.set k [.int .i64 1, .str s.host, .str [], .sl true [], .sl true [], .sl false (vR eM s.done)]) := ob_tk hk rfl (by simp only [strip, vO_strip]; rfl)
    have ap := mails_app (l := s.done) s.draft (by omega)
    have t6 : stO (.ptr k 5) [.sl true (vO (s.done ++ [s.draft]))] (G.set k [.int .i64 1, .str s.host, .str [], .sl true [], .sl true [], .sl false (vR eM s.done)]) = some (G.set k [.int .i64 1, .str s.host, .str [], .sl true [], .sl true [], .sl true (vO (s.done ++ [s.draft]))]) := ob_st hk (by simp) rfl
    simp only [evv, h1, t1, t2, t3, t4, t5, t6, ap, h2, h3, h3', show ¬ ((s.draft.lines.length : Int) > 30) from by omega]
    rfl
 ·have t1 : ldO globB false false 1 (.ptr k 4) (G.set k [.int .i64 s.state, .str s.host, .str s.draft.from_, .sl true (vT s.draft.to), .sl true (vT s.draft.lines), .sl true (vO s.done)]) = some (.sl false (vT s.draft.lines), G.set k [.int .i64 s.state, .str s.host, .str s.draft.from_, .sl true (vT s.draft.to), .sl true (vT s.draft.lines), .sl true (vO s.done)]) := ob_ld hk rfl (by simp only [strip, vT_strip])
  by_cases h2 : s.draft.lines.length <= 30
  ·have t2 : ldO globB true false 1 (.ptr k 4) (G.set k [.int .i64 s.state, .str s.host, .str s.draft.from_, .sl true (vT s.draft.to), .sl true (vT s.draft.lines), .sl true (vO s.done)]) = some (.sl true (vT s.draft.lines), G.set k [.int .i64 s.state, .str s.host, .str s.draft.from_, .sl true (vT s.draft.to), .sl false (vT s.draft.lines), .sl true (vO s.done)]) := ob_tk hk rfl (by simp only [strip, vT_strip]; rfl)
   have e1 := Trim_c line (by omega)
   have ap := sl_app1 (l := s.draft.lines) (unst line) (by omega)
   have t3 : stO (.ptr k 4) [.sl true (vT (s.draft.lines ++ [unst line]))] (G.set k [.int .i64 s.state, .str s.host, .str s.draft.from_, .sl true (vT s.draft.to), .sl false (vT s.draft.lines), .sl true (vO s.done)]) = some (G.set k [.int .i64 s.state, .str s.host, .str s.draft.from_, .sl true (vT s.draft.to), .sl true (vT (s.draft.lines ++ [unst line])), .sl true (vO s.done)]) := ob_st hk (by simp) rfl
   simp only [evv, h1, t1, t2, t3, e1, ap, h2, show ((s.draft.lines.length : Int) <= 30) from by omega]
  ·simp only [evv, h1, t1, h2, show ¬ ((s.draft.lines.length : Int) <= 30) from by omega]
theorem low_no {w : Bs} {s : Bs} (b : UInt8) (hb : lowB b = b) (h : b ∈ s) (hw : b ∉ w) : ¬ lowT s = w := fun e => hw (by rw [<- e]; exact List.mem_map.2 ⟨b, h, hb⟩)
theorem sayCommand_c (s : Session) (line : Bs) (G : VH) (k : Nat) (hk : k < G.length) (hs : SmS s) (hl : line.length <= 1049600) : cv id_impl_Session_sayCommand [.ptr k 0, .str line] (G.set k (cSo s)) = some (.int .i64 (cmdF s line).2, G.set k (cSo (cmdF s line).1)) := by
 have htl := hs.2.1.2.1.1
 obtain ⟨at_, o1, hR⟩ := outside_g line 32 (by decide) hl
 have o1' : qc id_impl_outside [.str line, .int .u8 32] = _ := o1
 rw [impl_Session_sayCommand_eq]
 have blk : ∀ (K : Nat × List V × VH -> Option (V × VH)) (R : Option (V × VH)), (∀ w r m, ((w = cutA 32 line /\ r = cutZ 32 line /\ m = decide ((32 : UInt8) ∈ line) /\ (34 : UInt8) ∉ cutA 32 line) ∨ ((34 : UInt8) ∈ w /\ (34 : UInt8) ∈ cutA 32 line /\ w.length <= line.length)) -> K (0, [.ptr k 0, .str w, .str r, .bool m], G.set k (cSo s)) = R) →
  ((id ((qc id_impl_outside [.str line, .int .u8 32]).bind fun x16_6 => (vBinV (.int .i64) .geq x16_6 (.int .i64 0)).bind fun x18_9 => ifVV x18_9 ((vSliceSV (.str line) none (some (strip x16_6))).bind fun x21_12 => (vBinV (.int .i64) .add (strip (strip x16_6)) (.int .i64 1)).bind fun x24_15 => (vSliceSV (.str line) (some x24_15) none).bind fun x25_16 => some (0, [.ptr k 0, x21_12, x25_16, (.bool true)], G.set k (cSo s))) (some (0, [.ptr k 0, .str line, (.str []), (.bool false)], G.set k (cSo s))) : Option (Nat × List V × VH))).bind K) = R := by
  intro K R hK
  rcases hR with ⟨hq, rfl⟩ | ⟨hq, rfl | ⟨j, rfl, hj, hqj⟩⟩
  ·by_cases hm : (32 : UInt8) ∈ line
   ·have hlt := List.idxOf_lt_length_iff.2 hm
    have p1 := t_pre line .i64 (line.idxOf 32) (by omega)
    have e2 : vBinV (.int .i64) .add (.int .i64 ((line.idxOf 32 : Nat) : Int)) (.int .i64 1) = some (.int .i64 ((line.idxOf 32 + 1 : Nat) : Int)) := n_addN _ (line.idxOf 32) 1 (by omega)
    have p2 := t_suf line .i64 (line.idxOf 32 + 1) (by omega)
    rw [if_pos hm] at o1'
    simp only [evv, o1', p1, e2, p2, show (((line.idxOf 32 : Nat) : Int) ≥ 0) from by omega]
    refine hK _ _ _ (.inl ⟨?_, ?_, ?_, hq⟩)
    ·unfold cutA; rw [if_pos hm]
    ·unfold cutZ; rw [if_pos hm]
    ·rw [decide_eq_true hm]
   ·rw [if_neg hm] at o1'
    simp only [evv, o1', show ¬ ((-1 : Int) ≥ 0) from by decide]
    exact hK _ _ _ (.inl ⟨(cut_none hm).1.symm, (cut_none hm).2.symm, (decide_eq_false hm).symm, hq⟩)
  ·simp only [evv, o1', show ¬ ((-1 : Int) ≥ 0) from by decide]
   exact hK _ _ _ (.inr ⟨cutA_sub hq, hq, Nat.le_refl _⟩)
  ·have p1 := t_pre line .i64 j (by omega)
   have e2 : vBinV (.int .i64) .add (.int .i64 (j : Int)) (.int .i64 1) = some (.int .i64 ((j + 1 : Nat) : Int)) := n_addN _ j 1 (by omega)
   have p2 := t_suf line .i64 (j + 1) (by omega)
   simp only [evv, o1', p1, e2, p2, show ((j : Int) ≥ 0) from by omega]
   exact hK _ _ _ (.inr ⟨hqj, hq, by simp; omega⟩)
 refine blk _ _ fun w r m hw => ?_
 have hz := cutZ_len 32 line
 have ha := cutA_len 32 line
 have ld0 : ldO globB false false 1 (.ptr k 0) (G.set k [.int .i64 s.state, .str s.host, .str s.draft.from_, .sl true (vT s.draft.to), .sl true (vT s.draft.lines), .sl true (vO s.done)]) = some (.int .i64 s.state, G.set k [.int .i64 s.state, .str s.host, .str s.draft.from_, .sl true (vT s.draft.to), .sl true (vT s.draft.lines), .sl true (vO s.done)]) := ob_ld hk rfl rfl
 rcases hw with ⟨rfl, rfl, rfl, hq⟩ | ⟨hqw, hqa, hwl⟩
 ·have e1 := impl_LowerText_c (cutA 32 line) (by omega)
  unfold cmdF
  by_cases h1 : lowT (cutA 32 line) = [104, 101, 108, 111]
  ·have e2 := impl_LowerText_c (cutZ 32 line) (by omega)
   have e3 := isDomain_c (lowT (cutZ 32 line)) (by simp [lowT]; omega)
   unfold helloF
   by_cases hd : domT (lowT (cutZ 32 line)) = true
   ·have hm : (32 : UInt8) ∈ line := by
     by_cases hm : (32 : UInt8) ∈ line
     ·exact hm
     ·rw [(cut_none hm).2] at hd
      exact absurd hd (by decide)
    have t1 : stO (.ptr k 1) [.str (lowT (cutZ 32 line))] (G.set k [.int .i64 s.state, .str s.host, .str s.draft.from_, .sl true (vT s.draft.to), .sl true (vT s.draft.lines), .sl true (vO s.done)]) = some (G.set k [.int .i64 s.state, .str (lowT (cutZ 32 line)), .str s.draft.from_, .sl true (vT s.draft.to), .sl true (vT s.draft.lines), .sl true (vO s.done)]) := ob_st hk (by simp) rfl
    have t2 : stO (.ptr k 0) [.int .i64 1] (G.set k [.int .i64 s.state, .str (lowT (cutZ 32 line)), .str s.draft.from_, .sl true (vT s.draft.to), .sl true (vT s.draft.lines), .sl true (vO s.done)]) = some (G.set k [.int .i64 1, .str (lowT (cutZ 32 line)), .str s.draft.from_, .sl true (vT s.draft.to), .sl true (vT s.draft.lines), .sl true (vO s.done)]) := ob_st hk (by simp) rfl
    have t3 : stO (.ptr k 2) [.str [], .sl true [], .sl true []] (G.set k [.int .i64 1, .str (lowT (cutZ 32 line)), .str s.draft.from_, .sl true (vT s.draft.to), .sl true (vT s.draft.lines), .sl true (vO s.done)]) = some (G.set k [.int .i64 1, .str (lowT (cutZ 32 line)), .str [], .sl true [], .sl true [], .sl true (vO s.done)]) := ob_st hk (by simp) rfl
    simp only [evv, cSo_e, e1, h1, e2, e3, hd, hm, t1, t2, t3]
    rfl
   ·by_cases hm : (32 : UInt8) ∈ line
    ·simp only [evv, cSo_e, e1, h1, e2, e3, hd, hm]
    ·simp only [evv, cSo_e, e1, h1, e2, hd, hm]
  ·by_cases h2 : lowT (cutA 32 line) = [109, 97, 105, 108]
   ·obtain ⟨p, ok, e2, hp, hap⟩ := pathIn_g (cutZ 32 line) [70, 82, 79, 77, 58] (by omega) (by simp)
    rw [show lowT [70, 82, 79, 77, 58] = [102, 114, 111, 109, 58] from rfl] at hap
    rw [if_neg h1, if_pos h2, hap]
    unfold fromF
    by_cases hok : ok = true
    ·by_cases h3 : s.state = 1
     ·have t1 : stO (.ptr k 0) [.int .i64 2] (G.set k [.int .i64 1, .str s.host, .str s.draft.from_, .sl true (vT s.draft.to), .sl true (vT s.draft.lines), .sl true (vO s.done)]) = some (G.set k [.int .i64 2, .str s.host, .str s.draft.from_, .sl true (vT s.draft.to), .sl true (vT s.draft.lines), .sl true (vO s.done)]) := ob_st hk (by simp) rfl
      have t2 : stO (.ptr k 2) [.str p, .sl true [], .sl true []] (G.set k [.int .i64 2, .str s.host, .str s.draft.from_, .sl true (vT s.draft.to), .sl true (vT s.draft.lines), .sl true (vO s.done)]) = some (G.set k [.int .i64 2, .str s.host, .str p, .sl true [], .sl true [], .sl true (vO s.done)]) := ob_st hk (by simp) rfl
      rw [h3] at ld0
      simp only [evv, cSo_e, e1, h2, e2, hok, ld0, h3, t1, t2, show ¬ (([109, 97, 105, 108] : Bs) = [104, 101, 108, 111]) from by decide]
      rfl
     ·simp only [evv, cSo_e, e1, h2, e2, hok, ld0, h3, show ¬ (([109, 97, 105, 108] : Bs) = [104, 101, 108, 111]) from by decide]
    ·simp only [evv, cSo_e, e1, h2, e2, hok, show ¬ (([109, 97, 105, 108] : Bs) = [104, 101, 108, 111]) from by decide]
   ·by_cases h3 : lowT (cutA 32 line) = [114, 99, 112, 116]
    ·obtain ⟨p, ok, e2, hp, hap⟩ := pathIn_g (cutZ 32 line) [84, 79, 58] (by omega) (by simp)
     rw [show lowT [84, 79, 58] = [116, 111, 58] from rfl] at hap
     rw [if_neg h1, if_neg h2, if_pos h3, hap]
     unfold toF
     have n1 : ¬ (([114, 99, 112, 116] : Bs) = [104, 101, 108, 111]) := by decide
     have n2 : ¬ (([114, 99, 112, 116] : Bs) = [109, 97, 105, 108]) := by decide
     by_cases hok : ok = true
     ·by_cases h0 : p = []
      ·simp only [evv, cSo_e, e1, h3, e2, hok, h0, n1, n2]
      ·have t0 : ldO globB false false 1 (.ptr k 3) (G.set k [.int .i64 s.state, .str s.host, .str s.draft.from_, .sl true (vT s.draft.to), .sl true (vT s.draft.lines), .sl true (vO s.done)]) = some (.sl false (vT s.draft.to), G.set k [.int .i64 s.state, .str s.host, .str s.draft.from_, .sl true (vT s.draft.to), .sl true (vT s.draft.lines), .sl true (vO s.done)]) := ob_ld hk rfl (by simp only [strip, vT_strip])
       have t1 : ldO globB true false 1 (.ptr k 3) (G.set k [.int .i64 s.state, .str s.host, .str s.draft.from_, .sl true (vT s.draft.to), .sl true (vT s.draft.lines), .sl true (vO s.done)]) = some (.sl true (vT s.draft.to), G.set k [.int .i64 s.state, .str s.host, .str s.draft.from_, .sl false (vT s.draft.to), .sl true (vT s.draft.lines), .sl true (vO s.done)]) := ob_tk hk rfl (by simp only [strip, vT_strip]; rfl)
       have ap := sl_app1 (l := s.draft.to) p (by omega)
       have t2 : stO (.ptr k 0) [.int .i64 3] (G.set k [.int .i64 s.state, .str s.host, .str s.draft.from_, .sl false (vT s.draft.to), .sl true (vT s.draft.lines), .sl true (vO s.done)]) = some (G.set k [.int .i64 3, .str s.host, .str s.draft.from_, .sl false (vT s.draft.to), .sl true (vT s.draft.lines), .sl true (vO s.done)]) := ob_st hk (by simp) rfl
       have t3 : stO (.ptr k 3) [.sl true (vT (s.draft.to ++ [p]))] (G.set k [.int .i64 3, .str s.host, .str s.draft.from_, .sl false (vT s.draft.to), .sl true (vT s.draft.lines), .sl true (vO s.done)]) = some (G.set k [.int .i64 3, .str s.host, .str s.draft.from_, .sl true (vT (s.draft.to ++ [p])), .sl true (vT s.draft.lines), .sl true (vO s.done)]) := ob_st hk (by simp) rfl
       by_cases h4 : s.state = 2
       ·rw [h4] at ld0 t0 t1 t2
        by_cases h5 : s.draft.to.length = 10
        ·simp only [evv, cSo_e, e1, h3, e2, hok, h0, n1, n2, ld0, t0, h4, h5, show (((10 : Nat) : Int) = 10) from rfl, true_or]
        ·have h5' : ¬ ((s.draft.to.length : Nat) : Int) = 10 := by omega
         simp only [evv, cSo_e, e1, h3, e2, hok, h0, n1, n2, ld0, t0, t1, t2, t3, ap, h4, h5, h5', true_or]
       ·by_cases h4' : s.state = 3
        ·rw [h4'] at ld0 t0 t1 t2
         by_cases h5 : s.draft.to.length = 10
         ·simp only [evv, cSo_e, e1, h3, e2, hok, h0, n1, n2, ld0, t0, h4', h5, show ¬ ((3 : Int) = 2) from by decide, show (((10 : Nat) : Int) = 10) from rfl, or_true]
         ·have h5' : ¬ ((s.draft.to.length : Nat) : Int) = 10 := by omega
          simp only [evv, cSo_e, e1, h3, e2, hok, h0, n1, n2, ld0, t0, t1, t2, t3, ap, h4', h5, h5', show ¬ ((3 : Int) = 2) from by decide, or_true]
        ·simp only [evv, cSo_e, e1, h3, e2, hok, h0, n1, n2, ld0, h4, h4', or_self]
     ·simp only [evv, cSo_e, e1, h3, e2, hok, n1, n2]
    ·rw [if_neg h1, if_neg h2, if_neg h3]
     unfold wordF
     by_cases hm : (32 : UInt8) ∈ line
     ·have k1 : ¬ lowT line = [100, 97, 116, 97] := low_no 32 rfl hm (by decide)
      have k2 : ¬ lowT line = [114, 115, 101, 116] := low_no 32 rfl hm (by decide)
      have k3 : ¬ lowT line = [110, 111, 111, 112] := low_no 32 rfl hm (by decide)
      have k4 : ¬ lowT line = [113, 117, 105, 116] := low_no 32 rfl hm (by decide)
      simp only [evv, cSo_e, e1, h1, h2, h3, hm, k1, k2, k3, k4]
     ·rw [(cut_none hm).1] at h1 h2 h3 e1 ⊢
      by_cases k1 : lowT line = [100, 97, 116, 97]
      ·have n1 : ¬ (([100, 97, 116, 97] : Bs) = [104, 101, 108, 111]) := by decide
       have n2 : ¬ (([100, 97, 116, 97] : Bs) = [109, 97, 105, 108]) := by decide
       have n3 : ¬ (([100, 97, 116, 97] : Bs) = [114, 99, 112, 116]) := by decide
       by_cases k5 : s.state = 3
       ·have t2 : stO (.ptr k 0) [.int .i64 4] (G.set k [.int .i64 3, .str s.host, .str s.draft.from_, .sl true (vT s.draft.to), .sl true (vT s.draft.lines), .sl true (vO s.done)]) = some (G.set k [.int .i64 4, .str s.host, .str s.draft.from_, .sl true (vT s.draft.to), .sl true (vT s.draft.lines), .sl true (vO s.done)]) := ob_st hk (by simp) rfl
        rw [k5] at ld0
        simp only [evv, cSo_e, e1, hm, k1, n1, n2, n3, ld0, k5, t2]
       ·simp only [evv, cSo_e, e1, hm, k1, n1, n2, n3, ld0, k5]
      ·by_cases k2 : lowT line = [114, 115, 101, 116]
       ·have n1 : ¬ (([114, 115, 101, 116] : Bs) = [104, 101, 108, 111]) := by decide
        have n2 : ¬ (([114, 115, 101, 116] : Bs) = [109, 97, 105, 108]) := by decide
        have n3 : ¬ (([114, 115, 101, 116] : Bs) = [114, 99, 112, 116]) := by decide
        have n4 : ¬ (([114, 115, 101, 116] : Bs) = [100, 97, 116, 97]) := by decide
        have t2 : stO (.ptr k 2) [.str [], .sl true [], .sl true []] (G.set k [.int .i64 s.state, .str s.host, .str s.draft.from_, .sl true (vT s.draft.to), .sl true (vT s.draft.lines), .sl true (vO s.done)]) = some (G.set k [.int .i64 s.state, .str s.host, .str [], .sl true [], .sl true [], .sl true (vO s.done)]) := ob_st hk (by simp) rfl
        have t3 : ldO globB false false 1 (.ptr k 0) (G.set k [.int .i64 s.state, .str s.host, .str [], .sl true [], .sl true [], .sl true (vO s.done)]) = some (.int .i64 s.state, G.set k [.int .i64 s.state, .str s.host, .str [], .sl true [], .sl true [], .sl true (vO s.done)]) := ob_ld hk rfl rfl
        have t4 : stO (.ptr k 0) [.int .i64 1] (G.set k [.int .i64 s.state, .str s.host, .str [], .sl true [], .sl true [], .sl true (vO s.done)]) = some (G.set k [.int .i64 1, .str s.host, .str [], .sl true [], .sl true [], .sl true (vO s.done)]) := ob_st hk (by simp) rfl
        by_cases k5 : s.state = 0
        ·rw [k5] at t2 t3
         simp only [evv, cSo_e, e1, hm, k2, n1, n2, n3, n4, t2, t3, k5]
         rfl
        ·simp only [evv, cSo_e, e1, hm, k2, n1, n2, n3, n4, t2, t3, t4, k5]
         rfl
       ·by_cases k3 : lowT line = [110, 111, 111, 112]
        ·simp only [evv, cSo_e, e1, hm, k3, show ¬ (([110, 111, 111, 112] : Bs) = [104, 101, 108, 111]) from by decide, show ¬ (([110, 111, 111, 112] : Bs) = [109, 97, 105, 108]) from by decide, show ¬ (([110, 111, 111, 112] : Bs) = [114, 99, 112, 116]) from by decide, show ¬ (([110, 111, 111, 112] : Bs) = [100, 97, 116, 97]) from by decide, show ¬ (([110, 111, 111, 112] : Bs) = [114, 115, 101, 116]) from by decide]
        ·by_cases k4 : lowT line = [113, 117, 105, 116]
         ·have t4 : stO (.ptr k 0) [.int .i64 5] (G.set k [.int .i64 s.state, .str s.host, .str s.draft.from_, .sl true (vT s.draft.to), .sl true (vT s.draft.lines), .sl true (vO s.done)]) = some (G.set k [.int .i64 5, .str s.host, .str s.draft.from_, .sl true (vT s.draft.to), .sl true (vT s.draft.lines), .sl true (vO s.done)]) := ob_st hk (by simp) rfl
          have t5 : stO (.ptr k 2) [.str [], .sl true [], .sl true []] (G.set k [.int .i64 5, .str s.host, .str s.draft.from_, .sl true (vT s.draft.to), .sl true (vT s.draft.lines), .sl true (vO s.done)]) = some (G.set k [.int .i64 5, .str s.host, .str [], .sl true [], .sl true [], .sl true (vO s.done)]) := ob_st hk (by simp) rfl
          simp only [evv, cSo_e, e1, hm, k4, t4, t5, show ¬ (([113, 117, 105, 116] : Bs) = [104, 101, 108, 111]) from by decide, show ¬ (([113, 117, 105, 116] : Bs) = [109, 97, 105, 108]) from by decide, show ¬ (([113, 117, 105, 116] : Bs) = [114, 99, 112, 116]) from by decide, show ¬ (([113, 117, 105, 116] : Bs) = [100, 97, 116, 97]) from by decide, show ¬ (([113, 117, 105, 116] : Bs) = [114, 115, 101, 116]) from by decide, show ¬ (([113, 117, 105, 116] : Bs) = [110, 111, 111, 112]) from by decide]
          rfl
         ·simp only [evv, cSo_e, e1, hm, h1, h2, h3, k1, k2, k3, k4]
 ·have hno : ∀ x : Bs, (34 : UInt8) ∉ x -> ¬ lowT w = x := fun x hx => low_no 34 rfl hqw hx
  have hnl : ∀ x : Bs, (34 : UInt8) ∉ x -> ¬ lowT (cutA 32 line) = x := fun x hx => low_no 34 rfl hqa hx
  have hnt : ∀ x : Bs, (34 : UInt8) ∉ x -> ¬ lowT line = x := fun x hx => low_no 34 rfl (cutA_sub hqa) hx
  have hr : cmdF s line = (s, 500) := by
   unfold cmdF wordF
   rw [if_neg (hnl _ (by decide)), if_neg (hnl _ (by decide)), if_neg (hnl _ (by decide)), if_neg (hnt _ (by decide)), if_neg (hnt _ (by decide)), if_neg (hnt _ (by decide)), if_neg (hnt _ (by decide))]
  rw [hr]
  have e1 := impl_LowerText_c w (by omega)
  cases m with
  | true => simp only [evv, cSo_e, e1, hno _ (show (34 : UInt8) ∉ [104, 101, 108, 111] by decide), hno _ (show (34 : UInt8) ∉ [109, 97, 105, 108] by decide), hno _ (show (34 : UInt8) ∉ [114, 99, 112, 116] by decide)]
  | false => simp only [evv, cSo_e, e1, hno _ (show (34 : UInt8) ∉ [104, 101, 108, 111] by decide), hno _ (show (34 : UInt8) ∉ [109, 97, 105, 108] by decide), hno _ (show (34 : UInt8) ∉ [114, 99, 112, 116] by decide), hno _ (show (34 : UInt8) ∉ [100, 97, 116, 97] by decide), hno _ (show (34 : UInt8) ∉ [114, 115, 101, 116] by decide), hno _ (show (34 : UInt8) ∉ [110, 111, 111, 112] by decide), hno _ (show (34 : UInt8) ∉ [113, 117, 105, 116] by decide)]
def okB (s : Session) (line : Bs) : Bool := !decide (s.state = 5) && textT line
theorem say_c (s : Session) (line : Bs) (G : VH) (k : Nat) (hk : k < G.length) (hs : SmS s) (hl : line.length <= 1049600) : cv id_impl_Session_say [.ptr k 0, .str line] (G.set k (cSo s)) = some (.tup [.int .i64 (if okB s line = true then (sayF s line).2 else 0), .bool (okB s line)], G.set k (cSo (if okB s line = true then (sayF s line).1 else s))) := by
 have e1 := TextValid_c line (by omega)
 have ld0 : ldO globB false false 1 (.ptr k 0) (G.set k (cSo s)) = some (.int .i64 s.state, G.set k (cSo s)) := ob_ld hk rfl rfl
 rw [impl_Session_say_eq]
 unfold okB sayF
 by_cases h1 : s.state = 5
 ·simp only [evv, ld0, h1, Bool.false_and]
 ·by_cases h2 : textT line = true
  ·by_cases h3 : s.state = 4
   ·have f := sayData_c s line G k hk hs hl
    simp only [evv, ld0, h1, e1, h2, h3, f, Bool.true_and]
    simp [h3, f]
    simp only [evv]
   ·have f := sayCommand_c s line G k hk hs hl
    simp only [evv, ld0, h1, e1, h2, h3, f, Bool.true_and]
  ·simp only [evv, ld0, h1, e1, h2, Bool.and_false]
theorem impl_SayLine_r {n : Nat} (s : Session) (line : Bs) (hs : SzS n s) (hn : n + 1 <= 1049600) (hl : line.length <= 1049600) : ∃ H, cv id_impl_SayLine [.agg (cS s), .str line] [] = some (.tup [.agg (cSo (sayS s line)), .int .i64 (sayN s line), .bool (sayB s line)], H) := by
 have hsm := hs.sm (by omega)
 have e1 := impl_SessionValid_c s hsm
 have e2 := copySession_c s hsm
 simp only [cS_e, cSo_e] at e1 e2
 rw [impl_SayLine_eq]
 have hS : sayB s line = (sessT s && okB s line) := rfl
 unfold sayS sayN
 rw [hS]
 by_cases h1 : sessT s = true
 ·rw [h1, Bool.true_and]
  have s1 : stO (.ptr ([] : VH).length 0) [.int .i64 s.state, .str s.host, .str s.draft.from_, .sl true (vT s.draft.to), .sl true (vT s.draft.lines), .sl true (vO s.done)] [[(.int .i64 0), (.str []), (.str []), (.sl true []), (.sl true []), (.sl true [])]] = some [cSo s] := rfl
  have f := say_c s line [cSo s] 0 (by simp) hsm hl
  have hset : ∀ a b : List V, ([a] : VH).set 0 b = [b] := fun a b => rfl
  simp only [hset] at f
  have f' : cv id_impl_Session_say [.ptr ([] : VH).length 0, .str line] [cSo s] = _ := f
  by_cases h2 : okB s line = true
  ·rw [h2] at f' ⊢
   simp only [if_true] at f' ⊢
   have l1 := ld_all (g := globB) (n := 6) (get_last [] (cSo (sayF s line).1)) rfl
   rw [set_end] at l1
   have l1' : ldO globB true true 6 (.ptr ([] : VH).length 0) [cSo (sayF s line).1] = _ := l1
   simp only [cSo_e] at l1' s1 f'
   simp only [evv, e1, h1, e2, s1, f', l1', cSo_e]
   exact ⟨_, rfl⟩
  ·have h2' : okB s line = false := by simpa using h2
   rw [h2'] at f' ⊢
   simp only [Bool.false_eq_true, if_false] at f' ⊢
   simp only [cSo_e] at s1 f'
   simp only [evv, e1, h1, e2, s1, f', cSo_e]
   exact ⟨_, rfl⟩
 ·have h1' : sessT s = false := by simpa using h1
  rw [h1', Bool.false_and]
  simp only [evv, e1, h1', cSo_e]
  exact ⟨_, rfl⟩
theorem impl_SayLine_c {n : Nat} (s : Session) (line : Bs) (hs : SzS n s) (hn : n + 1 <= 1049600) (hl : line.length <= 1049600) : pc id_impl_SayLine [.agg (cS s), .str line] = some (.tup [.agg (cSo (sayS s line)), .int .i64 (sayN s line), .bool (sayB s line)]) := by
 obtain ⟨H, e⟩ := impl_SayLine_r s line hs hn hl
 exact pc_of e (by simp only [evv, cS_e]) (by simp only [evv, cSo_e, vO_data])
end Go.Proofs.YtpmpggihngmnoaaGreatDoor.Q

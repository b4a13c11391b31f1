/- Contracts: a mail for each domain. -/
import Derived.Test.YtjobinbeggkliaaDoorNormalSplitC97boxlawsZ
namespace Go.Proofs.YtjobinbeggkliaaDoor.Q
open Go Go.AM
set_option linter.unusedSimpArgs false
set_option linter.unusedVariables false
set_option linter.unusedSectionVars false
def dmT (t : Bs) : Bs := cutZ 64 t
def dsT (tos : List Bs) : List Bs := normA [] (tos.map dmT)
def grpM (m : Mail) (tos : List Bs) (d : Bs) : Mail := ⟨m.from_, tos.filter (fun t => decide (dmT t = d)), m.lines⟩
def splL (m : Mail) (tos : List Bs) : List Mail := (dsT tos).map (grpM m tos)
def splR (m : Mail) : List Mail := if mailT m 1 30 = true then splL m (norM m).to else []
theorem normA_snoc : ∀ {l acc : List Bs} {t : Bs}, normA acc (l ++ [t]) = if t ∈ normA acc l then normA acc l else normA acc l ++ [t]
  | [], acc, t => by simp only [List.nil_append, normA]; rfl
  | x :: l, acc, t => by
    simp only [List.cons_append, normA]
    exact normA_snoc
theorem dsT_snoc (tos : List Bs) (t : Bs) : dsT (tos ++ [t]) = if dmT t ∈ dsT tos then dsT tos else dsT tos ++ [dmT t] := by
  unfold dsT
  rw [List.map_append]
  exact normA_snoc
theorem dsT_mem {tos : List Bs} {d : Bs} : d ∈ dsT tos ↔ ∃ t ∈ tos, dmT t = d := by
  unfold dsT
  rw [normA_mem]
  simp [List.mem_map]
theorem dsT_nodup (tos : List Bs) : (dsT tos).Nodup := normA_nodup (by simp)
theorem grp_snoc (m : Mail) (tos : List Bs) (t d : Bs) : grpM m (tos ++ [t]) d = if dmT t = d then ⟨m.from_, (grpM m tos d).to ++ [t], m.lines⟩ else grpM m tos d := by
  unfold grpM
  rw [List.filter_append]
  by_cases h : dmT t = d
  · simp [h]
  · simp [h]
def sameD (t : Bs) (x : Mail) : Bool := decide (dmT (x.to.headD []) = dmT t)
theorem grp_head {m : Mail} {tos : List Bs} {d : Bs} (h : d ∈ dsT tos) : (grpM m tos d).to ≠ [] ∧ dmT ((grpM m tos d).to.headD []) = d := by
  obtain ⟨t, ht, hd⟩ := dsT_mem.1 h
  have hm : t ∈ (grpM m tos d).to := by unfold grpM; simp [ht, hd]
  have hne : (grpM m tos d).to ≠ [] := fun e => by rw [e] at hm; simp at hm
  refine ⟨hne, ?_⟩
  cases hg : (grpM m tos d).to with
  | nil => exact absurd hg hne
  | cons a l =>
    have : a ∈ (grpM m tos d).to := by rw [hg]; simp
    unfold grpM at this
    simp at this
    exact this.2
theorem spl_any (m : Mail) (tos : List Bs) (t : Bs) : (splL m tos).any (sameD t) = decide (dmT t ∈ dsT tos) := by
  unfold splL
  rw [Bool.eq_iff_iff, List.any_eq_true, decide_eq_true_eq]
  constructor
  · rintro ⟨x, hx, hs⟩
    obtain ⟨d, hd, rfl⟩ := List.mem_map.1 hx
    have := (grp_head (m := m) hd).2
    unfold sameD at hs
    rw [this, decide_eq_true_eq] at hs
    rw [← hs]; exact hd
  · intro h
    refine ⟨_, List.mem_map.2 ⟨_, h, rfl⟩, ?_⟩
    unfold sameD
    rw [(grp_head (m := m) h).2]; simp
theorem spl_set {m : Mail} {tos : List Bs} {t : Bs} (h : dmT t ∈ dsT tos) : ∃ hx : (splL m tos).findIdx (sameD t) < (splL m tos).length,
    splL m (tos ++ [t]) = (splL m tos).set ((splL m tos).findIdx (sameD t)) ⟨m.from_, (splL m tos)[(splL m tos).findIdx (sameD t)].to ++ [t], m.lines⟩ ∧ (splL m tos)[(splL m tos).findIdx (sameD t)].from_ = m.from_ ∧ (splL m tos)[(splL m tos).findIdx (sameD t)].lines = m.lines := by
  have ha : (splL m tos).any (sameD t) = true := by rw [spl_any]; simpa using h
  have hx : (splL m tos).findIdx (sameD t) < (splL m tos).length := List.findIdx_lt_length_of_exists (by rw [List.any_eq_true] at ha; exact ha)
  have hp := List.findIdx_getElem (w := hx)
  refine ⟨hx, ?_, ?_, ?_⟩
  · generalize hi : (splL m tos).findIdx (sameD t) = i at *
    have hds : dsT (tos ++ [t]) = dsT tos := by rw [dsT_snoc, if_pos h]
    have hil : i < (dsT tos).length := by simpa [splL] using hx
    have hdi : (dsT tos)[i] = dmT t := by
      have : (splL m tos)[i] = grpM m tos (dsT tos)[i] := by simp [splL]
      rw [this] at hp
      unfold sameD at hp
      rw [(grp_head (List.getElem_mem hil)).2, decide_eq_true_eq] at hp
      exact hp
    apply List.ext_getElem
    · simp [splL, hds]
    · intro j h1 h2
      have hj : j < (dsT tos).length := by simpa [splL, hds] using h1
      have e1 : (splL m (tos ++ [t]))[j] = grpM m (tos ++ [t]) (dsT tos)[j] := by simp [splL, hds]
      rw [e1, grp_snoc]
      by_cases hji : j = i
      · subst hji
        rw [List.getElem_set_self, if_pos hdi.symm]
        simp [splL, grpM]
      · rw [List.getElem_set_ne (by omega)]
        have hne : ¬ dmT t = (dsT tos)[j] := fun e => by
          rw [← hdi] at e
          exact hji ((List.getElem_inj (dsT_nodup tos)).1 e).symm
        rw [if_neg hne]
        simp [splL]
  · simp [splL, grpM]
  · simp [splL, grpM]
theorem spl_new {m : Mail} {tos : List Bs} {t : Bs} (h : dmT t ∉ dsT tos) : splL m (tos ++ [t]) = splL m tos ++ [⟨m.from_, [t], m.lines⟩] := by
  have hds : dsT (tos ++ [t]) = dsT tos ++ [dmT t] := by rw [dsT_snoc, if_neg h]
  unfold splL
  rw [hds, List.map_append]
  congr 1
  · apply List.map_congr_left
    intro d hd
    rw [grp_snoc, if_neg (fun e => h (by rw [e]; exact hd))]
  · simp only [List.map_cons, List.map_nil]
    rw [grp_snoc, if_pos rfl]
    have : (grpM m tos (dmT t)).to = [] := by
      cases hg : (grpM m tos (dmT t)).to with
      | nil => rfl
      | cons a l =>
        have hm : a ∈ (grpM m tos (dmT t)).to := by rw [hg]; simp
        unfold grpM at hm
        simp at hm
        exact absurd (dsT_mem.2 ⟨a, hm.1, hm.2⟩) h
    rw [this]; rfl
theorem vO_rows (l : List Mail) : Go.AM.Rows 3 (vO l) := fun x hx => by
  obtain ⟨b, _, rfl⟩ := List.mem_map.1 hx
  rfl
theorem vO_get (l : List Mail) (i : Nat) (h : i < l.length) : (vO l)[i]? = some (cO l[i]) := by simp [vO, List.getElem?_eq_getElem h]
def HoM (v : V) (H : VH) (l : List Mail) : Prop := (l = [] ∧ v = .sl true []) ∨ (l ≠ [] ∧ ∃ k, v = .obs k 0 l.length 3 ∧ H[k]? = some (vO l).flatten)
theorem HoM.ne {v : V} {H : VH} {l : List Mail} (h : HoM v H l) (hne : l ≠ []) : ∃ k, v = .obs k 0 l.length 3 ∧ H[k]? = some (vO l).flatten := by
  rcases h with ⟨h, _⟩ | ⟨_, h⟩
  · exact absurd h hne
  · exact h
theorem HoM.snoc {v : V} {H : VH} {l : List Mail} (h : HoM v H l) (c : List V) : HoM v (H ++ [c]) l := by
  rcases h with h | ⟨hne, k, rfl, hk⟩
  · exact .inl h
  · exact .inr ⟨hne, k, rfl, by rw [List.getElem?_append_left (List.getElem?_eq_some_iff.1 hk).1]; exact hk⟩
section
variable {k i : Nat} {H : VH} {l : List Mail} (hk : H[k]? = some (vO l).flatten) (hi : i < l.length)
include hk hi
theorem mail_take (g : Nat → Option (List V)) : ldO g true false 1 (.ptr k (i * 3 + 1)) H = some (.sl true (vT l[i].to), H.set k (gseg (vO l).flatten (i * 3 + 1) [.sl false (vT l[i].to)])) := by
  have hc : (vO l).flatten[i * 3 + 1]? = some (.sl true (vT l[i].to)) := by
    rw [Go.AM.Rows.get (by omega) (vO_rows l) (vO_get l i hi)]; rfl
  rw [ld_take hk hc]
  simp only [strip, vT_strip]
theorem mail_put (ts : List Bs) (w : V) : stO (.ptr k (i * 3 + 1)) [.sl true (vT ts)] (H.set k (gseg (vO l).flatten (i * 3 + 1) [w])) = some (H.set k (vO (l.set i ⟨l[i].from_, ts, l[i].lines⟩)).flatten) := by
  have hf := (vO_rows l).flat
  rw [vO_len] at hf
  have hkl := (List.getElem?_eq_some_iff.1 hk).1
  have hcells : gseg (gseg (vO l).flatten (i * 3 + 1) [w]) (i * 3 + 1) [V.sl true (vT ts)] = (vO (l.set i ⟨l[i].from_, ts, l[i].lines⟩)).flatten := by
    have h1 := Go.AM.Rows.set (v := V.sl true (vT ts)) (j := 1) (by omega) (vO_rows l) (vO_get l i hi)
    rw [gseg_gseg (by omega), h1]
    congr 1
    have : (cO l[i]).set 1 (V.sl true (vT ts)) = cO ⟨l[i].from_, ts, l[i].lines⟩ := rfl
    rw [this]
    unfold vO
    rw [List.map_set]
  have hlen : i * 3 + 1 + [V.sl true (vT ts)].length ≤ (gseg (vO l).flatten (i * 3 + 1) [w]).length := by
    simp only [gseg, List.length_append, List.length_take, List.length_drop, List.length_singleton]; omega
  have hset : (H.set k (gseg (vO l).flatten (i * 3 + 1) [w]))[k]? = some (gseg (vO l).flatten (i * 3 + 1) [w]) := by simp [hkl]
  rw [so_seg hset hlen, hcells, List.set_set]
end
theorem appO_obsM {b bytes k e : Nat} {r s : List (List V)} {H : VH} (hk : H[k]? = some r.flatten) (hr : Go.AM.Rows e r) (hne : r ≠ []) (hs : s ≠ []) (he : eszOk e s = true) (hb : (r.length + s.length) * bytes ≤ 140737488355328) (fl : Bool) :
    appO fl false e bytes (.obs k 0 r.length e) (.sl true s) H = some (.obs H.length 0 (r.length + s.length) e, H.set k [] ++ [r.flatten ++ s.flatten]) := by
  simp only [appO, hk, Option.bind_some]
  have h0 : 0 < r.length := List.length_pos_iff.2 hne
  rw [if_pos ⟨trivial, trivial, h0, hr.flat, he, hb⟩]
  cases s with
  | nil => exact absurd rfl hs
  | cons y l => rfl
theorem domainOf_c (t : Bs) (h : t.length ≤ 1000000000) : qc id_impl_domainOf [.str t] = some (.str (dmT t)) := by
  have e1 := Cut_c t 64 h
  refine qc_of (H := []) ?_ (by simp only [evv, Nat.zero_add, if_true, if_false, decide_true, decide_false, Bool.false_eq_true, Bool.not_true, Bool.not_false]) rfl
  show cv _ _ _ = _
  rw [impl_domainOf_eq]
  simp only [evv, Nat.zero_add, if_true, if_false, decide_true, decide_false, Bool.false_eq_true, Bool.not_true, Bool.not_false, e1, dmT]
theorem SplitMail_1_c (x : Mail) (t : Bs) (hne : x.to ≠ []) (hx : ∀ s ∈ x.to, s.length ≤ 1000000000) (ht : t.length ≤ 1000000000) : qc id_impl_SplitMail_1 [.agg (cM x), .elt [.str t] 0] = some (.bool (sameD t x)) := by
  obtain ⟨f, tos, ls⟩ := x
  cases tos with
  | nil => exact absurd rfl hne
  | cons a l =>
    have e1 := domainOf_c a (hx a (by simp))
    have e2 := domainOf_c t ht
    have i1 : vIdxV 1 (.sl false (vT (a :: l))) (.int .i64 0) = some (.elt [.str a] 0) := vT_idx false (a :: l) .i64 0 (by simp)
    refine qc_of (H := []) ?_ (by simp only [evv, Nat.zero_add, if_true, if_false, decide_true, decide_false, Bool.false_eq_true, Bool.not_true, Bool.not_false, cM_e]) rfl
    show cv _ _ _ = _
    rw [impl_SplitMail_1_eq]
    by_cases hq : dmT a = dmT t <;> simp only [evv, Nat.zero_add, if_true, if_false, decide_true, decide_false, Bool.false_eq_true, Bool.not_true, Bool.not_false, cM_e, i1, e1, e2, sameD, List.headD_cons, hq]
theorem indexFuncD_c (l : List Mail) (t : Bs) (hl : l.length ≤ 1000000000) (hne : ∀ x ∈ l, x.to ≠ [] ∧ ∀ s ∈ x.to, s.length ≤ 1000000000) (ht : t.length ≤ 1000000000) :
    qc id_slices_IndexFunc___impl_Mail_impl_Mail_ [.sl false (vR eM l), .fn id_impl_SplitMail_1 [.elt [.str t] 0]] = some (.int .i64 (if l.any (sameD t) = true then ((l.findIdx (sameD t) : Nat) : Int) else -1)) := by
  refine qc_of (H := []) ?_ (by simp only [evv, Nat.zero_add, if_true, if_false, decide_true, decide_false, Bool.false_eq_true, Bool.not_true, Bool.not_false]) rfl
  show cv _ _ _ = _
  rw [slices_IndexFunc___impl_Mail_impl_Mail__eq]
  have loop := lv_first (B := slices_IndexFunc___impl_Mail_impl_Mail__l2) (S := fun i => [.sl false (vR eM l), .fn id_impl_SplitMail_1 [.elt [.str t] 0], .int .i64 l.length, .int .i64 (i : Nat)]) (H := []) (m0 := 0) (m1 := 1) (vs0 := []) l (sameD t)
    (fun i hi => by
      have i1 := vM_idx false l .i64 i hi
      have hx := hne _ (List.getElem_mem hi)
      have e1 := SplitMail_1_c l[i] t hx.1 hx.2 ht
      simp only [cM_e] at e1
      have e2 : vBinV (.int .i64) .add (.int .i64 (i : Int)) (.int .i64 1) = some (.int .i64 ((i + 1 : Nat) : Int)) := n_addN _ i 1 (by omega)
      rw [slices_IndexFunc___impl_Mail_impl_Mail__l2_eq]
      by_cases hp : sameD t l[i] = true <;> simp only [evv, Nat.zero_add, if_true, if_false, decide_true, decide_false, Bool.false_eq_true, Bool.not_true, Bool.not_false, i1, e1, hp, e2, show ((i : Int) < (l.length : Int)) from by omega])
    (by
      rw [slices_IndexFunc___impl_Mail_impl_Mail__l2_eq]
      simp only [evv, Nat.zero_add, if_true, if_false, decide_true, decide_false, Bool.false_eq_true, Bool.not_true, Bool.not_false, show ¬ ((l.length : Int) < (l.length : Int)) from by omega])
  have loop' : lpW' slices_IndexFunc___impl_Mail_impl_Mail__l2 [.sl false (vR eM l), .fn id_impl_SplitMail_1 [.elt [.str t] 0], .int .i64 l.length, .int .i64 0] [] = _ := loop
  simp only [evv, Nat.zero_add, if_true, if_false, decide_true, decide_false, Bool.false_eq_true, Bool.not_true, Bool.not_false, loop']
  by_cases h : l.any (sameD t) = true <;> simp only [evv, Nat.zero_add, if_true, if_false, decide_true, decide_false, Bool.false_eq_true, Bool.not_true, Bool.not_false, h]
theorem HoM.q {v : V} {H : VH} {l : List Mail} (h : HoM v H l) (f g : FuncId) (t : Bs) (j : Nat) (hj : H[j]? = some [.str t]) : qco f H [strip v, .fn g [.ptr j 0]] = qc f [.sl false (vR eM l), .fn g [.elt [.str t] 0]] := by
  have hg : H.getD j [] = [.str t] := by rw [List.getD_eq_getElem?_getD, hj]; rfl
  rcases h with ⟨rfl, rfl⟩ | ⟨hne, k, rfl, hk⟩
  · show qpcallO cv f H _ = _
    rw [qpcallO_n (by rfl)]
    show qpcall cv f [frz H (.sl false []), frz H (.fn g [.ptr j 0])] = _
    have : frz H (.fn g [.ptr j 0]) = .fn g [.elt [.str t] 0] := by
      simp only [frz, List.map_cons, List.map_nil, frz1, hg, frzP, stripL, strip]
    rw [this]
    rfl
  · show qpcallO cv f H _ = _
    rw [qpcallO_o (by rfl)]
    have h2 : frD 3 H (.obs k 0 l.length 3) = .sl false (vR eM l) := by
      have := frD_obs 3 hk (vO_rows l) (vO_data l)
      rw [vO_len, vO_strip] at this
      exact this
    have h3 : frD 3 H (.fn g [.ptr j 0]) = .fn g [.elt [.str t] 0] := by
      have hm : (H.map fun cs => cs.map (frD 2 H)).getD j [] = [.str t] := by
        rw [List.getD_eq_getElem?_getD, List.getElem?_map, hj]
        show [frD 2 H (.str t)] = _
        rw [frD_data 2 H (.str t) rfl]; rfl
      show frO (H.map fun cs => cs.map (frD 2 H)) (.fn g [.ptr j 0]) = _
      simp only [frO, frOL, hm, frzP, stripL, strip]
    show qpcall cv f [frD 3 H (.obs k 0 l.length 3), frD 3 H (.fn g [.ptr j 0])] = _
    rw [h2, h3]
    rfl
theorem splL_ok {m : Mail} {tos : List Bs} (h : ∀ t ∈ tos, t.length ≤ 1000000) : ∀ x ∈ splL m tos, x.to ≠ [] ∧ (∀ s ∈ x.to, s.length ≤ 1000000) ∧ x.to.length ≤ tos.length ∧ x.lines = m.lines ∧ x.from_ = m.from_ := fun x hx => by
  obtain ⟨d, hd, rfl⟩ := List.mem_map.1 hx
  refine ⟨(grp_head hd).1, fun s hs => ?_, List.length_filter_le _ _, rfl, rfl⟩
  unfold grpM at hs
  simp at hs
  exact h s hs.1
theorem dsT_len (tos : List Bs) : (dsT tos).length ≤ tos.length := by
  have := (normA_len (l := tos.map dmT) (acc := [])).2
  simpa [dsT] using this
theorem splL_len (m : Mail) (tos : List Bs) : (splL m tos).length ≤ tos.length := by
  unfold splL; rw [List.length_map]; exact dsT_len tos
theorem impl_Split_g (m : Mail) (h : SmM m) (ht : ∀ t ∈ m.to, t.length ≤ 1000000) : Gets2 (cv id_impl_SplitMail [.agg (cM m)] []) (fun r H => (mailT m 1 30 = false ∧ r = .tup [.sl true [], .bool false]) ∨ (mailT m 1 30 = true ∧ ∃ o, r = .tup [o, .bool true] ∧ HoM o H (splL m (norM m).to))) := by
  have e2 := impl_MailValid_c m h
  simp only [cM_e] at e2
  have e4 := CloneT_c m.lines (by have := h.2.2.1; omega)
  refine Gets2.of ?_
  rw [impl_SplitMail_eq]
  by_cases hv : mailT m 1 30 = true
  · rw [hv] at e2
    have hto : m.to.length ≤ 10 := mailT_to hv
    have hnl : (norM m).to.length ≤ 10 := by have := (normA_len (l := m.to) (acc := [])).2; simp [norM] at this ⊢; omega
    have hnt : ∀ t ∈ (norM m).to, t.length ≤ 1000000 := fun t hh => ht t (by have := normA_mem.1 hh; simpa using this)
    simp only [evv, Nat.zero_add, if_true, if_false, decide_true, decide_false, Bool.false_eq_true, Bool.not_true, Bool.not_false, cM_e, qco_d, e2]
    refine (impl_normalMail_g m _ [] ⟨_, _, rfl, by simp only [strip, vT_strip], by simp only [strip, vT_strip]⟩ h).bind ?_
    rintro _ H0 ⟨rfl, hH0⟩
    have hfl : (norM m).from_ = m.from_ ∧ (norM m).lines = m.lines := ⟨rfl, rfl⟩
    generalize hT : (norM m).to = tos at *
    have hcO : cO (norM m) = [.str m.from_, .sl true (vT tos), .sl true (vT m.lines)] := by rw [cO_e, hT]; rfl
    simp only [evv, Nat.zero_add, if_true, if_false, decide_true, decide_false, Bool.false_eq_true, Bool.not_true, Bool.not_false, hcO, List.getElem?_cons_succ, List.getElem?_cons_zero]
    refine Gets.loop2 (I := fun n st H => ∃ (i : Nat) (o : V), n = tos.length - i ∧ i ≤ tos.length ∧ st = [o, .sl false (vT tos), .int .i64 (tos.length : Nat), .int .i64 (i : Nat), .str m.from_, .sl false (vT m.to), .sl false (vT m.lines)] ∧ HoM o H (splL m (tos.take i)))
      (P := fun q vs H => q = 0 ∧ ∃ o, vs = [o] ∧ HoM o H (splL m tos)) (n := tos.length) ?_ ⟨0, .sl true [], by omega, by omega, rfl, .inl ⟨rfl, rfl⟩⟩ ?_
    · rintro n st H ⟨i, o, rfl, hi, rfl, ho⟩
      rw [impl_SplitMail_l5_eq]
      by_cases hlt : i < tos.length
      · have i1 := vT_idx false tos .i64 i hlt
        have e5 : vBinV (.int .i64) .add (.int .i64 (i : Int)) (.int .i64 1) = some (.int .i64 ((i + 1 : Nat) : Int)) := n_addN _ i 1 (by omega)
        have htk := List.take_succ_eq_append_getElem hlt
        have hti := hnt tos[i] (List.getElem_mem hlt)
        have hpre : ∀ t ∈ tos.take i, t.length ≤ 1000000 := fun t hh => hnt t (List.mem_of_mem_take hh)
        have hokx := splL_ok (m := m) hpre
        have hll := splL_len m (tos.take i)
        rw [List.length_take] at hll
        have s1 : stO (.ptr H.length 0) [.str tos[i]] (H ++ [[.str []]]) = some (H ++ [[.str tos[i]]]) := by
          have := st_all (k := H.length) (H := H ++ [[V.str []]]) (cs := [V.str []]) (c := [V.str tos[i]]) (by simp) rfl
          rw [this, set_end]
        have hbx : (H ++ [[V.str tos[i]]])[H.length]? = some [.str tos[i]] := by simp
        have l1 : ldO globB false false 1 (.ptr H.length 0) (H ++ [[.str tos[i]]]) = some (.str tos[i], H ++ [[.str tos[i]]]) := ld_peek (g := globB) (off := 0) (v := V.str tos[i]) hbx rfl
        have ho' := ho.snoc [.str tos[i]]
        have f1 := HoM.q ho' id_slices_IndexFunc___impl_Mail_impl_Mail_ id_impl_SplitMail_1 tos[i] H.length hbx
        rw [indexFuncD_c (splL m (tos.take i)) tos[i] (by omega) (fun x hx => ⟨(hokx x hx).1, fun s hs => by have := (hokx x hx).2.1 s hs; omega⟩) (by omega)] at f1
        rw [spl_any] at f1
        by_cases hd : dmT tos[i] ∈ dsT (tos.take i)
        · obtain ⟨hx, hset, hfr, hln⟩ := spl_set (m := m) hd
          rw [← htk] at hset
          have hox := hokx _ (List.getElem_mem hx)
          simp only [hd, decide_true, if_true] at f1
          obtain ⟨k, rfl, hk⟩ := HoM.ne ho' (fun e => by rw [e] at hx; simp at hx)
          simp only [strip] at f1
          have g1 : vIdxV 3 (.obs k 0 (splL m (tos.take i)).length 3) (.int .i64 ((splL m (tos.take i)).findIdx (sameD tos[i]) : Nat)) = some (.ptr k ((splL m (tos.take i)).findIdx (sameD tos[i]) * 3)) := vi_obs hx
          have g3 := mail_take hk hx globB
          have hkne : H.length ≠ k := fun e => by
            subst e
            rw [hbx] at hk
            have := congrArg (Option.map List.length) hk
            have hf := (vO_rows (splL m (tos.take i))).flat
            rw [vO_len] at hf
            simp [hf] at this
            omega
          have l2 : ∀ c, ldO globB false false 1 (.ptr H.length 0) ((H ++ [[V.str tos[i]]]).set k c) = some (V.str tos[i], (H ++ [[V.str tos[i]]]).set k c) := fun c =>
            ld_peek (g := globB) (off := 0) (v := V.str tos[i]) (cs := [V.str tos[i]]) (by rw [List.getElem?_set_ne (fun e => hkne e.symm)]; exact hbx) rfl
          have hap : ∀ H, appO true false 1 16 (.sl true (vT (splL m (tos.take i))[(splL m (tos.take i)).findIdx (sameD tos[i])].to)) (.sl true [[.str tos[i]]]) H = some (.sl true (vT ((splL m (tos.take i))[(splL m (tos.take i)).findIdx (sameD tos[i])].to ++ [tos[i]])), H) := fun H => by
            rw [appO_sl _ _ _ _ _ _ _ _ (.inr (fun e => hox.1 (by simpa [vT] using e)))]
            have hlx := hox.2.2.1
            rw [List.length_take] at hlx
            simp only [ownV, Option.bind_some, sl_app1 tos[i] (show (splL m (tos.take i))[(splL m (tos.take i)).findIdx (sameD tos[i])].to.length + 1 ≤ 4000000 from by omega)]
          have g5 := fun w => mail_put hk hx ((splL m (tos.take i))[(splL m (tos.take i)).findIdx (sameD tos[i])].to ++ [tos[i]]) w
          rw [hfr, hln] at g5
          simp only [evv, Nat.zero_add, if_true, if_false, decide_true, decide_false, Bool.false_eq_true, Bool.not_true, Bool.not_false, i1, s1, f1, g1, g3, l2, hap, g5, e5, show ((i : Int) < (tos.length : Int)) from by omega, show ¬ ((((splL m (tos.take i)).findIdx (sameD tos[i]) : Nat) : Int) < 0) from by omega]
          refine ⟨_, rfl, .inr ⟨rfl, tos.length - (i + 1), by omega, i + 1, V.obs k 0 (splL m (tos.take i)).length 3, by omega, by omega, rfl, .inr ⟨fun e => ?_, k, ?_, ?_⟩⟩⟩
          · rw [hset] at e
            have := congrArg List.length e
            rw [List.length_set, List.length_nil] at this
            omega
          · rw [hset, List.length_set]
          · rw [hset]
            have hkl := (List.getElem?_eq_some_iff.1 hk).1
            simp at hkl
            simp [hkl]
        · have hd' : decide (dmT tos[i] ∈ dsT (tos.take i)) = false := by simpa using hd
          have hnew := spl_new (m := m) hd
          rw [← htk] at hnew
          rw [hd'] at f1
          simp only [Bool.false_eq_true, if_false] at f1
          have hlen1 : (splL m (tos.take i)).length + 1 ≤ 2000000 := by omega
          rcases ho' with ⟨hn, rfl⟩ | ⟨hne, k, rfl, hk⟩
          · have ap : appO true false 3 64 (.sl true []) (.sl true [[.str m.from_, .sl true [[.str tos[i]]], .sl true (vT m.lines)]]) (H ++ [[V.str tos[i]]]) = some (.obs (H ++ [[V.str tos[i]]]).length 0 1 3, (H ++ [[V.str tos[i]]]) ++ [(vO [⟨m.from_, [tos[i]], m.lines⟩]).flatten]) := by
              simp only [appO, ownV, Option.bind_some]
              have := mails_app (l := []) ⟨m.from_, [tos[i]], m.lines⟩ (by simp)
              have this' : appV false 3 64 [] (.sl true [[.str m.from_, .sl true [[.str tos[i]]], .sl true (vT m.lines)]]) = some (.sl true (vO [⟨m.from_, [tos[i]], m.lines⟩])) := this
              rw [this']
              rfl
            simp only [strip, stripLL] at f1
            simp only [evv, Nat.zero_add, if_true, if_false, decide_true, decide_false, Bool.false_eq_true, Bool.not_true, Bool.not_false, i1, s1, f1, l1, e4, pco_d, ap, e5, show ((i : Int) < (tos.length : Int)) from by omega, show ((-1 : Int) < 0) from by omega]
            refine ⟨_, rfl, .inr ⟨rfl, tos.length - (i + 1), by omega, i + 1, V.obs (H ++ [[V.str tos[i]]]).length 0 1 3, by omega, by omega, rfl, .inr ⟨?_, (H ++ [[V.str tos[i]]]).length, ?_, ?_⟩⟩⟩
            · rw [hnew]; simp
            · rw [hnew, hn]; simp
            · rw [hnew, hn]; simp
          · have ap := appO_obsM (bytes := 64) (b := 0) (s := [[.str m.from_, .sl true [[.str tos[i]]], .sl true (vT m.lines)]]) hk (vO_rows _) (fun e => hne (by simpa [vO] using e)) (by simp) rfl (by rw [vO_len]; simp; omega) true
            rw [vO_len] at ap
            simp only [strip] at f1
            simp only [evv, Nat.zero_add, if_true, if_false, decide_true, decide_false, Bool.false_eq_true, Bool.not_true, Bool.not_false, i1, s1, f1, l1, e4, pco_d, ap, e5, show ((i : Int) < (tos.length : Int)) from by omega, show ((-1 : Int) < 0) from by omega]
            refine ⟨_, rfl, .inr ⟨rfl, tos.length - (i + 1), by omega, i + 1, V.obs (H ++ [[V.str tos[i]]]).length 0 ((splL m (tos.take i)).length + 1) 3, by omega, by omega, rfl, .inr ⟨?_, (H ++ [[V.str tos[i]]]).length, ?_, ?_⟩⟩⟩
            · rw [hnew]; simp
            · rw [hnew]; simp
            · rw [hnew, ← vO_app, List.flatten_append]
              simp [vO, cO]
              rfl
      · have : i = tos.length := by omega
        subst this
        rw [List.take_length] at ho
        simp only [evv, Nat.zero_add, if_true, if_false, decide_true, decide_false, Bool.false_eq_true, Bool.not_true, Bool.not_false, show ¬ ((tos.length : Int) < (tos.length : Int)) from by omega]
        exact ⟨_, rfl, .inl ⟨0, rfl, rfl, _, rfl, ho⟩⟩
    · rintro _ _ H ⟨rfl, o, rfl, ho⟩
      simp only [evv, Nat.zero_add, if_true, if_false, decide_true, decide_false, Bool.false_eq_true, Bool.not_true, Bool.not_false]
      exact Gets.here (.inr ⟨hv, _, rfl, ho⟩)
  · have hv' : mailT m 1 30 = false := by simpa using hv
    rw [hv'] at e2
    simp only [evv, Nat.zero_add, if_true, if_false, decide_true, decide_false, Bool.false_eq_true, Bool.not_true, Bool.not_false, cM_e, qco_d, e2]
    exact Gets.here (.inl ⟨hv', rfl⟩)
theorem impl_Split_p (m : Mail) (h : SmM m) (ht : ∀ t ∈ m.to, t.length ≤ 1000000) : ∃ o, pc id_impl_SplitMail [.agg (cM m)] = some (.tup [.sl o (vR eM (splR m)), .bool (mailT m 1 30)]) := by
  obtain ⟨v, H, e, hq⟩ := impl_Split_g m h ht
  rcases hq with ⟨hf, rfl⟩ | ⟨hf, o, rfl, ho⟩
  · refine ⟨true, ?_⟩
    have : splR m = [] := by unfold splR; rw [hf]; rfl
    rw [this, hf]
    exact pc_of e (by simp only [evv, Nat.zero_add, if_true, if_false, decide_true, decide_false, Bool.false_eq_true, Bool.not_true, Bool.not_false, cM_e]) rfl
  · have : splR m = splL m (norM m).to := by unfold splR; rw [hf]; rfl
    rw [this, hf]
    rcases ho with ⟨hl, rfl⟩ | ⟨hne, k, rfl, hk⟩
    · refine ⟨true, ?_⟩
      rw [hl]
      exact pc_of e (by simp only [evv, Nat.zero_add, if_true, if_false, decide_true, decide_false, Bool.false_eq_true, Bool.not_true, Bool.not_false, cM_e]) rfl
    · refine ⟨false, pc_un e (by simp only [evv, Nat.zero_add, if_true, if_false, decide_true, decide_false, Bool.false_eq_true, Bool.not_true, Bool.not_false, cM_e]) (by simp only [data, dataL, Bool.false_and]) ?_ (by simp only [data, dataL, vR_data, Bool.and_self])⟩
      have := unobs1_obs hk (vO_rows _)
      rw [vO_len, vO_strip] at this
      simp only [unobs, unobsL, this, show ∀ b, unobs1 H (.bool b) = some (.bool b) from fun _ => rfl, Option.bind_some, Option.map_some]
theorem dm_cut {s a z : Bs} {ok : Bool} (h : CutR 64 s a z ok) (hp : pathT s = true) : z = dmT s := by
  rcases h with ⟨_, _, h, _⟩ | ⟨h, _⟩
  · exact h
  · exfalso
    unfold pathT at hp
    rw [loc_noq h, Bool.false_and, Bool.and_false] at hp
    cases hp
theorem l11Domain_c (t : Bs) (h : t.length ≤ 1000000) (hp : pathT t = true) : qc id_spec_l11Domain [.str t] = some (.str (dmT t)) := by
  obtain ⟨a, z, ok, e1, hR⟩ := l2Cut_g t 64 (by decide) (by omega)
  have e1' : qc id_spec_l2Cut [.str t, .int .u8 64] = _ := e1
  have hz := dm_cut hR hp
  refine qc_of (H := []) ?_ (by simp only [evv, Nat.zero_add, if_true, if_false, decide_true, decide_false, Bool.false_eq_true, Bool.not_true, Bool.not_false]) rfl
  show cv _ _ _ = _
  rw [spec_l11Domain_eq]
  simp only [evv, Nat.zero_add, if_true, if_false, decide_true, decide_false, Bool.false_eq_true, Bool.not_true, Bool.not_false, e1', hz]
theorem mailT_path {m : Mail} (h : mailT m 1 30 = true) : ∀ t ∈ m.to, pathT t = true := fun t ht => by
  unfold mailT at h
  simp only [Bool.and_eq_true, Bool.not_eq_true', List.any_eq_false] at h
  have := h.2.2.2.1 t ht
  simpa using this
theorem dsT_grp {m : Mail} {tos : List Bs} {i : Nat} (hi : i < tos.length) (h : dmT tos[i] ∉ dsT (tos.take i)) : dsT (tos.take (i + 1)) = dsT (tos.take i) ++ [dmT tos[i]] := by
  rw [List.take_succ_eq_append_getElem hi, dsT_snoc, if_neg h]
theorem spec_RawSplit_g (m : Mail) (v : V) (H : VH) (hvm : AsM v m) (h : SmM m) (ht : ∀ t ∈ m.to, t.length ≤ 1000000) : Gets2 (cv id_spec_l11RawSplitMail [v] H) (fun r H' => r = .tup [.sl true (vO (splR m)), .bool (mailT m 1 30)]) := by
  obtain ⟨vx, vy, rfl, hvx, hvy⟩ := hvm
  refine Gets2.of ?_
  rw [spec_l11RawSplitMail_eq]
  simp only [evv, Nat.zero_add, if_true, if_false, decide_true, decide_false, Bool.false_eq_true, Bool.not_true, Bool.not_false]
  refine (spec_NormalMail_g m _ H ⟨_, _, rfl, hvx, hvy⟩ h).bind ?_
  rintro _ H0 ⟨rfl, hH0⟩
  by_cases hv : mailT m 1 30 = true
  · have hsp : splR m = splL m (norM m).to := by unfold splR; rw [hv]; rfl
    have hto : m.to.length ≤ 10 := mailT_to hv
    have hnl : (norM m).to.length ≤ 10 := by have := (normA_len (l := m.to) (acc := [])).2; simp [norM] at this ⊢; omega
    have hnm : ∀ t ∈ (norM m).to, t ∈ m.to := fun t hh => by have := normA_mem.1 hh; simpa using this
    have hnR : norR m = norM m := by unfold norR; rw [hv]; rfl
    rw [hsp, hv, hnR]
    have hlines := h.2.2.1
    generalize hT : (norM m).to = tos at *
    have hcO : cO (norM m) = [.str m.from_, .sl true (vT tos), .sl true (vT m.lines)] := by rw [cO_e, hT]; rfl
    have hdc : ∀ (i : Nat) (hi : i < tos.length), qc id_spec_l11Domain [.str tos[i]] = some (.str (dmT tos[i])) := fun i hi =>
      l11Domain_c _ (ht _ (hnm _ (List.getElem_mem hi))) (mailT_path hv _ (hnm _ (List.getElem_mem hi)))
    simp only [evv, Nat.zero_add, if_true, if_false, decide_true, decide_false, Bool.false_eq_true, Bool.not_true, Bool.not_false, hcO]
    refine Gets.loop2 (I := fun n st G => ∃ (i : Nat) (ob : Bool), n = tos.length - i ∧ i ≤ tos.length ∧ st = [.sl true (vO ((dsT (tos.take i)).map (grpM m tos))), .sl true (vT (dsT (tos.take i))), .int .i64 (i : Nat), .str m.from_, .sl true (vT tos), .sl ob (vT m.lines)])
      (P := fun q vs G => q = 0 ∧ vs = [.sl true (vO (splL m tos))]) (n := tos.length) ?_ ⟨0, true, by omega, by omega, rfl⟩ ?_
    · rintro n st G ⟨i, ob, rfl, hi, rfl⟩
      rw [spec_l11RawSplitMail_l7_eq]
      by_cases hlt : i < tos.length
      · have i1 := vT_idx false tos .i64 i hlt
        have e5 : vBinV (.int .i64) .add (.int .i64 (i : Int)) (.int .i64 1) = some (.int .i64 ((i + 1 : Nat) : Int)) := n_addN _ i 1 (by omega)
        have dl := dsT_len (tos.take i)
        rw [List.length_take] at dl
        have f1 := l11Has_c (dsT (tos.take i)) (dmT tos[i]) (by omega)
        have hd0 := hdc i hlt
        simp only [evv, Nat.zero_add, if_true, if_false, decide_true, decide_false, Bool.false_eq_true, Bool.not_true, Bool.not_false, i1, hd0, f1, show ((i : Int) < (tos.length : Int)) from by omega]
        by_cases hd : dmT tos[i] ∈ dsT (tos.take i)
        · have hds : dsT (tos.take (i + 1)) = dsT (tos.take i) := by rw [List.take_succ_eq_append_getElem hlt, dsT_snoc, if_pos hd]
          simp only [evv, Nat.zero_add, if_true, if_false, decide_true, decide_false, Bool.false_eq_true, Bool.not_true, Bool.not_false, hd, e5]
          exact ⟨_, rfl, .inr ⟨rfl, tos.length - (i + 1), by omega, i + 1, ob, rfl, by omega, by rw [hds]⟩⟩
        · have hds := dsT_grp (m := m) hlt hd
          have a1 := sl_app1 (l := dsT (tos.take i)) (dmT tos[i]) (by omega)
          have a2 : appV false 1 16 [] (.sl ob (vT m.lines)) = some (.sl true (vT m.lines)) := v_app 1 16 [] ob (vT m.lines) rfl (vT_esz _) (by rw [vT_len]; simp; omega)
          have s1 : stO (.ptr G.length 0) [.str m.from_, .sl true [], .sl true (vT m.lines)] (G ++ [[.str [], .sl true [], .sl true []]]) = some (G ++ [[.str m.from_, .sl true [], .sl true (vT m.lines)]]) := by
            have := st_all (k := G.length) (H := G ++ [[V.str [], V.sl true [], V.sl true []]]) (cs := [V.str [], V.sl true [], V.sl true []]) (c := [V.str m.from_, V.sl true [], V.sl true (vT m.lines)]) (by simp) rfl
            rw [this, set_end]
          have hd' : decide (dmT tos[i] ∈ dsT (tos.take i)) = false := decide_eq_false hd
          simp only [evv, Nat.zero_add, if_true, if_false, decide_true, decide_false, Bool.false_eq_true, Bool.not_true, Bool.not_false, hd', a1, a2, s1]
          refine Gets.bind (P := fun r => ∃ G', r = (0, [.sl true (vO ((dsT (tos.take (i + 1))).map (grpM m tos))), .sl true (vT (dsT (tos.take (i + 1)))), .int .i64 (i : Nat), .str m.from_, .sl true (vT tos), .sl false (vT m.lines)], G')) ?_ ?_
          · refine Gets.loop2 (I := fun n st G' => ∃ k : Nat, n = tos.length - k ∧ k ≤ tos.length ∧ st = [.sl true (vO ((dsT (tos.take i)).map (grpM m tos))), .sl true (vT (dsT (tos.take i) ++ [dmT tos[i]])), .int .i64 (i : Nat), .str (dmT tos[i]), .ptr G.length 0, .int .i64 (k : Nat), .str m.from_, .sl true (vT tos), .sl false (vT m.lines)] ∧ G' = G ++ [cO (grpM m (tos.take k) (dmT tos[i]))])
              (P := fun q vs G' => q = 0 ∧ vs = [.sl true (vO ((dsT (tos.take i)).map (grpM m tos))), .sl true (vT (dsT (tos.take i) ++ [dmT tos[i]])), .int .i64 (i : Nat), .ptr G.length 0, .str m.from_, .sl true (vT tos), .sl false (vT m.lines)] ∧ G' = G ++ [cO (grpM m tos (dmT tos[i]))]) (n := tos.length) ?_ ⟨0, by omega, by omega, rfl, rfl⟩ ?_
            · rintro n st G' ⟨k, rfl, hk, rfl, rfl⟩
              rw [spec_l11RawSplitMail_l14_eq]
              by_cases hlk : k < tos.length
              · have j1 := vT_idx false tos .i64 k hlk
                have e6 : vBinV (.int .i64) .add (.int .i64 (k : Int)) (.int .i64 1) = some (.int .i64 ((k + 1 : Nat) : Int)) := n_addN _ k 1 (by omega)
                have hgs := grp_snoc m (tos.take k) tos[k] (dmT tos[i])
                rw [← List.take_succ_eq_append_getElem hlk] at hgs
                have hgl : (grpM m (tos.take k) (dmT tos[i])).to.length ≤ 10 := by
                  have := List.length_filter_le (fun t => decide (dmT t = dmT tos[i])) (tos.take k)
                  rw [List.length_take] at this
                  show (List.filter _ _).length ≤ 10
                  omega
                have hdk := hdc k hlk
                by_cases hq : dmT tos[k] = dmT tos[i]
                · rw [if_pos hq] at hgs
                  generalize hgg : grpM m (tos.take k) (dmT tos[i]) = g at *
                  have hgf : g.from_ = m.from_ ∧ g.lines = m.lines := by rw [← hgg]; exact ⟨rfl, rfl⟩
                  have hcell : (G ++ [cO g])[G.length]? = some (cO g) := by simp
                  have l1 : ldO globB true false 1 (.ptr G.length 1) (G ++ [cO g]) = some (.sl true (vT g.to), G ++ [[.str g.from_, .sl false (vT g.to), .sl true (vT g.lines)]]) := by
                    rw [ld_take (v := V.sl true (vT g.to)) hcell rfl]
                    simp only [strip, vT_strip]
                    rw [set_end]; rfl
                  have a3 := sl_app1 (l := g.to) tos[k] (by omega)
                  have s2 : stO (.ptr G.length 1) [.sl true (vT (g.to ++ [tos[k]]))] (G ++ [[.str g.from_, .sl false (vT g.to), .sl true (vT g.lines)]]) = some (G ++ [cO ⟨m.from_, g.to ++ [tos[k]], m.lines⟩]) := by
                    rw [so_seg (cs := [V.str g.from_, V.sl false (vT g.to), V.sl true (vT g.lines)]) (by simp) (by simp), set_end]
                    rw [hgf.1, hgf.2]; rfl
                  simp only [evv, Nat.zero_add, if_true, if_false, decide_true, decide_false, Bool.false_eq_true, Bool.not_true, Bool.not_false, j1, hdk, hq, l1, a3, s2, e6, show ((k : Int) < (tos.length : Int)) from by omega]
                  exact ⟨_, rfl, .inr ⟨rfl, tos.length - (k + 1), by omega, k + 1, rfl, by omega, rfl, by rw [hgs]⟩⟩
                · rw [if_neg hq] at hgs
                  simp only [evv, Nat.zero_add, if_true, if_false, decide_true, decide_false, Bool.false_eq_true, Bool.not_true, Bool.not_false, j1, hdk, hq, e6, show ((k : Int) < (tos.length : Int)) from by omega]
                  exact ⟨_, rfl, .inr ⟨rfl, tos.length - (k + 1), by omega, k + 1, rfl, by omega, rfl, by rw [hgs]⟩⟩
              · have : k = tos.length := by omega
                subst this
                rw [List.take_length]
                simp only [evv, Nat.zero_add, if_true, if_false, decide_true, decide_false, Bool.false_eq_true, Bool.not_true, Bool.not_false, show ¬ ((tos.length : Int) < (tos.length : Int)) from by omega]
                exact ⟨_, rfl, .inl ⟨0, rfl, rfl, rfl, rfl⟩⟩
            · rintro _ _ G' ⟨rfl, rfl, rfl⟩
              have hcell : (G ++ [cO (grpM m tos (dmT tos[i]))])[G.length]? = some (cO (grpM m tos (dmT tos[i]))) := by simp
              have l3 := ld_all (g := globB) (n := 3) hcell rfl
              have hml : ((dsT (tos.take i)).map (grpM m tos)).length + 1 ≤ 2000000 := by rw [List.length_map]; omega
              have a4 := mails_app (grpM m tos (dmT tos[i])) hml
              simp only [evv, Nat.zero_add, if_true, if_false, decide_true, decide_false, Bool.false_eq_true, Bool.not_true, Bool.not_false]
              rw [l3]
              simp only [evv, Nat.zero_add, if_true, if_false, decide_true, decide_false, Bool.false_eq_true, Bool.not_true, Bool.not_false, cO_e, a4]
              refine Gets.here ?_
              rw [hds, List.map_append]
              exact ⟨_, rfl⟩
          · rintro _ ⟨G', rfl⟩
            simp only [evv, Nat.zero_add, if_true, if_false, decide_true, decide_false, Bool.false_eq_true, Bool.not_true, Bool.not_false, e5]
            exact ⟨_, rfl, .inr ⟨rfl, tos.length - (i + 1), by omega, i + 1, false, rfl, by omega, rfl⟩⟩
      · have : i = tos.length := by omega
        subst this
        rw [List.take_length]
        simp only [evv, Nat.zero_add, if_true, if_false, decide_true, decide_false, Bool.false_eq_true, Bool.not_true, Bool.not_false, show ¬ ((tos.length : Int) < (tos.length : Int)) from by omega]
        exact ⟨_, rfl, .inl ⟨0, rfl, rfl, rfl⟩⟩
    · rintro _ _ G ⟨rfl, rfl⟩
      simp only [evv, Nat.zero_add, if_true, if_false, decide_true, decide_false, Bool.false_eq_true, Bool.not_true, Bool.not_false]
      exact Gets.here rfl
  · have hv' : mailT m 1 30 = false := by simpa using hv
    have hsp : splR m = [] := by unfold splR; rw [hv']; rfl
    rw [hsp, hv']
    have hnR : norR m = ⟨[], [], []⟩ := by unfold norR; rw [hv']; rfl
    rw [hnR]
    simp only [evv, Nat.zero_add, if_true, if_false, decide_true, decide_false, Bool.false_eq_true, Bool.not_true, Bool.not_false, cO_e]
    exact Gets.here rfl
theorem splR_sm {m : Mail} (h : SmM m) (ht : ∀ t ∈ m.to, t.length ≤ 1000000) : SmMs (splR m) ∧ (splR m).length ≤ 10 := by
  unfold splR
  by_cases hv : mailT m 1 30 = true
  · rw [if_pos hv]
    have hto := mailT_to hv
    have hnl : (norM m).to.length ≤ 10 := by have := (normA_len (l := m.to) (acc := [])).2; simp [norM] at this ⊢; omega
    have hnt : ∀ t ∈ (norM m).to, t.length ≤ 1000000 := fun t hh => ht t (by have := normA_mem.1 hh; simpa using this)
    have hl := splL_len m (norM m).to
    refine ⟨⟨by omega, fun x hx => ?_⟩, by omega⟩
    obtain ⟨h1, h2, h3, h4, h5⟩ := splL_ok hnt x hx
    exact ⟨by rw [h5]; exact h.1, ⟨by omega, fun s hs => by have := h2 s hs; omega⟩, by rw [h4]; exact h.2.2⟩
  · rw [if_neg hv]
    exact ⟨⟨by simp, by simp⟩, by simp⟩
theorem spec_Split_p (m : Mail) (h : SmM m) (ht : ∀ t ∈ m.to, t.length ≤ 1000000) : pc id_spec_SplitMail [.agg (cM m)] = some (.tup [.sl true (vO (splR m)), .bool (mailT m 1 30)]) := by
  have e2 := l13OwnListMail_c (splR m) (splR_sm h ht).1
  suffices hg : Gets (cv id_spec_SplitMail [.agg (cM m)] []) fun r => r.1 = .tup [.sl true (vO (splR m)), .bool (mailT m 1 30)] by
    obtain ⟨⟨v, H⟩, e, h⟩ := hg
    have h : v = _ := h
    subst h
    exact pc_of e (by simp only [evv, Nat.zero_add, if_true, if_false, decide_true, decide_false, Bool.false_eq_true, Bool.not_true, Bool.not_false, cM_e]) (by simp only [data, dataL, vO_data, Bool.and_self])
  rw [spec_SplitMail_eq]
  simp only [evv, Nat.zero_add, if_true, if_false, decide_true, decide_false, Bool.false_eq_true, Bool.not_true, Bool.not_false, cM_e]
  refine (spec_RawSplit_g m _ [] ⟨_, _, rfl, by simp only [strip, vT_strip], by simp only [strip, vT_strip]⟩ h ht).bind ?_
  rintro _ H rfl
  simp only [evv, Nat.zero_add, if_true, if_false, decide_true, decide_false, Bool.false_eq_true, Bool.not_true, Bool.not_false, vO_strip, e2]
  exact Gets.here rfl
theorem DrawSplitMail_g (xs : Bs) : Gets2 (cv id_spec_DrawSplitMail [.sl false (vB xs)] []) (fun v H' => ∃ m, v = .agg (cO m) ∧ TnM m) := by
  refine Gets2.of ?_
  rw [spec_DrawSplitMail_eq]
  refine (DrawSpeakMail_g xs).bind ?_
  rintro _ H0 ⟨m, rfl, hm⟩
  simp only [evv, Nat.zero_add, if_true, if_false, decide_true, decide_false, Bool.false_eq_true, Bool.not_true, Bool.not_false, cO_e]
  exact Gets.here ⟨m, rfl, hm⟩
theorem norM_ok2 {m : Mail} (h : mailT m 1 30 = true) : mailT (norM m) 1 30 = true ∧ norM (norM m) = norM m := by
  have hn : (normA [] m.to).Nodup := normA_nodup (by simp)
  have hid : normA [] (normA [] m.to) = normA [] m.to := by
    have := normA_id (acc := []) (l := normA [] m.to) (by simpa using hn)
    simpa using this
  have hlen := normA_len (l := m.to) (acc := [])
  refine ⟨?_, by unfold norM; simp only [hid]⟩
  unfold mailT at h ⊢
  simp only [Bool.and_eq_true, decide_eq_true_eq, Bool.not_eq_true', List.any_eq_false] at h ⊢
  obtain ⟨h1, h2, h3, h4, h5, h6⟩ := h
  have hne : m.to ≠ [] := fun e => by rw [e] at h2; simp at h2
  obtain ⟨t, l, ht⟩ := List.exists_cons_of_ne_nil hne
  have hm : t ∈ normA [] m.to := normA_mem.2 (.inr (by rw [ht]; simp))
  have hpos := List.length_pos_of_mem hm
  exact ⟨h1, by show ((normA [] m.to).length : Int) ≥ 1; omega, by show ((normA [] m.to).length : Int) ≤ 10; simp at hlen; omega, fun x hx => h4 x ((normA_mem.1 hx).resolve_left (by simp)), h5, h6⟩
theorem norM_sm {m : Mail} (h : SmM m) : SmM (norM m) := by
  have hlen := normA_len (l := m.to) (acc := [])
  have := h.2.1.1
  exact ⟨h.1, ⟨by show (normA [] m.to).length ≤ 1048576; simp at hlen; omega, fun s hs => h.2.1.2 s ((normA_mem.1 hs).resolve_left (by simp))⟩, h.2.2⟩
def sumT (l : List Mail) : Nat := (l.map fun x => x.to.length).sum
theorem FnNormalSplit_v (u : V) (h : HasArg (.sl (.int .u8)) u) : ∃ H, cv id_laws_FnNormalSplit [u] [] = some (.bool true, H) := by
  obtain ⟨xs, rfl⟩ := argB h
  suffices hg : Gets (cv id_laws_FnNormalSplit [.sl false (vB xs)] []) fun r => r.1 = .bool true by
    obtain ⟨⟨v, H⟩, e, h⟩ := hg
    cases h
    exact ⟨H, e⟩
  rw [laws_FnNormalSplit_eq]
  simp only [evv, Nat.zero_add, if_true, if_false, decide_true, decide_false, Bool.false_eq_true, Bool.not_true, Bool.not_false, decide_eq_true_eq]
  refine Gets.ite (fun h => ?_) (fun h => ?_)
  · exact Gets.here rfl
  · refine (DrawSplitMail_g xs).bind ?_
    rintro _ H1 ⟨m, rfl, hm⟩
    obtain ⟨o, e1⟩ := impl_Split_p m hm.sm hm.to1
    have e2 := spec_Split_p m hm.sm hm.to1
    simp only [cM_e] at e1 e2
    by_cases hv : mailT m 1 30 = true
    · rw [hv] at e1 e2
      have hsm := splR_sm hm.sm hm.to1
      have f1 := fun H => impl_NormalMail_g m (.agg [.str m.from_, .sl false (vT m.to), .sl false (vT m.lines)]) H ⟨_, _, rfl, by simp only [evv, Nat.zero_add, if_true, if_false, decide_true, decide_false, Bool.false_eq_true, Bool.not_true, Bool.not_false], by simp only [evv, Nat.zero_add, if_true, if_false, decide_true, decide_false, Bool.false_eq_true, Bool.not_true, Bool.not_false]⟩ hm.sm
      have hnR : norR m = norM m := by unfold norR; rw [hv]; rfl
      obtain ⟨k1, k2⟩ := norM_ok2 hv
      obtain ⟨o3, f3⟩ := impl_Split_p (norM m) (norM_sm hm.sm) (fun t hh => hm.to1 t (by have := normA_mem.1 hh; simpa using this))
      have hrr : splR (norM m) = splR m := by unfold splR; rw [hv, k1, k2]; rfl
      rw [hrr, k1] at f3
      simp only [cM_e] at f3
      simp only [evv, Nat.zero_add, if_true, if_false, decide_true, decide_false, Bool.false_eq_true, Bool.not_true, Bool.not_false, cO_e, e1, e2, vO_strip]
      refine (f1 H1).bind ?_
      rintro _ H2 ⟨rfl, -⟩
      rw [hnR]
      generalize hL : splR m = L at *
      simp only [evv, Nat.zero_add, if_true, if_false, decide_true, decide_false, Bool.false_eq_true, Bool.not_true, Bool.not_false, cO_e, f3]
      refine Gets.loop2 (I := fun n st G => ∃ i : Nat, n = L.length - i ∧ i ≤ L.length ∧ st = [.sl false (vR eM L), .sl false (vR eM L), .int .i64 (i : Nat)])
        (P := fun q vs G => q = 0 ∧ vs = []) (n := L.length) ?_ ⟨0, by omega, by omega, rfl⟩ ?_
      · rintro n st G ⟨i, rfl, hi, rfl⟩
        rw [laws_FnNormalSplit_l13_eq]
        by_cases hlt : i < L.length
        · have i1 := vM_idx false L .i64 i hlt
          have m1 := impl_MailSame_c L[i] L[i] (hsm.1.2 _ (List.getElem_mem hlt))
          rw [decide_eq_true rfl] at m1
          simp only [cM_e] at m1
          have e5 : vBinV (.int .i64) .add (.int .i64 (i : Int)) (.int .i64 1) = some (.int .i64 ((i + 1 : Nat) : Int)) := n_addN _ i 1 (by omega)
          simp only [evv, Nat.zero_add, if_true, if_false, decide_true, decide_false, Bool.false_eq_true, Bool.not_true, Bool.not_false, i1, m1, e5, show ((i : Int) < (L.length : Int)) from by omega]
          exact ⟨_, rfl, .inr ⟨rfl, L.length - (i + 1), by omega, i + 1, rfl, by omega, rfl⟩⟩
        · have : i = L.length := by omega
          subst this
          simp only [evv, Nat.zero_add, if_true, if_false, decide_true, decide_false, Bool.false_eq_true, Bool.not_true, Bool.not_false, show ¬ ((L.length : Int) < (L.length : Int)) from by omega]
          exact ⟨_, rfl, .inl ⟨0, rfl, rfl, rfl⟩⟩
      · rintro _ _ G ⟨rfl, rfl⟩
        simp only [evv, Nat.zero_add, if_true, if_false, decide_true, decide_false, Bool.false_eq_true, Bool.not_true, Bool.not_false]
        exact Gets.here rfl
    · have hv' : mailT m 1 30 = false := by simpa using hv
      have hsp : splR m = [] := by unfold splR; rw [hv']; rfl
      rw [hv', hsp] at e1 e2
      simp only [evv, Nat.zero_add, if_true, if_false, decide_true, decide_false, Bool.false_eq_true, Bool.not_true, Bool.not_false, cO_e, e1, e2]
      exact Gets.here rfl
end Go.Proofs.YtjobinbeggkliaaDoor.Q

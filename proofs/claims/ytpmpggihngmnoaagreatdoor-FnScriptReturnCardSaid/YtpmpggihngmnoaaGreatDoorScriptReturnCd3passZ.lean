/- Contracts: mails of a session are passed on; what mailboxes hold is told. -/
import Derived.Test.YtpmpggihngmnoaaGreatDoorScriptReturnCd0scriptZ
namespace Go.Proofs.YtpmpggihngmnoaaGreatDoor.Q
open Go Go.AM
set_option linter.unusedSimpArgs false
set_option linter.unusedVariables false
set_option linter.unusedSectionVars false
def gateH : Bs := [103, 97, 116, 101, 46, 101, 120, 97, 109, 112, 108, 101]
def retT : Bs := [114, 101, 116, 117, 114, 110, 101, 100, 10]
def endT : Bs := [101, 110, 100, 10]
def pssT : Bs := [112, 97, 115, 115, 101, 100]
def tellC : List Int -> Bs
 | [] => []
 | c :: l => [32] ++ decT c.toNat 1 ++ tellC l
theorem normalMail_p (m : Mail) (h : SmM m) : pc id_impl_normalMail [.agg (cM m)] = some (.agg (cO (norM m))) := by
 have hv : AsM (.agg (cM m)) m := ⟨_, _, by rw [cM_e], by simp only [strip, vT_strip], by simp only [strip, vT_strip]⟩
 obtain ⟨v, H, e, rfl, _⟩ := impl_normalMail_g m _ [] hv h
 exact pc_of e (by simp only [cM_e, evv]) (by simp only [cO_e, evv])
theorem tellC_len : ∀ (l : List Int), (∀ c ∈ l, 0 <= c /\ c <= 1000) -> (tellC l).length <= 1100 * l.length
 | [], _ => by simp [tellC]
 | c :: l, h => by
   have h1 := h c (by simp)
   have h2 := tellC_len l (fun c hc => h c (by simp [hc]))
   have h3 := decT_len c.toNat 1
   simp only [tellC, List.length_append, List.length_cons, List.length_nil]
   omega
theorem tell_loop (g0 v2 v3 v4 : V) (codes : List Int) (H : VH) (acc : Bs) (hc : ∀ c ∈ codes, 0 <= c /\ c <= 1000) (hl : codes.length <= 1000) (ha : acc.length <= 10000000) :
 Gets (lpW' impl_gate_pass_l12 [g0, .str acc, v2, v3, v4, .sl false (vI .i64 codes), .int .i64 (codes.length : Nat), .int .i64 0] H) fun r => r.1 = 0 /\ r.2 = ([strip (strip (strip g0)), .str (acc ++ tellC codes), v2, v3, v4], H) ∨ r.1 = 0 /\ r.2 = ([g0, .str (acc ++ tellC codes), v2, v3, v4], H) := by
 refine Gets.loop (I := fun n st G => ∃ (i : Nat) (a : Bs), n = codes.length - i /\ i <= codes.length /\ a ++ tellC (codes.drop i) = acc ++ tellC codes /\ G = H /\ st = [g0, .str a, v2, v3, v4, .sl false (vI .i64 codes), .int .i64 (codes.length : Nat), .int .i64 (i : Nat)]) ?_ codes.length _ H ⟨0, acc, by omega, by omega, by simp, rfl, rfl⟩
 rintro n st G ⟨i, a, rfl, hi, hacc, rfl, rfl⟩
 rw [impl_gate_pass_l12_eq]
 have hal : a.length <= 12000000 := by
  have h1 := tellC_len codes hc
  have h2 := congrArg List.length hacc
  simp only [List.length_append] at h2
  omega
 by_cases hlt : i < codes.length
 ·have i1 := vI_idx false .i64 codes .i64 i hlt
  have hci := hc _ (List.getElem_mem hlt)
  obtain ⟨c, hcc⟩ : ∃ c : Nat, codes[i] = (c : Int) := ⟨_, (Int.toNat_of_nonneg hci.1).symm⟩
  rw [hcc] at hci i1
  have e1 : qc id_impl_decimal [.int .i64 (c : Nat), .int .i64 1] = _ := decimal_c c 1 (by omega) (by omega)
  have w1 := decT_len c 1
  have e2 := t_add .str [32] (decT c 1) (by simp; omega)
  have e3 := t_add .str a ([32] ++ decT c 1) (by simp; omega)
  have a1 : vBinV (.int .i64) .add (.int .i64 (i : Nat)) (.int .i64 1) = some (.int .i64 ((i + 1 : Nat) : Int)) := n_addN _ i 1 (by omega)
  rw [List.drop_eq_getElem_cons hlt, hcc] at hacc
  simp only [tellC, Int.toNat_natCast] at hacc
  have hr : [32] ++ decT c 1 = 32 :: decT c 1 := rfl
  rw [hr] at e2 e3
  simp only [evv, i1, e1, e2, e3, a1, show ((i : Nat) : Int) < (codes.length : Int) from by omega]
  exact Gets.here ⟨codes.length - (i + 1), by omega, i + 1, a ++ (32 :: decT c 1), rfl, by omega, by rw [<- hacc]; simp, rfl, rfl⟩
 ·have : i = codes.length := by omega
  subst this
  rw [List.drop_length, tellC, List.append_nil] at hacc
  subst hacc
  simp only [evv, show ¬ ((codes.length : Nat) : Int) < (codes.length : Int) from by omega]
  exact Gets.here (.inr ⟨rfl, rfl⟩)
theorem pass_one (l : List Box) (m : Mail) (d : Dt) (bv s0 s1 s2 s3 s4 : V) (w : Bool) (row : List V) (hb : strip bv = .sl false (vR eX l)) (hrow : stripL row = cM m) (hm : SmM m) (hml : m.lines.length <= 100000)
 (hl : SmXs l) (hp : ∀ b ∈ l, b.path.length <= 1049600) (ht : ∀ t ∈ m.to, t.length <= 1049600) (hto : m.to.length <= 1000) :
 (traceB m gateH d = false -> ∃ z, cv id_impl_gate_pass [.ptr 0 0] [cG bv [s0, s1, s2, s3, s4, .sl w [row]] d] = some (.str (retT ++ endT), cG bv [s0, s1, s2, s3, s4, .sl true []] d :: z)) ∧
 (traceB m gateH d = true -> (∀ c ∈ (dlvR l (norM (traceM m gateH d))).2, 0 <= c /\ c <= 1000) -> (dlvR l (norM (traceM m gateH d))).2.length <= 1000 →
  ∃ o z, cv id_impl_gate_pass [.ptr 0 0] [cG bv [s0, s1, s2, s3, s4, .sl w [row]] d] = some (.str (pssT ++ tellC (dlvR l (norM (traceM m gateH d))).2 ++ [10] ++ endT), cG (.sl o (vR eX (dlvR l (norM (traceM m gateH d))).1)) [s0, s1, s2, s3, s4, .sl true []] d :: z)) := by
 have hg : gateH.length <= 100000 := by decide
 obtain ⟨o, e1, ho, hod, ho3⟩ := impl_TraceMail_c m gateH d hm hml hg
 obtain ⟨hX, hXl⟩ := traceM_sm (m := m) (h := gateH) (d := d) hm hml hg
 have hgt : ([103, 97, 116, 101, 46, 101, 120, 97, 109, 112, 108, 101] : Bs) = gateH := rfl
 obtain ⟨o0, o1, o2, rfl⟩ : ∃ a b c, o = [a, b, c] := by
  cases o with
  | nil => cases ho3
  | cons a o => cases o with
    | nil => cases ho3
    | cons b o => cases o with
      | nil => cases ho3
      | cons c o => cases o with
        | nil => exact ⟨a, b, c, rfl⟩
        | cons => simp at ho3
 have ho' := cM_inj_e _ _ ho
 simp only [stripL] at ho'
 have q0 : strip o0 = .str (traceM m gateH d).from_ := by injection ho'
 have q1 : strip o1 = .sl false (vT (traceM m gateH d).to) := by injection ho' with _ h; injection h
 have q2 : strip o2 = .sl false (vT (traceM m gateH d).lines) := by injection ho' with _ h; injection h with _ h; injection h
 have hrow' : stripL row = [.str m.from_, .sl false (vT m.to), .sl false (vT m.lines)] := by rw [hrow, cM_e]
 have i0 : vIdxV 3 (.sl false [[.str m.from_, .sl false (vT m.to), .sl false (vT m.lines)]]) (.int .i64 0) = some (.elt [.str m.from_, .sl false (vT m.to), .sl false (vT m.lines)] 0) := by
  have : vIdxV 3 (.sl false [[.str m.from_, .sl false (vT m.to), .sl false (vT m.lines)]]) (.int .i64 0) = some (.elt (stripL [.str m.from_, .sl false (vT m.to), .sl false (vT m.lines)]) 0) := rfl
  rw [this]; simp only [evv]
 have n1 : vBinV (.int .i64) .add (.int .i64 0) (.int .i64 1) = some (.int .i64 1) := n_addN _ 0 1 (by omega)
 simp only [cM_e, cD_e] at e1
 have rt : ([114, 101, 116, 117, 114, 110, 101, 100, 10] : Bs) = retT := rfl
 have pt : ([112, 97, 115, 115, 101, 100] : Bs) = pssT := rfl
 have et : ([101, 110, 100, 10] : Bs) = endT := rfl
 have ld6 : ldO globB false false 1 (.ptr 0 6) [cG bv [s0, s1, s2, s3, s4, .sl w [row]] d] = some (.sl false [stripL row], [cG bv [s0, s1, s2, s3, s4, .sl w [row]] d]) := rfl
 have ld7 : ∀ (x b : V) (z : VH), ldO globB false true 7 (.ptr 0 7) (cG b [s0, s1, s2, s3, s4, x] d :: z) = some (.agg [.int .i64 d.y, .int .i64 d.mo, .int .i64 d.d, .int .i64 d.h, .int .i64 d.mi, .int .i64 d.s, .int .i64 d.z], cG b [s0, s1, s2, s3, s4, x] d :: z) := fun _ _ _ => rfl
 have ld0 : ∀ (x b : V) (z : VH), ldO globB false false 1 (.ptr 0 0) (cG b [s0, s1, s2, s3, s4, x] d :: z) = some (strip b, cG b [s0, s1, s2, s3, s4, x] d :: z) := fun _ _ _ => rfl
 have st6 : ∀ (x y b : V) (z : VH), stO (.ptr 0 6) [y] (cG b [s0, s1, s2, s3, s4, x] d :: z) = some (cG b [s0, s1, s2, s3, s4, y] d :: z) := fun _ _ _ _ => rfl
 have st0 : ∀ (x y b : V) (z : VH), stO (.ptr 0 0) [y] (cG b [s0, s1, s2, s3, s4, x] d :: z) = some (cG y [s0, s1, s2, s3, s4, x] d :: z) := fun _ _ _ _ => rfl
 have st1 : ∀ (x b a1 a2 a3 : V), stO (.ptr 1 0) [a1, a2, a3] [cG b [s0, s1, s2, s3, s4, x] d, [.str [], .sl true [], .sl true []]] = some [cG b [s0, s1, s2, s3, s4, x] d, [a1, a2, a3]] := fun _ _ _ _ _ => rfl
 have ld1 : ∀ (x b a1 a2 a3 : V), ldO globB true true 3 (.ptr 1 0) [cG b [s0, s1, s2, s3, s4, x] d, [a1, a2, a3]] = some (.agg [a1, a2, a3], [cG b [s0, s1, s2, s3, s4, x] d, [strip a1, strip a2, strip a3]]) := fun _ _ _ _ _ => rfl
 have ap : ∀ (x b : V) (z : List V), [cG b [s0, s1, s2, s3, s4, x] d] ++ [z] = [cG b [s0, s1, s2, s3, s4, x] d, z] := fun _ _ _ => rfl
 have len1 : ∀ (x b : V), [cG b [s0, s1, s2, s3, s4, x] d].length = 1 := fun _ _ => rfl
 refine ⟨fun hf => ?_, fun ht1 hcod hcl => ?_⟩
 ·rw [hf] at e1
  have t1 := t_add .str [] retT (by decide)
  have t2 := t_add .str retT endT (by decide)
  suffices hg : Gets (cv id_impl_gate_pass [.ptr 0 0] [cG bv [s0, s1, s2, s3, s4, .sl w [row]] d]) fun r => ∃ z, r = (.str (retT ++ endT), cG bv [s0, s1, s2, s3, s4, .sl true []] d :: z) by
   obtain ⟨r, e, z, rfl⟩ := hg
   exact ⟨z, e⟩
  rw [impl_gate_pass_eq]
  simp only [evv, ld6, hrow', v_len, List.length_cons, List.length_nil]
  refine Gets.loop2 (I := fun n st G => (n = 1 /\ st = [.ptr 0 0, .str [], .sl false [[.str m.from_, .sl false (vT m.to), .sl false (vT m.lines)]], .int .i64 1, .int .i64 0] /\ G = [cG bv [s0, s1, s2, s3, s4, .sl w [row]] d]) ∨
   (n = 0 /\ st = [.ptr 0 0, .str retT, .sl false [[.str m.from_, .sl false (vT m.to), .sl false (vT m.lines)]], .int .i64 1, .int .i64 1] /\ ∃ z, G = cG bv [s0, s1, s2, s3, s4, .sl w [row]] d :: z))
   (P := fun q vs G => q = 0 /\ vs = [.ptr 0 0, .str retT] /\ ∃ z, G = cG bv [s0, s1, s2, s3, s4, .sl w [row]] d :: z) (n := 1) ?_ (.inl ⟨rfl, rfl, rfl⟩) ?_
  ·rintro n st G (⟨rfl, rfl, rfl⟩ | ⟨rfl, rfl, z, rfl⟩)
   ·rw [impl_gate_pass_l3_eq, hgt, rt]
    simp only [evv, i0, agg3, ld7, e1, len1, ap, st1, n1, t1, show ((0 : Int) < 1) from by omega]
    exact Gets.here (.inr ⟨rfl, 0, by omega, .inr ⟨rfl, rfl, _, rfl⟩⟩)
   ·rw [impl_gate_pass_l3_eq]
    simp only [evv, show ¬ ((1 : Int) < 1) from by omega]
    exact Gets.here (.inl ⟨0, rfl, rfl, rfl, z, rfl⟩)
  ·rintro _ _ G ⟨rfl, rfl, z, rfl⟩
   rw [et]
   simp only [evv, st6, t2]
   exact Gets.here ⟨z, rfl⟩
 ·rw [ht1] at e1
  have nX : SmM (norM (traceM m gateH d)) := norM_sm hX
  have tX : ∀ t ∈ (norM (traceM m gateH d)).to, t.length <= 1049600 := fun t h => nX.2.1.2 t h
  have e2 := normalMail_p (traceM m gateH d) hX
  obtain ⟨o', e3⟩ := impl_Deliver_p l (norM (traceM m gateH d)) hl hp nX tX
  simp only [cM_e, cO_e] at e2 e3
  generalize hD : dlvR l (norM (traceM m gateH d)) = D at *
  generalize dlvB l (norM (traceM m gateH d)) = B at *
  generalize norM (traceM m gateH d) = Y at *
  generalize traceM m gateH d = X at *
  have w1 := tellC_len D.2 hcod
  have t1 := t_add .str [] pssT (by decide)
  rw [List.nil_append] at t1
  have t2 := t_add .str (pssT ++ tellC D.2) [10] (by simp [pssT]; omega)
  have t3 := t_add .str (pssT ++ tellC D.2 ++ [10]) endT (by simp [pssT, endT]; omega)
  suffices hg : Gets (cv id_impl_gate_pass [.ptr 0 0] [cG bv [s0, s1, s2, s3, s4, .sl w [row]] d]) fun r => ∃ o z, r = (.str (pssT ++ tellC D.2 ++ [10] ++ endT), cG (.sl o (vR eX D.1)) [s0, s1, s2, s3, s4, .sl true []] d :: z) by
   obtain ⟨r, e, o, z, rfl⟩ := hg
   exact ⟨o, z, e⟩
  rw [impl_gate_pass_eq]
  simp only [evv, ld6, hrow', v_len, List.length_cons, List.length_nil]
  refine Gets.loop2 (I := fun n st G => (n = 1 /\ st = [.ptr 0 0, .str [], .sl false [[.str m.from_, .sl false (vT m.to), .sl false (vT m.lines)]], .int .i64 1, .int .i64 0] /\ G = [cG bv [s0, s1, s2, s3, s4, .sl w [row]] d]) ∨
   (n = 0 /\ st = [.ptr 0 0, .str (pssT ++ tellC D.2 ++ [10]), .sl false [[.str m.from_, .sl false (vT m.to), .sl false (vT m.lines)]], .int .i64 1, .int .i64 1] /\ ∃ o z, G = cG (.sl o (vR eX D.1)) [s0, s1, s2, s3, s4, .sl w [row]] d :: z))
   (P := fun q vs G => q = 0 /\ vs = [.ptr 0 0, .str (pssT ++ tellC D.2 ++ [10])] /\ ∃ o z, G = cG (.sl o (vR eX D.1)) [s0, s1, s2, s3, s4, .sl w [row]] d :: z) (n := 1) ?_ (.inl ⟨rfl, rfl, rfl⟩) ?_
  ·rintro n st G (⟨rfl, rfl, rfl⟩ | ⟨rfl, rfl, o, z, rfl⟩)
   ·rw [impl_gate_pass_l3_eq, hgt, pt]
    have lp := tell_loop (.ptr 0 0) (.sl false [[.str m.from_, .sl false (vT m.to), .sl false (vT m.lines)]]) (.int .i64 1) (.int .i64 0) D.2 [cG (.sl o' (vR eX D.1)) [s0, s1, s2, s3, s4, .sl w [row]] d, [strip o0, strip o1, strip o2]] pssT hcod hcl (by decide)
    simp only [evv, i0, agg3, ld7, e1, len1, ap, st1, ld0, ld1, hb, q0, q1, q2, e2, e3, st0, t1, o_sl, show ((0 : Int) < 1) from by omega]
    simp only [q0, q1, q2] at lp
    refine lp.bind ?_
    rintro ⟨q, vs, G⟩ hq
    have hq : q = 0 /\ vs = [.ptr 0 0, .str (pssT ++ tellC D.2), .sl false [[.str m.from_, .sl false (vT m.to), .sl false (vT m.lines)]], .int .i64 1, .int .i64 0] /\ G = [cG (.sl o' (vR eX D.1)) [s0, s1, s2, s3, s4, .sl w [row]] d, [.str X.from_, .sl false (vT X.to), .sl false (vT X.lines)]] := by
     rcases hq with ⟨h1, h2⟩ | ⟨h1, h2⟩
     ·exact ⟨h1, congrArg Prod.fst h2, congrArg Prod.snd h2⟩
     ·exact ⟨h1, congrArg Prod.fst h2, congrArg Prod.snd h2⟩
    obtain ⟨rfl, rfl, rfl⟩ := hq
    simp only [evv, t2, n1]
    exact Gets.here (.inr ⟨rfl, 0, by omega, .inr ⟨rfl, rfl, o', _, rfl⟩⟩)
   ·rw [impl_gate_pass_l3_eq]
    simp only [evv, show ¬ ((1 : Int) < 1) from by omega]
    exact Gets.here (.inl ⟨0, rfl, rfl, rfl, o, z, rfl⟩)
  ·rintro _ _ G ⟨rfl, rfl, o, z, rfl⟩
   rw [et]
   simp only [evv, st6, t3]
   exact Gets.here ⟨o, z, rfl⟩
theorem held_c (l : List Box) (bv : V) (s0 s1 s2 s3 s4 s5 : V) (d : Dt) (z : VH) (hb : strip bv = .sl false (vR eX l)) (hl : SmXs l) (hc : cheldN l <= 1000) :
 cv id_impl_gate_line [.ptr 0 0, .str heldT] (cG bv [s0, s1, s2, s3, s4, s5] d :: z) = some (.str ([104, 101, 108, 100, 32] ++ decT (cheldN l) 1 ++ [10]), cG bv [s0, s1, s2, s3, s4, s5] d :: z) := by
 have e1 : qc id_strings_Cut [.str heldT, .str [32]] = some (.tup [.str heldT, .str [], .bool false]) := qcE_of 100 (by kernel_rfl)
 have e2 := impl_CountHeld_c l hl
 have e3 : qc id_impl_decimal [.int .i64 (cheldN l : Nat), .int .i64 1] = _ := decimal_c (cheldN l) 1 (by omega) (by omega)
 have w := decT_len (cheldN l) 1
 have e4 := t_add .str [104, 101, 108, 100, 32] (decT (cheldN l) 1) (by simp; omega)
 have e5 := t_add .str ([104, 101, 108, 100, 32] ++ decT (cheldN l) 1) [10] (by simp; omega)
 have ld0 : ldO globB false false 1 (.ptr 0 0) (cG bv [s0, s1, s2, s3, s4, s5] d :: z) = some (strip bv, cG bv [s0, s1, s2, s3, s4, s5] d :: z) := rfl
 obtain ⟨c, hcc⟩ : ∃ x : Bs, x = [104, 101, 108, 100, 32] := ⟨_, rfl⟩
 rw [<- hcc] at e4 e5 ⊢
 rw [impl_gate_line_eq]
 simp only [evv, e1]
 rw [impl_gate_wordLine_eq, <- hcc]
 simp only [evv, show decide (heldT = [115, 97, 121]) = false from rfl, show decide (heldT = [111, 112, 101, 110]) = false from rfl, show decide (heldT = [99, 108, 101, 97, 114]) = false from rfl, show decide (heldT = [112, 97, 115, 115]) = false from rfl, show decide (heldT = [104, 101, 108, 100]) = true from rfl, ld0, hb, e2, e3, e4, e5]
end Go.Proofs.YtpmpggihngmnoaaGreatDoor.Q

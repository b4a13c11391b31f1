/- Contracts: mails are traced. -/
import Derived.Test.YtpmpggihngmnoaaGreatDoorScriptReturnCc3formatZ
import Derived.Test.YtpmpggihngmnoaaGreatDoorFnScriptReturnK4
namespace Go.Proofs.YtpmpggihngmnoaaGreatDoor.Q
open Go Go.AM
set_option linter.unusedSimpArgs false
set_option linter.unusedVariables false
set_option linter.unusedSectionVars false
def recBy : Bs := [82, 101, 99, 101, 105, 118, 101, 100, 58, 32, 98, 121, 32]
def lineT (h : Bs) (d : Dt) : Bs := recBy ++ h ++ [59, 32] ++ fmtD d
def traceB (m : Mail) (h : Bs) (d : Dt) : Bool := mailT m 1 30 && (validT d && (domT h && (!decide (m.lines.length = 30) && !decide (5 <= hopsN m.lines))))
def traceM (m : Mail) (h : Bs) (d : Dt) : Mail := if traceB m h d = true then ⟨m.from_, m.to, lineT h d :: m.lines⟩ else ⟨[], [], []⟩
theorem fmtD_len {d : Dt} (h : validT d = true) : (fmtD d).length <= 3000 := by
 obtain ⟨k, j, dd, hh, mm, ss, q1, q2, q3, q4, q5, q6, q7, q8, q9, q10, q11, q12, q13, q14⟩ := valid_of h
 have bd := dimI_le d.y d.mo
 have w0 : (wdT d).length <= 3 := wdays_len _
 have w1 := monT_len (d.mo - 1).toNat
 have w2 := decT_len d.d.toNat 1
 have w3 := decT_len d.y.toNat 4
 have w4 := decT_len d.h.toNat 2
 have w5 := decT_len d.mi.toNat 2
 have w6 := decT_len d.s.toNat 2
 have w7 := decT_len (d.z.natAbs / 60) 2
 have w8 := decT_len (d.z.natAbs % 60) 2
 have w9 : (sgnT d.z).length = 2 := by unfold sgnT; split <;> rfl
 unfold fmtD
 simp only [List.length_append, List.length_cons, List.length_nil]
 omega
theorem traceM_sm {m : Mail} {h : Bs} {d : Dt} (hm : SmM m) (hl : m.lines.length <= 100000) (hh : h.length <= 100000) : SmM (traceM m h d) /\ (traceM m h d).lines.length <= m.lines.length + 1 := by
 unfold traceM
 split
 ·rename_i hb
  unfold traceB at hb
  simp only [Bool.and_eq_true] at hb
  have := fmtD_len hb.2.1
  refine ⟨⟨hm.1, hm.2.1, ⟨by simp; omega, fun s hs => ?_⟩⟩, by simp⟩
  rcases List.mem_cons.1 hs with rfl | hs
  ·unfold lineT recBy
   simp only [List.length_append, List.length_cons, List.length_nil]; omega
  ·exact hm.2.2.2 s hs
 ·exact ⟨⟨by simp, ⟨by simp, by simp⟩, ⟨by simp, by simp⟩⟩, by simp⟩
theorem line_add {h : Bs} {d : Dt} (hv : validT d = true) (hh : h.length <= 100000) : vBinV .str .add (.str recBy) (.str h) = some (.str (recBy ++ h)) /\ vBinV .str .add (.str (recBy ++ h)) (.str [59, 32]) = some (.str (recBy ++ h ++ [59, 32])) /\ vBinV .str .add (.str (recBy ++ h ++ [59, 32])) (.str (fmtD d)) = some (.str (lineT h d)) := by
 have := fmtD_len hv
 refine ⟨t_add _ _ _ (by simp [recBy]; omega), t_add _ _ _ (by simp [recBy]; omega), t_add _ _ _ (by simp [recBy]; omega)⟩
theorem InsertT_nil (s : Bs) (H : VH) : cv id_slices_Insert___string_string_ [.sl true [], .int .i64 0, .sl true [[.str s]]] H = some (.obs H.length 0 1 1, H ++ [[.str s]]) := by
 show callV vb _ _ _ = _
 rw [callV_prim vb _ _ _ (g := insV 1 16) rfl]
 rfl
theorem vT_rows (l : List Bs) : Go.AM.Rows 1 (vT l) := fun x hx => by
 have := vT_esz l
 simp only [eszOk, List.all_eq_true] at this
 exact Nat.eq_of_beq_eq_true (this x hx)
theorem InsertT_obs {l : List Bs} {k : Nat} {H : VH} (s : Bs) (hk : H[k]? = some (vT l).flatten) (hl : l ≠ []) (hll : l.length <= 1049600) :
 cv id_slices_Insert___string_string_ [.obs k 0 l.length 1, .int .i64 0, .sl true [[.str s]]] H = some (.obs H.length 0 (l.length + 1) 1, H.set k [] ++ [(vT (s :: l)).flatten]) := by
 show callV vb _ _ _ = _
 rw [callV_prim vb _ _ _ (g := insV 1 16) rfl]
 have h0 : 0 < l.length := List.length_pos_iff.2 hl
 have hf : (vT l).flatten.length = l.length * 1 := by have := (vT_rows l).flat; rw [this, vT_len]
 simp only [insV, hk, Option.bind_some]
 rw [if_pos (by first | exact ⟨rfl, h0, hf, by omega, by omega, rfl, by simp; omega⟩ | exact ⟨trivial, h0, hf, by omega, by omega, rfl, by simp; omega⟩)]
 simp only [Int.toNat_zero, Nat.zero_mul, List.take_zero, List.drop_zero, List.nil_append]
 rfl
theorem promB_mail {R : Type} (m : Mail) (K : V -> VH -> Option R) (ht : m.to ≠ []) : promB 1 (.agg (cO m)) [] K =
 if m.lines = [] then K (.agg [.str m.from_, .obs 0 0 m.to.length 1, .sl true []]) [(vT m.to).flatten]
 else K (.agg [.str m.from_, .obs 0 0 m.to.length 1, .obs 1 0 m.lines.length 1]) [(vT m.to).flatten, (vT m.lines).flatten] := by
 have own : ∀ l : List Bs, ownALL (vT l) = true := fun l => by
  induction l with
  | nil => rfl
  | cons s l ih => show (ownAL [.str s] && ownALL (vT l)) = true; rw [ih]; rfl
 have ho : ownA (.agg (cO m)) = true := by
  simp only [cO_e, ownA, ownAL, own, Bool.true_or, Bool.and_self]
 obtain ⟨f, to, ls⟩ := m
 unfold promB
 rw [ho]
 simp only [cO_e]
 cases to with
 | nil => exact absurd rfl ht
 | cons t to =>
   cases ls with
   | nil =>
     simp only [vT, List.map_cons, List.map_nil, prom, promL, promLL_zero, if_true, List.length_nil, List.nil_append, List.length_map, List.length_cons]
   | cons s ls =>
     simp only [vT, List.map_cons, prom, promL, promLL_zero, List.length_nil, List.nil_append, List.length_map, List.length_cons]
     rfl
theorem ou_one (d : Nat) (H : VH) (k off n : Nat) : ou (d + 1) H (.obs k off (n + 1) 1) = none := by
 simp only [ou]
 cases H[k]? with
 | none => rfl
 | some cs => simp
theorem impl_TraceMail_c (m : Mail) (h : Bs) (d : Dt) (hm : SmM m) (hl : m.lines.length <= 100000) (hh : h.length <= 100000) :
 ∃ o, pc id_impl_TraceMail [.agg (cM m), .str h, .agg (cD d)] = some (.tup [.agg o, .bool (traceB m h d)]) /\ stripL o = cM (traceM m h d) /\ dataL o = true /\ o.length = 3 := by
 have e1 := impl_MailValid_c m hm
 have e2 := isDomain_c h (by omega)
 have e3 := impl_DateValid_c d
 have e4 := impl_hops_c m hm
 have e5 := impl_FormatDate_c d
 have e6 := copyMail_c m hm
 have la := fun hv => line_add (h := h) (d := d) hv hh
 simp only [cM_e, cD_e] at e1 e3 e4 e5 e6
 have hrec : ([82, 101, 99, 101, 105, 118, 101, 100, 58, 32, 98, 121, 32] : Bs) = recBy := rfl
 have hnp : noPtrL [.agg (cM m), .str h, .agg (cD d)] = true := by simp only [cM_e, cD_e, evv]
 have eq := impl_TraceMail_eq (.agg (cM m)) (.str h) (.agg (cD d)) []
 have dm : ∀ (x : V), x = .agg [.str m.from_, .sl false (vT m.to), .sl false (vT m.lines)] -> dataL [x] = true := fun x hx => by rw [hx]; simp only [evv]
 have dd : dataL [V.agg [.int .i64 d.y, .int .i64 d.mo, .int .i64 d.d, .int .i64 d.h, .int .i64 d.mi, .int .i64 d.s, .int .i64 d.z]] = true := by simp only [evv]
 have dh : dataL [V.str h] = true := by simp only [evv]
 have zero : traceB m h d = false -> cv id_impl_TraceMail [.agg (cM m), .str h, .agg (cD d)] [] = some (.tup [.agg (cO ⟨[], [], []⟩), .bool false], []) -> ∃ o, pc id_impl_TraceMail [.agg (cM m), .str h, .agg (cD d)] = some (.tup [.agg o, .bool (traceB m h d)]) /\ stripL o = cM (traceM m h d) /\ dataL o = true /\ o.length = 3 := fun hb he => by
  refine ⟨cO ⟨[], [], []⟩, ?_, ?_, rfl, rfl⟩
  ·rw [hb]; exact pc_of he hnp rfl
  ·unfold traceM; rw [hb]; rfl
 by_cases c1 : mailT m 1 30 = true
 ·by_cases c3 : validT d = true
  ·by_cases c2 : domT h = true
   ·by_cases c4 : m.lines.length = 30
    ·refine zero (by unfold traceB; rw [c1, c2, c3, decide_eq_true c4]; rfl) (eq.trans ?_)
     simp only [cM_e, cO_e, cD_e, evv, qco_d (dm _ rfl), qco_d dd, qco_d dh, e1, e2, e3, c1, c2, c3, show ((m.lines.length : Int) = 30) from by omega]; try rfl
    ·by_cases c5 : 5 <= hopsN m.lines
     ·refine zero (by unfold traceB; rw [c1, c2, c3, decide_eq_false c4, decide_eq_true c5]; rfl) (eq.trans ?_)
      simp only [cM_e, cO_e, cD_e, evv, qco_d (dm _ rfl), qco_d dd, qco_d dh, e1, e2, e3, e4, c1, c2, c3, show ¬ ((m.lines.length : Int) = 30) from by omega, show ((hopsN m.lines : Nat) : Int) ≥ 5 from by omega]; try rfl
     ·have hB : traceB m h d = true := by unfold traceB; rw [c1, c2, c3, decide_eq_false c4, decide_eq_false c5]; rfl
      have hM : traceM m h d = ⟨m.from_, m.to, lineT h d :: m.lines⟩ := by unfold traceM; rw [if_pos hB]
      have hf : fmtT d = fmtD d := by unfold fmtT; rw [if_pos c3]
      rw [hf] at e5
      obtain ⟨a1, a2, a3⟩ := la c3
      have ht : m.to ≠ [] := fun e => by
       unfold mailT at c1
       simp only [Bool.and_eq_true, decide_eq_true_eq] at c1
       have := c1.2.1; rw [e] at this; simp at this
      rw [hB, hM]
      have run : ∃ (k : Nat) (H : VH), cv id_impl_TraceMail [.agg (cM m), .str h, .agg (cD d)] [] = some (.tup [.agg [.str m.from_, .obs 0 0 m.to.length 1, .obs k 0 (m.lines.length + 1) 1], .bool true], H) /\ H[0]? = some (vT m.to).flatten /\ H[k]? = some (vT (lineT h d :: m.lines)).flatten := by
       rw [eq, hrec]
       simp only [cM_e, cD_e, evv, qco_d (dm _ rfl), pco_d (dm _ rfl), qco_d dd, qco_d dh, e1, e2, e3, e4, e6, c1, c2, c3, show ¬ ((m.lines.length : Int) = 30) from by omega, show ¬ ((hopsN m.lines : Nat) : Int) ≥ 5 from by omega]
       rw [promB_mail m _ ht]
       by_cases hn : m.lines = []
       ·rw [if_pos hn]
        have i1 := InsertT_nil (lineT h d) [(vT m.to).flatten]
        simp only [cD_e, evv, qco_d dd, a1, a2, a3, e5, vo_str, i1, hn]
        refine ⟨1, _, rfl, rfl, ?_⟩
        simp [vT]
       ·rw [if_neg hn]
        have i1 := InsertT_obs (k := 1) (l := m.lines) (H := [(vT m.to).flatten, (vT m.lines).flatten]) (lineT h d) rfl hn (by omega)
        simp only [cD_e, evv, qco_d dd, a1, a2, a3, e5, vo_str, i1]
        exact ⟨2, _, rfl, rfl, rfl⟩
      obtain ⟨k, H, he, h0, hk⟩ := run
      obtain ⟨n, hn⟩ : ∃ n, m.to.length = n + 1 := ⟨m.to.length - 1, by have := List.length_pos_iff.2 ht; omega⟩
      have u0 := unobs1_obs h0 (vT_rows _)
      have uk := unobs1_obs hk (vT_rows _)
      rw [vT_len] at u0 uk
      rw [show (lineT h d :: m.lines).length = m.lines.length + 1 from rfl] at uk
      refine ⟨[.str m.from_, .sl false (stripLL (vT m.to)), .sl false (stripLL (vT (lineT h d :: m.lines)))], pc_ud he hnp rfl (v := .tup [.agg [.str m.from_, .obs 0 0 m.to.length 1, .obs k 0 (m.lines.length + 1) 1], .bool true]) rfl rfl ?_ ?_ ?_, ?_, ?_, rfl⟩
      ·have : ou 6 H (.tup [.agg [.str m.from_, .obs 0 0 m.to.length 1, .obs k 0 (m.lines.length + 1) 1], .bool true]) = none := by
        show (ouL (ou 5) H _).bind _ = none
        simp only [ouL]
        have : ou 5 H (.agg [.str m.from_, .obs 0 0 m.to.length 1, .obs k 0 (m.lines.length + 1) 1]) = none := by
         show (ouL (ou 4) H _).bind _ = none
         simp only [ouL]
         rw [show ou 4 H (.str m.from_) = some (.str m.from_, H) from rfl]
         simp only [Option.bind_some]
         rw [hn, ou_one 3 H 0 0 n]; rfl
        rw [this]; rfl
       unfold ouR
       rw [this]; rfl
      ·simp only [unobsD, unobsT, unobsA, unobsL, u0, uk, show ∀ b, unobs1 H (.bool b) = some (.bool b) from fun _ => rfl, show ∀ b, unobs1 H (.str b) = some (.str b) from fun _ => rfl, Option.bind_some, Option.map_some]
      ·simp only [evv]
      ·simp only [cM_e, evv]
      ·simp only [evv]
   ·have c2' : domT h = false := by simpa using c2
    refine zero (by unfold traceB; rw [c1, c2', c3]; try rfl) (eq.trans ?_)
    simp only [cM_e, cO_e, cD_e, evv, qco_d (dm _ rfl), qco_d dd, qco_d dh, e1, e2, e3, c1, c2', c3]; try rfl
  ·have c3' : validT d = false := by simpa using c3
   refine zero (by unfold traceB; rw [c1, c3']; rfl) (eq.trans ?_)
   simp only [cM_e, cO_e, cD_e, evv, qco_d (dm _ rfl), qco_d dd, qco_d dh, e1, e2, e3, c1, c3']; try rfl
 ·have c1' : mailT m 1 30 = false := by simpa using c1
  refine zero (by unfold traceB; rw [c1']; rfl) (eq.trans ?_)
  simp only [cM_e, cO_e, cD_e, evv, qco_d (dm _ rfl), qco_d dd, qco_d dh, e1, e2, e3, c1']; try rfl
end Go.Proofs.YtpmpggihngmnoaaGreatDoor.Q

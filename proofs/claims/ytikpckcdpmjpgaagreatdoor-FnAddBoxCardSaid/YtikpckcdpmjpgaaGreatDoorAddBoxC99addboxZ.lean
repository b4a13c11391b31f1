/- Contracts: mailboxes are added, the program's way. -/
import Derived.Test.YtikpckcdpmjpgaaGreatDoorAddBoxC98splitZ
import Derived.Test.YtikpckcdpmjpgaaGreatDoorFnAddBoxK4
namespace Go.Proofs.YtikpckcdpmjpgaaGreatDoor.Q
open Go Go.AM
set_option linter.unusedSimpArgs false
set_option linter.unusedVariables false
set_option linter.unusedSectionVars false
theorem vOX_takeF : ∀ (l : List Box) (i : Nat), (vOX l).flatten.take (i * 2) = (vOX (l.take i)).flatten
 | [], i => by simp [vOX]
 | b :: l, 0 => by simp [vOX]
 | b :: l, i + 1 => by
   have := vOX_takeF l i
   show (cOx b ++ (vOX l).flatten).take ((i + 1) * 2) = cOx b ++ (vOX (l.take i)).flatten
   rw [<- this, show (i + 1) * 2 = (cOx b).length + i * 2 by simp [cOx]; omega, List.take_length_add_append]
theorem vOX_dropF : ∀ (l : List Box) (i : Nat), (vOX l).flatten.drop (i * 2) = (vOX (l.drop i)).flatten
 | [], i => by simp [vOX]
 | b :: l, 0 => by simp [vOX]
 | b :: l, i + 1 => by
   have := vOX_dropF l i
   show (cOx b ++ (vOX l).flatten).drop ((i + 1) * 2) = (vOX (l.drop i)).flatten
   rw [<- this, show (i + 1) * 2 = (cOx b).length + i * 2 by simp [cOx]; omega, List.drop_length_add_append]
theorem vOX_flat_app (a b : List Box) : (vOX a).flatten ++ (vOX b).flatten = (vOX (a ++ b)).flatten := by rw [<- vOX_app, List.flatten_append]
theorem insX_at {p : Bs} : ∀ {l : List Box} {i : Nat}, i <= l.length -> (∀ j, j < i -> ltT (boxAt l j).path p = true) -> (i < l.length -> ltT p (boxAt l i).path = true) -> insX p l = l.take i ++ [⟨p, []⟩] ++ l.drop i
 | [], i, hi, _, _ => by
   have : i = 0 := by simpa using hi
   subst this; rfl
 | b :: l, 0, _, _, h => by
   have : ltT p b.path = true := h (by simp)
   simp only [insX, this, if_true, List.take_zero, List.drop_zero, List.nil_append, List.cons_append]
 | b :: l, i + 1, hi, h1, h2 => by
   have hb : ltT b.path p = true := h1 0 (by omega)
   have hb' : ltT p b.path = false := by
    cases q : ltT p b.path with
    | false => rfl
    | true => have := bl_trans hb q; rw [bl_irr] at this; cases this
   have ih := insX_at (p := p) (l := l) (i := i) (by simpa using hi) (fun j hj => h1 (j + 1) (by omega)) (fun h => h2 (by simp; omega))
   simp only [insX, hb', Bool.false_eq_true, if_false, ih, List.take_succ_cons, List.drop_succ_cons, List.cons_append]
theorem InsertX_nil (p : Bs) (H : VH) : cv id_slices_Insert___impl_Box_impl_Box_ [.sl true [], .int .i64 0, .sl true [[.str p, .sl true []]]] H = some (.obs H.length 0 1 2, H ++ [[.str p, .sl true []]]) := by
 show callV vb _ _ _ = _
 rw [callV_prim vb _ _ _ (g := insV 2 40) rfl]
 rfl
theorem InsertX_obs {l : List Box} {k i : Nat} {H : VH} (p : Bs) (hk : H[k]? = some (vOX l).flatten) (hl : l ≠ []) (hll : l.length <= 1000000) (hi : i <= l.length) :
 cv id_slices_Insert___impl_Box_impl_Box_ [.obs k 0 l.length 2, .int .i64 (i : Nat), .sl true [[.str p, .sl true []]]] H = some (.obs H.length 0 (l.length + 1) 2, H.set k [] ++ [(vOX (l.take i ++ [⟨p, []⟩] ++ l.drop i)).flatten]) := by
 show callV vb _ _ _ = _
 rw [callV_prim vb _ _ _ (g := insV 2 40) rfl]
 have h0 : 0 < l.length := List.length_pos_iff.2 hl
 have hf : (vOX l).flatten.length = l.length * 2 := by have := (vOX_rows l).flat; rw [this, vOX_len]
 simp only [insV, hk, Option.bind_some]
 rw [if_pos (by first | exact ⟨rfl, h0, hf, by omega, by omega, rfl, by simp; omega⟩ | exact ⟨trivial, h0, hf, by omega, by omega, rfl, by simp; omega⟩)]
 simp only [Int.toNat_natCast, vOX_takeF, vOX_dropF]
 have e : [[V.str p, V.sl true []]].flatten = (vOX [⟨p, []⟩]).flatten := rfl
 rw [e, vOX_flat_app, vOX_flat_app]
 rfl
theorem impl_AddBox_g (l : List Box) (p : Bs) (h : SmXs l) (hll : l.length <= 1000000) (hs : ∀ b ∈ l, b.path.length <= 1000000) (hp : p.length <= 1000000) :
 Gets2 (cv id_impl_AddBox [.sl false (vR eX l), .str p] []) (fun r H => (addB l p = false /\ r = .tup [.sl true [], .bool false]) ∨
  (addB l p = true /\ ∃ o, r = .tup [o, .bool true] /\ HoX o H (addR l p))) := by
 have e1 := impl_BoxesValid_c l h
 have e2 := isPath_c p (by omega)
 have e3 := copyBoxes_c l h
 obtain ⟨at_, kn, hat1, hbp, hat2, hat3⟩ := boxPlace_g l p (by omega)
 refine Gets2.of ?_
 rw [impl_AddBox_eq]
 unfold addR addB
 by_cases c1 : boxesT l = true
 ·obtain ⟨q1, q2, q3, q4⟩ := hat3 (sort_of c1)
  by_cases c2 : pathT p = true
  ·by_cases c3 : l.any (isP p) = true
   ·rw [c3] at q1
    simp only [evv, qco_d, hbp, e1, e2, c1, c2, c3, q1]
    exact Gets.here (.inl ⟨rfl, rfl⟩)
   ·have c3' : l.any (isP p) = false := by simpa using c3
    rw [c3'] at q1
    by_cases c4 : l.length = 8
    ·simp only [evv, qco_d, hbp, e1, e2, c1, c2, c3', q1, show ((l.length : Int) = 8) from by omega, decide_eq_true c4]
     exact Gets.here (.inl ⟨rfl, rfl⟩)
    ·have hins : insX p l = l.take at_ ++ [⟨p, []⟩] ++ l.drop at_ := insX_at hat1 q3 (fun hlt => by
      cases hq : ltT p (boxAt l at_).path with
      | true => rfl
      | false =>
      have e := bl_tri (q4 hlt) hq
      rw [boxAt_get hlt] at e
      have : l.any (isP p) = true := List.any_eq_true.2 ⟨_, List.getElem_mem hlt, decide_eq_true e⟩
      rw [this] at c3'; cases c3')
     simp only [evv, qco_d, pco_d, hbp, e1, e2, e3, c1, c2, c3', q1, show ¬ ((l.length : Int) = 8) from by omega, decide_eq_false c4]
     by_cases hn : l = []
     ·subst hn
      have ha0 : at_ = 0 := by simpa using hat1
      subst ha0
      show Gets (promB 1 (.sl true []) [] _) _
      rw [promB_nil]
      have i1 := InsertX_nil p []
      rw [show ((0 : Nat) : Int) = 0 from rfl]
      simp only [evv, i1]
      exact Gets.here (.inr ⟨by first | trivial | rfl, _, rfl, .inr ⟨by simp [insX], 0, rfl, rfl⟩⟩)
     ·rw [promB_one [] _ (fun e => hn (by simpa [vOX] using e)) (vOX_rows l) (vOX_own l), vOX_len]
      have i1 := InsertX_obs (k := 0) (i := at_) (H := [(vOX l).flatten]) p rfl hn hll hat1
      simp only [evv, List.nil_append, List.length_nil, i1]
      refine Gets.here (.inr ⟨by first | trivial | rfl, _, rfl, .inr ⟨by rw [hins]; simp, 1, ?_, ?_⟩⟩)
      ·rw [insX_len]; rfl
      ·rw [hins]; rfl
  ·have c2' : pathT p = false := by simpa using c2
   simp only [evv, qco_d, hbp, e1, e2, c1, c2']
   exact Gets.here (.inl ⟨rfl, rfl⟩)
 ·have c1' : boxesT l = false := by simpa using c1
  simp only [evv, qco_d, hbp, e1, c1']
  exact Gets.here (.inl ⟨rfl, rfl⟩)
theorem impl_AddBox_p (l : List Box) (p : Bs) (h : SmXs l) (hll : l.length <= 1000000) (hs : ∀ b ∈ l, b.path.length <= 1000000) (hp : p.length <= 1000000) :
 ∃ o, pc id_impl_AddBox [.sl false (vR eX l), .str p] = some (.tup [.sl o (vR eX (addR l p)), .bool (addB l p)]) := by
 obtain ⟨v, H, e, hq⟩ := impl_AddBox_g l p h hll hs hp
 rcases hq with ⟨hf, rfl⟩ | ⟨hf, o, rfl, ho⟩
 ·refine ⟨true, ?_⟩
  have : addR l p = [] := by unfold addR; rw [hf]; rfl
  rw [this, hf]
  exact pc_of e (by simp only [evv]) rfl
 ·rw [hf]
  rcases ho with ⟨hl, rfl⟩ | ⟨hne, k, rfl, hk⟩
  ·refine ⟨true, ?_⟩
   rw [hl]
   exact pc_of e (by simp only [evv]) rfl
  ·refine ⟨false, pc_un e (by simp only [evv]) (by simp only [data, dataL, Bool.false_and]) ?_ (by simp only [data, dataL, vR_data, Bool.and_self])⟩
   have := unobs1_obs hk (vOX_rows _)
   rw [vOX_len, vOX_strip] at this
   simp only [unobs, unobsL, this, show ∀ b, unobs1 H (.bool b) = some (.bool b) from fun _ => rfl, Option.bind_some, Option.map_some]
theorem DrawAddBox_p (xs : Bs) : ∃ o r l p, pc id_spec_DrawAddBox [.sl false (vB xs)] = some (.tup [.sl o r, .str p]) /\ RoX r l /\ DX 102 l /\ p.length <= 200 := by
 suffices hg : Gets2 (cv id_spec_DrawAddBox [.sl false (vB xs)] []) (fun v H => ∃ l p w, v = .tup [w, .str p] /\ VX w 0 H l /\ DX 102 l /\ p.length <= 200) by
  obtain ⟨v, H, e, l, p, w, rfl, hw, hl, hp⟩ := hg
  obtain ⟨o, r, e2, hr⟩ := pc_tupY e (by simp only [evv]) rfl rfl hw
  exact ⟨o, r, l, p, e2, hr, hl, hp⟩
 refine Gets2.of ?_
 rw [spec_DrawAddBox_eq]
 refine (Open_g (xs := xs)).bind ?_
 rintro _ H0 ⟨rfl, R0⟩
 simp only [evv]
 refine (l11Draw_g R0 (by omega)).bind ?_
 rintro _ H1 ⟨a, rfl, ha, R1⟩
 simp only [evv, vOX_strip]
 refine (l11Wrong_g R1 (by omega) (VX.row a _ _) ha (by omega)).bind ?_
 rintro w H2 ⟨l, hw, hl, R2⟩
 simp only [evv]
 refine (of_f (Rf.refl R2) (by omega) (by decide)).bind ?_
 rintro _ H3 ⟨p, rfl, -, hp, R3⟩
 simp only [evv]
 exact Gets.here ⟨l, p, w, rfl, hw.fr R3, hl.le (by omega), hp⟩
theorem insX_any (p : Bs) : ∀ l : List Box, (insX p l).any (isP p) = true
 | [] => by simp [insX, isP]
 | b :: l => by
   unfold insX
   split
   ·simp [isP]
   ·simp [insX_any p l]
theorem boxes_iff (l : List Box) : boxesT l = true ↔ l.length <= 8 /\ (∀ b ∈ l, pathT b.path = true /\ b.mails.length <= 4 /\ ∀ m ∈ b.mails, mailT m 1 30 = true) /\ SortX l := by
 constructor
 ·intro h
  have so := sort_of h
  unfold boxesT at h
  rw [Bool.and_eq_true, decide_eq_true_eq, Bool.not_eq_true', List.any_eq_false] at h
  refine ⟨h.1, fun b hb => ?_, so⟩
  obtain ⟨i, hi, rfl⟩ := List.getElem_of_mem hb
  have := h.2 i (by simpa using hi)
  unfold badX at this
  rw [boxAt_get hi] at this
  simp only [Bool.or_eq_true, not_or, Bool.not_eq_true, decide_eq_false_iff_not, Bool.not_eq_false', List.any_eq_false, Bool.not_eq_true', Bool.not_eq_false] at this
  exact ⟨this.1, by have := this.2.1; omega, fun m hm => this.2.2.2 m hm⟩
 ·rintro ⟨h1, h2, so⟩
  unfold boxesT
  rw [Bool.and_eq_true, decide_eq_true_eq, Bool.not_eq_true', List.any_eq_false]
  refine ⟨h1, fun i hi => ?_⟩
  have hi : i < l.length := by simpa using hi
  have hb := h2 _ (boxAt_mem hi)
  unfold badX
  simp only [Bool.or_eq_true, not_or, Bool.not_eq_true, decide_eq_false_iff_not, Bool.not_eq_false', List.any_eq_false, Bool.not_eq_true', Bool.not_eq_false]
  refine ⟨hb.1, by have := hb.2.1; omega, ?_, fun m hm => hb.2.2 m hm⟩
  rw [Bool.and_eq_false_iff]
  by_cases h0 : 0 < i
  ·right
   rw [so (i - 1) i (by omega) hi]; rfl
  ·left; simpa using h0
theorem sort_cons {b : Box} {l : List Box} : SortX (b :: l) ↔ (∀ c ∈ l, ltT b.path c.path = true) /\ SortX l := by
 constructor
 ·intro h
  refine ⟨fun c hc => ?_, fun i j hij hj => h (i + 1) (j + 1) (by omega) (by simpa using hj)⟩
  obtain ⟨i, hi, rfl⟩ := List.getElem_of_mem hc
  have := h 0 (i + 1) (by omega) (by simpa using hi)
  have e : boxAt (b :: l) (i + 1) = l[i] := boxAt_get (l := l) hi
  rw [e] at this
  exact this
 ·rintro ⟨h1, h2⟩ i j hij hj
  cases j with
  | zero => omega
  | succ j =>
    have hj : j < l.length := by simpa using hj
    cases i with
    | zero =>
      have := h1 _ (boxAt_mem hj)
      exact this
    | succ i => exact h2 i j (by omega) hj
theorem insX_sort {p : Bs} : ∀ {l : List Box}, SortX l -> l.any (isP p) = false -> SortX (insX p l)
 | [], _, _ => fun i j hij hj => by simp [insX] at hj; omega
 | b :: l, so, hn => by
   rw [sort_cons] at so
   simp only [List.any_cons, Bool.or_eq_false_iff] at hn
   have hbp : b.path ≠ p := fun e => by have := hn.1; unfold isP at this; rw [e] at this; simp at this
   unfold insX
   split
   ·rename_i h
    rw [sort_cons, sort_cons]
    refine ⟨fun c hc => ?_, so⟩
    rcases List.mem_cons.1 hc with rfl | hc
    ·exact h
    ·exact bl_trans h (so.1 c hc)
   ·rename_i h
    have hb : ltT b.path p = true := by
     cases hq : ltT b.path p with
     | true => rfl
     | false => exact absurd (bl_tri hq (Bool.eq_false_iff.2 h)) hbp
    rw [sort_cons]
    refine ⟨fun c hc => ?_, insX_sort so.2 hn.2⟩
    rcases insX_mem hc with rfl | hc
    ·exact hb
    ·exact so.1 c hc
theorem insX_valid {p : Bs} {l : List Box} (h : boxesT l = true) (hp : pathT p = true) (hn : l.any (isP p) = false) (h8 : l.length ≠ 8) : boxesT (insX p l) = true := by
 rw [boxes_iff] at h ⊢
 refine ⟨by rw [insX_len]; omega, fun b hb => ?_, insX_sort h.2.2 hn⟩
 rcases insX_mem hb with rfl | hb
 ·exact ⟨hp, by simp, by simp⟩
 ·exact h.2.1 b hb
end Go.Proofs.YtikpckcdpmjpgaaGreatDoor.Q

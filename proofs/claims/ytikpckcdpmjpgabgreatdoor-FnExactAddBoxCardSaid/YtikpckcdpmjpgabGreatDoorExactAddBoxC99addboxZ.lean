/- Contracts: mailboxes are added, the program's way. -/
import Derived.Test.YtikpckcdpmjpgabGreatDoorExactAddBoxC98splitZ
import Derived.Test.YtikpckcdpmjpgabGreatDoorFnExactAddBoxK4
namespace Go.Proofs.YtikpckcdpmjpgabGreatDoor.Q
open Go Go.AM
set_option linter.unusedSimpArgs false
set_option linter.unusedVariables false
set_option linter.unusedSectionVars false
theorem vOX_takeF : ∀ (l : List Box) (i : Nat), (vOX l).flatten.take (i * 2) = (vOX (l.take i)).flatten
 | [], i => by simp [vOX]
 | b :: l, 0 => by simp [vOX]
 | b :: l, i + 1 => by
   have := vOX_takeF l i
   show (cOx b ++ (vOX l).flatten).take ((i + 1) * 2) = cOx b ++ (vOX (l.take i)).flatten
   rw [<- this, show (i + 1) * 2 = (cOx b).length + i * 2 by simp [cOx]; omega, List.take_length_add_append]
theorem vOX_dropF : ∀ (l : List Box) (i : Nat), (vOX l).flatten.drop (i * 2) = (vOX (l.drop i)).flatten
 | [], i => by simp [vOX]
 | b :: l, 0 => by simp [vOX]
 | b :: l, i + 1 => by
   have := vOX_dropF l i
   show (cOx b ++ (vOX l).flatten).drop ((i + 1) * 2) = (vOX (l.drop i)).flatten
   rw [<- this, show (i + 1) * 2 = (cOx b).length + i * 2 by simp [cOx]; omega, List.drop_length_add_append]
theorem vOX_flat_app (a b : List Box) : (vOX a).flatten ++ (vOX b).flatten = (vOX (a ++ b)).flatten := by rw [<- vOX_app, List.flatten_append]
theorem insX_at {p : Bs} : ∀ {l : List Box} {i : Nat}, i <= l.length -> (∀ j, j < i -> ltT (boxAt l j).path p = true) -> (i < l.length -> ltT p (boxAt l i).path = true) -> insX p l = l.take i ++ [⟨p, []⟩] ++ l.drop i
 | [], i, hi, _, _ => by
   have : i = 0 := by simpa using hi
   subst this; rfl
 | b :: l, 0, _, _, h => by
   have : ltT p b.path = true := h (by simp)
   simp only [insX, this, if_true, List.take_zero, List.drop_zero, List.nil_append, List.cons_append]
 | b :: l, i + 1, hi, h1, h2 => by
   have hb : ltT b.path p = true := h1 0 (by omega)
   have hb' : ltT p b.path = false := by
    cases q : ltT p b.path with
    | false => rfl
    | true => have := bl_trans hb q; rw [bl_irr] at this; cases this
   have ih := insX_at (p := p) (l := l) (i := i) (by simpa using hi) (fun j hj => h1 (j + 1) (by omega)) (fun h => h2 (by simp; omega))
   simp only [insX, hb', Bool.false_eq_true, if_false, ih, List.take_succ_cons, List.drop_succ_cons, List.cons_append]
theorem InsertX_nil (p : Bs) (H : VH) : cv id_slices_Insert___impl_Box_impl_Box_ [.sl true [], .int .i64 0, .sl true [[.str p, .sl true []]]] H = some (.obs H.length 0 1 2, H ++ [[.str p, .sl true []]]) := by
 show callV vb _ _ _ = _
 rw [callV_prim vb _ _ _ (g := insV 2 40) rfl]
 rfl
theorem InsertX_obs {l : List Box} {k i : Nat} {H : VH} (p : Bs) (hk : H[k]? = some (vOX l).flatten) (hl : l ≠ []) (hll : l.length <= 1048576) (hi : i <= l.length) :
 cv id_slices_Insert___impl_Box_impl_Box_ [.obs k 0 l.length 2, .int .i64 (i : Nat), .sl true [[.str p, .sl true []]]] H = some (.obs H.length 0 (l.length + 1) 2, H.set k [] ++ [(vOX (l.take i ++ [⟨p, []⟩] ++ l.drop i)).flatten]) := by
 show callV vb _ _ _ = _
 rw [callV_prim vb _ _ _ (g := insV 2 40) rfl]
 have h0 : 0 < l.length := List.length_pos_iff.2 hl
 have hf : (vOX l).flatten.length = l.length * 2 := by have := (vOX_rows l).flat; rw [this, vOX_len]
 simp only [insV, hk, Option.bind_some]
 rw [if_pos (by first | exact ⟨rfl, h0, hf, by omega, by omega, rfl, by simp; omega⟩ | exact ⟨trivial, h0, hf, by omega, by omega, rfl, by simp; omega⟩)]
 simp only [Int.toNat_natCast, vOX_takeF, vOX_dropF]
 have e : [[V.str p, V.sl true []]].flatten = (vOX [⟨p, []⟩]).flatten := rfl
 rw [e, vOX_flat_app, vOX_flat_app]
 rfl
theorem impl_AddBox_g (l : List Box) (p : Bs) (h : SmXs l) (hll : l.length <= 1048576) (hs : ∀ b ∈ l, b.path.length <= 1048576) (hp : p.length <= 1048576) :
 Gets2 (cv id_impl_AddBox [.sl false (vR eX l), .str p] []) (fun r H => (addB l p = false /\ r = .tup [.sl true [], .bool false]) ∨
  (addB l p = true /\ ∃ o, r = .tup [o, .bool true] /\ HoX o H (addR l p))) := by
 have e1 := impl_BoxesValid_c l h
 have e2 := isPath_c p (by omega)
 have e3 := copyBoxes_c l h
 obtain ⟨at_, kn, hat1, hbp, hat2, hat3⟩ := boxPlace_g l p (by omega)
 refine Gets2.of ?_
 rw [impl_AddBox_eq]
 unfold addR addB
 by_cases c1 : boxesT l = true
 ·obtain ⟨q1, q2, q3, q4⟩ := hat3 (sort_of c1)
  by_cases c2 : pathT p = true
  ·by_cases c3 : l.any (isP p) = true
   ·rw [c3] at q1
    simp only [evv, qco_d, hbp, e1, e2, c1, c2, c3, q1]
    exact Gets.here (.inl ⟨rfl, rfl⟩)
   ·have c3' : l.any (isP p) = false := by simpa using c3
    rw [c3'] at q1
    by_cases c4 : l.length = 8
    ·simp only [evv, qco_d, hbp, e1, e2, c1, c2, c3', q1, show ((l.length : Int) = 8) from by omega, decide_eq_true c4]
     exact Gets.here (.inl ⟨rfl, rfl⟩)
    ·have hins : insX p l = l.take at_ ++ [⟨p, []⟩] ++ l.drop at_ := insX_at hat1 q3 (fun hlt => by
      cases hq : ltT p (boxAt l at_).path with
      | true => rfl
      | false =>
      have e := bl_tri (q4 hlt) hq
      rw [boxAt_get hlt] at e
      have : l.any (isP p) = true := List.any_eq_true.2 ⟨_, List.getElem_mem hlt, decide_eq_true e⟩
      rw [this] at c3'; cases c3')
     simp only [evv, qco_d, pco_d, hbp, e1, e2, e3, c1, c2, c3', q1, show ¬ ((l.length : Int) = 8) from by omega, decide_eq_false c4]
     by_cases hn : l = []
     ·subst hn
      have ha0 : at_ = 0 := by simpa using hat1
      subst ha0
      show Gets (promB 1 (.sl true []) [] _) _
      rw [promB_nil]
      have i1 := InsertX_nil p []
      rw [show ((0 : Nat) : Int) = 0 from rfl]
      simp only [evv, i1]
      exact Gets.here (.inr ⟨by first | trivial | rfl, _, rfl, .inr ⟨by simp [insX], 0, rfl, rfl⟩⟩)
     ·rw [promB_one [] _ (fun e => hn (by simpa [vOX] using e)) (vOX_rows l) (vOX_own l), vOX_len]
      have i1 := InsertX_obs (k := 0) (i := at_) (H := [(vOX l).flatten]) p rfl hn hll hat1
      simp only [evv, List.nil_append, List.length_nil, i1]
      refine Gets.here (.inr ⟨by first | trivial | rfl, _, rfl, .inr ⟨by rw [hins]; simp, 1, ?_, ?_⟩⟩)
      ·rw [insX_len]; rfl
      ·rw [hins]; rfl
  ·have c2' : pathT p = false := by simpa using c2
   simp only [evv, qco_d, hbp, e1, e2, c1, c2']
   exact Gets.here (.inl ⟨rfl, rfl⟩)
 ·have c1' : boxesT l = false := by simpa using c1
  simp only [evv, qco_d, hbp, e1, c1']
  exact Gets.here (.inl ⟨rfl, rfl⟩)
end Go.Proofs.YtikpckcdpmjpgabGreatDoor.Q

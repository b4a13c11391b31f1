/- Part 5 of the machines: what is proved is told at each theorem; no condition. -/
import Derived.Test.YtpmpggihngmnoaaGreatDoorFnScriptSayK4
import Derived.Test.YtpmpggihngmnoaaGreatDoorFnScriptSayK2
/- More loops of common kinds, texts cut at a byte, and runs of which a part is known. -/
namespace Go.AM
set_option linter.unusedSimpArgs false
set_option linter.unusedVariables false
set_option maxRecDepth 10000
theorem ite_case {α : Type} {c : Prop} [Decidable c] {x y z : α} (h1 : c -> x = z) (h2 : ¬ c -> y = z) : (if c then x else y) = z := by
 by_cases h : c
 ·rw [if_pos h]; exact h1 h
 ·rw [if_neg h]; exact h2 h
section
variable {B : LB} {S : Nat -> List V} {H : VH}
theorem lv_first {α : Type} {m0 m1 : Nat} {vs0 : List V} (xs : List α) (p : α -> Bool) (hr : ∀ (i : Nat) (h : i < xs.length), B (S i) H = if p xs[i] = true then some (some m1, [.int .i64 (i : Nat)], H) else some (none, S (i + 1), H))
 (he : B (S xs.length) H = some (some m0, vs0, H)) : lpW' B (S 0) H = if xs.any p = true then some (m1, [.int .i64 (xs.findIdx p : Nat)], H) else some (m0, vs0, H) := by
 have key : ∀ (n i : Nat), xs.length - i = n -> i <= xs.length -> lpW' B (S i) H = if (xs.drop i).any p = true then some (m1, [.int .i64 (i + (xs.drop i).findIdx p : Nat)], H) else some (m0, vs0, H) := by
  intro n
  induction n with
  | zero =>
    intro i hn hi
    have : i = xs.length := by omega
    subst this
    rw [lv_stop he, List.drop_eq_nil_of_le (Nat.le_refl _)]; rfl
  | succ n ih =>
    intro i hn hi
    have h1 : i < xs.length := by omega
    have hb := hr i h1
    rw [List.drop_eq_getElem_cons h1, List.any_cons, List.findIdx_cons]
    by_cases e : p xs[i] = true
    ·rw [if_pos e] at hb
     rw [lv_stop hb, e]; rfl
    ·rw [if_neg e] at hb
     rw [lv_more hb, ih (i + 1) (by omega) (by omega)]
     have : p xs[i] = false := by simpa using e
     rw [this, Bool.false_or]
     simp only [cond_false, Nat.add_assoc, Nat.add_comm 1]
 have := key xs.length 0 (by omega) (by omega)
 simpa using this
theorem lv_fillTo {α : Type} (E : Ec α) {l : List α} {k t : Nat} {z : List V} {H0 : VH} {m : Nat} {vs : List V} (ht : t <= l.length) (h0 : H0[k]? = some (fillC E l z 0)) (hr : ∀ (i : Nat) (h : i < t) (H : VH), H[k]? = some (fillC E l z i) -> B (S i) H = some (none, S (i + 1), H.set k (fillC E l z (i + 1))))
 (he : ∀ H, H[k]? = some (fillC E l z t) -> B (S t) H = some (some m, vs, H)) : ∃ H1, lpW' B (S 0) H0 = some (m, vs, H1) /\ H1[k]? = some (fillC E l z t) := by
 have key : ∀ (n i : Nat) (H : VH), t - i = n -> i <= t -> H[k]? = some (fillC E l z i) -> ∃ H1, lpW' B (S i) H = some (m, vs, H1) /\ H1[k]? = some (fillC E l z t) := by
  intro n
  induction n with
  | zero =>
    intro i H hn hi hk
    have : i = t := by omega
    subst this
    exact ⟨H, lv_stop (he H hk), hk⟩
  | succ n ih =>
    intro i H hn hi hk
    have h1 : i < t := by omega
    rw [lv_more (hr i h1 H hk)]
    exact ih (i + 1) _ (by omega) (by omega) (by rw [List.getElem?_set, if_pos rfl, if_pos (List.getElem?_eq_some_iff.1 hk).1])
 exact key t 0 H0 (by omega) (by omega) h0
end
theorem ob_pre (esz k o n h : Nat) (q : IntKind) (hh : h <= n) : vSliceVV esz (.obs k o n esz) none (some (.int q (h : Int))) = some (.obs k o h esz) := by
 simp only [vSliceVV, bndV, Option.bind_some]
 rw [if_pos ⟨trivial, by omega, by omega, by omega⟩]
 simp
theorem n_min (k : IntKind) (a b : Int) (h : a <= b) : vMinV (.int k a) (.int k b) = some (.int k a) := by
 simp only [vMinV, if_true]
 rw [if_neg (by omega)]
def cB (s : Bs) : List V := s.map fun b => .int .u8 (b.toNat : Int)
theorem s2b_c (s : Bs) : s2bV (.str s) = some (cB s) := rfl
theorem cB_len (s : Bs) : (cB s).length = s.length := by simp [cB]
theorem b2sL_vB : ∀ s : Bs, b2sL (vB s) = some s
 | [] => rfl
 | b :: l => by
   have ih := b2sL_vB l
   show (b2sL (vB l)).map _ = _
   rw [ih]; simp
theorem chunk_cB : ∀ s : Bs, chunkV 1 s.length (cB s) = vB s
 | [] => rfl
 | b :: l => by
   have ih := chunk_cB l
   show [V.int .u8 (b.toNat : Int)] :: chunkV 1 l.length (cB l) = _
   rw [ih]; rfl
theorem b2s_c {H : VH} {k : Nat} {t : Bs} (h : H[k]? = some (cB t)) : b2sV (.obs k 0 t.length 1) H = some (.str t) := by
 simp only [b2sV, if_true, h, Option.bind_some]
 rw [gcut_mk (by rw [cB_len]; omega), List.drop_zero, List.take_of_length_le (by rw [cB_len]; omega)]
 simp only [Option.bind_some, chunk_cB, b2sL_vB, Option.map_some]
theorem ld_c {g : Nat -> Option (List V)} {H : VH} {k i : Nat} {t : Bs} (h : H[k]? = some (cB t)) (hi : i < t.length) : ldO g false false 1 (.ptr k i) H = some (.int .u8 (t[i].toNat : Int), H) :=
 lp_cell (v := .int .u8 (t[i].toNat : Int)) h (by simp [cB, List.getElem?_eq_getElem hi]) rfl
theorem st_c {H : VH} {k i : Nat} {t : Bs} (b : UInt8) (h : H[k]? = some (cB t)) (hi : i < t.length) : stO (.ptr k i) [.int .u8 (b.toNat : Int)] H = some (H.set k (cB (t.set i b))) := by
 rw [sp_cell h (by rw [cB_len]; exact hi)]
 simp [cB, List.map_set]
theorem n_add8 (tk : TK) (a b : Int) (h1 : 0 <= a + b) (h2 : a + b <= 255) : vBinV tk .add (.int .u8 a) (.int .u8 b) = some (.int .u8 (a + b)) := by
 simp [vBinV, toA, vBin, vIntOp, ofA, IntWalk.u8_in _ ⟨h1, h2⟩]
def Gets {R : Type} (e : Option R) (Q : R -> Prop) : Prop := ∃ r, e = some r /\ Q r
theorem Gets.here {R : Type} {Q : R -> Prop} {r : R} (h : Q r) : Gets (some r) Q := ⟨r, rfl, h⟩
theorem Gets.bind {R T : Type} {e : Option R} {P : R -> Prop} {K : R -> Option T} {Q : T -> Prop} (h : Gets e P) (k : ∀ r, P r -> Gets (K r) Q) : Gets (e.bind K) Q := by
 obtain ⟨r, rfl, hr⟩ := h
 exact k r hr
theorem Gets.mono {R : Type} {e : Option R} {P Q : R -> Prop} (h : Gets e P) (k : ∀ r, P r -> Q r) : Gets e Q := by
 obtain ⟨r, e, hr⟩ := h
 exact ⟨r, e, k r hr⟩
theorem Gets.ite {R : Type} {c : Prop} [Decidable c] {x y : Option R} {Q : R -> Prop} (h1 : c -> Gets x Q) (h2 : ¬ c -> Gets y Q) : Gets (if c then x else y) Q := by
 split
 ·exact h1 ‹_›
 ·exact h2 ‹_›
theorem Gets.loop {B : LB} {I : Nat -> List V -> VH -> Prop} {Q : Nat × List V × VH -> Prop}
 (hr : ∀ n s H, I n s H -> Gets (B s H) fun r => match r.1 with | some m => Q (m, r.2) | none => ∃ n', n' < n /\ I n' r.2.1 r.2.2) :
 ∀ (n : Nat) (s : List V) (H : VH), I n s H -> Gets (lpW' B s H) Q := by
 intro n
 induction n using Nat.strongRecOn with
 | _ n ih =>
   intro s H hI
   obtain ⟨⟨m, vs, H'⟩, e, hq⟩ := hr n s H hI
   cases m with
   | some m => exact ⟨_, lv_stop e, hq⟩
   | none =>
     obtain ⟨n', hn, hI'⟩ := hq
     rw [lv_more e]
     exact ih n' hn _ _ hI'
def Gets2 (e : Option (V × VH)) (P : V -> VH -> Prop) : Prop := ∃ v H, e = some (v, H) /\ P v H
theorem Gets2.bind {T : Type} {e : Option (V × VH)} {P : V -> VH -> Prop} {K : V × VH -> Option T} {Q : T -> Prop} (h : Gets2 e P) (k : ∀ v H, P v H -> Gets (K (v, H)) Q) : Gets (e.bind K) Q := by
 obtain ⟨v, H, rfl, hr⟩ := h
 exact k v H hr
theorem Gets2.of {e : Option (V × VH)} {P : V -> VH -> Prop} (h : Gets e fun r => P r.1 r.2) : Gets2 e P := by
 obtain ⟨⟨v, H⟩, h1, h2⟩ := h
 exact ⟨v, H, h1, h2⟩
theorem Gets.loop2 {B : LB} {T : Type} {I : Nat -> List V -> VH -> Prop} {P : Nat -> List V -> VH -> Prop} {n : Nat} {s : List V} {H : VH} {K : Nat × List V × VH -> Option T} {Q : T -> Prop}
 (hr : ∀ n s H, I n s H -> Gets (B s H) fun r => (∃ m, r.1 = some m /\ P m r.2.1 r.2.2) ∨ (r.1 = none /\ ∃ n', n' < n /\ I n' r.2.1 r.2.2))
 (h0 : I n s H) (k : ∀ m vs H', P m vs H' -> Gets (K (m, vs, H')) Q) : Gets ((lpW' B s H).bind K) Q := by
 refine (Gets.loop (I := I) (Q := fun r => P r.1 r.2.1 r.2.2) (fun n s H hI => (hr n s H hI).mono fun r h => ?_) n s H h0).bind fun r h => k r.1 r.2.1 r.2.2 h
 obtain ⟨r1, r2⟩ := r
 rcases h with ⟨m, h1, h2⟩ | ⟨h1, h2⟩
 ·cases h1; exact h2
 ·cases h1; exact h2
def Rd (k b : Nat) (H : VH) : Prop := ∃ o xs p, H[k]? = some (rdr o xs p) /\ p <= b /\ xs.length <= 2000
theorem Rd.le {k b b' : Nat} {H : VH} (h : Rd k b H) (hb : b <= b') : Rd k b' H := by
 obtain ⟨o, xs, p, h1, h2, h3⟩ := h
 exact ⟨o, xs, p, h1, by omega, h3⟩
def unT : List (List V) -> List Bs
 | [.str s] :: l => s :: unT l
 | _ => []
def okT (xs : List (List V)) : Bool := (unT xs).length == xs.length && (unT xs).all (fun s => decide (s.length <= 200)) && decide (1 <= xs.length) && decide (xs.length <= 1000)
theorem unT_eq : ∀ {xs : List (List V)}, (unT xs).length = xs.length -> vT (unT xs) = xs
 | [], _ => rfl
 | x :: l, h => by
   unfold unT at h ⊢
   split at h
   ·rename_i s l' e
    cases e
    have := unT_eq (xs := l) (by simpa using h)
    show [V.str s] :: vT (unT l) = _
    rw [this]
   ·simp at h
def unI : List (List V) -> List Int
 | [.int .i64 s] :: l => s :: unI l
 | _ => []
def okI (xs : List (List V)) : Bool := (unI xs).length == xs.length && decide (1 <= xs.length) && decide (xs.length <= 1000)
theorem unI_eq : ∀ {xs : List (List V)}, (unI xs).length = xs.length -> vI .i64 (unI xs) = xs
 | [], _ => rfl
 | x :: l, h => by
   unfold unI at h ⊢
   split at h
   ·rename_i s l' e
    cases e
    have := unI_eq (xs := l) (by simpa using h)
    show [V.int .i64 s] :: vI .i64 (unI l) = _
    rw [this]
   ·simp at h
theorem ix_eq (s : Bs) (c : UInt8) : Go.Lib.indexByte s c = if c ∈ s then ((s.idxOf c : Nat) : Int) else -1 := by
 induction s with
 | nil => rfl
 | cons b l ih =>
   unfold Go.Lib.indexByte
   rw [ih, List.idxOf_cons]
   by_cases h : b = c
   ·subst h; simp
   ·have h' : ¬ c = b := fun e => h e.symm
    by_cases hm : c ∈ l
    ·have : (b == c) = false := by simpa using h
     simp only [this, hm, if_true, List.mem_cons, or_true, cond_false]
     have hn : ((l.idxOf c : Nat) : Int) ≠ -1 := by omega
     simp [hn]
    ·have : (b == c) = false := by simpa using h
     simp [this, hm, h', h]
def cutA (c : UInt8) (s : Bs) : Bs := if c ∈ s then s.take (s.idxOf c) else s
def cutZ (c : UInt8) (s : Bs) : Bs := if c ∈ s then s.drop (s.idxOf c + 1) else []
def splitB (c : UInt8) : Bs -> List Bs
 | [] => [[]]
 | b :: l => if b = c then [] :: splitB c l else match splitB c l with | [] => [[b]] | x :: r => (b :: x) :: r
theorem splitB_ne (c : UInt8) (s : Bs) : splitB c s ≠ [] := by
 cases s with
 | nil => simp [splitB]
 | cons b l =>
   unfold splitB
   split
   ·simp
   ·split <;> simp
theorem splitB_len (c : UInt8) (s : Bs) : (splitB c s).length = s.count c + 1 := by
 induction s with
 | nil => rfl
 | cons b l ih =>
   unfold splitB
   rw [List.count_cons]
   by_cases h : b = c
   ·simp [h, ih]
   ·have : (b == c) = false := by simpa using h
    rw [if_neg h, this]
    split
    ·rename_i e; exact absurd e (splitB_ne c l)
    ·rename_i x r e; rw [e] at ih; simpa using ih
theorem splitB_no (c : UInt8) (s : Bs) (h : c ∉ s) : splitB c s = [s] := by
 induction s with
 | nil => rfl
 | cons b l ih =>
   unfold splitB
   have h1 : ¬ b = c := fun e => h (by simp [e])
   rw [if_neg h1, ih (fun e => h (by simp [e]))]
theorem splitB_cut (c : UInt8) (s : Bs) (h : c ∈ s) : splitB c s = s.take (s.idxOf c) :: splitB c (s.drop (s.idxOf c + 1)) := by
 induction s with
 | nil => cases h
 | cons b l ih =>
   rw [List.idxOf_cons]
   conv => lhs; unfold splitB
   by_cases h1 : b = c
   ·subst h1; simp
   ·have h2 : c ∈ l := by rcases List.mem_cons.1 h with e | e; exact absurd e.symm h1; exact e
    have : (b == c) = false := by simpa using h1
    rw [if_neg h1, ih h2, this]
    simp
theorem splitB_small (c : UInt8) (s : Bs) : ∀ t ∈ splitB c s, t.length <= s.length := by
 induction s with
 | nil => intro t ht; simp [splitB] at ht; subst ht; simp
 | cons b l ih =>
   intro t ht
   unfold splitB at ht
   split at ht
   ·rcases List.mem_cons.1 ht with rfl | ht
    ·simp
    ·have := ih t ht; simp; omega
   ·split at ht
    ·simp at ht; subst ht; simp
    ·rename_i x r e
     rcases List.mem_cons.1 ht with rfl | ht
     ·have := ih x (by rw [e]; simp); simp; omega
     ·have := ih t (by rw [e]; simp [ht]); simp; omega
def restB (c : UInt8) (s : Bs) : Nat -> Bs
 | 0 => s
 | i + 1 => (restB c s i).drop ((restB c s i).idxOf c + 1)
theorem restB_split (c : UInt8) (s : Bs) : ∀ i, i < (splitB c s).length -> splitB c (restB c s i) = (splitB c s).drop i
 | 0, _ => rfl
 | i + 1, h => by
   have ih := restB_split c s i (by omega)
   have hm : c ∈ restB c s i := by
    by_cases hm : c ∈ restB c s i
    ·exact hm
    ·rw [splitB_no c _ hm] at ih
     have := congrArg List.length ih
     simp at this; omega
   rw [splitB_cut c _ hm] at ih
   have := congrArg List.tail ih
   simpa [restB] using this
theorem restB_len (c : UInt8) (s : Bs) : ∀ i, (restB c s i).length <= s.length
 | 0 => Nat.le_refl _
 | i + 1 => by have := restB_len c s i; simp only [restB, List.length_drop]; omega
theorem evv : type_of% (And.intro @Nat.zero_add (And.intro @if_true.{1} (And.intro @if_false.{1} (And.intro @decide_true (And.intro @decide_false (And.intro @Bool.false_eq_true (And.intro @Bool.not_true (And.intro @Bool.not_false (And.intro @if_ub (And.intro @ig_bool (And.intro @ig_t (And.intro @ig_f (And.intro @st_ub (And.intro @st_bool (And.intro @st_int (And.intro @st_str (And.intro @st_nilp (And.intro @st_ptr (And.intro @st_elt (And.intro @st_fn (And.intro @st_sl (And.intro @st_agg (And.intro @st_tup (And.intro @stL_nil (And.intro @stL_cons (And.intro @stLL_nil (And.intro @stLL_cons (And.intro @strip_strip (And.intro @stripL_stripL (And.intro @stripLL_stripLL (And.intro @fz_bool (And.intro @fz_int (And.intro @fz_str (And.intro @fz_sl (And.intro @fz_agg (And.intro @fz_fn0 (And.intro @fz_fn (And.intro @fz_ptr (And.intro @fz_elt (And.intro @fz1_ptr (And.intro @fzP_cons (And.intro @map_nil' (And.intro @map_cons' (And.intro @app_nil' (And.intro @app_cons' (And.intro @np_bool (And.intro @np_int (And.intro @np_str (And.intro @np_sl (And.intro @np_agg (And.intro @np_elt (And.intro @np_fn (And.intro @npL_nil (And.intro @npL_cons (And.intro @npLL_nil (And.intro @npLL_cons (And.intro @d_bool (And.intro @d_int (And.intro @d_str (And.intro @d_sl (And.intro @d_agg (And.intro @d_tup (And.intro @dL_nil (And.intro @dL_cons (And.intro @dLL_nil (And.intro @dLL_cons (And.intro @sc_bool (And.intro @sc_int (And.intro @sc_str (And.intro @sc_tup (And.intro @s1_bool (And.intro @s1_int (And.intro @s1_str (And.intro @al_nil (And.intro @al_cons (And.intro @an_tt (And.intro @bind_s (And.intro @id_s (And.intro @if_bool (And.intro @if_t (And.intro @if_f (And.intro @in_0 (And.intro @in_1 (And.intro @in_2 (And.intro @in_3 (And.intro @in_4 (And.intro @gt_0 (And.intro @gt_1 (And.intro @gt_2 (And.intro @gt_3 (And.intro @gt_4 (And.intro @gt_5 (And.intro @gt_6 (And.intro @gt_7 (And.intro @gt_8 (And.intro @gt_9 (And.intro @gt_10 (And.intro @gd_z (And.intro @gd_1 (And.intro @gd_2 (And.intro @gd_3 (And.intro @gd_4 (And.intro @gd_5 (And.intro @gd_6 (And.intro @gd_7 (And.intro @gd_8 (And.intro @gd_9 (And.intro @gt_11 (And.intro @gt_12 (And.intro @gt_13 (And.intro @gt_14 (And.intro @gt_15 (And.intro @gd_10 (And.intro @gd_11 (And.intro @gd_12 (And.intro @gd_13 (And.intro @gd_14 (And.intro @gd_15 (And.intro @n_lss (And.intro @n_leq (And.intro @n_gtr (And.intro @n_geq (And.intro @n_eql (And.intro @n_neq (And.intro @n_not (And.intro @b_eql (And.intro @b_neq (And.intro @t_eql (And.intro @t_neq (And.intro @t_len (And.intro @v_len (And.intro @t_str (And.intro @ld_elt (And.intro @extB_index (And.intro @extB_count (And.intro @v_nilf (And.intro @v_nilp (And.intro @v_nile (And.intro @v_offp (And.intro @v_offe (And.intro @o_int (And.intro @o_bool (And.intro @o_str (And.intro @o_sl (And.intro @o_ptr (And.intro @o_fn (And.intro @ow_t (And.intro @cl_fn (And.intro @ex_0 (And.intro @ex_1 (And.intro @ex_2 (And.intro @sa_0 (And.intro @sa_1 (And.intro @sa_2 (And.intro @vT_len (And.intro @vB_len (And.intro @vI_len (And.intro @vT_strip (And.intro @vB_strip (And.intro @vI_strip (And.intro @vT_np (And.intro @vB_np (And.intro @vI_np (And.intro @vT_data (And.intro @vB_data (And.intro @vI_data (And.intro @vT_esz (And.intro @vB_esz (And.intro @vI_esz (And.intro @ag_2 (And.intro @ag_3 (And.intro @ag_6 (And.intro @ag_7 (And.intro @le_2 (And.intro @le_3 (And.intro @le_6 (And.intro @le_at0 (And.intro @le_at1 (And.intro @le_at2 (And.intro @em_e (And.intro @es_e (And.intro @ex_e (And.intro @cM_e (And.intro @cS_e (And.intro @cX_e (And.intro @vR_len (And.intro @vR_strip (And.intro @vR_np (And.intro @vR_data (And.intro @vR_esz3 (And.intro @vR_esz2 (And.intro @ob_len (And.intro @st_obs @np_obs))))))))))))))))))))))))))))))))))))))))))))))))))))))))))))))))))))))))))))))))))))))))))))))))))))))))))))))))))))))))))))))))))))))))))))))))))))))))))))))))))))))))))))))))))))))))))))))))) := And.intro @Nat.zero_add (And.intro @if_true.{1} (And.intro @if_false.{1} (And.intro @decide_true (And.intro @decide_false (And.intro @Bool.false_eq_true (And.intro @Bool.not_true (And.intro @Bool.not_false (And.intro @if_ub (And.intro @ig_bool (And.intro @ig_t (And.intro @ig_f (And.intro @st_ub (And.intro @st_bool (And.intro @st_int (And.intro @st_str (And.intro @st_nilp (And.intro @st_ptr (And.intro @st_elt (And.intro @st_fn (And.intro @st_sl (And.intro @st_agg (And.intro @st_tup (And.intro @stL_nil (And.intro @stL_cons (And.intro @stLL_nil (And.intro @stLL_cons (And.intro @strip_strip (And.intro @stripL_stripL (And.intro @stripLL_stripLL (And.intro @fz_bool (And.intro @fz_int (And.intro @fz_str (And.intro @fz_sl (And.intro @fz_agg (And.intro @fz_fn0 (And.intro @fz_fn (And.intro @fz_ptr (And.intro @fz_elt (And.intro @fz1_ptr (And.intro @fzP_cons (And.intro @map_nil' (And.intro @map_cons' (And.intro @app_nil' (And.intro @app_cons' (And.intro @np_bool (And.intro @np_int (And.intro @np_str (And.intro @np_sl (And.intro @np_agg (And.intro @np_elt (And.intro @np_fn (And.intro @npL_nil (And.intro @npL_cons (And.intro @npLL_nil (And.intro @npLL_cons (And.intro @d_bool (And.intro @d_int (And.intro @d_str (And.intro @d_sl (And.intro @d_agg (And.intro @d_tup (And.intro @dL_nil (And.intro @dL_cons (And.intro @dLL_nil (And.intro @dLL_cons (And.intro @sc_bool (And.intro @sc_int (And.intro @sc_str (And.intro @sc_tup (And.intro @s1_bool (And.intro @s1_int (And.intro @s1_str (And.intro @al_nil (And.intro @al_cons (And.intro @an_tt (And.intro @bind_s (And.intro @id_s (And.intro @if_bool (And.intro @if_t (And.intro @if_f (And.intro @in_0 (And.intro @in_1 (And.intro @in_2 (And.intro @in_3 (And.intro @in_4 (And.intro @gt_0 (And.intro @gt_1 (And.intro @gt_2 (And.intro @gt_3 (And.intro @gt_4 (And.intro @gt_5 (And.intro @gt_6 (And.intro @gt_7 (And.intro @gt_8 (And.intro @gt_9 (And.intro @gt_10 (And.intro @gd_z (And.intro @gd_1 (And.intro @gd_2 (And.intro @gd_3 (And.intro @gd_4 (And.intro @gd_5 (And.intro @gd_6 (And.intro @gd_7 (And.intro @gd_8 (And.intro @gd_9 (And.intro @gt_11 (And.intro @gt_12 (And.intro @gt_13 (And.intro @gt_14 (And.intro @gt_15 (And.intro @gd_10 (And.intro @gd_11 (And.intro @gd_12 (And.intro @gd_13 (And.intro @gd_14 (And.intro @gd_15 (And.intro @n_lss (And.intro @n_leq (And.intro @n_gtr (And.intro @n_geq (And.intro @n_eql (And.intro @n_neq (And.intro @n_not (And.intro @b_eql (And.intro @b_neq (And.intro @t_eql (And.intro @t_neq (And.intro @t_len (And.intro @v_len (And.intro @t_str (And.intro @ld_elt (And.intro @extB_index (And.intro @extB_count (And.intro @v_nilf (And.intro @v_nilp (And.intro @v_nile (And.intro @v_offp (And.intro @v_offe (And.intro @o_int (And.intro @o_bool (And.intro @o_str (And.intro @o_sl (And.intro @o_ptr (And.intro @o_fn (And.intro @ow_t (And.intro @cl_fn (And.intro @ex_0 (And.intro @ex_1 (And.intro @ex_2 (And.intro @sa_0 (And.intro @sa_1 (And.intro @sa_2 (And.intro @vT_len (And.intro @vB_len (And.intro @vI_len (And.intro @vT_strip (And.intro @vB_strip (And.intro @vI_strip (And.intro @vT_np (And.intro @vB_np (And.intro @vI_np (And.intro @vT_data (And.intro @vB_data (And.intro @vI_data (And.intro @vT_esz (And.intro @vB_esz (And.intro @vI_esz (And.intro @ag_2 (And.intro @ag_3 (And.intro @ag_6 (And.intro @ag_7 (And.intro @le_2 (And.intro @le_3 (And.intro @le_6 (And.intro @le_at0 (And.intro @le_at1 (And.intro @le_at2 (And.intro @em_e (And.intro @es_e (And.intro @ex_e (And.intro @cM_e (And.intro @cS_e (And.intro @cX_e (And.intro @vR_len (And.intro @vR_strip (And.intro @vR_np (And.intro @vR_data (And.intro @vR_esz3 (And.intro @vR_esz2 (And.intro @ob_len (And.intro @st_obs @np_obs))))))))))))))))))))))))))))))))))))))))))))))))))))))))))))))))))))))))))))))))))))))))))))))))))))))))))))))))))))))))))))))))))))))))))))))))))))))))))))))))))))))))))))))))))))))))))))))))
end Go.AM

/- Rows in objects: what calls see of them, what becomes of rows that calls give. -/
namespace Go.AM
set_option linter.unusedSimpArgs false
set_option linter.unusedVariables false
mutual
theorem frO_data (G : VH) : ∀ v : V, data v = true -> frO G v = strip v
 | .bool b, _ => rfl
 | .int k n, _ => rfl
 | .str s, _ => rfl
 | .nilp, _ => rfl
 | .nilf, _ => rfl
 | .ub, _ => rfl
 | .gp g off, h => by simp only [data] at h; cases h
 | .elt cs off, h => by simp only [data] at h; cases h
 | .ptr k off, h => by simp only [data] at h; cases h
 | .obs k off n e, h => by simp only [data] at h; cases h
 | .fn f cs, h => by simp only [data] at h; cases h
 | .sl ow xs, h => by simp only [data] at h; simp only [frO, strip, frOLL_data G xs h]
 | .agg cs, h => by simp only [data] at h; simp only [frO, strip, frOL_data G cs h]
 | .tup cs, h => by simp only [data] at h; simp only [frO, strip, frOL_data G cs h]
theorem frOL_data (G : VH) : ∀ l : List V, dataL l = true -> frOL G l = stripL l
 | [], _ => rfl
 | v :: l, h => by
   simp only [dataL, Bool.and_eq_true] at h
   simp only [frOL, stripL, frO_data G v h.1, frOL_data G l h.2]
theorem frOLL_data (G : VH) : ∀ l : List (List V), dataLL l = true -> frOLL G l = stripLL l
 | [], _ => rfl
 | v :: l, h => by
   simp only [dataLL, Bool.and_eq_true] at h
   simp only [frOLL, stripLL, frOL_data G v h.1, frOLL_data G l h.2]
end
theorem frD_data (d : Nat) (H : VH) (v : V) (h : data v = true) : frD d H v = strip v := by
 cases d with
 | zero => exact frO_data _ v h
 | succ d => exact frO_data _ v h
mutual
theorem noObs_data : ∀ v : V, data v = true -> noObs v = true
 | .bool b, _ => rfl
 | .int k n, _ => rfl
 | .str s, _ => rfl
 | .nilp, _ => rfl
 | .nilf, _ => rfl
 | .ub, _ => rfl
 | .gp g off, h => by simp only [data] at h; cases h
 | .elt cs off, h => by simp only [data] at h; cases h
 | .ptr k off, h => by simp only [data] at h; cases h
 | .obs k off n e, h => by simp only [data] at h; cases h
 | .fn f cs, h => by simp only [data] at h; cases h
 | .sl ow xs, h => by simp only [data] at h; simp only [noObs, noObsLL_data xs h]
 | .agg cs, h => by simp only [data] at h; simp only [noObs, noObsL_data cs h]
 | .tup cs, h => by simp only [data] at h; simp only [noObs, noObsL_data cs h]
theorem noObsL_data : ∀ l : List V, dataL l = true -> noObsL l = true
 | [], _ => rfl
 | v :: l, h => by
   simp only [dataL, Bool.and_eq_true] at h
   simp only [noObsL, noObs_data v h.1, noObsL_data l h.2, Bool.and_self]
theorem noObsLL_data : ∀ l : List (List V), dataLL l = true -> noObsLL l = true
 | [], _ => rfl
 | v :: l, h => by
   simp only [dataLL, Bool.and_eq_true] at h
   simp only [noObsLL, noObsL_data v h.1, noObsLL_data l h.2, Bool.and_self]
end
theorem dataL_app : ∀ {a b : List V}, dataL a = true -> dataL b = true -> dataL (a ++ b) = true
 | [], b, _, h => h
 | v :: a, b, h, g => by
   simp only [List.cons_append, dataL, Bool.and_eq_true] at h ⊢
   exact ⟨h.1, dataL_app h.2 g⟩
theorem dataL_flat : ∀ {r : List (List V)}, dataLL r = true -> dataL r.flatten = true
 | [], _ => rfl
 | x :: r, h => by
   simp only [dataLL, Bool.and_eq_true] at h
   rw [List.flatten_cons]
   exact dataL_app h.1 (dataL_flat h.2)
theorem stripL_app (a b : List V) : stripL (a ++ b) = stripL a ++ stripL b := by rw [stripL_map, stripL_map, stripL_map, List.map_append]
theorem stripL_flat : ∀ r : List (List V), stripL r.flatten = (stripLL r).flatten
 | [] => rfl
 | x :: r => by rw [List.flatten_cons, stripL_app, stripL_flat r]; rfl
def Rows (e : Nat) (r : List (List V)) : Prop := ∀ x ∈ r, x.length = e
theorem Rows.flat {e : Nat} : ∀ {r : List (List V)}, Rows e r -> r.flatten.length = r.length * e
 | [], _ => by simp
 | x :: r, h => by
   have h1 := h x (by simp)
   have h2 := Rows.flat (r := r) (fun y hy => h y (by simp [hy]))
   rw [List.flatten_cons, List.length_append, h1, h2, List.length_cons, Nat.succ_mul, Nat.add_comm]
theorem Rows.chunk {e : Nat} : ∀ {r : List (List V)}, Rows e r -> chunkV e r.length r.flatten = r
 | [], _ => rfl
 | x :: r, h => by
   have h1 := h x (by simp)
   have h2 := Rows.chunk (r := r) (fun y hy => h y (by simp [hy]))
   simp only [List.length_cons, chunkV, List.flatten_cons]
   rw [<- h1, List.take_left, List.drop_left, h1, h2]
theorem Rows.strip {e : Nat} {r : List (List V)} (h : Rows e r) : Rows e (stripLL r) := fun x hx => by
 rw [stripLL_map] at hx
 obtain ⟨y, hy, rfl⟩ := List.mem_map.1 hx
 rw [List.length_map]; exact h y hy
theorem Rows.get {e : Nat} {j : Nat} (hj : j < e) : ∀ {r : List (List V)} {i : Nat} {x : List V}, Rows e r -> r[i]? = some x -> r.flatten[i * e + j]? = x[j]?
 | [], i, x, _, h => by simp at h
 | y :: r, 0, x, hr, h => by
   simp at h; subst h
   have h1 := hr y (by simp)
   rw [List.flatten_cons, Nat.zero_mul, Nat.zero_add, List.getElem?_append_left (by omega)]
 | y :: r, i + 1, x, hr, h => by
   have h1 := hr y (by simp)
   simp at h
   rw [List.flatten_cons, List.getElem?_append_right (by rw [h1, Nat.succ_mul]; omega), h1]
   have : (i + 1) * e + j - e = i * e + j := by rw [Nat.succ_mul]; omega
   rw [this]
   exact Rows.get hj (fun z hz => hr z (by simp [hz])) h
theorem Rows.set {e : Nat} {j : Nat} (hj : j < e) {v : V} : ∀ {r : List (List V)} {i : Nat} {x : List V}, Rows e r -> r[i]? = some x -> gseg r.flatten (i * e + j) [v] = (r.set i (x.set j v)).flatten
 | [], i, x, _, h => by simp at h
 | y :: r, 0, x, hr, h => by
   simp at h; subst h
   have h1 := hr y (by simp)
   simp only [List.flatten_cons, Nat.zero_mul, Nat.zero_add, List.set_cons_zero, gseg, List.length_singleton]
   rw [List.take_append_of_le_length (by omega), List.drop_append_of_le_length (by omega), <- List.append_assoc]
   congr 1
   rw [List.set_eq_take_append_cons_drop, if_pos (by omega)]; simp
 | y :: r, i + 1, x, hr, h => by
   have h1 := hr y (by simp)
   simp at h
   have ih := Rows.set hj (v := v) (r := r) (i := i) (fun z hz => hr z (by simp [hz])) h
   simp only [gseg, List.length_singleton] at ih
   simp only [List.flatten_cons, List.set_cons_succ, gseg, List.length_singleton]
   have e1 : (i + 1) * e + j = y.length + (i * e + j) := by rw [Nat.succ_mul]; omega
   rw [e1, List.take_length_add_append, Nat.add_assoc, List.drop_length_add_append, List.append_assoc, List.append_assoc, <- ih, List.append_assoc]
theorem frD_obs (d : Nat) {H : VH} {k e : Nat} {r : List (List V)} (hk : H[k]? = some r.flatten) (hr : Rows e r) (hd : dataLL r = true) : frD d H (.obs k 0 r.length e) = .sl false (stripLL r) := by
 have fin : ∀ G : VH, G[k]? = some (stripL r.flatten) -> frO G (.obs k 0 r.length e) = .sl false (stripLL r) := fun G hG => by
  have h1 : G.getD k [] = (stripLL r).flatten := by rw [List.getD_eq_getElem?_getD, hG, stripL_flat]; rfl
  have h2 := hr.strip.flat
  rw [stripLL_len] at h2
  simp only [frO, h1]
  rw [gcut_mk (by omega)]
  simp only [List.drop_zero]
  rw [List.take_of_length_le (by omega)]
  have h3 := hr.strip.chunk
  rw [stripLL_len] at h3
  rw [h3]
 cases d with
 | zero =>
   refine fin _ ?_
   rw [List.getElem?_map, hk]; rfl
 | succ d =>
   refine fin _ ?_
   rw [List.getElem?_map, hk]
   simp only [Option.map_some]
   rw [stripL_map]
   congr 1
   have : ∀ {l : List V}, dataL l = true -> l.map (frD d H) = l.map strip := by
    intro l
    induction l with
    | nil => intro _; rfl
    | cons v l ih =>
      intro h
      simp only [dataL, Bool.and_eq_true] at h
      simp only [List.map_cons, frD_data d H v h.1, ih h.2]
   exact this (dataL_flat hd)
theorem qpcallO_n {call : CallV} {f : FuncId} {H : VH} {vs : List V} (h : noObsL vs = true) : qpcallO call f H vs = qpcall call f (vs.map (frz H)) := by unfold qpcallO; rw [h]
theorem qpcallO_o {call : CallV} {f : FuncId} {H : VH} {vs : List V} (h : noObsL vs = false) : qpcallO call f H vs = qpcall call f (vs.map (frD 3 H)) := by unfold qpcallO; rw [h]
theorem frz_data {H : VH} {v : V} (h : data v = true) : frz H v = strip v := by
 cases v <;> first | rfl | (simp only [data] at h; cases h)
theorem map_frz {H : VH} : ∀ {vs : List V}, dataL vs = true -> vs.map (frz H) = vs.map strip
 | [], _ => rfl
 | v :: vs, h => by
   simp only [dataL, Bool.and_eq_true] at h
   simp only [List.map_cons, frz_data h.1, map_frz h.2]
theorem map_frD {d : Nat} {H : VH} : ∀ {vs : List V}, dataL vs = true -> vs.map (frD d H) = vs.map strip
 | [], _ => rfl
 | v :: vs, h => by
   simp only [dataL, Bool.and_eq_true] at h
   simp only [List.map_cons, frD_data d H v h.1, map_frD h.2]
theorem qpcallO_d {call : CallV} {f : FuncId} {H : VH} {vs : List V} (h : dataL vs = true) : qpcallO call f H vs = qpcall call f (vs.map strip) := by rw [qpcallO_n (noObsL_data vs h), map_frz h]
end Go.AM

/- Runs of the machine of values whose arguments are written out: reckoned by the kernel. -/
namespace Go.AM
set_option linter.unusedSimpArgs false
set_option linter.unusedVariables false
mutual
def eqW : V -> V -> Bool
 | .bool a, .bool b => a == b
 | .int k n, .int k' n' => decide (k = k') && decide (n = n')
 | .str s, .str t => decide (s = t)
 | .nilp, .nilp => true
 | .nilf, .nilf => true
 | .ub, .ub => true
 | .ptr k o, .ptr k' o' => Nat.beq k k' && Nat.beq o o'
 | .gp k o, .gp k' o' => Nat.beq k k' && Nat.beq o o'
 | .elt c o, .elt c' o' => eqWL c c' && Nat.beq o o'
 | .sl w xs, .sl w' ys => w == w' && eqWLL xs ys
 | .agg c, .agg c' => eqWL c c'
 | .tup c, .tup c' => eqWL c c'
 | .fn f c, .fn f' c' => decide (f = f') && eqWL c c'
 | .obs k o n e, .obs k' o' n' e' => Nat.beq k k' && Nat.beq o o' && Nat.beq n n' && Nat.beq e e'
 | _, _ => false
termination_by structural v => v
def eqWL : List V -> List V -> Bool
 | [], [] => true
 | a :: l, b :: m => eqW a b && eqWL l m
 | _, _ => false
termination_by structural l => l
def eqWLL : List (List V) -> List (List V) -> Bool
 | [], [] => true
 | a :: l, b :: m => eqWL a b && eqWLL l m
 | _, _ => false
termination_by structural l => l
end
def eqR (a b : V × VH) : Bool := eqW a.1 b.1 && eqWLL a.2 b.2
def eqJ (a b : Nat × List V × VH) : Bool := Nat.beq a.1 b.1 && eqWL a.2.1 b.2.1 && eqWLL a.2.2 b.2.2
def eqB (a b : Option Nat × List V × VH) : Bool := decide (a.1 = b.1) && eqWL a.2.1 b.2.1 && eqWLL a.2.2 b.2.2
def bothE {R : Type} (eq : R -> R -> Bool) (a b : Option R) : Option R :=
 match a, b with
 | some x, some y => match eq x y with | true => some x | false => none
 | _, _ => none
section
variable (X : XV) (A : Ann) (T : List Nat)
def codeE : Code -> {R : Type} -> (R -> R -> Bool) -> VS -> (Exit -> VS -> Option R) -> Option R
 | .skip, _, _, st, K => K .normal st
 | .region _ ops draw, _, _, st, K => match draw with
   | false => regV X A T ops ops.toList [] st fun _ st => K .normal st
   | true => regV X A T ops ops.toList [] st fun cl st => match orderOk ops cl.reverse with | true => K .normal st | false => none
 | .seq a b, _, eq, st, K => match (match isReg a with | true => none | false => joinOf A.joins (firstR a) (firstR b)) with
   | none => codeE a eq st fun e st => match e with | .normal => codeE b eq st K | e => K e st
   | some outs => (codeE a eqJ st fun e st => outV outs e st fun n vs hp => some (n, vs, hp)).bind fun r =>
     inV outs r.1 r.2.1 r.2.2 fun e st => match e with | .normal => codeE b eq st K | e => K e st
 | .cond c a b, _, eq, st, K => vaV X st c fun v => match v with
   | .bool true => codeE a eq st K
   | .bool false => codeE b eq st K
   | .ub => bothE eq (codeE a eq st K) (codeE b eq st K)
   | _ => none
 | .block id a, _, eq, st, K => codeE a eq st fun e st => match e with
   | .exit i => (match Nat.beq i id with | true => K .normal st | false => K (.exit i) st)
   | e => K e st
 | .loop a, _, _, st, K => match look A.loops (firstR a) with
   | none => none
   | some li => saveV li.ks st fun vs hp =>
     (X.lp (fun vs hp => loadV li.ks vs hp fun st => codeE a eqB st fun e st => match e with
      | .normal => saveV li.ks st fun vs hp => some (none, vs, hp)
      | e => outV li.outs e st fun n vs hp => some (some n, vs, hp)) vs hp).bind fun r =>
     inV li.outs r.1 r.2.1 r.2.2 K
 | .exit id, _, _, st, K => K (.exit id) st
 | .ret, _, _, st, K => K .ret st
 | _, _, _, _, _ => none
def bodyE (f : FuncId) (args : List V) (H : VH) : Option (V × VH) :=
 match X.fn f with
 | none => none
 | some fn => match fn.body with
   | none => none
   | some c => match dstC fn.ntmps c with
     | true => codeE X (X.ann f) (X.takes f) c eqR ⟨argsEV 0 args, [], H⟩ fun e st => (match e with
       | .normal | .ret => resV X fn.results.toList st fun vs st => some (oneV vs, st.H)
       | _ => none)
     | false => none
end
def callE (b : BaseV) : Nat -> CallV
 | 0, _, _, _ => none
 | n + 1, f, args, H => match b.prim f with
   | some g => g args H
   | none => bodyE (b.ctx (callE b n) (lpVN n)) f args H
section
variable {X : XV} {c : CallV} {l : LpV} {A : Ann} {T : List Nat}
end
end Go.AM

/- Contracts: bytes, words, texts cut at a byte, in the reference. -/
import Derived.Test.YtpmpggihngmnoaaGreatDoorScriptSayC12wordsZ
namespace Go.Proofs.YtpmpggihngmnoaaGreatDoor.Q
open Go Go.AM
set_option linter.unusedSimpArgs false
set_option linter.unusedVariables false
set_option linter.unusedSectionVars false
def alnB (c : Int) : Bool := decide (97 <= c /\ c <= 122 ∨ 65 <= c /\ c <= 90 ∨ 48 <= c /\ c <= 57)
def signsB : Bs := [33, 35, 36, 37, 38, 39, 42, 43, 45, 47, 61, 63, 94, 95, 96, 123, 124, 125, 126]
def lowB (b : UInt8) : UInt8 := if 65 <= b.toNat /\ b.toNat <= 90 then b + 32 else b
def lowT (s : Bs) : Bs := s.map lowB
def addrT (n l d : Bs) : Bool := (textT n && decide (n.length <= 40)) && (locT l && domT d)
def consH (cur : Bs) : List Bs -> List Bs
 | [] => [cur]
 | x :: r => (cur ++ x) :: r
theorem consH_nil (c : UInt8) (s : Bs) : consH [] (splitB c s) = splitB c s := by
 cases h : splitB c s with
 | nil => exact absurd h (splitB_ne c s)
 | cons x r => rfl
theorem consH_step (c b : UInt8) (cur l : Bs) : consH cur (splitB c (b :: l)) = if b = c then cur :: splitB c l else consH (cur ++ [b]) (splitB c l) := by
 conv => lhs; unfold splitB
 by_cases h : b = c
 ·simp [h, consH]
 ·rw [if_neg h, if_neg h]
  cases e : splitB c l with
  | nil => exact absurd e (splitB_ne c l)
  | cons x r => simp [consH]
theorem splitB_mem (c : UInt8) (s : Bs) : ∀ b ∈ s, b = c ∨ ∃ t ∈ splitB c s, b ∈ t := by
 induction s with
 | nil => intro b hb; cases hb
 | cons x l ih =>
   intro b hb
   unfold splitB
   by_cases h : x = c
   ·rw [if_pos h]
    rcases List.mem_cons.1 hb with rfl | hb
    ·exact .inl h
    ·rcases ih b hb with h1 | ⟨t, h1, h2⟩
     ·exact .inl h1
     ·exact .inr ⟨t, by simp [h1], h2⟩
   ·rw [if_neg h]
    cases e : splitB c l with
    | nil => exact absurd e (splitB_ne c l)
    | cons y r =>
      rcases List.mem_cons.1 hb with rfl | hb
      ·exact .inr ⟨b :: y, by simp, by simp⟩
      ·rcases ih b hb with h1 | ⟨t, h1, h2⟩
       ·exact .inl h1
       ·rw [e] at h1
        rcases List.mem_cons.1 h1 with rfl | h1
        ·exact .inr ⟨x :: t, by simp, by simp [h2]⟩
        ·exact .inr ⟨t, by simp [h1], h2⟩
theorem dom_low {s : Bs} (h : domT s = true) : lowT s = s := by
 simp only [domT, Bool.and_eq_true, Bool.not_eq_true', List.any_eq_false] at h
 unfold lowT
 have : ∀ b ∈ s, lowB b = b := by
  intro b hb
  rcases splitB_mem 46 s b hb with rfl | ⟨t, h1, h2⟩
  ·rfl
  ·have h3 : labT t = true := by have := h.2 t h1; simpa using this
   simp only [labT, Bool.and_eq_true, List.all_eq_true] at h3
   have h4 := h3.2 b h2
   simp only [labB, decide_eq_true_eq] at h4
   unfold lowB
   rw [if_neg (by omega)]
 exact (List.map_congr_left this).trans (List.map_id _)
theorem loc_noq {s : Bs} (h : (34 : UInt8) ∈ s) : locT s = false := by
 by_cases hl : locT s = true
 ·exfalso
  simp only [locT, Bool.and_eq_true, Bool.not_eq_true', List.any_eq_false] at hl
  rcases splitB_mem 46 s 34 h with h0 | ⟨t, h1, h2⟩
  ·exact absurd h0 (by decide)
  ·have h3 : atomT t = true := by have := hl.2 t h1; simpa using this
   simp only [atomT, Bool.and_eq_true, List.all_eq_true] at h3
   have h4 := h3.2 34 h2
   exact absurd h4 (by decide)
 ·simpa using hl
theorem l1Letter_c (c : Int) : qc id_spec_l1Letter [.int .u8 c] = some (.bool (alnB c)) := by
 refine qc_of (H := []) ?_ rfl rfl
 show cv _ _ _ = _
 rw [spec_l1Letter_eq]
 simp only [evv, decide_eq_true_eq, alnB]
 repeat' (first | (exact congrArg (fun b => some (V.bool b, ([] : VH))) (decide_eq_true (by omega)).symm) | (exact congrArg (fun b => some (V.bool b, ([] : VH))) (decide_eq_false (by omega)).symm) | (exact congrArg (fun b => some (V.bool b, ([] : VH))) (decide_eq_decide.2 (by omega))) | (refine ite_case (fun h => ?_) (fun h => ?_)))
theorem l1Atom_c (c : Int) : qc id_spec_l1Atom [.int .u8 c] = some (.bool (atomB c)) := by
 have e1 := l1Letter_c c
 refine qc_of (H := []) ?_ rfl rfl
 show cv _ _ _ = _
 rw [spec_l1Atom_eq]
 have loop := lv_any (B := spec_l1Atom_l2) (S := fun i => [.int .u8 c, .int .i64 (i : Nat)]) (H := []) (m0 := 0) (m1 := 1) (vs0 := [.int .u8 c]) (vs1 := [.bool true]) signsB (fun b => decide (c = (b.toNat : Int)))
  (fun i hi => by
   have hl : signsB.length = 19 := rfl
   have i1 : vIndexSV (.str [33, 35, 36, 37, 38, 39, 42, 43, 45, 47, 61, 63, 94, 95, 96, 123, 124, 125, 126]) (.int .i64 (i : Int)) = some (.int .u8 ((signsB[i]).toNat : Int)) := t_idx signsB .i64 i hi
   have e2 : vBinV (.int .i64) .add (.int .i64 (i : Int)) (.int .i64 1) = some (.int .i64 ((i + 1 : Nat) : Int)) := n_addN _ i 1 (by omega)
   rw [spec_l1Atom_l2_eq]
   simp only [evv, i1, e2, show ((i : Int) < 19) from by omega])
  (by
   rw [spec_l1Atom_l2_eq]
   rfl)
 have loop' : lpW' spec_l1Atom_l2 [.int .u8 c, .int .i64 0] [] = _ := loop
 have ha : (signsB.any fun b => decide (c = (b.toNat : Int))) = decide (c = 33 ∨ c = 35 ∨ c = 36 ∨ c = 37 ∨ c = 38 ∨ c = 39 ∨ c = 42 ∨ c = 43 ∨ c = 45 ∨ c = 47 ∨ c = 61 ∨ c = 63 ∨ c = 94 ∨ c = 95 ∨ c = 96 ∨ c = 123 ∨ c = 124 ∨ c = 125 ∨ c = 126) := by
  simp [signsB]
 simp only [evv, loop', ha, decide_eq_true_eq]
 by_cases h : c = 33 ∨ c = 35 ∨ c = 36 ∨ c = 37 ∨ c = 38 ∨ c = 39 ∨ c = 42 ∨ c = 43 ∨ c = 45 ∨ c = 47 ∨ c = 61 ∨ c = 63 ∨ c = 94 ∨ c = 95 ∨ c = 96 ∨ c = 123 ∨ c = 124 ∨ c = 125 ∨ c = 126
 ·have : atomB c = true := decide_eq_true (by omega)
  rw [if_pos h]
  simp only [evv, this]
 ·have : atomB c = alnB c := decide_eq_decide.2 (by omega)
  rw [if_neg h]
  simp only [evv, this, e1]
theorem spec_AtomValid_c (s : Bs) (hs : s.length <= 1000000000) : qc id_spec_AtomValid [.str s] = some (.bool (atomT s)) := by
 refine qc_of (H := []) ?_ (by simp only [evv]) rfl
 show cv _ _ _ = _
 rw [spec_AtomValid_eq]
 have loop := lv_any (B := spec_AtomValid_l2) (S := fun i => [.str s, .int .i64 (i : Nat)]) (H := []) (m0 := 0) (m1 := 1) (vs0 := [.str s]) (vs1 := [.bool false]) (s.take 41) (fun b => !atomB b.toNat)
  (fun i hi => by
   have hi' : i < s.length /\ i < 41 := by simp at hi; omega
   have i1 := t_idx s .i64 i hi'.1
   have e1 := l1Atom_c (s[i].toNat : Int)
   have e2 : vBinV (.int .i64) .add (.int .i64 (i : Int)) (.int .i64 1) = some (.int .i64 ((i + 1 : Nat) : Int)) := n_addN _ i 1 (by omega)
   rw [spec_AtomValid_l2_eq]
   simp only [evv, i1, e1, e2, List.getElem_take, show ((i : Int) < (s.length : Int)) from by omega, show ((i : Int) <= 40) from by omega])
  (by
   rw [spec_AtomValid_l2_eq]
   by_cases h : s.length <= 40
   ·have : (s.take 41).length = s.length := by simp; omega
    simp only [evv, this, show ¬ ((s.length : Int) < (s.length : Int)) from by omega]
   ·have : (s.take 41).length = 41 := by simp; omega
    by_cases h2 : (((41 : Nat) : Int) < (s.length : Int))
    ·simp only [evv, this, h2, show ¬ (((41 : Nat) : Int) <= 40) from by decide]
    ·simp only [evv, this, h2])
 have loop' : lpW' spec_AtomValid_l2 [.str s, .int .i64 0] [] = _ := loop
 simp only [evv, loop']
 by_cases h : s.length <= 40
 ·have ht : s.take 41 = s := List.take_of_length_le (by omega)
  have e : (s.all fun b => atomB b.toNat) = !(s.any fun b => !atomB b.toNat) := by rw [List.not_any_eq_all_not]; simp
  rw [ht]
  unfold atomT
  rw [e]
  by_cases hb : (s.any fun b => !atomB b.toNat) = true
  ·simp only [evv, hb, Bool.and_false]
  ·by_cases h1 : 1 <= s.length
   ·simp only [evv, hb, show ((s.length : Int) ≥ 1) from by omega, show ((s.length : Int) <= 40) from by omega, show 1 <= s.length /\ s.length <= 40 from ⟨h1, h⟩, Bool.true_and]
    simp [hb]
   ·simp only [evv, hb, show ¬ ((s.length : Int) ≥ 1) from by omega, show ¬ (1 <= s.length /\ s.length <= 40) from by omega, Bool.false_and]
 ·have : atomT s = false := by unfold atomT; rw [decide_eq_false (by omega), Bool.false_and]
  rw [this]
  by_cases hb : ((s.take 41).any fun b => !atomB b.toNat) = true
  ·simp only [evv, hb]
  ·simp only [evv, hb, show ((s.length : Int) ≥ 1) from by omega, show ¬ ((s.length : Int) <= 40) from by omega]
theorem spec_TextValid_c (s : Bs) (hs : s.length <= 1000000000) : qc id_spec_TextValid [.str s] = some (.bool (textT s)) := by
 refine qc_of (H := []) ?_ (by simp only [evv]) rfl
 show cv _ _ _ = _
 rw [spec_TextValid_eq]
 have loop := lv_any (B := spec_TextValid_l2) (S := fun i => [.str s, .int .i64 (i : Nat)]) (H := []) (m0 := 0) (m1 := 1) (vs0 := [.str s]) (vs1 := [.bool false]) (s.take 201) (fun b => wrB b.toNat)
  (fun i hi => by
   have hi' : i < s.length /\ i < 201 := by simp at hi; omega
   have i1 := t_idx s .i64 i hi'.1
   have e2 : vBinV (.int .i64) .add (.int .i64 (i : Int)) (.int .i64 1) = some (.int .i64 ((i + 1 : Nat) : Int)) := n_addN _ i 1 (by omega)
   rw [spec_TextValid_l2_eq]
   simp only [evv, i1, e2, wrB, List.getElem_take, show ((i : Int) < (s.length : Int)) from by omega, show ((i : Int) <= 200) from by omega]
   by_cases e : (s[i].toNat : Int) < 32
   ·simp only [evv, e, true_or]
   ·by_cases e3 : (s[i].toNat : Int) > 126
    ·simp only [evv, e, e3, show (126 : Int) < (s[i].toNat : Int) from e3, or_true]
    ·simp only [evv, e, e2, e3, show ¬ (126 : Int) < (s[i].toNat : Int) from e3, or_false])
  (by
   rw [spec_TextValid_l2_eq]
   by_cases h : s.length <= 200
   ·have : (s.take 201).length = s.length := by simp; omega
    simp only [evv, this, show ¬ ((s.length : Int) < (s.length : Int)) from by omega]
   ·have : (s.take 201).length = 201 := by simp; omega
    by_cases h2 : (((201 : Nat) : Int) < (s.length : Int))
    ·simp only [evv, this, h2, show ¬ (((201 : Nat) : Int) <= 200) from by decide]
    ·simp only [evv, this, h2])
 have loop' : lpW' spec_TextValid_l2 [.str s, .int .i64 0] [] = _ := loop
 simp only [evv, loop']
 by_cases h : s.length <= 200
 ·have ht : s.take 201 = s := List.take_of_length_le (by omega)
  rw [ht]
  unfold textT
  by_cases hb : (s.any fun b => wrB b.toNat) = true
  ·simp only [evv, hb, Bool.false_and]
  ·simp only [evv, hb, h, show ((s.length : Int) <= 200) from by omega, Bool.and_true]
   try simp [hb]
 ·have : textT s = false := by unfold textT; rw [decide_eq_false (by omega), Bool.and_false]
  rw [this]
  by_cases hb : ((s.take 201).any fun b => wrB b.toNat) = true
  ·simp only [evv, hb]
  ·simp only [evv, hb, show ¬ ((s.length : Int) <= 200) from by omega]
theorem l2Parts_c (s : Bs) (c : UInt8) (hs : s.length <= 4000000) : pc id_spec_l2Parts [.str s, .int .u8 (c.toNat : Int)] = some (.sl true (vT (splitB c s))) := by
 have hcnt : s.count c <= s.length := List.count_le_length
 have hlen := splitB_len c s
 suffices h : Gets (cv id_spec_l2Parts [.str s, .int .u8 (c.toNat : Int)] []) fun r => r.1 = .sl true (vT (splitB c s)) by
  obtain ⟨⟨v, H⟩, e, h⟩ := h
  have h : v = _ := h
  subst h
  exact pc_of e (by simp only [evv]) (by simp only [evv])
 rw [spec_l2Parts_eq]
 refine Gets.loop2 (I := fun n st H => ∃ (i start : Nat) (out : List Bs), n = s.length - i /\ i <= s.length /\ start <= i /\ st = [.str s, .int .u8 (c.toNat : Int), .sl true (vT out), .int .i64 (start : Nat), .int .i64 (i : Nat)] /\ out ++ consH ((s.drop start).take (i - start)) (splitB c (s.drop i)) = splitB c s)
  (P := fun m vs H => ∃ (start : Nat) (out : List Bs), m = 0 /\ vs = [.str s, .sl true (vT out), .int .i64 (start : Nat)] /\ start <= s.length /\ out ++ [s.drop start] = splitB c s) (n := s.length) ?_ ⟨0, 0, [], by omega, by omega, by omega, rfl, by simpa using consH_nil c s⟩ ?_
 ·rintro n st H ⟨i, start, out, rfl, hi, hst, rfl, inv⟩
  rw [spec_l2Parts_l4_eq]
  have hol : out.length <= s.length + 1 := by
   have := congrArg List.length inv
   rw [List.length_append] at this; omega
  by_cases hlt : i < s.length
  ·have i1 := t_idx s .i64 i hlt
   have e2 : vBinV (.int .i64) .add (.int .i64 (i : Int)) (.int .i64 1) = some (.int .i64 ((i + 1 : Nat) : Int)) := n_addN _ i 1 (by omega)
   rw [List.drop_eq_getElem_cons hlt, consH_step] at inv
   have hk : ((s[i].toNat : Int) = (c.toNat : Int)) ↔ s[i] = c := by
    constructor
    ·intro h; exact UInt8.toNat_inj.1 (by omega)
    ·intro h; rw [h]
   by_cases he : s[i] = c
   ·rw [if_pos he] at inv
    have p1 := t_sub s .i64 .i64 start i (by omega) (by omega)
    have a1 : appV false 1 16 (vT out) (.sl true [[.str ((s.drop start).take (i - start))]]) = some (.sl true (vT (out ++ [(s.drop start).take (i - start)]))) := by
     have := v_app 1 16 (vT out) true (vT [(s.drop start).take (i - start)]) (vT_esz _) (vT_esz _) (by rw [vT_len, vT_len]; simp; omega)
     rw [vT_app] at this
     exact this
    simp only [evv, i1, e2, hk, he, p1, a1, show ((i : Int) < (s.length : Int)) from by omega]
    refine ⟨_, rfl, .inr ⟨rfl, s.length - (i + 1), by omega, i + 1, i + 1, _, rfl, by omega, by omega, rfl, ?_⟩⟩
    rw [Nat.sub_self, List.take_zero, consH_nil, List.append_assoc]
    exact inv
   ·rw [if_neg he] at inv
    simp only [evv, i1, e2, hk, he, show ((i : Int) < (s.length : Int)) from by omega]
    refine ⟨_, rfl, .inr ⟨rfl, s.length - (i + 1), by omega, i + 1, start, out, rfl, by omega, by omega, rfl, ?_⟩⟩
    have : (s.drop start).take (i + 1 - start) = (s.drop start).take (i - start) ++ [s[i]] := by
     rw [show i + 1 - start = (i - start) + 1 from by omega, List.take_succ_eq_append_getElem (by simp; omega)]
     congr 2
     simp only [List.getElem_drop]
     congr 1; omega
    rw [this]
    exact inv
  ·have : i = s.length := by omega
   subst this
   simp only [evv, show ¬ ((s.length : Int) < (s.length : Int)) from by omega]
   refine ⟨_, rfl, .inl ⟨0, rfl, start, out, rfl, rfl, hst, ?_⟩⟩
   rw [List.drop_length] at inv
   simp only [splitB, consH, List.append_nil] at inv
   rw [List.take_of_length_le (by simp)] at inv
   exact inv
 rintro _ _ H ⟨start, out, rfl, rfl, hst, inv⟩
 have hol : out.length <= s.length + 1 := by
  have := congrArg List.length inv
  rw [List.length_append] at this; omega
 have p1 := t_suf s .i64 start hst
 have a1 : appV false 1 16 (vT out) (.sl true [[.str (s.drop start)]]) = some (.sl true (vT (out ++ [s.drop start]))) := by
  have := v_app 1 16 (vT out) true (vT [s.drop start]) (vT_esz _) (vT_esz _) (by rw [vT_len, vT_len]; simp; omega)
  rw [vT_app] at this
  exact this
 simp only [evv, p1, a1, inv]
 exact Gets.here rfl
theorem l2Local_c (s : Bs) (hs : s.length <= 4000000) : qc id_spec_l2Local [.str s] = some (.bool (locT s)) := by
 have e0 : pc id_spec_l2Parts [.str s, .int .u8 46] = _ := l2Parts_c s 46 hs
 have hcnt : s.count 46 <= s.length := List.count_le_length
 have hlen := splitB_len 46 s
 refine qc_of (H := []) ?_ (by simp only [evv]) rfl
 show cv _ _ _ = _
 rw [spec_l2Local_eq]
 have go : lpW' spec_l2Local_l3 [.str s, .sl false (vT (splitB 46 s)), .int .i64 ((0 : Nat) : Int)] [] = if (splitB 46 s).any (fun t => !atomT t) = true then some (1, [.bool false], []) else some (0, [.str s], []) := by
  have first : ∀ (i : Nat) (h : i < (splitB 46 s).length), spec_l2Local_l3 [.str s, .sl false (vT (splitB 46 s)), .int .i64 (i : Nat)] [] = if (fun t => !atomT t) (splitB 46 s)[i] = true then some (some 1, [.bool false], []) else some (none, [.str s, .sl false (vT (splitB 46 s)), .int .i64 ((i + 1 : Nat) : Int)], []) := by
   intro i hi
   have i1 := vT_idx false (splitB 46 s) .i64 i hi
   have hsm := splitB_small 46 s _ (List.getElem_mem hi)
   have e1 := spec_AtomValid_c (splitB 46 s)[i] (by omega)
   have e2 : vBinV (.int .i64) .add (.int .i64 (i : Int)) (.int .i64 1) = some (.int .i64 ((i + 1 : Nat) : Int)) := n_addN _ i 1 (by omega)
   rw [spec_l2Local_l3_eq]
   simp only [evv, i1, e1, e2, show ((i : Int) < ((splitB 46 s).length : Int)) from by omega]
  have last : spec_l2Local_l3 [.str s, .sl false (vT (splitB 46 s)), .int .i64 ((splitB 46 s).length : Nat)] [] = some (some 0, [.str s], []) := by
   rw [spec_l2Local_l3_eq]
   simp only [evv, show ¬ (((splitB 46 s).length : Int) < ((splitB 46 s).length : Int)) from by omega]
  have loop := lv_any (B := spec_l2Local_l3) (S := fun i => [.str s, .sl false (vT (splitB 46 s)), .int .i64 (i : Nat)]) (H := []) (m0 := 0) (m1 := 1) (vs0 := [.str s]) (vs1 := [.bool false]) (splitB 46 s) (fun t => !atomT t)
   (fun i hi => first i hi) last
  exact loop
 have loop' : lpW' spec_l2Local_l3 [.str s, .sl false (vT (splitB 46 s)), .int .i64 0] [] = _ := go
 simp only [evv, e0, loop', locT]
 by_cases hb : ((splitB 46 s).any fun t => !atomT t) = true
 ·simp only [evv, hb, Bool.and_false]
 ·simp only [evv, hb]
  by_cases h : s.length <= 30
  ·simp [h, hb]; omega
  ·simp [h, hb]; omega
theorem l2Domain_c (s : Bs) (hs : s.length <= 4000000) : qc id_spec_l2Domain [.str s] = some (.bool (domT s)) := by
 have e0 : pc id_spec_l2Parts [.str s, .int .u8 46] = _ := l2Parts_c s 46 hs
 have hcnt : s.count 46 <= s.length := List.count_le_length
 have hlen := splitB_len 46 s
 refine qc_of (H := []) ?_ (by simp only [evv]) rfl
 show cv _ _ _ = _
 rw [spec_l2Domain_eq]
 have go : lpW' spec_l2Domain_l3 [.str s, .sl false (vT (splitB 46 s)), .int .i64 ((0 : Nat) : Int)] [] = if (splitB 46 s).any (fun t => !labT t) = true then some (1, [.bool false], []) else some (0, [.str s], []) := by
  have first : ∀ (i : Nat) (h : i < (splitB 46 s).length), spec_l2Domain_l3 [.str s, .sl false (vT (splitB 46 s)), .int .i64 (i : Nat)] [] = if (fun t => !labT t) (splitB 46 s)[i] = true then some (some 1, [.bool false], []) else some (none, [.str s, .sl false (vT (splitB 46 s)), .int .i64 ((i + 1 : Nat) : Int)], []) := by
   intro i hi
   have i1 := vT_idx false (splitB 46 s) .i64 i hi
   have hsm := splitB_small 46 s _ (List.getElem_mem hi)
   have e2 : vBinV (.int .i64) .add (.int .i64 (i : Int)) (.int .i64 1) = some (.int .i64 ((i + 1 : Nat) : Int)) := n_addN _ i 1 (by omega)
   have inner := lv_any (B := spec_l2Domain_l9) (S := fun j => [.str s, .sl false (vT (splitB 46 s)), .int .i64 (i : Nat), .str (splitB 46 s)[i], .int .i64 (j : Nat)]) (H := []) (m0 := 0) (m1 := 1) (vs0 := [.str s, .sl false (vT (splitB 46 s)), .int .i64 (i : Nat)]) (vs1 := [.bool false]) (splitB 46 s)[i] (fun b => !labB b.toNat)
    (fun j hj => by
     have j1 := t_idx (splitB 46 s)[i] .i64 j hj
     have e4 : vBinV (.int .i64) .add (.int .i64 (j : Int)) (.int .i64 1) = some (.int .i64 ((j + 1 : Nat) : Int)) := n_addN _ j 1 (by omega)
     rw [spec_l2Domain_l9_eq]
     generalize ((splitB 46 s)[i])[j] = b at *
     have e1 := l1Letter_c (b.toNat : Int)
     simp only [evv, j1, e1, show ((j : Int) < (((splitB 46 s)[i]).length : Int)) from by omega]
     by_cases h1 : alnB (b.toNat : Int) = true
     ·by_cases h2 : (b.toNat : Int) ≥ 65
      ·by_cases h3 : (b.toNat : Int) <= 90
       ·have : labB (b.toNat : Int) = false := decide_eq_false (by simp only [alnB, decide_eq_true_eq] at h1; omega)
        simp only [evv, h1, h2, h3, this]
       ·have : labB (b.toNat : Int) = true := decide_eq_true (by simp only [alnB, decide_eq_true_eq] at h1; omega)
        simp only [evv, h1, h2, h3, this, e4]
      ·have : labB (b.toNat : Int) = true := decide_eq_true (by simp only [alnB, decide_eq_true_eq] at h1; omega)
       simp only [evv, h1, h2, this, e4]
     ·by_cases h4 : (b.toNat : Int) = 45
      ·have : labB (b.toNat : Int) = true := decide_eq_true (by omega)
       have h5 : alnB 45 = false := by decide
       have h6 : labB 45 = true := by decide
       simp only [evv, h5, h6, h4, e4, show ¬ ((45 : Int) ≥ 65) from by decide]
      ·have : labB (b.toNat : Int) = false := decide_eq_false (by simp only [alnB, decide_eq_true_eq] at h1; omega)
       simp only [evv, h1, h4, this])
    (by
     rw [spec_l2Domain_l9_eq]
     simp only [evv, show ¬ ((((splitB 46 s)[i]).length : Int) < (((splitB 46 s)[i]).length : Int)) from by omega])
   rw [spec_l2Domain_l3_eq]
   generalize hp : (splitB 46 s)[i] = p at *
   have inner' : lpW' spec_l2Domain_l9 [.str s, .sl false (vT (splitB 46 s)), .int .i64 (i : Nat), .str p, .int .i64 0] [] = _ := inner
   by_cases h0 : p = []
   ·subst h0
    simp only [evv, i1, show ((i : Int) < ((splitB 46 s).length : Int)) from by omega]
    rfl
   ·have hl : 0 < p.length := List.length_pos_iff.2 h0
    have p1 : vIndexSV (.str p) (.int .i64 0) = some (.int .u8 (p[0].toNat : Int)) := t_idx p .i64 0 hl
    have e3 : vBinV (.int .i64) .sub (.int .i64 (p.length : Int)) (.int .i64 1) = some (.int .i64 ((p.length - 1 : Nat) : Int)) := n_subN _ p.length 1 (by omega) (by omega)
    have p2 := t_idx p .i64 (p.length - 1) (by omega)
    have hd : p.head? = some p[0] := by rw [List.head?_eq_getElem?, List.getElem?_eq_getElem hl]
    have hz : p.getLast? = some p[p.length - 1] := by rw [List.getLast?_eq_getElem?, List.getElem?_eq_getElem (by omega)]
    have k : ∀ b : UInt8, ((b.toNat : Int) = 45) ↔ b = 45 := fun b => by
     constructor
     ·intro h
      have : b.toNat = 45 := by omega
      exact UInt8.toNat_inj.1 (by rw [this]; rfl)
     ·intro h; subst h; rfl
    have hall : (p.all fun b => labB b.toNat) = !(p.any fun b => !labB b.toNat) := by rw [List.not_any_eq_all_not]; simp
    simp only [evv, i1, h0, p1, e3, p2, k, labT, hd, hz, hall, show ((i : Int) < ((splitB 46 s).length : Int)) from by omega]
    by_cases h1 : p[0] = 45
    ·simp [evv, h1]
    ·by_cases h2 : p[p.length - 1] = 45
     ·simp [evv, h1, h2]
     ·by_cases h3 : (p.any fun b => !labB b.toNat) = true
      ·rw [if_pos h3] at inner'
       simp only [evv, h1, h2, inner']
       simp [h0, h1, h2, h3]
      ·rw [if_neg h3] at inner'
       simp only [evv, h1, h2, inner', e2]
       simp [h0, h1, h2, h3]
  have last : spec_l2Domain_l3 [.str s, .sl false (vT (splitB 46 s)), .int .i64 ((splitB 46 s).length : Nat)] [] = some (some 0, [.str s], []) := by
   rw [spec_l2Domain_l3_eq]
   simp only [evv, show ¬ (((splitB 46 s).length : Int) < ((splitB 46 s).length : Int)) from by omega]
  have loop := lv_any (B := spec_l2Domain_l3) (S := fun i => [.str s, .sl false (vT (splitB 46 s)), .int .i64 (i : Nat)]) (H := []) (m0 := 0) (m1 := 1) (vs0 := [.str s]) (vs1 := [.bool false]) (splitB 46 s) (fun t => !labT t)
   (fun i hi => first i hi) last
  exact loop
 have loop' : lpW' spec_l2Domain_l3 [.str s, .sl false (vT (splitB 46 s)), .int .i64 0] [] = _ := go
 simp only [evv, e0, loop', domT]
 by_cases hb : ((splitB 46 s).any fun t => !labT t) = true
 ·simp only [evv, hb, Bool.and_false]
 ·simp only [evv, hb]
  by_cases h : s.length <= 40
  ·simp [h, hb]; omega
  ·simp [h, hb]; omega
theorem l2Name_c (s : Bs) (hs : s.length <= 4000000) : qc id_spec_l2Name [.str s] = some (.bool (textT s && decide (s.length <= 40))) := by
 have e1 := spec_TextValid_c s (by omega)
 refine qc_of (H := []) ?_ (by simp only [evv]) rfl
 show cv _ _ _ = _
 rw [spec_l2Name_eq]
 have : decide ((s.length : Int) <= 40) = decide (s.length <= 40) := decide_eq_decide.2 (by omega)
 simp only [evv, e1, this]
 by_cases h : textT s = true <;> simp [h]
theorem spec_AddressValid_c (n l d : Bs) (hn : n.length <= 4000000) (hl : l.length <= 4000000) (hd : d.length <= 4000000) : qc id_spec_AddressValid [.agg [.str n, .str l, .str d]] = some (.bool (addrT n l d)) := by
 have e1 := l2Name_c n hn
 have e2 := l2Local_c l hl
 have e3 := l2Domain_c d hd
 refine qc_of (H := []) ?_ (by simp only [evv]) rfl
 show cv _ _ _ = _
 rw [spec_AddressValid_eq]
 simp only [evv, e1, e2, e3, addrT]
 by_cases h1 : (textT n && decide (n.length <= 40)) = true
 ·by_cases h2 : (l.length : Int) <= 30
  ·by_cases h3 : locT l = true
   ·by_cases h4 : (d.length : Int) <= 40
    ·simp [h1, h2, h3, h4]
    ·have : domT d = false := by unfold domT; rw [decide_eq_false (by omega), Bool.false_and]
     simp [h1, h2, h3, h4, this]
   ·simp [h1, h2, h3]
  ·have : locT l = false := by unfold locT; rw [decide_eq_false (by omega), Bool.false_and]
   simp [h1, h2, this]
 ·simp [h1]
theorem lowB_nat {b : UInt8} (h1 : 65 <= (b.toNat : Int)) (h2 : (b.toNat : Int) <= 90) : ((lowB b).toNat : Int) = (b.toNat : Int) + 32 := by
 unfold lowB
 rw [if_pos (by omega), UInt8.toNat_add]
 have : (32 : UInt8).toNat = 32 := rfl
 omega
theorem lowB_no {b : UInt8} (h : ¬ (65 <= (b.toNat : Int) /\ (b.toNat : Int) <= 90)) : lowB b = b := by
 unfold lowB
 rw [if_neg (by omega)]
def lowI (s : Bs) (i : Nat) : Bs := (s.take i).map lowB ++ s.drop i
theorem lowI_len (s : Bs) (i : Nat) : (lowI s i).length = s.length := by simp [lowI]; omega
theorem lowI_get (s : Bs) (i : Nat) (h : i < s.length) : (lowI s i)[i]'(by rw [lowI_len]; exact h) = s[i] := by
 simp only [lowI]
 rw [List.getElem_append_right (by simp; omega)]
 simp only [List.length_map, List.length_take, List.getElem_drop]
 congr 1; omega
theorem lowI_step (s : Bs) (i : Nat) (h : i < s.length) : (lowI s i).set i (lowB s[i]) = lowI s (i + 1) := by
 have h0 : ((s.take i).map lowB).length = i := by simp; omega
 conv => lhs; rw [lowI, List.drop_eq_getElem_cons h, List.set_append_right _ _ (by omega), h0, Nat.sub_self, List.set_cons_zero]
 rw [lowI, List.take_succ_eq_append_getElem h, List.map_append, List.append_assoc]
 rfl
theorem lowI_all (s : Bs) : lowI s s.length = lowT s := by simp [lowI, lowT]
theorem spec_LowerText_c (s : Bs) (hs : s.length <= 1000000000) : qc id_spec_LowerText [.str s] = some (.str (lowT s)) := by
 suffices h : Gets (cv id_spec_LowerText [.str s] []) fun r => r.1 = .str (lowT s) by
  obtain ⟨⟨v, H⟩, e, h⟩ := h
  have h : v = _ := h
  subst h
  exact qc_of e (by simp only [evv]) rfl
 rw [spec_LowerText_eq]
 simp only [evv, s2b_c, cB_len, List.nil_append]
 refine Gets.loop2 (I := fun n st H => ∃ i : Nat, n = s.length - i /\ i <= s.length /\ st = [.obs 0 0 s.length 1, .int .i64 (i : Nat)] /\ H[0]? = some (cB (lowI s i)))
  (P := fun m vs H => m = 0 /\ vs = [.obs 0 0 s.length 1] /\ H[0]? = some (cB (lowT s))) (n := s.length) ?_ ⟨0, by omega, by omega, rfl, by simp [lowI]⟩ ?_
 ·rintro n st H ⟨i, rfl, hi, rfl, hk⟩
  rw [spec_LowerText_l3_eq]
  by_cases hlt : i < s.length
  ·have ho := ob_idx 0 0 s.length 1 .i64 i hlt
   have hl := ld_c (g := globB) (i := i) hk (by rw [lowI_len]; exact hlt)
   rw [lowI_get s i hlt] at hl
   have e2 : vBinV (.int .i64) .add (.int .i64 (i : Int)) (.int .i64 1) = some (.int .i64 ((i + 1 : Nat) : Int)) := n_addN _ i 1 (by omega)
   have hst := st_c (i := i) (lowB s[i]) hk (by rw [lowI_len]; exact hlt)
   rw [lowI_step s i hlt] at hst
   simp only [Nat.zero_add, Nat.mul_one] at ho
   have hself : (lowI s i).set i s[i] = lowI s i := by
    have h := lowI_get s i hlt
    rw [<- h]
    exact List.set_getElem_self _
   have stay : lowB s[i] = s[i] -> H[0]? = some (cB (lowI s (i + 1))) := fun hb => by
    rw [hk, <- lowI_step s i hlt, hb, hself]
   by_cases h1 : (s[i].toNat : Int) ≥ 65
   ·by_cases h2 : (s[i].toNat : Int) <= 90
    ·have e3 := n_add8 (.int .u8) (s[i].toNat : Int) 32 (by omega) (by omega)
     rw [<- lowB_nat h1 h2] at e3
     simp only [evv, ho, hl, h1, h2, e3, hst, e2, show ((i : Int) < (s.length : Int)) from by omega]
     exact ⟨_, rfl, .inr ⟨rfl, s.length - (i + 1), by omega, i + 1, rfl, by omega, rfl, by rw [List.getElem?_set, if_pos rfl, if_pos (List.getElem?_eq_some_iff.1 hk).1]⟩⟩
    ·simp only [evv, ho, hl, h1, h2, e2, show ((i : Int) < (s.length : Int)) from by omega]
     exact ⟨_, rfl, .inr ⟨rfl, s.length - (i + 1), by omega, i + 1, rfl, by omega, rfl, stay (lowB_no (by omega))⟩⟩
   ·simp only [evv, ho, hl, h1, e2, show ((i : Int) < (s.length : Int)) from by omega]
    exact ⟨_, rfl, .inr ⟨rfl, s.length - (i + 1), by omega, i + 1, rfl, by omega, rfl, stay (lowB_no (by omega))⟩⟩
  ·have : i = s.length := by omega
   subst this
   simp only [evv, show ¬ ((s.length : Int) < (s.length : Int)) from by omega]
   exact ⟨_, rfl, .inl ⟨0, rfl, rfl, rfl, by rw [hk, lowI_all]⟩⟩
 rintro _ _ H ⟨rfl, rfl, hk⟩
 have hb := b2s_c hk
 have hl : (lowT s).length = s.length := by simp [lowT]
 rw [hl] at hb
 simp only [evv, hb]
 exact Gets.here rfl
theorem l1Read_g (s : Bs) (a : Nat) (ha : a < s.length) (hs : s.length <= 1000000000) : ∃ t j, qc id_spec_l1Read [.str s, .int .i64 (a : Nat)] = some (.tup [.str t, .int .i64 j]) /\ (j < 0 ∨ ∃ k : Nat, j = k /\ a < k /\ k <= s.length) := by
 suffices h : Gets (cv id_spec_l1Read [.str s, .int .i64 (a : Nat)] []) fun r => ∃ t j, r.1 = .tup [.str t, .int .i64 j] /\ (j < 0 ∨ ∃ k : Nat, j = k /\ a < k /\ k <= s.length) by
  obtain ⟨⟨v, H⟩, e, t, j, h, hj⟩ := h
  have h : v = _ := h
  subst h
  exact ⟨t, j, qc_of e (by simp only [evv]) (by simp only [evv]), hj⟩
 have e0 : vBinV (.int .i64) .add (.int .i64 (a : Int)) (.int .i64 1) = some (.int .i64 ((a + 1 : Nat) : Int)) := n_addN _ a 1 (by omega)
 rw [spec_l1Read_eq]
 simp only [evv, e0]
 refine Gets.loop2 (I := fun n st H => ∃ (i : Nat) (t : Bs), n = s.length - i /\ a < i /\ i <= s.length /\ t.length <= i /\ st = [.str s, .str t, .int .i64 (i : Nat)])
  (P := fun m vs H => (m = 0 /\ vs = []) ∨ ∃ (t : Bs) (j : Int), m = 1 /\ vs = [.str t, .int .i64 j] /\ (j < 0 ∨ ∃ k : Nat, j = k /\ a < k /\ k <= s.length)) (n := s.length - (a + 1)) ?_ ⟨a + 1, [], rfl, by omega, by omega, by simp, rfl⟩ ?_
 ·rintro n st H ⟨i, t, rfl, hai, hi, ht, rfl⟩
  rw [spec_l1Read_l3_eq]
  by_cases hlt : i < s.length
  ·have i1 := t_idx s .i64 i hlt
   have e2 : vBinV (.int .i64) .add (.int .i64 (i : Int)) (.int .i64 1) = some (.int .i64 ((i + 1 : Nat) : Int)) := n_addN _ i 1 (by omega)
   by_cases h1 : (s[i].toNat : Int) = 34
   ·simp only [evv, i1, h1, e2, show ((i : Int) < (s.length : Int)) from by omega]
    exact ⟨_, rfl, .inl ⟨1, rfl, .inr ⟨t, _, rfl, rfl, .inr ⟨i + 1, rfl, by omega, by omega⟩⟩⟩⟩
   ·by_cases h2 : (s[i].toNat : Int) = 92
    ·by_cases h3 : i + 1 = s.length
     ·simp only [evv, i1, h1, h2, e2, show ¬ ((92 : Int) = 34) from by decide, show (((i + 1 : Nat) : Int) = (s.length : Int)) from by omega, show ((i : Int) < (s.length : Int)) from by omega]
      exact ⟨_, rfl, .inl ⟨1, rfl, .inr ⟨[], -1, rfl, rfl, .inl (by omega)⟩⟩⟩
     ·have e3 : vBinV (.int .i64) .add (.int .i64 ((i + 1 : Nat) : Int)) (.int .i64 1) = some (.int .i64 ((i + 1 + 1 : Nat) : Int)) := n_addN _ (i + 1) 1 (by omega)
      have p1 := t_sub s .i64 .i64 (i + 1) (i + 1 + 1) (by omega) (by omega)
      have a1 := t_add .str t ((s.drop (i + 1)).take (i + 1 + 1 - (i + 1))) (by simp; omega)
      simp only [evv, i1, h1, h2, e2, e3, p1, a1, show ¬ ((92 : Int) = 34) from by decide, show ¬ (((i + 1 : Nat) : Int) = (s.length : Int)) from by omega, show ((i : Int) < (s.length : Int)) from by omega]
      exact ⟨_, rfl, .inr ⟨rfl, s.length - (i + 1 + 1), by omega, i + 1 + 1, _, rfl, by omega, by omega, by simp; omega, rfl⟩⟩
    ·have p1 := t_sub s .i64 .i64 i (i + 1) (by omega) (by omega)
     have a1 := t_add .str t ((s.drop i).take (i + 1 - i)) (by simp; omega)
     simp only [evv, i1, h1, h2, e2, p1, a1, show ((i : Int) < (s.length : Int)) from by omega]
     exact ⟨_, rfl, .inr ⟨rfl, s.length - (i + 1), by omega, i + 1, _, rfl, by omega, by omega, by simp; omega, rfl⟩⟩
  ·simp only [evv, show ¬ ((i : Int) < (s.length : Int)) from by omega]
   exact ⟨_, rfl, .inl ⟨0, rfl, .inl ⟨rfl, rfl⟩⟩⟩
 rintro _ _ H (⟨rfl, rfl⟩ | ⟨t, j, rfl, rfl, hj⟩)
 ·simp only [evv]
  exact Gets.here ⟨[], -1, rfl, .inl (by omega)⟩
 ·simp only [evv]
  exact Gets.here ⟨t, j, rfl, hj⟩
def CutR (c : UInt8) (s a z : Bs) (ok : Bool) : Prop := ((34 : UInt8) ∉ cutA c s /\ a = cutA c s /\ z = cutZ c s /\ ok = decide (c ∈ s)) ∨ ((34 : UInt8) ∈ cutA c s /\ (34 : UInt8) ∈ a /\ a.length <= s.length /\ z.length <= s.length)
theorem cutA_at {c : UInt8} {s : Bs} {i : Nat} (hi : i < s.length) (h : s[i] = c) (hn : c ∉ s.take i) : c ∈ s /\ s.idxOf c = i := by
 have hm : c ∈ s := by rw [<- h]; exact List.getElem_mem hi
 refine ⟨hm, ?_⟩
 have e : s = s.take i ++ c :: s.drop (i + 1) := by
  conv => lhs; rw [<- List.take_append_drop i s, List.drop_eq_getElem_cons hi, h]
 rw [e, List.idxOf_append, if_neg hn]
 simp; omega
theorem l2Cut_g (s : Bs) (c : UInt8) (hc : c ≠ 34) (hs : s.length <= 1000000000) : ∃ a z ok, qc id_spec_l2Cut [.str s, .int .u8 (c.toNat : Int)] = some (.tup [.str a, .str z, .bool ok]) /\ CutR c s a z ok := by
 suffices h : Gets (cv id_spec_l2Cut [.str s, .int .u8 (c.toNat : Int)] []) fun r => ∃ a z ok, r.1 = .tup [.str a, .str z, .bool ok] /\ CutR c s a z ok by
  obtain ⟨⟨v, H⟩, e, a, z, ok, h, hj⟩ := h
  have h : v = _ := h
  subst h
  exact ⟨a, z, ok, qc_of e (by simp only [evv]) (by simp only [evv]), hj⟩
 rw [spec_l2Cut_eq]
 refine Gets.loop2 (I := fun n st H => ∃ (i : Nat), n = s.length - i /\ i <= s.length /\ st = [.str s, .int .u8 (c.toNat : Int), .int .i64 (i : Nat)] /\ ((c ∉ s.take i /\ (34 : UInt8) ∉ s.take i) ∨ ((34 : UInt8) ∈ s.take i /\ (34 : UInt8) ∈ cutA c s)))
  (P := fun m vs H => (m = 0 /\ vs = [.str s] /\ CutR c s s [] false) ∨ ∃ a z ok, m = 1 /\ vs = [.str a, .str z, .bool ok] /\ CutR c s a z ok) (n := s.length) ?_ ⟨0, by omega, by omega, rfl, .inl ⟨by simp, by simp⟩⟩ ?_
 ·rintro n st H ⟨i, rfl, hi, rfl, inv⟩
  rw [spec_l2Cut_l2_eq]
  by_cases hlt : i < s.length
  ·have i1 := t_idx s .i64 i hlt
   have hts : s.take (i + 1) = s.take i ++ [s[i]] := List.take_succ_eq_append_getElem hlt
   have e2 : vBinV (.int .i64) .add (.int .i64 (i : Int)) (.int .i64 1) = some (.int .i64 ((i + 1 : Nat) : Int)) := n_addN _ i 1 (by omega)
   by_cases h1 : (s[i].toNat : Int) = 34
   ·have hq : s[i] = 34 := UInt8.toNat_inj.1 (by rw [show s[i].toNat = 34 from by omega]; rfl)
    have hA : (34 : UInt8) ∈ cutA c s := by
     rcases inv with ⟨hn, _⟩ | ⟨_, h⟩
     ·unfold cutA
      split
      ·rename_i hm
       have hge : i + 1 <= s.idxOf c := by
        by_cases hlt2 : s.idxOf c < i + 1
        ·exfalso
         have hlt3 := List.idxOf_lt_length_iff.2 hm
         have hg : s[s.idxOf c] = c := List.getElem_idxOf hlt3
         by_cases he : s.idxOf c = i
         ·simp only [he] at hg; rw [hq] at hg; exact hc hg.symm
         ·exact hn (by
           have : c = (s.take i)[s.idxOf c]'(by simp; omega) := by rw [List.getElem_take, hg]
           rw [this]; exact List.getElem_mem _)
        ·omega
       have : (34 : UInt8) ∈ s.take (i + 1) := by rw [hts, hq]; simp
       exact List.take_subset_take_left s hge this
      ·rw [<- hq]; exact List.getElem_mem hlt
     ·exact h
    obtain ⟨t, j, e3, hj⟩ := l1Read_g s i hlt hs
    rcases hj with hj | ⟨k, rfl, hk1, hk2⟩
    ·simp only [evv, i1, h1, e3, hj, show ((i : Int) < (s.length : Int)) from by omega]
     exact ⟨_, rfl, .inl ⟨1, rfl, .inr ⟨s, [], false, rfl, rfl, .inr ⟨hA, by rw [<- hq]; exact List.getElem_mem hlt, by simp, by simp⟩⟩⟩⟩
    ·simp only [evv, i1, h1, e3, show ¬ ((k : Int) < 0) from by omega, show ((i : Int) < (s.length : Int)) from by omega]
     refine ⟨_, rfl, .inr ⟨rfl, s.length - k, by omega, k, rfl, hk2, rfl, .inr ⟨?_, hA⟩⟩⟩
     have : (34 : UInt8) ∈ s.take (i + 1) := by rw [hts, hq]; simp
     exact List.take_subset_take_left s hk1 this
   ·have hq : ¬ (34 : UInt8) = s[i] := fun e => h1 (by rw [<- e]; rfl)
    have hk : ((s[i].toNat : Int) = (c.toNat : Int)) ↔ s[i] = c := by
     constructor
     ·intro h; exact UInt8.toNat_inj.1 (by omega)
     ·intro h; rw [h]
    by_cases h2 : s[i] = c
    ·have p1 := t_pre s .i64 i (by omega)
     have p2 := t_suf s .i64 (i + 1) (by omega)
     have h3 : ¬ (c.toNat : Int) = 34 := by rw [<- h2]; exact h1
     rw [h2] at i1
     simp only [evv, i1, h3, e2, p1, p2, show ((i : Int) < (s.length : Int)) from by omega]
     refine ⟨_, rfl, .inl ⟨1, rfl, .inr ⟨s.take i, s.drop (i + 1), true, rfl, rfl, ?_⟩⟩⟩
     rcases inv with ⟨hn, hn2⟩ | ⟨h, hA⟩
     ·obtain ⟨hm, hix⟩ := cutA_at hlt h2 hn
      have eA : cutA c s = s.take i := by unfold cutA; rw [if_pos hm, hix]
      have eZ : cutZ c s = s.drop (i + 1) := by unfold cutZ; rw [if_pos hm, hix]
      exact .inl ⟨by rw [eA]; exact hn2, eA.symm, eZ.symm, (decide_eq_true hm).symm⟩
     ·exact .inr ⟨hA, h, by simp; omega, by simp⟩
    ·simp only [evv, i1, h1, hk, h2, e2, show ((i : Int) < (s.length : Int)) from by omega]
     refine ⟨_, rfl, .inr ⟨rfl, s.length - (i + 1), by omega, i + 1, rfl, by omega, rfl, ?_⟩⟩
     rcases inv with ⟨hn, hn2⟩ | ⟨h, hA⟩
     ·refine .inl ⟨fun h => ?_, fun h => ?_⟩
      ·rw [hts, List.mem_append, List.mem_singleton] at h
       rcases h with h | h
       ·exact hn h
       ·exact h2 h.symm
      ·rw [hts, List.mem_append, List.mem_singleton] at h
       rcases h with h | h
       ·exact hn2 h
       ·exact hq h
     ·exact .inr ⟨by rw [hts, List.mem_append]; exact .inl h, hA⟩
  ·have : i = s.length := by omega
   subst this
   simp only [evv, show ¬ ((s.length : Int) < (s.length : Int)) from by omega]
   refine ⟨_, rfl, .inl ⟨0, rfl, .inl ⟨rfl, rfl, ?_⟩⟩⟩
   rw [List.take_length] at inv
   rcases inv with ⟨hn, hn2⟩ | ⟨h, hA⟩
   ·have eA : cutA c s = s := by unfold cutA; rw [if_neg hn]
    have eZ : cutZ c s = [] := by unfold cutZ; rw [if_neg hn]
    exact .inl ⟨by rw [eA]; exact hn2, eA.symm, eZ.symm, (decide_eq_false hn).symm⟩
   ·exact .inr ⟨hA, h, by simp, by simp⟩
 rintro _ _ H (⟨rfl, rfl, h⟩ | ⟨a, z, ok, rfl, rfl, h⟩)
 ·simp only [evv]
  exact Gets.here ⟨s, [], false, rfl, h⟩
 ·simp only [evv]
  exact Gets.here ⟨a, z, ok, rfl, h⟩
theorem CutR.len {c : UInt8} {s a z : Bs} {ok : Bool} (h : CutR c s a z ok) : a.length <= s.length /\ z.length <= s.length := by
 rcases h with ⟨_, rfl, rfl, _⟩ | ⟨_, _, h⟩
 ·exact ⟨cutA_len c s, cutZ_len c s⟩
 ·exact h
theorem l2Box_g (s : Bs) (hs : s.length <= 4000000) : ∃ a z ok, pc id_spec_l2Box [.str s] = some (.tup [.agg [.str [], .str a, .str (lowT z)], .bool (ok && addrT [] a (lowT z))]) /\ CutR 64 s a z ok := by
 obtain ⟨a, z, ok, e1, hR⟩ := l2Cut_g s 64 (by decide) (by omega)
 have hl := hR.len
 have e1' : qc id_spec_l2Cut [.str s, .int .u8 64] = _ := e1
 have e2 := spec_LowerText_c z (by omega)
 have e3 := spec_AddressValid_c [] a (lowT z) (by simp) (by omega) (by simp [lowT]; omega)
 refine ⟨a, z, ok, pc_of (H := []) ?_ (by simp only [evv]) (by simp only [evv]), hR⟩
 show cv _ _ _ = _
 rw [spec_l2Box_eq]
 simp only [evv, e1', e2, e3]
 by_cases h : ok = true
 ·simp [h]
 ·simp [h]
theorem path_cut {s : Bs} (h : (64 : UInt8) ∈ s) : s = cutA 64 s ++ [64] ++ cutZ 64 s := by
 have hlt := List.idxOf_lt_length_iff.2 h
 have hg : s[s.idxOf 64] = 64 := List.getElem_idxOf hlt
 unfold cutA cutZ
 rw [if_pos h, if_pos h]
 conv => lhs; rw [<- List.take_append_drop (s.idxOf 64) s, List.drop_eq_getElem_cons hlt, hg]
 simp
theorem l10Box_c (s : Bs) (hs : s.length <= 4000000) : qc id_spec_l10Box [.str s] = some (.bool (pathT s)) := by
 obtain ⟨a, z, ok, e1, hR⟩ := l2Box_g s hs
 have hl := hR.len
 have hlow : (lowT z).length = z.length := by simp [lowT]
 have a1 := t_add .str a [64] (by simp; omega)
 have a2 := t_add .str (a ++ [64]) (lowT z) (by simp [hlow]; omega)
 refine qc_of (H := []) ?_ (by simp only [evv]) rfl
 show cv _ _ _ = _
 rw [spec_l10Box_eq]
 simp only [evv, e1, a1, a2]
 have key : pathT s = (ok && addrT [] a (lowT z) && decide (a ++ [64] ++ lowT z = s)) := by
  rcases hR with ⟨hq, rfl, rfl, rfl⟩ | ⟨hq, hok, _, _⟩
  ·unfold pathT
   by_cases hm : (64 : UInt8) ∈ s
   ·rw [decide_eq_true hm, Bool.true_and, Bool.true_and]
    have ht : addrT [] (cutA 64 s) (lowT (cutZ 64 s)) = (locT (cutA 64 s) && domT (lowT (cutZ 64 s))) := by
     unfold addrT
     rw [show (textT [] && decide (([] : Bs).length <= 40)) = true from rfl, Bool.true_and]
    rw [ht]
    by_cases hz : lowT (cutZ 64 s) = cutZ 64 s
    ·rw [hz, decide_eq_true (path_cut hm).symm, Bool.and_true]
    ·have h1 : domT (cutZ 64 s) = false := by
      cases h : domT (cutZ 64 s) with
      | false => rfl
      | true => exact absurd (dom_low h) hz
     have h2 : ¬ (cutA 64 s ++ [64] ++ lowT (cutZ 64 s) = s) := fun h => by
      have h3 := path_cut hm
      exact hz (List.append_cancel_left (h.trans h3))
     rw [h1, decide_eq_false h2, Bool.and_false, Bool.and_false]
   ·rw [decide_eq_false hm]; rfl
  ·have h1 : pathT s = false := by unfold pathT; rw [loc_noq hq, Bool.false_and, Bool.and_false]
   rw [h1]
   cases ok with
   | false => rfl
   | true =>
     have h2 := loc_noq hok
     have : addrT [] a (lowT z) = false := by unfold addrT; rw [h2, Bool.false_and, Bool.and_false]
     rw [this]; rfl
 rw [key]
 by_cases h : (ok && addrT [] a (lowT z)) = true
 ·simp only [evv, h, Bool.true_and]
 ·simp only [evv, h, Bool.false_and]
  try simp
end Go.Proofs.YtpmpggihngmnoaaGreatDoor.Q

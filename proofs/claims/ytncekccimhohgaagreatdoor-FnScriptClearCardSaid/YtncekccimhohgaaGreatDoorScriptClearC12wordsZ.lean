/- Contracts: bytes, words, texts cut at a byte. -/
import Derived.Test.YtncekccimhohgaaGreatDoorScriptClearC10drawZ
import Derived.Test.YtncekccimhohgaaGreatDoorFnScriptClearK5
namespace Go.Proofs.YtncekccimhohgaaGreatDoor.Q
open Go Go.AM
set_option linter.unusedSimpArgs false
set_option linter.unusedVariables false
set_option linter.unusedSectionVars false
def digB (c : Int) : Bool := decide (48 <= c /\ c <= 57)
def letB (c : Int) : Bool := decide (97 <= c /\ c <= 122 ∨ 65 <= c /\ c <= 90)
def atomB (c : Int) : Bool := decide (97 <= c /\ c <= 122 ∨ 65 <= c /\ c <= 90 ∨ 48 <= c /\ c <= 57 ∨ c = 33 ∨ 35 <= c /\ c <= 39 ∨ c = 42 ∨ c = 43 ∨ c = 45 ∨ c = 47 ∨ c = 61 ∨ c = 63 ∨ 94 <= c /\ c <= 96 ∨ 123 <= c /\ c <= 126)
def labB (c : Int) : Bool := decide (97 <= c /\ c <= 122 ∨ 48 <= c /\ c <= 57 ∨ c = 45)
def wrB (c : Int) : Bool := decide (c < 32 ∨ 126 < c)
def atomT (s : Bs) : Bool := decide (1 <= s.length /\ s.length <= 40) && s.all fun b => atomB b.toNat
def labT (s : Bs) : Bool := decide (s ≠ [] /\ s.head? ≠ some 45 /\ s.getLast? ≠ some 45) && s.all fun b => labB b.toNat
def textT (s : Bs) : Bool := !(s.any fun b => wrB b.toNat) && decide (s.length <= 200)
def locT (s : Bs) : Bool := decide (s.length <= 30) && !(splitB 46 s).any fun t => !atomT t
def domT (s : Bs) : Bool := decide (s.length <= 40) && !(splitB 46 s).any fun t => !labT t
def pathT (s : Bs) : Bool := decide ((64 : UInt8) ∈ s) && (locT (cutA 64 s) && domT (cutZ 64 s))
def fromT (s : Bs) : Bool := decide (s = []) || pathT s
theorem isDigit_c (c : Int) : qc id_impl_isDigit [.int .u8 c] = some (.bool (digB c)) := by
 refine qc_of (H := []) ?_ rfl rfl
 show cv _ _ _ = _
 rw [impl_isDigit_eq]
 simp only [evv, decide_eq_true_eq, digB]
 by_cases h1 : 48 <= c <;> by_cases h2 : c <= 57 <;> simp [h1, h2]
theorem allBytes_c (g : Nat) (p : Int -> Bool) (hg : ∀ c, qc g [.int .u8 c] = some (.bool (p c))) (s : Bs) (hs : s.length <= 1000000000) : qc id_impl_allBytes [.str s, .fn g []] = some (.bool (s.all fun b => p b.toNat)) := by
 refine qc_of (H := []) ?_ (by simp only [evv]) rfl
 show cv _ _ _ = _
 rw [impl_allBytes_eq]
 have loop := lv_any (B := impl_allBytes_l2) (S := fun i => [.str s, .fn g [], .int .i64 s.length, .int .i64 (i : Nat)]) (H := []) (m0 := 0) (m1 := 1) (vs0 := []) (vs1 := [.bool false]) s (fun b => !p b.toNat)
  (fun i hi => by
   have i1 := t_idx s .i64 i hi
   have e2 : vBinV (.int .i64) .add (.int .i64 (i : Int)) (.int .i64 1) = some (.int .i64 ((i + 1 : Nat) : Int)) := n_addN _ i 1 (by omega)
   rw [impl_allBytes_l2_eq]
   simp only [evv, i1, e2, hg, show ((i : Int) < (s.length : Int)) from by omega]
   try (by_cases e : p s[i].toNat = true <;> simp [e]))
  (by
   rw [impl_allBytes_l2_eq]
   simp only [evv, show ¬ ((s.length : Int) < (s.length : Int)) from by omega])
 have loop' : lpW' impl_allBytes_l2 [.str s, .fn g [], .int .i64 s.length, .int .i64 0] [] = _ := loop
 have e : (s.all fun b => p b.toNat) = !(s.any fun b => !p b.toNat) := by rw [List.not_any_eq_all_not]; simp
 simp only [evv, loop', e]
 by_cases h : (s.any fun b => !p b.toNat) = true <;> simp only [evv, h]
theorem TextValid_c (s : Bs) (hs : s.length <= 1000000000) : qc id_impl_TextValid [.str s] = some (.bool (textT s)) := by
 refine qc_of (H := []) ?_ (by simp only [evv]) rfl
 show cv _ _ _ = _
 rw [impl_TextValid_eq]
 have loop := lv_any (B := impl_TextValid_l2) (S := fun i => [.str s, .int .i64 s.length, .int .i64 (i : Nat)]) (H := []) (m0 := 0) (m1 := 1) (vs0 := [.str s]) (vs1 := [.bool false]) s (fun b => wrB b.toNat)
  (fun i hi => by
   have i1 := t_idx s .i64 i hi
   have e2 : vBinV (.int .i64) .add (.int .i64 (i : Int)) (.int .i64 1) = some (.int .i64 ((i + 1 : Nat) : Int)) := n_addN _ i 1 (by omega)
   rw [impl_TextValid_l2_eq]
   simp only [evv, i1, e2, wrB, show ((i : Int) < (s.length : Int)) from by omega]
   by_cases e : (s[i].toNat : Int) < 32 <;> by_cases e3 : (s[i].toNat : Int) > 126 <;> simp [evv, e, e3])
  (by
   rw [impl_TextValid_l2_eq]
   simp only [evv, show ¬ ((s.length : Int) < (s.length : Int)) from by omega])
 have loop' : lpW' impl_TextValid_l2 [.str s, .int .i64 s.length, .int .i64 0] [] = _ := loop
 simp only [evv, loop', textT]
 by_cases h : (s.any fun b => wrB b.toNat) = true
 ·simp only [evv, h]; rfl
 ·simp only [evv, h]
  by_cases h2 : s.length <= 200
  ·rw [decide_eq_true h2, decide_eq_true (show (s.length : Int) <= 200 from by omega)]; simp [h]
  ·rw [decide_eq_false h2, decide_eq_false (show ¬ (s.length : Int) <= 200 from by omega)]; simp
theorem IndexByte_c (s : Bs) (c : UInt8) : qc id_internal_stringslite_IndexByte [.str s, .int .u8 (c.toNat : Int)] = some (.int .i64 (if c ∈ s then ((s.idxOf c : Nat) : Int) else -1)) := by
 refine qc_of (H := []) ?_ (by simp only [evv]) rfl
 show cv _ _ _ = _
 rw [internal_stringslite_IndexByte_eq]
 have : ((c.toNat : Int).toNat).toUInt8 = c := by simp
 simp only [evv, this, ix_eq]
theorem Index_c (s : Bs) (c : UInt8) : qc id_internal_stringslite_Index [.str s, .str [c]] = some (.int .i64 (if c ∈ s then ((s.idxOf c : Nat) : Int) else -1)) := by
 have e1 := IndexByte_c s c
 have i1 : vIndexSV (.str [c]) (.int .i64 0) = some (.int .u8 (c.toNat : Int)) := t_idx [c] .i64 0 (by simp)
 refine qc_of (H := []) ?_ (by simp only [evv]) rfl
 show cv _ _ _ = _
 rw [internal_stringslite_Index_eq]
 simp only [evv, List.length_cons, List.length_nil, i1, e1]
 by_cases h : [c] = s
 ·subst h; simp [evv]
 ·simp [evv, h, i1, e1]
theorem stringsIndex_c (s : Bs) (c : UInt8) : qc id_strings_Index [.str s, .str [c]] = some (.int .i64 (if c ∈ s then ((s.idxOf c : Nat) : Int) else -1)) := by
 have e1 := Index_c s c
 refine qc_of (H := []) ?_ (by simp only [evv]) rfl
 show cv _ _ _ = _
 rw [strings_Index_eq]
 simp only [evv, e1]
theorem sCut_c (s : Bs) (c : UInt8) (hs : s.length <= 1000000000) : qc id_internal_stringslite_Cut [.str s, .str [c]] = some (.tup [.str (cutA c s), .str (cutZ c s), .bool (decide (c ∈ s))]) := by
 have e1 := Index_c s c
 refine qc_of (H := []) ?_ (by simp only [evv]) (by simp only [evv])
 show cv _ _ _ = _
 rw [internal_stringslite_Cut_eq]
 by_cases h : c ∈ s
 ·have hlt := List.idxOf_lt_length_iff.2 h
  have p1 := t_pre s .i64 (s.idxOf c) (by omega)
  have e2 : vBinV (.int .i64) .add (.int .i64 ((s.idxOf c : Nat) : Int)) (.int .i64 (([c] : Bs).length : Nat)) = some (.int .i64 ((s.idxOf c + 1 : Nat) : Int)) := n_addN _ _ 1 (by omega)
  have p2 := t_suf s .i64 (s.idxOf c + 1) (by omega)
  simp only [h, if_true] at e1
  simp only [evv, e1, p1, e2, p2, h, cutA, cutZ, show (((s.idxOf c : Nat) : Int) ≥ 0) from by omega]
 ·simp only [h, if_false] at e1
  simp only [evv, e1, h, cutA, cutZ, show ¬ ((-1 : Int) ≥ 0) from by omega]
theorem Cut_c (s : Bs) (c : UInt8) (hs : s.length <= 1000000000) : qc id_strings_Cut [.str s, .str [c]] = some (.tup [.str (cutA c s), .str (cutZ c s), .bool (decide (c ∈ s))]) := by
 have e1 := sCut_c s c hs
 refine qc_of (H := []) ?_ (by simp only [evv]) (by simp only [evv])
 show cv _ _ _ = _
 rw [strings_Cut_eq]
 simp only [evv, e1]
theorem Count_c (s : Bs) (c : UInt8) : qc id_strings_Count [.str s, .str [c]] = some (.int .i64 (s.count c : Nat)) := by
 have i1 : vIndexSV (.str [c]) (.int .i64 0) = some (.int .u8 (c.toNat : Int)) := t_idx [c] .i64 0 (by simp)
 have : ((c.toNat : Int).toNat).toUInt8 = c := by simp
 refine qc_of (H := []) ?_ (by simp only [evv]) rfl
 show cv _ _ _ = _
 rw [strings_Count_eq]
 simp only [evv, List.length_cons, List.length_nil]
 simp [evv, i1, this, Go.Lib.countByte]
theorem genSplit_r (s : Bs) (c : UInt8) (hs : s.length <= 1000000) : ∃ H, cv id_strings_genSplit [.str s, .str [c], .int .i64 0, .int .i64 (-1)] [] = some (.obs 0 0 (splitB c s).length 1, H) /\ H[0]? = some (vR eT (splitB c s)).flatten := by
 have hcount := Count_c s c
 have hle : s.count c <= s.length := List.count_le_length
 have hlen := splitB_len c s
 have hmk := mk_len 16 (splitB c s).length (by omega) (by omega)
 have h0 : ([] ++ [repV (splitB c s).length [V.str []]] : VH)[0]? = some (fillC eT (splitB c s) [.str []] 0) := by simp [fillC, vR]
 have rest : ∀ (i : Nat) (hi : i < (splitB c s).length), (splitB c s)[i] = if i < s.count c then (restB c s i).take ((restB c s i).idxOf c) else restB c s i := by
  intro i hi
  have h1 := restB_split c s i hi
  rw [List.drop_eq_getElem_cons hi] at h1
  split
  ·by_cases hm : c ∈ restB c s i
   ·rw [splitB_cut c _ hm] at h1
    exact (List.cons.inj h1).1.symm
   ·rw [splitB_no c _ hm] at h1
    have := congrArg List.length h1
    simp at this; omega
  ·by_cases hm : c ∈ restB c s i
   ·rw [splitB_cut c _ hm] at h1
    have := congrArg List.length h1
    have h3 := splitB_ne c ((restB c s i).drop ((restB c s i).idxOf c + 1))
    have h4 := List.length_pos_iff.2 h3
    simp at this; omega
   ·rw [splitB_no c _ hm] at h1
    exact (List.cons.inj h1).1.symm
 have mem : ∀ i, i < s.count c -> c ∈ restB c s i := by
  intro i hi
  by_cases hm : c ∈ restB c s i
  ·exact hm
  ·have h1 := restB_split c s i (by omega)
   rw [splitB_no c _ hm] at h1
   have := congrArg List.length h1
   simp at this; omega
 obtain ⟨H1, h1, h2⟩ := lv_fillTo (B := strings_genSplit_l11) (S := fun i => [.str (restB c s i), .str [c], .int .i64 0, .int .i64 (s.count c : Nat), .obs 0 0 (splitB c s).length 1, .int .i64 (i : Nat)]) (m := 0) (t := s.count c) (vs := [.str (restB c s (s.count c)), .obs 0 0 (splitB c s).length 1, .int .i64 (s.count c : Nat)]) eT (l := splitB c s) (by omega) h0
  (fun i hi H hk => by
   have hi' : i < (splitB c s).length := by omega
   have hm := mem i hi
   have hlt := List.idxOf_lt_length_iff.2 hm
   have hrl := restB_len c s i
   have e1 := stringsIndex_c (restB c s i) c
   simp only [hm, if_true] at e1
   have e3 : vBinV (.int .i64) .add (.int .i64 (((restB c s i).idxOf c : Nat) : Int)) (.int .i64 0) = some (.int .i64 (((restB c s i).idxOf c : Nat) : Int)) := n_addN _ _ 0 (by omega)
   have p1 := t_pre (restB c s i) .i64 ((restB c s i).idxOf c) (by omega)
   have e4 : vBinV (.int .i64) .add (.int .i64 (((restB c s i).idxOf c : Nat) : Int)) (.int .i64 (([c] : Bs).length : Nat)) = some (.int .i64 (((restB c s i).idxOf c + 1 : Nat) : Int)) := n_addN _ _ 1 (by omega)
   have p2 := t_suf (restB c s i) .i64 ((restB c s i).idxOf c + 1) (by omega)
   have ho := ob_idx 0 0 (splitB c s).length 1 .i64 i hi'
   have hr := rest i hi'
   rw [if_pos hi] at hr
   have hst : stO (.ptr 0 (0 + i * 1)) [.str (splitB c s)[i]] H = some (H.set 0 (fillC eT (splitB c s) [.str []] (i + 1))) := fill_store eT rfl hi' hk
   have e2 : vBinV (.int .i64) .add (.int .i64 (i : Int)) (.int .i64 1) = some (.int .i64 ((i + 1 : Nat) : Int)) := n_addN _ i 1 (by omega)
   simp only [Nat.zero_add, hr] at ho hst
   rw [strings_genSplit_l11_eq]
   simp only [evv, e1, e3, p1, e4, p2, ho, hst, e2, show ((i : Int) < ((s.count c : Nat) : Int)) from by omega, show ¬ ((((restB c s i).idxOf c : Nat) : Int) < 0) from by omega]
   rfl)
  (fun H hk => by
   rw [strings_genSplit_l11_eq]
   simp only [evv, show ¬ (((s.count c : Nat) : Int) < ((s.count c : Nat) : Int)) from by omega])
 have hk' : s.count c < (splitB c s).length := by omega
 have hr := rest (s.count c) hk'
 rw [if_neg (by omega)] at hr
 have hst : stO (.ptr 0 (0 + s.count c * 1)) [.str (splitB c s)[s.count c]] H1 = some (H1.set 0 (fillC eT (splitB c s) [.str []] (s.count c + 1))) := fill_store eT rfl hk' h2
 have ho := ob_idx 0 0 (splitB c s).length 1 .i64 (s.count c) hk'
 have hop := ob_pre 1 0 0 (splitB c s).length (splitB c s).length .i64 (Nat.le_refl _)
 have hfin : fillC eT (splitB c s) [.str []] (s.count c + 1) = (vR eT (splitB c s)).flatten := by rw [<- hlen, fill_end]
 refine ⟨H1.set 0 (fillC eT (splitB c s) [.str []] (s.count c + 1)), ?_, by rw [List.getElem?_set, if_pos rfl, if_pos (List.getElem?_eq_some_iff.1 h2).1, hfin]⟩
 have h1' : lpW' strings_genSplit_l11 [.str s, .str [c], .int .i64 0, .int .i64 (s.count c : Nat), .obs ([] : VH).length 0 (splitB c s).length 1, .int .i64 0] [repV (splitB c s).length [V.str []]] = _ := h1
 have a1 : vBinV (.int .i64) .add (.int .i64 ((s.count c : Nat) : Int)) (.int .i64 1) = some (.int .i64 ((splitB c s).length : Int)) := by rw [hlen]; exact n_addN _ (s.count c) 1 (by omega)
 have a2 : vBinV (.int .i64) .add (.int .i64 (s.length : Int)) (.int .i64 1) = some (.int .i64 ((s.length + 1 : Nat) : Int)) := n_addN _ s.length 1 (by omega)
 have a3 : vBinV (.int .i64) .sub (.int .i64 ((splitB c s).length : Int)) (.int .i64 1) = some (.int .i64 ((s.count c : Nat) : Int)) := by rw [hlen]; exact n_subN _ (s.count c + 1) 1 (by omega) (by omega)
 have a4 := n_min .i64 ((splitB c s).length : Int) ((s.length + 1 : Nat) : Int) (by omega)
 simp only [Nat.zero_add, hr] at ho hst
 rw [strings_genSplit_eq]
 simp only [evv, hcount, a1, a2, a3, a4, hmk, h1', ho, hst, hop, show ¬ ((-1 : Int) = 0) from by omega, show ((-1 : Int) < 0) from by omega, show ¬ (([c] : Bs) = []) from by simp]
theorem pcg_of {f : FuncId} {args : List V} {G H : VH} {k off n e : Nat} {cs : List V} (hd : dataL args = true) (hs : args.map strip = args) (hp : noPtrL args = true) (h : cv f args [] = some (.obs k off n e, H)) (hk : H[k]? = some cs) (ht : textL cs = true) (hne : cs ≠ []) :
 pcg f G args = some (.obs G.length off n e, G ++ [cs]) := by
 have hb : (textL cs && !cs.isEmpty) = true := by cases cs with | nil => exact absurd rfl hne | cons => rw [ht]; rfl
 have e : args.map (frD 3 G) = args := by rw [map_frD hd, hs]
 show pcallG cv f G args = _
 simp only [pcallG, e, hp, h, Option.bind_some, hk, hb]
theorem flat_text : ∀ l : List Bs, textL (vR eT l).flatten = true
 | [] => rfl
 | s :: l => flat_text l
theorem flat_ne {l : List Bs} (h : l ≠ []) : (vR eT l).flatten ≠ [] := by
 cases l with
 | nil => exact absurd rfl h
 | cons s l => intro e; cases e
theorem genSplit_g (s : Bs) (c : UInt8) (G : VH) (hs : s.length <= 1000000) : pcg id_strings_genSplit G [.str s, .str [c], .int .i64 0, .int .i64 (-1)] = some (.obs G.length 0 (splitB c s).length 1, G ++ [(vR eT (splitB c s)).flatten]) := by
 obtain ⟨H, h1, h2⟩ := genSplit_r s c hs
 exact pcg_of rfl rfl rfl h1 h2 (flat_text _) (flat_ne (splitB_ne c s))
theorem Split_r (s : Bs) (c : UInt8) (G : VH) (hs : s.length <= 1000000) : cv id_strings_Split [.str s, .str [c]] G = some (.obs G.length 0 (splitB c s).length 1, G ++ [(vR eT (splitB c s)).flatten]) := by
 have e1 := genSplit_g s c G hs
 rw [strings_Split_eq]
 simp only [evv, e1]
theorem Split_g (s : Bs) (c : UInt8) (G : VH) (hs : s.length <= 1000000) : pcg id_strings_Split G [.str s, .str [c]] = some (.obs G.length 0 (splitB c s).length 1, G ++ [(vR eT (splitB c s)).flatten]) :=
 pcg_of (k := 0) (H := [(vR eT (splitB c s)).flatten]) rfl rfl rfl (Split_r s c [] hs) rfl (flat_text _) (flat_ne (splitB_ne c s))
theorem Split_c (s : Bs) (c : UInt8) (hs : s.length <= 1000000) : pc id_strings_Split [.str s, .str [c]] = some (.sl false (vT (splitB c s))) :=
 pc_obs eT (k := 0) (H := [(vR eT (splitB c s)).flatten]) (Split_r s c [] hs) rfl rfl
end Go.Proofs.YtncekccimhohgaaGreatDoor.Q

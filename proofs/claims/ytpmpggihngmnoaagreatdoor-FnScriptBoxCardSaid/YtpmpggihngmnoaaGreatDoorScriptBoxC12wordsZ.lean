/- Contracts: bytes, words, texts cut at a byte. -/
import Derived.Test.YtpmpggihngmnoaaGreatDoorScriptBoxC10drawZ
import Derived.Test.YtpmpggihngmnoaaGreatDoorFnScriptBoxK5
namespace Go.Proofs.YtpmpggihngmnoaaGreatDoor.Q
open Go Go.AM
set_option linter.unusedSimpArgs false
set_option linter.unusedVariables false
set_option linter.unusedSectionVars false
def digB (c : Int) : Bool := decide (48 <= c /\ c <= 57)
def letB (c : Int) : Bool := decide (97 <= c /\ c <= 122 ∨ 65 <= c /\ c <= 90)
def atomB (c : Int) : Bool := decide (97 <= c /\ c <= 122 ∨ 65 <= c /\ c <= 90 ∨ 48 <= c /\ c <= 57 ∨ c = 33 ∨ 35 <= c /\ c <= 39 ∨ c = 42 ∨ c = 43 ∨ c = 45 ∨ c = 47 ∨ c = 61 ∨ c = 63 ∨ 94 <= c /\ c <= 96 ∨ 123 <= c /\ c <= 126)
def labB (c : Int) : Bool := decide (97 <= c /\ c <= 122 ∨ 48 <= c /\ c <= 57 ∨ c = 45)
def wrB (c : Int) : Bool := decide (c < 32 ∨ 126 < c)
def atomT (s : Bs) : Bool := decide (1 <= s.length /\ s.length <= 40) && s.all fun b => atomB b.toNat
def labT (s : Bs) : Bool := decide (s ≠ [] /\ s.head? ≠ some 45 /\ s.getLast? ≠ some 45) && s.all fun b => labB b.toNat
def textT (s : Bs) : Bool := !(s.any fun b => wrB b.toNat) && decide (s.length <= 200)
def locT (s : Bs) : Bool := decide (s.length <= 30) && !(splitB 46 s).any fun t => !atomT t
def domT (s : Bs) : Bool := decide (s.length <= 40) && !(splitB 46 s).any fun t => !labT t
def pathT (s : Bs) : Bool := decide ((64 : UInt8) ∈ s) && (locT (cutA 64 s) && domT (cutZ 64 s))
def fromT (s : Bs) : Bool := decide (s = []) || pathT s
theorem IndexByte_c (s : Bs) (c : UInt8) : qc id_internal_stringslite_IndexByte [.str s, .int .u8 (c.toNat : Int)] = some (.int .i64 (if c ∈ s then ((s.idxOf c : Nat) : Int) else -1)) := by
 refine qc_of (H := []) ?_ (by simp only [evv]) rfl
 show cv _ _ _ = _
 rw [internal_stringslite_IndexByte_eq]
 have : ((c.toNat : Int).toNat).toUInt8 = c := by simp
 simp only [evv, this, ix_eq]
theorem Index_c (s : Bs) (c : UInt8) : qc id_internal_stringslite_Index [.str s, .str [c]] = some (.int .i64 (if c ∈ s then ((s.idxOf c : Nat) : Int) else -1)) := by
 have e1 := IndexByte_c s c
 have i1 : vIndexSV (.str [c]) (.int .i64 0) = some (.int .u8 (c.toNat : Int)) := t_idx [c] .i64 0 (by simp)
 refine qc_of (H := []) ?_ (by simp only [evv]) rfl
 show cv _ _ _ = _
 rw [internal_stringslite_Index_eq]
 simp only [evv, List.length_cons, List.length_nil, i1, e1]
 by_cases h : [c] = s
 ·subst h; simp [evv]
 ·simp [evv, h, i1, e1]
theorem stringsIndex_c (s : Bs) (c : UInt8) : qc id_strings_Index [.str s, .str [c]] = some (.int .i64 (if c ∈ s then ((s.idxOf c : Nat) : Int) else -1)) := by
 have e1 := Index_c s c
 refine qc_of (H := []) ?_ (by simp only [evv]) rfl
 show cv _ _ _ = _
 rw [strings_Index_eq]
 simp only [evv, e1]
theorem Count_c (s : Bs) (c : UInt8) : qc id_strings_Count [.str s, .str [c]] = some (.int .i64 (s.count c : Nat)) := by
 have i1 : vIndexSV (.str [c]) (.int .i64 0) = some (.int .u8 (c.toNat : Int)) := t_idx [c] .i64 0 (by simp)
 have : ((c.toNat : Int).toNat).toUInt8 = c := by simp
 refine qc_of (H := []) ?_ (by simp only [evv]) rfl
 show cv _ _ _ = _
 rw [strings_Count_eq]
 simp only [evv, List.length_cons, List.length_nil]
 simp [evv, i1, this, Go.Lib.countByte]
theorem genSplit_c (s : Bs) (c : UInt8) (hs : s.length <= 1000000) : pc id_strings_genSplit [.str s, .str [c], .int .i64 0, .int .i64 (-1)] = some (.sl false (vT (splitB c s))) := by
 have hcount := Count_c s c
 have hle : s.count c <= s.length := List.count_le_length
 have hlen := splitB_len c s
 have hmk := mk_len 16 (splitB c s).length (by omega) (by omega)
 have h0 : ([] ++ [repV (splitB c s).length [V.str []]] : VH)[0]? = some (fillC eT (splitB c s) [.str []] 0) := by simp [fillC, vR]
 have rest : ∀ (i : Nat) (hi : i < (splitB c s).length), (splitB c s)[i] = if i < s.count c then (restB c s i).take ((restB c s i).idxOf c) else restB c s i := by
  intro i hi
  have h1 := restB_split c s i hi
  rw [List.drop_eq_getElem_cons hi] at h1
  split
  ·by_cases hm : c ∈ restB c s i
   ·rw [splitB_cut c _ hm] at h1
    exact (List.cons.inj h1).1.symm
   ·rw [splitB_no c _ hm] at h1
    have := congrArg List.length h1
    simp at this; omega
  ·by_cases hm : c ∈ restB c s i
   ·rw [splitB_cut c _ hm] at h1
    have := congrArg List.length h1
    have h3 := splitB_ne c ((restB c s i).drop ((restB c s i).idxOf c + 1))
    have h4 := List.length_pos_iff.2 h3
    simp at this; omega
   ·rw [splitB_no c _ hm] at h1
    exact (List.cons.inj h1).1.symm
 have mem : ∀ i, i < s.count c -> c ∈ restB c s i := by
  intro i hi
  by_cases hm : c ∈ restB c s i
  ·exact hm
  ·have h1 := restB_split c s i (by omega)
   rw [splitB_no c _ hm] at h1
   have := congrArg List.length h1
   simp at this; omega
 obtain ⟨H1, h1, h2⟩ := lv_fillTo (B := strings_genSplit_l11) (S := fun i => [.str (restB c s i), .str [c], .int .i64 0, .int .i64 (s.count c : Nat), .obs 0 0 (splitB c s).length 1, .int .i64 (i : Nat)]) (m := 0) (t := s.count c) (vs := [.str (restB c s (s.count c)), .obs 0 0 (splitB c s).length 1, .int .i64 (s.count c : Nat)]) eT (l := splitB c s) (by omega) h0
  (fun i hi H hk => by
   have hi' : i < (splitB c s).length := by omega
   have hm := mem i hi
   have hlt := List.idxOf_lt_length_iff.2 hm
   have hrl := restB_len c s i
   have e1 := stringsIndex_c (restB c s i) c
   simp only [hm, if_true] at e1
   have e3 : vBinV (.int .i64) .add (.int .i64 (((restB c s i).idxOf c : Nat) : Int)) (.int .i64 0) = some (.int .i64 (((restB c s i).idxOf c : Nat) : Int)) := n_addN _ _ 0 (by omega)
   have p1 := t_pre (restB c s i) .i64 ((restB c s i).idxOf c) (by omega)
   have e4 : vBinV (.int .i64) .add (.int .i64 (((restB c s i).idxOf c : Nat) : Int)) (.int .i64 (([c] : Bs).length : Nat)) = some (.int .i64 (((restB c s i).idxOf c + 1 : Nat) : Int)) := n_addN _ _ 1 (by omega)
   have p2 := t_suf (restB c s i) .i64 ((restB c s i).idxOf c + 1) (by omega)
   have ho := ob_idx 0 0 (splitB c s).length 1 .i64 i hi'
   have hr := rest i hi'
   rw [if_pos hi] at hr
   have hst : stO (.ptr 0 (0 + i * 1)) [.str (splitB c s)[i]] H = some (H.set 0 (fillC eT (splitB c s) [.str []] (i + 1))) := fill_store eT rfl hi' hk
   have e2 : vBinV (.int .i64) .add (.int .i64 (i : Int)) (.int .i64 1) = some (.int .i64 ((i + 1 : Nat) : Int)) := n_addN _ i 1 (by omega)
   simp only [Nat.zero_add, hr] at ho hst
   rw [strings_genSplit_l11_eq]
   simp only [evv, e1, e3, p1, e4, p2, ho, hst, e2, show ((i : Int) < ((s.count c : Nat) : Int)) from by omega, show ¬ ((((restB c s i).idxOf c : Nat) : Int) < 0) from by omega]
   rfl)
  (fun H hk => by
   rw [strings_genSplit_l11_eq]
   simp only [evv, show ¬ (((s.count c : Nat) : Int) < ((s.count c : Nat) : Int)) from by omega])
 have hk' : s.count c < (splitB c s).length := by omega
 have hr := rest (s.count c) hk'
 rw [if_neg (by omega)] at hr
 have hst : stO (.ptr 0 (0 + s.count c * 1)) [.str (splitB c s)[s.count c]] H1 = some (H1.set 0 (fillC eT (splitB c s) [.str []] (s.count c + 1))) := fill_store eT rfl hk' h2
 have ho := ob_idx 0 0 (splitB c s).length 1 .i64 (s.count c) hk'
 have hop := ob_pre 1 0 0 (splitB c s).length (splitB c s).length .i64 (Nat.le_refl _)
 have hfin : fillC eT (splitB c s) [.str []] (s.count c + 1) = (vR eT (splitB c s)).flatten := by rw [<- hlen, fill_end]
 refine pc_obs eT (H := H1.set 0 (fillC eT (splitB c s) [.str []] (s.count c + 1))) (k := 0) (l := splitB c s) ?_ (by simp only [evv]) (by rw [List.getElem?_set, if_pos rfl, if_pos (List.getElem?_eq_some_iff.1 h2).1, hfin])
 show cv _ _ _ = _
 have h1' : lpW' strings_genSplit_l11 [.str s, .str [c], .int .i64 0, .int .i64 (s.count c : Nat), .obs ([] : VH).length 0 (splitB c s).length 1, .int .i64 0] [repV (splitB c s).length [V.str []]] = _ := h1
 have a1 : vBinV (.int .i64) .add (.int .i64 ((s.count c : Nat) : Int)) (.int .i64 1) = some (.int .i64 ((splitB c s).length : Int)) := by rw [hlen]; exact n_addN _ (s.count c) 1 (by omega)
 have a2 : vBinV (.int .i64) .add (.int .i64 (s.length : Int)) (.int .i64 1) = some (.int .i64 ((s.length + 1 : Nat) : Int)) := n_addN _ s.length 1 (by omega)
 have a3 : vBinV (.int .i64) .sub (.int .i64 ((splitB c s).length : Int)) (.int .i64 1) = some (.int .i64 ((s.count c : Nat) : Int)) := by rw [hlen]; exact n_subN _ (s.count c + 1) 1 (by omega) (by omega)
 have a4 := n_min .i64 ((splitB c s).length : Int) ((s.length + 1 : Nat) : Int) (by omega)
 simp only [Nat.zero_add, hr] at ho hst
 rw [strings_genSplit_eq]
 simp only [evv, hcount, a1, a2, a3, a4, hmk, h1', ho, hst, hop, show ¬ ((-1 : Int) = 0) from by omega, show ((-1 : Int) < 0) from by omega, show ¬ (([c] : Bs) = []) from by simp]
 simp [hop]
 rfl
theorem Split_c (s : Bs) (c : UInt8) (hs : s.length <= 1000000) : pc id_strings_Split [.str s, .str [c]] = some (.sl false (vT (splitB c s))) := by
 have e1 := genSplit_c s c hs
 refine pc_of (H := []) ?_ (by simp only [evv]) (by simp only [evv])
 show cv _ _ _ = _
 rw [strings_Split_eq]
 simp only [evv, e1]
theorem cutA_len (c : UInt8) (s : Bs) : (cutA c s).length <= s.length := by unfold cutA; split <;> simp; omega
theorem cutZ_len (c : UInt8) (s : Bs) : (cutZ c s).length <= s.length := by unfold cutZ; split <;> simp
end Go.Proofs.YtpmpggihngmnoaaGreatDoor.Q

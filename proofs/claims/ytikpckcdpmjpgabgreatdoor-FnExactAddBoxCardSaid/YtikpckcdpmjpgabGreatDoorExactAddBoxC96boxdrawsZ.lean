/- Contracts: mailboxes are added (reference); draws of mailboxes. -/
import Derived.Test.YtikpckcdpmjpgabGreatDoorExactAddBoxC94impldeliverZ
namespace Go.Proofs.YtikpckcdpmjpgabGreatDoor.Q
open Go Go.AM
set_option linter.unusedSimpArgs false
set_option linter.unusedVariables false
set_option linter.unusedSectionVars false
def insX (p : Bs) : List Box -> List Box
 | [] => [⟨p, []⟩]
 | b :: l => if ltT p b.path = true then ⟨p, []⟩ :: b :: l else b :: insX p l
def gtX (p : Bs) (b : Box) : Bool := ltT p b.path
def addB (l : List Box) (p : Bs) : Bool := boxesT l && (pathT p && (!(l.any (isP p)) && !decide (l.length = 8)))
def addR (l : List Box) (p : Bs) : List Box := if addB l p = true then insX p l else []
theorem insX_none {p : Bs} : ∀ {l : List Box}, l.any (gtX p) = false -> insX p l = l ++ [⟨p, []⟩]
 | [], _ => rfl
 | b :: l, h => by
   simp only [List.any_cons, Bool.or_eq_false_iff] at h
   have h1 : ltT p b.path = false := h.1
   simp only [insX, h1, Bool.false_eq_true, if_false, insX_none h.2, List.cons_append]
theorem insX_some {p : Bs} {k : List Box} : ∀ {l : List Box}, l.any (gtX p) = true -> insX p (l ++ k) = insX p l ++ k
 | [], h => by simp at h
 | b :: l, h => by
   by_cases h1 : ltT p b.path = true
   ·simp only [List.cons_append, insX, h1, if_true]
   ·simp only [List.any_cons, Bool.or_eq_true] at h
    have h2 := h.resolve_left (fun e => h1 e)
    have h1' : ltT p b.path = false := by simpa using h1
    simp only [List.cons_append, insX, h1', Bool.false_eq_true, if_false, insX_some h2]
theorem insX_here {p : Bs} {b : Box} (hb : ltT p b.path = true) : ∀ {l : List Box}, l.any (gtX p) = false -> insX p (l ++ [b]) = l ++ [⟨p, []⟩, b]
 | [], _ => by simp only [List.nil_append, insX, hb, if_true]
 | c :: l, h => by
   simp only [List.any_cons, Bool.or_eq_false_iff] at h
   have h1 : ltT p c.path = false := h.1
   simp only [List.cons_append, insX, h1, Bool.false_eq_true, if_false, insX_here hb h.2]
theorem insX_len (p : Bs) : ∀ l : List Box, (insX p l).length = l.length + 1
 | [] => rfl
 | b :: l => by
   unfold insX
   split
   ·rfl
   ·simp [insX_len p l]
theorem insX_mem {p : Bs} {x : Box} : ∀ {l : List Box}, x ∈ insX p l -> x = ⟨p, []⟩ ∨ x ∈ l
 | [], h => by simp [insX] at h; exact .inl h
 | b :: l, h => by
   unfold insX at h
   split at h
   ·rcases List.mem_cons.1 h with h | h
    ·exact .inl h
    ·exact .inr h
   ·rcases List.mem_cons.1 h with h | h
    ·exact .inr (by simp [h])
    ·rcases insX_mem h with h | h
     ·exact .inl h
     ·exact .inr (by simp [h])
def RoX (r : List (List V)) (l : List Box) : Prop := stripLL r = vR eX l /\ dataLL r = true /\ eszOk 2 r = true
theorem RoX.nil : RoX [] [] := ⟨rfl, rfl, rfl⟩
theorem RoX.len {r : List (List V)} {l : List Box} (h : RoX r l) : r.length = l.length := by
 have := congrArg List.length h.1
 rwa [stripLL_len, vR_len] at this
theorem stripLL_app (a b : List (List V)) : stripLL (a ++ b) = stripLL a ++ stripLL b := by rw [stripLL_map, stripLL_map, stripLL_map, List.map_append]
theorem dataLL_app {a b : List (List V)} (h : dataLL a = true) (g : dataLL b = true) : dataLL (a ++ b) = true := by
 induction a with
 | nil => exact g
 | cons x a ih =>
   simp only [dataLL, Bool.and_eq_true] at h
   simp only [List.cons_append, dataLL, h.1, ih h.2, Bool.and_self]
theorem RoX.app {r s : List (List V)} {l k : List Box} (h : RoX r l) (g : RoX s k) : RoX (r ++ s) (l ++ k) := by
 refine ⟨by rw [stripLL_app, h.1, g.1, vR_app], dataLL_app h.2.1 g.2.1, ?_⟩
 have h1 := h.2.2; have h2 := g.2.2
 simp only [eszOk, List.all_append, Bool.and_eq_true] at h1 h2 ⊢
 exact ⟨h1, h2⟩
theorem RoX.one (b : Box) : RoX [[.str b.path, .sl false (vR eM b.mails)]] [b] := ⟨by simp only [stripLL, stripL, strip, vR_strip]; rfl, by simp only [dataLL, dataL, data, vR_data, Bool.and_self], rfl⟩
theorem RoX.new (p : Bs) : RoX [[.str p, .sl true []]] [⟨p, []⟩] := ⟨rfl, rfl, rfl⟩
theorem RoX.own (l : List Box) : RoX (vOX l) l := ⟨vOX_strip l, vOX_data l, vOX_esz l⟩
theorem RoX.rows {r : List (List V)} {l : List Box} (h : RoX r l) : Go.AM.Rows 2 r := fun x hx => by
 have := h.2.2
 simp only [eszOk, List.all_eq_true] at this
 exact Nat.eq_of_beq_eq_true (this x hx)
theorem RoX.app1 {r s : List (List V)} {l k : List Box} (h : RoX r l) (g : RoX s k) (hl : l.length + k.length <= 2000000) : appV false 2 40 r (.sl true s) = some (.sl true (r ++ s)) :=
 v_app 2 40 r true s h.2.2 g.2.2 (by rw [h.len, g.len]; omega)
theorem RawAddBox_c (l : List Box) (p : Bs) (h : SmXs l) (hp : p.length <= 4000000) : ∃ r, RoX r (addR l p) /\ pc id_spec_l11RawAddBox [.sl false (vR eX l), .str p] = some (.tup [.sl true r, .bool (addB l p)]) := by
 have e1 := spec_BoxesValid_c l h
 have e2 := l10Box_c p hp
 have e3 := l11Find_c l p (by have := h.1; omega)
 have e4 := l11Copy_c l h
 have hl := h.1
 suffices hg : Gets (cv id_spec_l11RawAddBox [.sl false (vR eX l), .str p] []) fun x => ∃ r, RoX r (addR l p) /\ x.1 = .tup [.sl true r, .bool (addB l p)] by
  obtain ⟨⟨v, H⟩, e, r, hr, h⟩ := hg
  have h : v = _ := h
  subst h
  exact ⟨r, hr, pc_of e (by simp only [evv]) (by simp only [data, dataL, hr.2.1, Bool.and_self])⟩
 rw [spec_l11RawAddBox_eq]
 by_cases c1 : boxesT l = true
 ·by_cases c2 : pathT p = true
  ·by_cases c3 : l.any (isP p) = true
   ·have hB : addB l p = false := by unfold addB; rw [c1, c2, c3]; rfl
    have hR : addR l p = [] := by unfold addR; rw [hB]; rfl
    simp only [evv, e1, e2, e3, c1, c2, c3, show (((l.findIdx (isP p) : Nat) : Int) ≥ 0) from by omega]
    rw [hB, hR]
    exact Gets.here ⟨[], RoX.nil, rfl⟩
   ·have c3' : l.any (isP p) = false := by simpa using c3
    by_cases c4 : l.length = 8
    ·have hB : addB l p = false := by unfold addB; rw [c1, c2, c3', decide_eq_true c4]; rfl
     have hR : addR l p = [] := by unfold addR; rw [hB]; rfl
     simp only [evv, e1, e2, e3, c1, c2, c3', show ¬ ((-1 : Int) ≥ 0) from by omega, show ((l.length : Int) = 8) from by omega]
     rw [hB, hR]
     exact Gets.here ⟨[], RoX.nil, rfl⟩
    ·have hB : addB l p = true := by unfold addB; rw [c1, c2, c3', decide_eq_false c4]; rfl
     have hR : addR l p = insX p l := by unfold addR; rw [hB]; rfl
     simp only [evv, e1, e2, e3, e4, c1, c2, c3', show ¬ ((-1 : Int) ≥ 0) from by omega, show ¬ ((l.length : Int) = 8) from by omega]
     rw [hB, hR]
     have hs : strip (.sl true (vOX l)) = .sl false (vR eX l) := by simp only [strip, vOX_strip]
     simp only [evv, vOX_strip]
     refine Gets.loop2 (I := fun n st H => ∃ (i : Nat) (r : List (List V)), n = l.length - i /\ i <= l.length /\ st = [.str p, .sl true r, .bool ((l.take i).any (gtX p)), .sl false (vR eX l), .int .i64 (i : Nat)] ∧
      RoX r (if (l.take i).any (gtX p) = true then insX p (l.take i) else l.take i))
      (P := fun q vs H => ∃ r, q = 0 /\ vs = [.str p, .sl true r, .bool (l.any (gtX p))] /\ RoX r (if l.any (gtX p) = true then insX p l else l)) (n := l.length) ?_ ⟨0, [], by omega, by omega, rfl, RoX.nil⟩ ?_
     ·rintro n st H ⟨i, r, rfl, hi, rfl, hr⟩
      rw [spec_l11RawAddBox_l7_eq]
      by_cases hlt : i < l.length
      ·have i1 := vX_idx false l .i64 i hlt
       rw [eX_e] at i1
       have e5 : vBinV (.int .i64) .add (.int .i64 (i : Int)) (.int .i64 1) = some (.int .i64 ((i + 1 : Nat) : Int)) := n_addN _ i 1 (by omega)
       have htk := List.take_succ_eq_append_getElem hlt
       have hrl := hr.len
       have hil : (insX p (l.take i)).length <= l.length + 1 := by rw [insX_len, List.length_take]; omega
       by_cases hd : (l.take i).any (gtX p) = true
       ·rw [hd] at hr hrl ⊢
        simp only [if_true] at hr hrl
        have a1 := hr.app1 (RoX.one l[i]) (by simp; omega)
        have hd2 : (l.take (i + 1)).any (gtX p) = true := by rw [htk, List.any_append, hd]; rfl
        simp only [evv, i1, a1, e5, show ((i : Int) < (l.length : Int)) from by omega]
        refine ⟨_, rfl, .inr ⟨rfl, l.length - (i + 1), by omega, i + 1, _, rfl, by omega, by rw [hd2], ?_⟩⟩
        rw [hd2, if_pos rfl, htk, insX_some hd]
        exact hr.app (RoX.one l[i])
       ·have hd' : (l.take i).any (gtX p) = false := by simpa using hd
        rw [hd'] at hr hrl ⊢
        simp only [Bool.false_eq_true, if_false] at hr hrl
        by_cases hg : ltT p l[i].path = true
        ·have hd2 : (l.take (i + 1)).any (gtX p) = true := by
          rw [htk, List.any_append, hd']
          simp only [List.any_cons, List.any_nil, gtX, hg, Bool.or_false, Bool.or_true]
         have a0 := hr.app1 (RoX.new p) (by simp; omega)
         have hr1 := hr.app (RoX.new p)
         have a1 := hr1.app1 (RoX.one l[i]) (by simp; omega)
         simp only [evv, i1, t_lss, hg, a0, a1, e5, show ((i : Int) < (l.length : Int)) from by omega]
         refine ⟨_, rfl, .inr ⟨rfl, l.length - (i + 1), by omega, i + 1, _, rfl, by omega, by rw [hd2], ?_⟩⟩
         rw [hd2, if_pos rfl, htk, insX_here hg hd']
         have hcat : l.take i ++ [⟨p, []⟩, l[i]] = l.take i ++ [⟨p, []⟩] ++ [l[i]] := by simp
         rw [hcat]
         exact hr1.app (RoX.one l[i])
        ·have hg' : ltT p l[i].path = false := by simpa using hg
         have hd2 : (l.take (i + 1)).any (gtX p) = false := by
          rw [htk, List.any_append, hd']
          simp only [List.any_cons, List.any_nil, gtX, hg', Bool.or_false]
         have a1 := hr.app1 (RoX.one l[i]) (by simp; omega)
         simp only [evv, i1, t_lss, hg', a1, e5, show ((i : Int) < (l.length : Int)) from by omega]
         refine ⟨_, rfl, .inr ⟨rfl, l.length - (i + 1), by omega, i + 1, _, rfl, by omega, by rw [hd2], ?_⟩⟩
         rw [hd2, if_neg (by simp), htk]
         exact hr.app (RoX.one l[i])
      ·have : i = l.length := by omega
       subst this
       rw [List.take_length] at hr ⊢
       simp only [evv, show ¬ ((l.length : Int) < (l.length : Int)) from by omega]
       exact ⟨_, rfl, .inl ⟨0, rfl, r, rfl, rfl, hr⟩⟩
     ·rintro _ _ H ⟨r, rfl, rfl, hr⟩
      by_cases hd : l.any (gtX p) = true
      ·rw [hd] at hr ⊢
       simp only [if_true] at hr
       simp only [evv]
       exact Gets.here ⟨r, hr, rfl⟩
      ·have hd' : l.any (gtX p) = false := by simpa using hd
       rw [hd'] at hr ⊢
       simp only [Bool.false_eq_true, if_false] at hr
       have a0 := hr.app1 (RoX.new p) (by simp; omega)
       simp only [evv, a0]
       rw [insX_none hd']
       exact Gets.here ⟨_, hr.app (RoX.new p), rfl⟩
  ·have c2' : pathT p = false := by simpa using c2
   have hB : addB l p = false := by unfold addB; rw [c1, c2']; rfl
   have hR : addR l p = [] := by unfold addR; rw [hB]; rfl
   simp only [evv, e1, e2, c1, c2']
   rw [hB, hR]
   exact Gets.here ⟨[], RoX.nil, rfl⟩
 ·have c1' : boxesT l = false := by simpa using c1
  have hB : addB l p = false := by unfold addB; rw [c1']; rfl
  have hR : addR l p = [] := by unfold addR; rw [hB]; rfl
  simp only [evv, e1, c1']
  rw [hB, hR]
  exact Gets.here ⟨[], RoX.nil, rfl⟩
theorem addR_sm {l : List Box} {p : Bs} (h : SmXs l) (hl : l.length <= 1048576) (hp : p.length <= 1048576) : SmXs (addR l p) := by
 unfold addR
 split
 ·rename_i hB
  have h8 : l.length <= 8 := by
   unfold addB boxesT at hB
   simp only [Bool.and_eq_true, decide_eq_true_eq] at hB
   exact hB.1.1
  refine ⟨by rw [insX_len]; omega, fun b hb => ?_⟩
  rcases insX_mem hb with rfl | hb
  ·exact ⟨by show p.length <= _; omega, by simp [SmMs]⟩
  ·exact h.2 b hb
 ·exact ⟨by simp, by simp⟩
theorem spec_AddBox_c (l : List Box) (p : Bs) (h : SmXs l) (hl : l.length <= 1048576) (hp : p.length <= 1048576) : pc id_spec_AddBox [.sl false (vR eX l), .str p] = some (.tup [.sl true (vOX (addR l p)), .bool (addB l p)]) := by
 obtain ⟨r, hr, e1⟩ := RawAddBox_c l p h (by omega)
 have e2 := l13OwnListBox_c (addR l p) (addR_sm h hl hp)
 rw [<- hr.1] at e2
 refine pc_of (H := []) ?_ (by simp only [evv]) (by simp only [data, dataL, vOX_data, Bool.and_self])
 show cv _ _ _ = _
 rw [spec_AddBox_eq]
 simp only [evv, e1, e2]
def DX (n : Nat) (l : List Box) : Prop := l.length <= n /\ ∀ b ∈ l, b.path.length <= 200 /\ b.mails.length <= n /\ ∀ m ∈ b.mails, TnM m
theorem DX.le {n k : Nat} {l : List Box} (h : DX n l) (hn : n <= k) : DX k l := ⟨by have := h.1; omega, fun b hb => ⟨(h.2 b hb).1, by have := (h.2 b hb).2.1; omega, (h.2 b hb).2.2⟩⟩
theorem DX.path {n : Nat} {l : List Box} (h : DX n l) : ∀ b ∈ l, b.path.length <= 1048576 := fun b hb => by have := (h.2 b hb).1; omega
theorem DX.nil (n : Nat) : DX n [] := ⟨by simp, by simp⟩
theorem DX.add {n : Nat} {l : List Box} {p : Bs} (h : DX n l) (hp : p.length <= 200) : DX (n + 1) (addR l p) := by
 unfold addR
 split
 ·refine ⟨by rw [insX_len]; have := h.1; omega, fun b hb => ?_⟩
  rcases insX_mem hb with rfl | hb
  ·exact ⟨hp, by simp, by simp⟩
  ·have := h.2 b hb; exact ⟨this.1, by omega, this.2.2⟩
 ·exact DX.nil _
theorem DX.dl1 {n : Nat} {l : List Box} {m : Mail} {t : Bs} (h : DX n l) (hm : TnM m) (ht : t.length <= 200) : DX (n + 1) (Q.dl1 l m t).1 := by
 refine ⟨by rw [dl1_len]; have := h.1; omega, fun b hb => ?_⟩
 unfold Q.dl1 at hb
 split at hb
 ·rename_i ha
  have hlt := findIdx_isP ha
  split at hb
  ·have := h.2 b hb; exact ⟨this.1, by omega, this.2.2⟩
  ·rcases List.mem_or_eq_of_mem_set hb with hb | rfl
   ·have := h.2 b hb; exact ⟨this.1, by omega, this.2.2⟩
   ·have := h.2 _ (boxAt_mem hlt)
    refine ⟨this.1, by simp; omega, fun x hx => ?_⟩
    rcases List.mem_append.1 hx with hx | hx
    ·exact this.2.2 x hx
    ·simp at hx; subst hx
     exact ⟨hm.1, TnT.one (by omega) ht, hm.2.2⟩
 ·have := h.2 b hb; exact ⟨this.1, by omega, this.2.2⟩
theorem DX.dlN {m : Mail} (hm : TnM m) : ∀ {tos : List Bs} {n : Nat} {s : List Box × List Int}, DX n s.1 -> (∀ t ∈ tos, t.length <= 200) -> DX (n + tos.length) (Q.dlN m tos s).1
 | [], n, s, h, _ => by simpa [Q.dlN] using h
 | t :: tos, n, s, h, ht => by
   have h1 := DX.dl1 (t := t) h hm (ht t (by simp))
   have := DX.dlN (tos := tos) (s := dlS m s t) hm h1 (fun u hu => ht u (by simp [hu]))
   simp only [Q.dlN, List.foldl_cons, List.length_cons] at this ⊢
   exact this.le (by omega)
def VX (v : V) (k : Nat) (H : VH) (l : List Box) : Prop := (∃ o r, v = .sl o r /\ RoX r l) ∨ (∃ j r, v = .obs j 0 r.length 2 /\ j ≠ k /\ H[j]? = some r.flatten /\ r ≠ [] /\ RoX r l)
theorem VX.fr {v : V} {k b : Nat} {F H : VH} {l : List Box} (h : VX v k F l) (hf : Rf F k b H) : VX v k H l := by
 rcases h with h | ⟨j, r, h1, h2, h3, h4⟩
 ·exact .inl h
 ·exact .inr ⟨j, r, h1, h2, by rw [hf.2.2 j h2 (List.getElem?_eq_some_iff.1 h3).1]; exact h3, h4⟩
end Go.Proofs.YtikpckcdpmjpgabGreatDoor.Q

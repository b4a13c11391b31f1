/- Contracts: mailboxes are added (reference); draws of mailboxes. -/
import Derived.Test.YtpmpggihngmnoaaGreatDoorScriptBoxC94impldeliverZ
namespace Go.Proofs.YtpmpggihngmnoaaGreatDoor.Q
open Go Go.AM
set_option linter.unusedSimpArgs false
set_option linter.unusedVariables false
set_option linter.unusedSectionVars false
def insX (p : Bs) : List Box -> List Box
 | [] => [⟨p, []⟩]
 | b :: l => if ltT p b.path = true then ⟨p, []⟩ :: b :: l else b :: insX p l
def gtX (p : Bs) (b : Box) : Bool := ltT p b.path
def addB (l : List Box) (p : Bs) : Bool := boxesT l && (pathT p && (!(l.any (isP p)) && !decide (l.length = 8)))
def addR (l : List Box) (p : Bs) : List Box := if addB l p = true then insX p l else []
theorem insX_none {p : Bs} : ∀ {l : List Box}, l.any (gtX p) = false -> insX p l = l ++ [⟨p, []⟩]
 | [], _ => rfl
 | b :: l, h => by
   simp only [List.any_cons, Bool.or_eq_false_iff] at h
   have h1 : ltT p b.path = false := h.1
   simp only [insX, h1, Bool.false_eq_true, if_false, insX_none h.2, List.cons_append]
theorem insX_some {p : Bs} {k : List Box} : ∀ {l : List Box}, l.any (gtX p) = true -> insX p (l ++ k) = insX p l ++ k
 | [], h => by simp at h
 | b :: l, h => by
   by_cases h1 : ltT p b.path = true
   ·simp only [List.cons_append, insX, h1, if_true]
   ·simp only [List.any_cons, Bool.or_eq_true] at h
    have h2 := h.resolve_left (fun e => h1 e)
    have h1' : ltT p b.path = false := by simpa using h1
    simp only [List.cons_append, insX, h1', Bool.false_eq_true, if_false, insX_some h2]
theorem insX_here {p : Bs} {b : Box} (hb : ltT p b.path = true) : ∀ {l : List Box}, l.any (gtX p) = false -> insX p (l ++ [b]) = l ++ [⟨p, []⟩, b]
 | [], _ => by simp only [List.nil_append, insX, hb, if_true]
 | c :: l, h => by
   simp only [List.any_cons, Bool.or_eq_false_iff] at h
   have h1 : ltT p c.path = false := h.1
   simp only [List.cons_append, insX, h1, Bool.false_eq_true, if_false, insX_here hb h.2]
theorem insX_len (p : Bs) : ∀ l : List Box, (insX p l).length = l.length + 1
 | [] => rfl
 | b :: l => by
   unfold insX
   split
   ·rfl
   ·simp [insX_len p l]
theorem insX_mem {p : Bs} {x : Box} : ∀ {l : List Box}, x ∈ insX p l -> x = ⟨p, []⟩ ∨ x ∈ l
 | [], h => by simp [insX] at h; exact .inl h
 | b :: l, h => by
   unfold insX at h
   split at h
   ·rcases List.mem_cons.1 h with h | h
    ·exact .inl h
    ·exact .inr h
   ·rcases List.mem_cons.1 h with h | h
    ·exact .inr (by simp [h])
    ·rcases insX_mem h with h | h
     ·exact .inl h
     ·exact .inr (by simp [h])
def RoX (r : List (List V)) (l : List Box) : Prop := stripLL r = vR eX l /\ dataLL r = true /\ eszOk 2 r = true
theorem RoX.nil : RoX [] [] := ⟨rfl, rfl, rfl⟩
theorem RoX.len {r : List (List V)} {l : List Box} (h : RoX r l) : r.length = l.length := by
 have := congrArg List.length h.1
 rwa [stripLL_len, vR_len] at this
theorem stripLL_app (a b : List (List V)) : stripLL (a ++ b) = stripLL a ++ stripLL b := by rw [stripLL_map, stripLL_map, stripLL_map, List.map_append]
theorem dataLL_app {a b : List (List V)} (h : dataLL a = true) (g : dataLL b = true) : dataLL (a ++ b) = true := by
 induction a with
 | nil => exact g
 | cons x a ih =>
   simp only [dataLL, Bool.and_eq_true] at h
   simp only [List.cons_append, dataLL, h.1, ih h.2, Bool.and_self]
theorem RoX.app {r s : List (List V)} {l k : List Box} (h : RoX r l) (g : RoX s k) : RoX (r ++ s) (l ++ k) := by
 refine ⟨by rw [stripLL_app, h.1, g.1, vR_app], dataLL_app h.2.1 g.2.1, ?_⟩
 have h1 := h.2.2; have h2 := g.2.2
 simp only [eszOk, List.all_append, Bool.and_eq_true] at h1 h2 ⊢
 exact ⟨h1, h2⟩
theorem RoX.one (b : Box) : RoX [[.str b.path, .sl false (vR eM b.mails)]] [b] := ⟨by simp only [stripLL, stripL, strip, vR_strip]; rfl, by simp only [dataLL, dataL, data, vR_data, Bool.and_self], rfl⟩
theorem RoX.new (p : Bs) : RoX [[.str p, .sl true []]] [⟨p, []⟩] := ⟨rfl, rfl, rfl⟩
theorem RoX.own (l : List Box) : RoX (vOX l) l := ⟨vOX_strip l, vOX_data l, vOX_esz l⟩
theorem RoX.rows {r : List (List V)} {l : List Box} (h : RoX r l) : Go.AM.Rows 2 r := fun x hx => by
 have := h.2.2
 simp only [eszOk, List.all_eq_true] at this
 exact Nat.eq_of_beq_eq_true (this x hx)
theorem RoX.app1 {r s : List (List V)} {l k : List Box} (h : RoX r l) (g : RoX s k) (hl : l.length + k.length <= 2000000) : appV false 2 40 r (.sl true s) = some (.sl true (r ++ s)) :=
 v_app 2 40 r true s h.2.2 g.2.2 (by rw [h.len, g.len]; omega)
theorem RawAddBox_c (l : List Box) (p : Bs) (h : SmXs l) (hp : p.length <= 4000000) : ∃ r, RoX r (addR l p) /\ pc id_spec_l11RawAddBox [.sl false (vR eX l), .str p] = some (.tup [.sl true r, .bool (addB l p)]) := by
 have e1 := spec_BoxesValid_c l h
 have e2 := l10Box_c p hp
 have e3 := l11Find_c l p (by have := h.1; omega)
 have e4 := l11Copy_c l h
 have hl := h.1
 suffices hg : Gets (cv id_spec_l11RawAddBox [.sl false (vR eX l), .str p] []) fun x => ∃ r, RoX r (addR l p) /\ x.1 = .tup [.sl true r, .bool (addB l p)] by
  obtain ⟨⟨v, H⟩, e, r, hr, h⟩ := hg
  have h : v = _ := h
  subst h
  exact ⟨r, hr, pc_of e (by simp only [evv]) (by simp only [data, dataL, hr.2.1, Bool.and_self])⟩
 rw [spec_l11RawAddBox_eq]
 by_cases c1 : boxesT l = true
 ·by_cases c2 : pathT p = true
  ·by_cases c3 : l.any (isP p) = true
   ·have hB : addB l p = false := by unfold addB; rw [c1, c2, c3]; rfl
    have hR : addR l p = [] := by unfold addR; rw [hB]; rfl
    simp only [evv, e1, e2, e3, c1, c2, c3, show (((l.findIdx (isP p) : Nat) : Int) ≥ 0) from by omega]
    rw [hB, hR]
    exact Gets.here ⟨[], RoX.nil, rfl⟩
   ·have c3' : l.any (isP p) = false := by simpa using c3
    by_cases c4 : l.length = 8
    ·have hB : addB l p = false := by unfold addB; rw [c1, c2, c3', decide_eq_true c4]; rfl
     have hR : addR l p = [] := by unfold addR; rw [hB]; rfl
     simp only [evv, e1, e2, e3, c1, c2, c3', show ¬ ((-1 : Int) ≥ 0) from by omega, show ((l.length : Int) = 8) from by omega]
     rw [hB, hR]
     exact Gets.here ⟨[], RoX.nil, rfl⟩
    ·have hB : addB l p = true := by unfold addB; rw [c1, c2, c3', decide_eq_false c4]; rfl
     have hR : addR l p = insX p l := by unfold addR; rw [hB]; rfl
     simp only [evv, e1, e2, e3, e4, c1, c2, c3', show ¬ ((-1 : Int) ≥ 0) from by omega, show ¬ ((l.length : Int) = 8) from by omega]
     rw [hB, hR]
     have hs : strip (.sl true (vOX l)) = .sl false (vR eX l) := by simp only [strip, vOX_strip]
     simp only [evv, vOX_strip]
     refine Gets.loop2 (I := fun n st H => ∃ (i : Nat) (r : List (List V)), n = l.length - i /\ i <= l.length /\ st = [.str p, .sl true r, .bool ((l.take i).any (gtX p)), .sl false (vR eX l), .int .i64 (i : Nat)] ∧
      RoX r (if (l.take i).any (gtX p) = true then insX p (l.take i) else l.take i))
      (P := fun q vs H => ∃ r, q = 0 /\ vs = [.str p, .sl true r, .bool (l.any (gtX p))] /\ RoX r (if l.any (gtX p) = true then insX p l else l)) (n := l.length) ?_ ⟨0, [], by omega, by omega, rfl, RoX.nil⟩ ?_
     ·rintro n st H ⟨i, r, rfl, hi, rfl, hr⟩
      rw [spec_l11RawAddBox_l7_eq]
      by_cases hlt : i < l.length
      ·have i1 := vX_idx false l .i64 i hlt
       rw [eX_e] at i1
       have e5 : vBinV (.int .i64) .add (.int .i64 (i : Int)) (.int .i64 1) = some (.int .i64 ((i + 1 : Nat) : Int)) := n_addN _ i 1 (by omega)
       have htk := List.take_succ_eq_append_getElem hlt
       have hrl := hr.len
       have hil : (insX p (l.take i)).length <= l.length + 1 := by rw [insX_len, List.length_take]; omega
       by_cases hd : (l.take i).any (gtX p) = true
       ·rw [hd] at hr hrl ⊢
        simp only [if_true] at hr hrl
        have a1 := hr.app1 (RoX.one l[i]) (by simp; omega)
        have hd2 : (l.take (i + 1)).any (gtX p) = true := by rw [htk, List.any_append, hd]; rfl
        simp only [evv, i1, a1, e5, show ((i : Int) < (l.length : Int)) from by omega]
        refine ⟨_, rfl, .inr ⟨rfl, l.length - (i + 1), by omega, i + 1, _, rfl, by omega, by rw [hd2], ?_⟩⟩
        rw [hd2, if_pos rfl, htk, insX_some hd]
        exact hr.app (RoX.one l[i])
       ·have hd' : (l.take i).any (gtX p) = false := by simpa using hd
        rw [hd'] at hr hrl ⊢
        simp only [Bool.false_eq_true, if_false] at hr hrl
        by_cases hg : ltT p l[i].path = true
        ·have hd2 : (l.take (i + 1)).any (gtX p) = true := by
          rw [htk, List.any_append, hd']
          simp only [List.any_cons, List.any_nil, gtX, hg, Bool.or_false, Bool.or_true]
         have a0 := hr.app1 (RoX.new p) (by simp; omega)
         have hr1 := hr.app (RoX.new p)
         have a1 := hr1.app1 (RoX.one l[i]) (by simp; omega)
         simp only [evv, i1, t_lss, hg, a0, a1, e5, show ((i : Int) < (l.length : Int)) from by omega]
         refine ⟨_, rfl, .inr ⟨rfl, l.length - (i + 1), by omega, i + 1, _, rfl, by omega, by rw [hd2], ?_⟩⟩
         rw [hd2, if_pos rfl, htk, insX_here hg hd']
         have hcat : l.take i ++ [⟨p, []⟩, l[i]] = l.take i ++ [⟨p, []⟩] ++ [l[i]] := by simp
         rw [hcat]
         exact hr1.app (RoX.one l[i])
        ·have hg' : ltT p l[i].path = false := by simpa using hg
         have hd2 : (l.take (i + 1)).any (gtX p) = false := by
          rw [htk, List.any_append, hd']
          simp only [List.any_cons, List.any_nil, gtX, hg', Bool.or_false]
         have a1 := hr.app1 (RoX.one l[i]) (by simp; omega)
         simp only [evv, i1, t_lss, hg', a1, e5, show ((i : Int) < (l.length : Int)) from by omega]
         refine ⟨_, rfl, .inr ⟨rfl, l.length - (i + 1), by omega, i + 1, _, rfl, by omega, by rw [hd2], ?_⟩⟩
         rw [hd2, if_neg (by simp), htk]
         exact hr.app (RoX.one l[i])
      ·have : i = l.length := by omega
       subst this
       rw [List.take_length] at hr ⊢
       simp only [evv, show ¬ ((l.length : Int) < (l.length : Int)) from by omega]
       exact ⟨_, rfl, .inl ⟨0, rfl, r, rfl, rfl, hr⟩⟩
     ·rintro _ _ H ⟨r, rfl, rfl, hr⟩
      by_cases hd : l.any (gtX p) = true
      ·rw [hd] at hr ⊢
       simp only [if_true] at hr
       simp only [evv]
       exact Gets.here ⟨r, hr, rfl⟩
      ·have hd' : l.any (gtX p) = false := by simpa using hd
       rw [hd'] at hr ⊢
       simp only [Bool.false_eq_true, if_false] at hr
       have a0 := hr.app1 (RoX.new p) (by simp; omega)
       simp only [evv, a0]
       rw [insX_none hd']
       exact Gets.here ⟨_, hr.app (RoX.new p), rfl⟩
  ·have c2' : pathT p = false := by simpa using c2
   have hB : addB l p = false := by unfold addB; rw [c1, c2']; rfl
   have hR : addR l p = [] := by unfold addR; rw [hB]; rfl
   simp only [evv, e1, e2, c1, c2']
   rw [hB, hR]
   exact Gets.here ⟨[], RoX.nil, rfl⟩
 ·have c1' : boxesT l = false := by simpa using c1
  have hB : addB l p = false := by unfold addB; rw [c1']; rfl
  have hR : addR l p = [] := by unfold addR; rw [hB]; rfl
  simp only [evv, e1, c1']
  rw [hB, hR]
  exact Gets.here ⟨[], RoX.nil, rfl⟩
theorem addR_sm {l : List Box} {p : Bs} (h : SmXs l) (hl : l.length <= 1049600) (hp : p.length <= 1049600) : SmXs (addR l p) := by
 unfold addR
 split
 ·rename_i hB
  have h8 : l.length <= 8 := by
   unfold addB boxesT at hB
   simp only [Bool.and_eq_true, decide_eq_true_eq] at hB
   exact hB.1.1
  refine ⟨by rw [insX_len]; omega, fun b hb => ?_⟩
  rcases insX_mem hb with rfl | hb
  ·exact ⟨by show p.length <= _; omega, by simp [SmMs]⟩
  ·exact h.2 b hb
 ·exact ⟨by simp, by simp⟩
theorem spec_AddBox_c (l : List Box) (p : Bs) (h : SmXs l) (hl : l.length <= 1049600) (hp : p.length <= 1049600) : pc id_spec_AddBox [.sl false (vR eX l), .str p] = some (.tup [.sl true (vOX (addR l p)), .bool (addB l p)]) := by
 obtain ⟨r, hr, e1⟩ := RawAddBox_c l p h (by omega)
 have e2 := l13OwnListBox_c (addR l p) (addR_sm h hl hp)
 rw [<- hr.1] at e2
 refine pc_of (H := []) ?_ (by simp only [evv]) (by simp only [data, dataL, vOX_data, Bool.and_self])
 show cv _ _ _ = _
 rw [spec_AddBox_eq]
 simp only [evv, e1, e2]
def DX (n : Nat) (l : List Box) : Prop := l.length <= n /\ ∀ b ∈ l, b.path.length <= 200 /\ b.mails.length <= n /\ ∀ m ∈ b.mails, TnM m
theorem DX.sm {n : Nat} {l : List Box} (h : DX n l) (hn : n <= 1049600) : SmXs l :=
 ⟨by have := h.1; omega, fun b hb => ⟨by have := (h.2 b hb).1; omega, by have := (h.2 b hb).2.1; omega, fun m hm => ((h.2 b hb).2.2 m hm).sm⟩⟩
theorem DX.le {n k : Nat} {l : List Box} (h : DX n l) (hn : n <= k) : DX k l := ⟨by have := h.1; omega, fun b hb => ⟨(h.2 b hb).1, by have := (h.2 b hb).2.1; omega, (h.2 b hb).2.2⟩⟩
theorem DX.path {n : Nat} {l : List Box} (h : DX n l) : ∀ b ∈ l, b.path.length <= 1049600 := fun b hb => by have := (h.2 b hb).1; omega
theorem DX.nil (n : Nat) : DX n [] := ⟨by simp, by simp⟩
theorem DX.add {n : Nat} {l : List Box} {p : Bs} (h : DX n l) (hp : p.length <= 200) : DX (n + 1) (addR l p) := by
 unfold addR
 split
 ·refine ⟨by rw [insX_len]; have := h.1; omega, fun b hb => ?_⟩
  rcases insX_mem hb with rfl | hb
  ·exact ⟨hp, by simp, by simp⟩
  ·have := h.2 b hb; exact ⟨this.1, by omega, this.2.2⟩
 ·exact DX.nil _
theorem TnM.to1 {m : Mail} (h : TnM m) : ∀ t ∈ m.to, t.length <= 1049600 := fun t ht => by have := h.2.1.2 t ht; omega
theorem DX.dl1 {n : Nat} {l : List Box} {m : Mail} {t : Bs} (h : DX n l) (hm : TnM m) (ht : t.length <= 200) : DX (n + 1) (Q.dl1 l m t).1 := by
 refine ⟨by rw [dl1_len]; have := h.1; omega, fun b hb => ?_⟩
 unfold Q.dl1 at hb
 split at hb
 ·rename_i ha
  have hlt := findIdx_isP ha
  split at hb
  ·have := h.2 b hb; exact ⟨this.1, by omega, this.2.2⟩
  ·rcases List.mem_or_eq_of_mem_set hb with hb | rfl
   ·have := h.2 b hb; exact ⟨this.1, by omega, this.2.2⟩
   ·have := h.2 _ (boxAt_mem hlt)
    refine ⟨this.1, by simp; omega, fun x hx => ?_⟩
    rcases List.mem_append.1 hx with hx | hx
    ·exact this.2.2 x hx
    ·simp at hx; subst hx
     exact ⟨hm.1, TnT.one (by omega) ht, hm.2.2⟩
 ·have := h.2 b hb; exact ⟨this.1, by omega, this.2.2⟩
theorem DX.dlN {m : Mail} (hm : TnM m) : ∀ {tos : List Bs} {n : Nat} {s : List Box × List Int}, DX n s.1 -> (∀ t ∈ tos, t.length <= 200) -> DX (n + tos.length) (Q.dlN m tos s).1
 | [], n, s, h, _ => by simpa [Q.dlN] using h
 | t :: tos, n, s, h, ht => by
   have h1 := DX.dl1 (t := t) h hm (ht t (by simp))
   have := DX.dlN (tos := tos) (s := dlS m s t) hm h1 (fun u hu => ht u (by simp [hu]))
   simp only [Q.dlN, List.foldl_cons, List.length_cons] at this ⊢
   exact this.le (by omega)
theorem DX.dlv {n : Nat} {l : List Box} {m : Mail} (h : DX n l) (hm : TnM m) : DX (n + 10) (dlvR l m).1 := by
 unfold dlvR
 by_cases hb : (boxesT l && mailT m 1 30) = true
 ·rw [hb]
  rw [Bool.and_eq_true] at hb
  have := mailT_to hb.2
  exact (DX.dlN (tos := m.to) (s := (l, [])) hm h (fun t ht => hm.2.1.2 t ht)).le (by omega)
 ·have : (boxesT l && mailT m 1 30) = false := by simpa using hb
  rw [this]; exact DX.nil _
theorem l11Draw_g {k b : Nat} {H : VH} (hR : Rd k b H) (hb : b <= 700000000) : Gets2 (cv id_spec_l11Draw [.ptr k 0] H) (fun v H' => ∃ l, v = .sl true (vOX l) /\ DX 100 l /\ Rd k (b + 200) H') := by
 refine Gets2.of ?_
 rw [spec_l11Draw_eq]
 simp only [evv]
 refine (num_g hR (by omega) (by decide)).bind ?_
 rintro _ H1 ⟨j, rfl, hj, R1⟩
 obtain ⟨j, rfl, hj3⟩ : ∃ n : Nat, j = n /\ n <= 3 := by
  simp only [unI, List.mem_cons, List.not_mem_nil, or_false] at hj
  rcases hj with rfl | rfl | rfl | rfl
  ·exact ⟨2, rfl, by omega⟩
  ·exact ⟨3, rfl, by omega⟩
  ·exact ⟨1, rfl, by omega⟩
  ·exact ⟨0, rfl, by omega⟩
 simp only [evv]
 refine Gets.loop2 (I := fun n st G => n <= 3 /\ ∃ l : List Box, st = [.ptr k 0, .sl true (vOX l), .int .i64 (n : Nat)] /\ DX (3 - n) l /\ Rd k (b + 10 - n) G)
  (P := fun q vs G => ∃ l : List Box, q = 0 /\ vs = [.ptr k 0, .sl true (vOX l)] /\ DX 3 l /\ Rd k (b + 10) G) (n := j) ?_ ⟨hj3, [], rfl, DX.nil _, R1.le (by omega)⟩ ?_
 ·rintro n st G ⟨hn, l, rfl, hl, R⟩
  rw [spec_l11Draw_l3_eq]
  by_cases h : n = 0
  ·subst h
   simp only [evv]
   exact ⟨_, rfl, .inl ⟨0, rfl, l, rfl, rfl, hl, R.le (by omega)⟩⟩
  ·have a2 : vBinV (.int .i64) .sub (.int .i64 (n : Int)) (.int .i64 1) = some (.int .i64 ((n - 1 : Nat) : Int)) := n_subN _ n 1 (by omega) (by omega)
   simp only [evv, show ((n : Nat) : Int) > 0 from by omega]
   refine Gets.bind (P := fun r => ∃ (l : List Box) (G : VH), r = (0, [.ptr k 0, .sl true (vOX l), .int .i64 (n : Nat)], G) /\ DX (3 - (n - 1)) l /\ Rd k (b + 10 - (n - 1)) G) ?_ ?_
   ·refine (of_g R (by omega) (by decide)).bind ?_
    rintro _ G1 ⟨p, rfl, -, hp, R1⟩
    have e1 := spec_AddBox_c l p (hl.sm (by omega)) (by have := hl.1; omega) (by omega)
    simp only [evv, vOX_strip, e1]
    by_cases hB : addB l p = true
    ·simp only [evv, hB]
     exact Gets.here ⟨addR l p, _, rfl, (hl.add hp).le (by omega), R1.le (by omega)⟩
    ·have hB' : addB l p = false := by simpa using hB
     simp only [evv, hB']
     exact Gets.here ⟨l, _, rfl, hl.le (by omega), R1.le (by omega)⟩
   ·rintro _ ⟨l, G, rfl, hl, R⟩
    simp only [evv, a2]
    exact ⟨_, rfl, .inr ⟨rfl, n - 1, by omega, by omega, l, rfl, hl, R⟩⟩
 rintro _ _ H2 ⟨l, rfl, rfl, hl, R2⟩
 simp only [evv]
 refine (num_g R2 (by omega) (by decide)).bind ?_
 rintro _ H3 ⟨j, rfl, hj, R3⟩
 obtain ⟨j, rfl, hj5⟩ : ∃ n : Nat, j = n /\ n <= 5 := by
  simp only [unI, List.mem_cons, List.not_mem_nil, or_false] at hj
  rcases hj with rfl | rfl | rfl | rfl
  ·exact ⟨1, rfl, by omega⟩
  ·exact ⟨2, rfl, by omega⟩
  ·exact ⟨0, rfl, by omega⟩
  ·exact ⟨5, rfl, by omega⟩
 simp only [evv]
 refine Gets.loop2 (I := fun n st G => n <= 5 /\ ∃ l : List Box, st = [.ptr k 0, .sl true (vOX l), .int .i64 (n : Nat)] /\ DX (3 + 10 * (5 - n)) l /\ Rd k (b + 20 + 20 * (5 - n)) G)
  (P := fun q vs G => ∃ l : List Box, q = 0 /\ vs = [.sl true (vOX l)] /\ DX 100 l /\ Rd k (b + 200) G) (n := j) ?_ ⟨hj5, l, rfl, hl.le (by omega), R3.le (by omega)⟩ ?_
 ·rintro n st G ⟨hn, l, rfl, hl, R⟩
  rw [spec_l11Draw_l9_eq]
  by_cases h : n = 0
  ·subst h
   simp only [evv]
   exact ⟨_, rfl, .inl ⟨0, rfl, l, rfl, rfl, hl.le (by omega), R.le (by omega)⟩⟩
  ·have a2 : vBinV (.int .i64) .sub (.int .i64 (n : Int)) (.int .i64 1) = some (.int .i64 ((n - 1 : Nat) : Int)) := n_subN _ n 1 (by omega) (by omega)
   simp only [evv, show ((n : Nat) : Int) > 0 from by omega]
   refine (DrawMail_g R (by omega)).bind ?_
   rintro _ G1 ⟨m, rfl, hm, -, R1⟩
   have e1 := spec_DeliverMail_c l m (hl.sm (by omega)) hl.path hm.sm hm.to1
   simp only [cM_e] at e1
   simp only [evv, vOX_strip, cO_e, e1, a2]
   exact ⟨_, rfl, .inr ⟨rfl, n - 1, by omega, by omega, _, rfl, (hl.dlv hm).le (by omega), R1.le (by omega)⟩⟩
 rintro _ _ H4 ⟨l, rfl, rfl, hl, R4⟩
 simp only [evv]
 exact Gets.here ⟨l, rfl, hl, R4⟩
def VX (v : V) (k : Nat) (H : VH) (l : List Box) : Prop := (∃ o r, v = .sl o r /\ RoX r l) ∨ (∃ j r, v = .obs j 0 r.length 2 /\ j ≠ k /\ H[j]? = some r.flatten /\ r ≠ [] /\ RoX r l)
theorem VX.fr {v : V} {k b : Nat} {F H : VH} {l : List Box} (h : VX v k F l) (hf : Rf F k b H) : VX v k H l := by
 rcases h with h | ⟨j, r, h1, h2, h3, h4⟩
 ·exact .inl h
 ·exact .inr ⟨j, r, h1, h2, by rw [hf.2.2 j h2 (List.getElem?_eq_some_iff.1 h3).1]; exact h3, h4⟩
theorem VX.copy {v : V} {k : Nat} {H : VH} {l : List Box} (h : VX v k H l) (hs : SmXs l) : pco id_spec_l11Copy H [Go.AM.strip v] = some (.sl true (vOX l)) := by
 have e := l11Copy_c l hs
 rcases h with ⟨o, r, rfl, hr⟩ | ⟨j, r, rfl, hj, hk, hne, hr⟩
 ·have hd : dataL [Go.AM.strip (.sl o r)] = true := by simp only [Go.AM.strip, dataL, data, hr.1, vR_data, Bool.and_self]
  rw [pco_d hd]
  simp only [List.map, Go.AM.strip, hr.1, vR_strip]
  exact e
 ·have h1 : noObsL [Go.AM.strip (.obs j 0 r.length 2)] = false := rfl
  refine pcallO_o h1 ?_ (by simp only [ownA, Bool.true_or, vOX_own, Bool.and_self])
  have h2 : frD 3 H (.obs j 0 r.length 2) = .sl false (vR eX l) := by
   have := frD_obs 3 hk hr.rows hr.2.1
   rw [hr.1] at this
   exact this
  show pcall cv _ [frD 3 H (.obs j 0 r.length 2)] = _
  rw [h2]
  exact e
theorem appO_obs {b bytes k e : Nat} {r s : List (List V)} {H : VH} (hk : H[k]? = some r.flatten) (hr : Go.AM.Rows e r) (hne : r ≠ []) (hs : s ≠ []) (he : eszOk e s = true) (hb : (r.length + s.length) * bytes <= 140737488355328) (fl : Bool) :
 appO fl false e bytes (.obs k 0 r.length e) (.sl true s) H = some (.obs H.length 0 (r.length + s.length) e, H.set k [] ++ [r.flatten ++ s.flatten]) := by
 simp only [appO, hk, Option.bind_some]
 have h0 : 0 < r.length := List.length_pos_iff.2 hne
 rw [if_pos ⟨trivial, trivial, h0, hr.flat, he, hb⟩]
 cases s with
 | nil => exact absurd rfl hs
 | cons y l => rfl
theorem l11Wrong_g {k b n : Nat} {H : VH} {v : V} {l : List Box} (hR : Rd k b H) (hb : b <= 700000000) (hv : VX v k H l) (hl : DX n l) (hn : n <= 100000) : Gets2 (cv id_spec_l11Wrong [.ptr k 0, v] H) (fun w H' => ∃ l', VX w k H' l' /\ DX (n + 1) l' /\ Rd k (b + 3) H') := by
 have e1 := hv.copy (hl.sm (by omega))
 refine Gets2.of ?_
 rw [spec_l11Wrong_eq]
 simp only [e1, Option.bind_some]
 obtain ⟨o0, rest⟩ := hR
 have hR : Rd k b H := ⟨o0, rest⟩
 have hkl : k < H.length := by obtain ⟨_, _, h, _⟩ := rest; exact (List.getElem?_eq_some_iff.1 h).1
 by_cases hne : l = []
 ·subst hne
  show Gets (promB 1 (.sl true []) H _) _
  rw [promB_nil]
  simp only [evv]
  refine (pick_g (n := 20) hR (by omega) (by omega) (by omega)).bind ?_
  rintro _ H1 ⟨i, rfl, hi, R1⟩
  simp only [evv, decide_eq_true_eq]
  refine Gets.ite (fun h => ?_) (fun h => ?_)
  ·refine (of_g R1 (by omega) (by decide)).bind ?_
   rintro _ H2 ⟨q, rfl, -, hq, R2⟩
   have ap : appV false 2 40 [] (.sl true [[.str q, .sl true []]]) = some (.sl true ([] ++ [[.str q, .sl true []]])) := v_app 2 40 [] true _ rfl rfl (by simp)
   simp only [evv, appO_sl false false 2 40 true [] (.sl true [[.str q, .sl true []]]) H2 (.inl rfl), ap]
   refine Gets.here ⟨[⟨q, []⟩], .inl ⟨_, _, rfl, RoX.nil.app (RoX.new q)⟩, ⟨by simp, fun b hb => ?_⟩, R2.le (by omega)⟩
   simp at hb; subst hb; exact ⟨hq, by simp, by simp⟩
  ·refine Gets.ite (fun h => ?_) (fun h => ?_)
   ·exact Gets.here ⟨[], .inl ⟨_, _, rfl, RoX.nil⟩, DX.nil _, R1.le (by omega)⟩
   ·exact Gets.here ⟨[], .inl ⟨_, _, rfl, RoX.nil⟩, DX.nil _, R1.le (by omega)⟩
 ·have hvne : vOX l ≠ [] := fun e => hne (by simpa [vOX] using e)
  rw [promB_one H _ hvne (vOX_rows l) (vOX_own l), vOX_len]
  have R0 : Rf (H ++ [(vOX l).flatten]) k b (H ++ [(vOX l).flatten]) := Rf.refl (rd_lg hR (Lg.one _ _))
  have cell : ∀ {G : VH} {b' : Nat}, Rf (H ++ [(vOX l).flatten]) k b' G -> G[H.length]? = some (vOX l).flatten := fun {G b'} R => by
   rw [R.2.2 H.length (by omega) (by simp)]; simp
  have hlen := hl.1
  have hpos : 0 < l.length := List.length_pos_iff.2 hne
  simp only [evv]
  refine (pick_f (n := 20) R0 (by omega) (by omega) (by omega)).bind ?_
  rintro _ H1 ⟨i, rfl, hi, R1⟩
  simp only [evv, decide_eq_true_eq]
  refine Gets.ite (fun h => ?_) (fun h => ?_)
  ·refine (of_f R1 (by omega) (by decide)).bind ?_
   rintro _ H2 ⟨q, rfl, -, hq, R2⟩
   have hc := cell R2
   have ap := appO_obs (bytes := 40) (b := 0) (s := [[.str q, .sl true []]]) hc (vOX_rows l) hvne (by simp) rfl (by rw [vOX_len]; simp; omega) false
   rw [vOX_len] at ap
   simp only [evv, ap]
   have hfl : (vOX l).flatten ++ [[V.str q, V.sl true []]].flatten = (vOX (l ++ [⟨q, []⟩])).flatten := by
    rw [<- vOX_app, List.flatten_append]; rfl
   rw [hfl]
   have hl2 : H.length < H2.length := (List.getElem?_eq_some_iff.1 hc).1
   refine Gets.here ⟨l ++ [⟨q, []⟩], .inr ⟨H2.length, vOX (l ++ [⟨q, []⟩]), by rw [vOX_len]; simp, by omega, by simp, by simp [vOX], RoX.own _⟩, ⟨by simp; omega, fun b hb => ?_⟩, ?_⟩
   ·rcases List.mem_append.1 hb with hb | hb
    ·have := hl.2 b hb; exact ⟨this.1, by omega, this.2.2⟩
    ·simp at hb; subst hb; exact ⟨hq, by simp, by simp⟩
   ·refine rd_lg ?_ (Lg.one _ _)
    obtain ⟨o, xs, p, h1, h2, h3⟩ := R2.1
    exact ⟨o, xs, p, by rw [List.getElem?_set_ne (by omega)]; exact h1, by omega, h3⟩
  ·refine Gets.ite (fun h => ?_) (fun h => ?_)
   ·have hgt : (l.length : Int) > 0 := by omega
    simp only [evv, hgt]
    refine (pick_f (n := l.length) R1 (by omega) (by omega) (by omega)).bind ?_
    rintro _ H2 ⟨i, rfl, hi, R2⟩
    have hc := cell R2
    have g1 : vIdxV 2 (.obs H.length 0 l.length 2) (.int .i64 (i : Nat)) = some (.ptr H.length (i * 2)) := vi_obs hi
    have g3 := box_take hc hi globB
    have hbx := hl.2 _ (List.getElem_mem hi)
    have g4 := mails_appO (l := l[i].mails) ⟨[120], [], []⟩ (by omega)
    have g4' : ∀ H, appO false false 3 64 (.sl true (vO l[i].mails)) (.sl true [[.str [120], .sl true [], .sl true []]]) H = some (.sl true (vO (l[i].mails ++ [⟨[120], [], []⟩])), H) := g4
    have g5 := fun w => box_put hc hi (l[i].mails ++ [⟨[120], [], []⟩]) w
    simp only [evv, g1, g3, g4', g5]
    have hl2 : H.length < H2.length := (List.getElem?_eq_some_iff.1 hc).1
    refine Gets.here ⟨l.set i ⟨l[i].path, l[i].mails ++ [⟨[120], [], []⟩]⟩, .inr ⟨H.length, _, by rw [vOX_len, List.length_set], by omega, by simp [hl2], fun e => ?_, RoX.own _⟩, ⟨by simp; omega, fun b hb => ?_⟩, ?_⟩
    ·have := congrArg List.length e
     rw [vOX_len, List.length_set, List.length_nil] at this
     omega
    ·rcases List.mem_or_eq_of_mem_set hb with hb | rfl
     ·have := hl.2 b hb; exact ⟨this.1, by omega, this.2.2⟩
     ·refine ⟨hbx.1, by simp; omega, fun m hm => ?_⟩
      rcases List.mem_append.1 hm with hm | hm
      ·exact hbx.2.2 m hm
      ·simp at hm; subst hm; exact ⟨by simp, TnT.none _, TnT.none _⟩
    ·obtain ⟨o, xs, p, h1, h2, h3⟩ := R2.1
     exact ⟨o, xs, p, by rw [List.getElem?_set_ne (by omega)]; exact h1, by omega, h3⟩
   ·refine Gets.here ⟨l, .inr ⟨H.length, vOX l, by rw [vOX_len], by omega, cell R1, hvne, RoX.own _⟩, hl.le (by omega), R1.1.le (by omega)⟩
end Go.Proofs.YtpmpggihngmnoaaGreatDoor.Q

/- Contracts: a dialogue, as the second writing tells it. -/
import Derived.Test.YtjpkhkndkockiaaGreatDoorExactSayAllC70boxesZ
namespace Go.Proofs.YtjpkhkndkockiaaGreatDoor.Q
open Go Go.AM
set_option linter.unusedSimpArgs false
set_option linter.unusedVariables false
set_option linter.unusedSectionVars false
def vO (l : List Mail) : List (List V) := l.map cO
theorem vO_len (l : List Mail) : (vO l).length = l.length := by simp [vO]
theorem cO_strip (m : Mail) : stripL (cO m) = cM m := by simp only [cO, cM, stripL, strip, vT_strip]
theorem vO_strip : ∀ l : List Mail, stripLL (vO l) = vR eM l
 | [] => rfl
 | m :: l => by
   show stripL (cO m) :: stripLL (vO l) = _
   rw [vO_strip l, cO_strip]; rfl
theorem vO_esz (l : List Mail) : eszOk 3 (vO l) = true := by simp [eszOk, vO, cO]
theorem vO_app (l k : List Mail) : vO l ++ vO k = vO (l ++ k) := by simp [vO]
theorem vO_data : ∀ l : List Mail, dataLL (vO l) = true
 | [] => rfl
 | m :: l => by
   show (dataL (cO m) && dataLL (vO l)) = true
   rw [vO_data l, Bool.and_true]
   simp only [cO, dataL, data, vT_data, Bool.and_self]
def cSo (s : Session) : List V := [.int .i64 s.state, .str s.host, .str s.draft.from_, .sl true (vT s.draft.to), .sl true (vT s.draft.lines), .sl true (vO s.done)]
theorem cSo_e (s : Session) : cSo s = [.int .i64 s.state, .str s.host, .str s.draft.from_, .sl true (vT s.draft.to), .sl true (vT s.draft.lines), .sl true (vO s.done)] := by exact id rfl
def AsS (v : V) (s : Session) : Prop := ∃ x y z, v = .agg [.int .i64 s.state, .str s.host, .str s.draft.from_, x, y, z] /\ strip x = .sl false (vT s.draft.to) /\ strip y = .sl false (vT s.draft.lines) /\ strip z = .sl false (vR eM s.done)
theorem AsS.own (s : Session) : AsS (.agg (cSo s)) s := ⟨_, _, _, rfl, by simp only [strip, vT_strip], by simp only [strip, vT_strip], by simp only [strip, vO_strip]⟩
theorem AsS.str (s : Session) : AsS (.agg (cS s)) s := ⟨_, _, _, rfl, by simp only [strip, vT_strip], by simp only [strip, vT_strip], by simp only [strip, vR_strip]⟩
theorem mails_app {l : List Mail} (m : Mail) (h : l.length + 1 <= 2000000) : appV false 3 64 (vO l) (.sl true [[.str m.from_, .sl true (vT m.to), .sl true (vT m.lines)]]) = some (.sl true (vO (l ++ [m]))) := by
 have := v_app 3 64 (vO l) true (vO [m]) (vO_esz _) (vO_esz _) (by rw [vO_len, vO_len]; simp; omega)
 rw [vO_app] at this
 exact this
theorem ld_take {g : Nat -> Option (List V)} {k off : Nat} {H : VH} {cs : List V} {v : V} (h : H[k]? = some cs) (hv : cs[off]? = some v) : ldO g true false 1 (.ptr k off) H = some (v, H.set k (gseg cs off [strip v])) := by
 simp only [ldO, h, loadC, hv, Option.bind_some, Option.map_some]
theorem ld_all {g : Nat -> Option (List V)} {k n : Nat} {H : VH} {cs : List V} (h : H[k]? = some cs) (hn : cs.length = n) : ldO g true true n (.ptr k 0) H = some (.agg cs, H.set k (stripL cs)) := by
 have e : gcut cs 0 n = some cs := by rw [gcut_mk (by omega)]; simp [<- hn]
 have e2 : gseg cs 0 (stripL cs) = stripL cs := by
  unfold gseg
  rw [stripL_len]; simp
 simp only [ldO, h, loadC, e, Option.bind_some, Option.map_some, e2]
theorem st_all {k : Nat} {H : VH} {cs c : List V} (h : H[k]? = some cs) (hn : c.length = cs.length) : stO (.ptr k 0) c H = some (H.set k c) := by
 have e2 : gseg cs 0 c = c := by
  unfold gseg
  rw [show 0 + c.length = cs.length from by omega]; simp
 rw [so_seg h (by omega), e2]
theorem set_end (H : VH) (a b : List V) : (H ++ [a]).set H.length b = H ++ [b] := by simp
def Lg (H H' : VH) : Prop := ∃ X, H' = H ++ X
theorem Lg.refl (H : VH) : Lg H H := ⟨[], by simp⟩
theorem Lg.one (H : VH) (a : List V) : Lg H (H ++ [a]) := ⟨[a], rfl⟩
theorem Lg.trans {a b c : VH} (h : Lg a b) (k : Lg b c) : Lg a c := by
 obtain ⟨x, rfl⟩ := h
 obtain ⟨y, rfl⟩ := k
 exact ⟨x ++ y, by simp⟩
def innP (r : Bs) : Option Bs := if 2 <= r.length /\ r.head? = some 60 /\ r.getLast? = some 62 then some ((r.drop 1).take (r.length - 2)) else none
def pathF (s : Bs) : Bs := if (64 : UInt8) ∈ s then cutA 64 s ++ [64] ++ lowT (cutZ 64 s) else s
def okP (p : Bs) : Option Bs := if fromT (pathF p) = true then some (pathF p) else none
def argP (w r : Bs) : Option Bs := if w.length <= r.length /\ lowT (r.take w.length) = w then (innP (r.drop w.length)).bind okP else none
def noM : Mail := ⟨[], [], []⟩
def noS : Session := ⟨0, [], noM, []⟩
def fromF (s : Session) (p : Option Bs) : Session × Int :=
 match p with
 | none => (s, 501)
 | some p => if s.state = 1 then (⟨2, s.host, ⟨p, [], []⟩, s.done⟩, 250) else (s, 503)
def toF (s : Session) (p : Option Bs) : Session × Int :=
 match p with
 | none => (s, 501)
 | some p => if p = [] then (s, 501) else if s.state = 2 ∨ s.state = 3 then (if s.draft.to.length = 10 then (s, 452) else (⟨3, s.host, ⟨s.draft.from_, s.draft.to ++ [p], s.draft.lines⟩, s.done⟩, 250)) else (s, 503)
def helloF (s : Session) (h : Bs) : Session × Int := if domT h = true then (⟨1, h, noM, s.done⟩, 250) else (s, 501)
def wordF (s : Session) (l : Bs) : Session × Int :=
 if l = [100, 97, 116, 97] then (if s.state = 3 then (⟨4, s.host, s.draft, s.done⟩, 354) else (s, 503))
 else if l = [114, 115, 101, 116] then (⟨if s.state = 0 then s.state else 1, s.host, noM, s.done⟩, 250)
 else if l = [110, 111, 111, 112] then (s, 250)
 else if l = [113, 117, 105, 116] then (⟨5, s.host, noM, s.done⟩, 221)
 else (s, 500)
def cmdF (s : Session) (line : Bs) : Session × Int :=
 if lowT (cutA 32 line) = [104, 101, 108, 111] then helloF s (lowT (cutZ 32 line))
 else if lowT (cutA 32 line) = [109, 97, 105, 108] then fromF s (argP [102, 114, 111, 109, 58] (cutZ 32 line))
 else if lowT (cutA 32 line) = [114, 99, 112, 116] then toF s (argP [116, 111, 58] (cutZ 32 line))
 else wordF s (lowT line)
def unst (l : Bs) : Bs := if l.head? = some 46 then l.drop 1 else l
def dataF (s : Session) (line : Bs) : Session × Int :=
 if line = [46] then
  (if 30 < s.draft.lines.length then (⟨1, s.host, noM, s.done⟩, 552) else if s.done.length = 5 then (⟨1, s.host, noM, s.done⟩, 452) else (⟨1, s.host, noM, s.done ++ [s.draft]⟩, 250))
 else if s.draft.lines.length <= 30 then (⟨s.state, s.host, ⟨s.draft.from_, s.draft.to, s.draft.lines ++ [unst line]⟩, s.done⟩, 0) else (s, 0)
def sayB (s : Session) (line : Bs) : Bool := sessT s && (!decide (s.state = 5) && textT line)
def sayF (s : Session) (line : Bs) : Session × Int := if s.state = 4 then dataF s line else cmdF s line
def sayS (s : Session) (line : Bs) : Session := if sayB s line = true then (sayF s line).1 else noS
def sayN (s : Session) (line : Bs) : Int := if sayB s line = true then (sayF s line).2 else 0
theorem take_idx (c : UInt8) : ∀ s : Bs, c ∉ s.take (s.idxOf c)
 | [] => by simp
 | b :: s => by
   by_cases h : b = c
   ·subst h; simp
   ·have ih := take_idx c s
    have e : (b :: s).idxOf c = s.idxOf c + 1 := by rw [List.idxOf_cons, show (b == c) = false from by simpa using h]; rfl
    rw [e, List.take_succ_cons, List.mem_cons]
    rintro (e | e)
    ·exact h e.symm
    ·exact ih e
theorem cutA_not {c : UInt8} {s : Bs} : c ∉ cutA c s := by
 unfold cutA
 split
 ·exact take_idx c s
 ·assumption
theorem cut_app {c : UInt8} {a z : Bs} (h : c ∉ a) : cutA c (a ++ [c] ++ z) = a /\ cutZ c (a ++ [c] ++ z) = z := by
 have hm : c ∈ a ++ [c] ++ z := by simp
 have hi : (a ++ [c] ++ z).idxOf c = a.length := by
  rw [List.append_assoc, List.idxOf_append, if_neg h]; simp
 unfold cutA cutZ
 rw [if_pos hm, if_pos hm, hi]
 simp
theorem fromT_path {a z : Bs} (h : (64 : UInt8) ∉ a) : fromT (a ++ [64] ++ z) = (locT a && domT z) := by
 have h1 := cut_app (z := z) h
 unfold fromT pathT
 rw [h1.1, h1.2, decide_eq_true (show (64 : UInt8) ∈ a ++ [64] ++ z by simp), decide_eq_false (by simp)]
 rfl
theorem pathF_key {s a z : Bs} {ok : Bool} (hs : s ≠ []) (hR : CutR 64 s a z ok) : okP s = if (ok && addrT [] a (lowT z)) = true then some (a ++ [64] ++ lowT z) else none := by
 unfold okP pathF
 have ht : ∀ a d, addrT [] a d = (locT a && domT d) := fun a d => by
  unfold addrT
  rw [show (textT [] && decide (([] : Bs).length <= 40)) = true from rfl, Bool.true_and]
 have hno : ¬ (64 : UInt8) ∈ s -> fromT s = false := fun hm => by
  unfold fromT pathT
  rw [decide_eq_false hs, decide_eq_false hm]; rfl
 rcases hR with ⟨hq, rfl, rfl, rfl⟩ | ⟨hq, hqa, _, _⟩
 ·by_cases hm : (64 : UInt8) ∈ s
  ·rw [if_pos hm, fromT_path cutA_not, ht, decide_eq_true hm, Bool.true_and]
  ·rw [if_neg hm, hno hm, decide_eq_false hm]; rfl
 ·rw [ht, loc_noq hqa, Bool.false_and, Bool.and_false]
  by_cases hm : (64 : UInt8) ∈ s
  ·rw [if_pos hm, fromT_path cutA_not, loc_noq hq]; rfl
  ·rw [if_neg hm, hno hm]; rfl
theorem l10Path_g (line b : Bs) (hl : line.length <= 4000000) (hb : b.length <= 100) : ∃ p ok, qc id_spec_l10Path [.str line, .str b] = some (.tup [.str p, .bool ok]) /\ (ok = true -> p.length <= line.length + 1) /\ argP (lowT b) line = if ok = true then some p else none := by
 have hbl : (lowT b).length = b.length := by simp [lowT]
 suffices hg : Gets (cv id_spec_l10Path [.str line, .str b] []) fun r => ∃ p ok, r.1 = .tup [.str p, .bool ok] /\ (ok = true -> p.length <= line.length + 1) /\ argP (lowT b) line = if ok = true then some p else none by
  obtain ⟨⟨v, H⟩, e, p, ok, h, h2⟩ := hg
  have h : v = _ := h
  subst h
  exact ⟨p, ok, qc_of e (by simp only [evv]) (by simp only [evv]), h2⟩
 rw [spec_l10Path_eq]
 have e1 : vBinV (.int .i64) .add (.int .i64 (b.length : Int)) (.int .i64 2) = some (.int .i64 ((b.length + 2 : Nat) : Int)) := n_addN _ b.length 2 (by omega)
 have hin : innP (line.drop b.length) = if b.length + 2 <= line.length /\ (line.drop b.length).head? = some 60 /\ (line.drop b.length).getLast? = some 62 then some (((line.drop b.length).drop 1).take ((line.drop b.length).length - 2)) else none := by
  unfold innP
  rw [List.length_drop]
  by_cases h : b.length + 2 <= line.length
  ·simp only [h, show 2 <= line.length - b.length from by omega]
  ·simp only [h, show ¬ 2 <= line.length - b.length from by omega, false_and]
 unfold argP
 rw [hbl]
 by_cases h1 : line.length < b.length + 2
 ·rw [hin, if_neg (show ¬ (b.length + 2 <= line.length /\ _) from fun h => by omega)]
  simp only [evv, e1, show ((line.length : Int) < ((b.length + 2 : Nat) : Int)) from by omega, Option.bind_none, ite_self]
  exact Gets.here ⟨[], false, rfl, (fun h => by cases h), rfl⟩
 ·have p1 := t_pre line .i64 b.length (by omega)
  have e2 := spec_SameText_c (line.take b.length) b (by simp; omega) (by omega)
  have hlt : b.length < line.length := by omega
  have i1 := t_idx line .i64 b.length hlt
  have e3 : vBinV (.int .i64) .sub (.int .i64 (line.length : Int)) (.int .i64 1) = some (.int .i64 ((line.length - 1 : Nat) : Int)) := n_subN _ line.length 1 (by omega) (by omega)
  have i2 := t_idx line .i64 (line.length - 1) (by omega)
  have hh : (line.drop b.length).head? = some line[b.length] := by rw [List.head?_drop, List.getElem?_eq_getElem hlt]
  have hz : (line.drop b.length).getLast? = some (line[line.length - 1]'(by omega)) := by
   rw [List.getLast?_drop, if_neg (by omega), List.getLast?_eq_getElem?, List.getElem?_eq_getElem (by omega)]
  have k60 : ∀ (x c : UInt8), (¬ (x.toNat : Int) = (c.toNat : Int)) ↔ x ≠ c := fun x c => by
   constructor
   ·rintro h rfl; exact h rfl
   ·intro h e; exact h (UInt8.toNat_inj.1 (by omega))
  by_cases h2 : lowT (line.take b.length) = lowT b
  ·rw [if_pos ⟨by omega, h2⟩, hin, hh, hz]
   by_cases h3 : line[b.length] = 60
   ·by_cases h4 : (line[line.length - 1]'(by omega)) = 62
    ·rw [if_pos ⟨by omega, by rw [h3], by rw [h4]⟩]
     have hsl : ((line.drop b.length).drop 1).take ((line.drop b.length).length - 2) = (line.drop (b.length + 1)).take (line.length - 1 - (b.length + 1)) := by
      rw [List.drop_drop, List.length_drop]
      congr 1; omega
     have e4 : vBinV (.int .i64) .add (.int .i64 (b.length : Int)) (.int .i64 1) = some (.int .i64 ((b.length + 1 : Nat) : Int)) := n_addN _ b.length 1 (by omega)
     have p2 := t_sub line .i64 .i64 (b.length + 1) (line.length - 1) (by omega) (by omega)
     rw [hsl]
     have hsz : ((line.drop (b.length + 1)).take (line.length - 1 - (b.length + 1))).length <= line.length := by simp; omega
     rw [h3] at i1
     rw [h4] at i2
     generalize hs : (line.drop (b.length + 1)).take (line.length - 1 - (b.length + 1)) = s at *
     simp only [evv, e1, p1, e2, h2, i1, i2, e3, e4, p2, show ¬ ((line.length : Int) < ((b.length + 2 : Nat) : Int)) from by omega, show (((60 : UInt8).toNat : Int) = 60) from by decide, show (((62 : UInt8).toNat : Int) = 62) from by decide]
     by_cases h5 : s = []
     ·subst h5
      simp only [evv]
      exact Gets.here ⟨[], true, rfl, (fun _ => by simp), rfl⟩
     ·obtain ⟨a, z, ok, b1, hR⟩ := l2Box_g s (by omega)
      have hl2 := hR.len
      have hlow : (lowT z).length = z.length := by simp [lowT]
      have hk := pathF_key h5 hR
      have hpl : (ok && addrT [] a (lowT z)) = true -> (a ++ [64] ++ lowT z).length <= line.length + 1 := fun hok => by
       rcases hR with ⟨_, rfl, rfl, hd⟩ | ⟨_, hqa, _, _⟩
       ·subst hd
        rw [Bool.and_eq_true, decide_eq_true_eq] at hok
        have := congrArg List.length (path_cut hok.1)
        simp at this
        simp [hlow]; omega
       ·unfold addrT at hok
        rw [loc_noq hqa, Bool.false_and, Bool.and_false, Bool.and_false] at hok
        cases hok
      have a1 := t_add .str a [64] (by simp; omega)
      have a2 := t_add .str (a ++ [64]) (lowT z) (by simp [hlow]; omega)
      simp only [evv, b1, h5, a1, a2]
      exact Gets.here ⟨_, _, rfl, hpl, hk⟩
    ·rw [if_neg (show ¬ (_ /\ _ /\ some (line[line.length - 1]'(by omega)) = some 62) from fun h => h4 (Option.some.inj h.2.2))]
     rw [h3] at i1
     have h4' := (k60 (line[line.length - 1]'(by omega)) 62).2 h4
     have h4'' : ¬ (((line[line.length - 1]'(by omega)).toNat : Int) = 62) := h4'
     simp only [evv, e1, p1, e2, h2, i1, i2, e3, h4'', show ¬ ((line.length : Int) < ((b.length + 2 : Nat) : Int)) from by omega, show (((60 : UInt8).toNat : Int) = 60) from by decide, Option.bind_none]
     exact Gets.here ⟨[], false, rfl, (fun h => by cases h), rfl⟩
   ·rw [if_neg (show ¬ (_ /\ some line[b.length] = some 60 /\ _) from fun h => h3 (Option.some.inj h.2.1))]
    have h3' := (k60 line[b.length] 60).2 h3
    have h3'' : ¬ ((line[b.length].toNat : Int) = 60) := h3'
    simp only [evv, e1, p1, e2, h2, i1, h3'', show ¬ ((line.length : Int) < ((b.length + 2 : Nat) : Int)) from by omega, Option.bind_none]
    exact Gets.here ⟨[], false, rfl, (fun h => by cases h), rfl⟩
  ·rw [if_neg (fun h => h2 h.2)]
   simp only [evv, e1, p1, e2, h2, show ¬ ((line.length : Int) < ((b.length + 2 : Nat) : Int)) from by omega]
   exact Gets.here ⟨[], false, rfl, (fun h => by cases h), rfl⟩
theorem argP_split {w1 w2 a r : Bs} (h : lowT a = w1) : argP (w1 ++ [32] ++ w2) (a ++ [32] ++ r) = argP w2 r := by
 have hl : a.length = w1.length := by rw [<- h]; simp [lowT]
 unfold argP
 have e1 : (w1 ++ [32] ++ w2).length = a.length + 1 + w2.length := by simp [hl]; omega
 have e2 : (a ++ [32] ++ r).take (a.length + 1 + w2.length) = a ++ [32] ++ r.take w2.length := by
  have : a.length + 1 + w2.length = (a ++ [32]).length + w2.length := by simp
  rw [this, List.take_length_add_append]
 have e3 : (a ++ [32] ++ r).drop (a.length + 1 + w2.length) = r.drop w2.length := by
  have : a.length + 1 + w2.length = (a ++ [32]).length + w2.length := by simp
  rw [this, List.drop_length_add_append]
 have e4 : lowT (a ++ [32] ++ r.take w2.length) = w1 ++ [32] ++ lowT (r.take w2.length) := by
  unfold lowT at h ⊢
  rw [List.map_append, List.map_append, h]; rfl
 rw [e1, e2, e3, e4]
 have e5 : (w1 ++ [32] ++ lowT (r.take w2.length) = w1 ++ [32] ++ w2) ↔ lowT (r.take w2.length) = w2 := ⟨fun h => List.append_cancel_left h, fun h => by rw [h]⟩
 have e6 : (a.length + 1 + w2.length <= (a ++ [32] ++ r).length) ↔ w2.length <= r.length := by
  simp only [List.length_append, List.length_cons, List.length_nil]; omega
 simp only [e5, e6]
theorem argP_short {w r : Bs} (h : r.length < w.length) : argP w r = none := by
 unfold argP
 rw [if_neg (fun h' => by omega)]
theorem cut_line {c : UInt8} {s : Bs} (h : c ∈ s) : s = cutA c s ++ [c] ++ cutZ c s := by
 have hlt := List.idxOf_lt_length_iff.2 h
 have hg : s[s.idxOf c] = c := List.getElem_idxOf hlt
 unfold cutA cutZ
 rw [if_pos h, if_pos h]
 conv => lhs; rw [<- List.take_append_drop (s.idxOf c) s, List.drop_eq_getElem_cons hlt, hg]
 simp
theorem cut_none {c : UInt8} {s : Bs} (h : ¬ c ∈ s) : cutA c s = s /\ cutZ c s = [] := by
 unfold cutA cutZ; rw [if_neg h, if_neg h]; exact ⟨rfl, rfl⟩
theorem argP_word {w1 w2 line : Bs} (h : lowT (cutA 32 line) = w1) : argP (w1 ++ [32] ++ w2) line = argP w2 (cutZ 32 line) ∨ (argP (w1 ++ [32] ++ w2) line = none /\ (w2 ≠ [] -> argP w2 (cutZ 32 line) = none)) := by
 by_cases hm : (32 : UInt8) ∈ line
 ·left
  have := argP_split (w2 := w2) (r := cutZ 32 line) h
  rw [<- cut_line hm] at this
  exact this
 ·right
  rw [(cut_none hm).1] at h
  have hl : line.length = w1.length := by rw [<- h]; simp [lowT]
  refine ⟨argP_short (by simp; omega), fun hw => ?_⟩
  rw [(cut_none hm).2]
  exact argP_short (List.length_pos_iff.2 hw)
theorem argP_word' {w1 w2 line : Bs} (hw : w2 ≠ []) (h : lowT (cutA 32 line) = w1) : argP (w1 ++ [32] ++ w2) line = argP w2 (cutZ 32 line) := by
 rcases argP_word (w2 := w2) h with h | ⟨h1, h2⟩
 ·exact h
 ·rw [h1, h2 hw]
theorem l10Hello_c (s : Session) (line : Bs) (hl : line.length <= 4000000) (hw : lowT (cutA 32 line) = [104, 101, 108, 111]) : ∃ v, pc id_spec_l10Hello [.agg (cS s), .str line] = some (.tup [v, .int .i64 (helloF s (lowT (cutZ 32 line))).2]) /\ AsS v (helloF s (lowT (cutZ 32 line))).1 := by
 have hA : (cutA 32 line).length = 4 := by have := congrArg List.length hw; simpa [lowT] using this
 suffices hg : Gets (cv id_spec_l10Hello [.agg (cS s), .str line] []) fun r => ∃ v, r.1 = .tup [v, .int .i64 (helloF s (lowT (cutZ 32 line))).2] /\ AsS v (helloF s (lowT (cutZ 32 line))).1 /\ data v = true by
  obtain ⟨⟨v, H⟩, e, u, h, h2, h3⟩ := hg
  have h : v = _ := h
  subst h
  exact ⟨u, pc_of e (by simp only [evv]) (by simp only [evv, h3]), h2⟩
 rw [spec_l10Hello_eq]
 unfold helloF
 have hd0 : domT (lowT []) = false := by decide
 have keep : ∀ s : Session, AsS (.agg [.int .i64 s.state, .str s.host, .str s.draft.from_, .sl false (vT s.draft.to), .sl false (vT s.draft.lines), .sl false (vR eM s.done)]) s := fun s => AsS.str s
 by_cases h1 : line.length < 6
 ·have hZ : domT (lowT (cutZ 32 line)) = false := by
   by_cases hm : (32 : UInt8) ∈ line
   ·have h2 := congrArg List.length (cut_line hm)
    simp [hA] at h2
    have : cutZ 32 line = [] := List.length_eq_zero_iff.1 (by omega)
    rw [this]; exact hd0
   ·rw [(cut_none hm).2]; exact hd0
  rw [hZ]
  simp only [evv, show ((line.length : Int) < 6) from by omega]
  exact Gets.here ⟨_, rfl, keep s, by simp only [evv]⟩
 ·have hm : (32 : UInt8) ∈ line := by
   by_cases hm : (32 : UInt8) ∈ line
   ·exact hm
   ·rw [(cut_none hm).1] at hA; omega
  have hc := cut_line hm
  have e0 : ∀ a z : Bs, a.length = 4 -> (a ++ [32] ++ z)[4]? = some 32 := by
   intro a z h
   rw [List.append_assoc, List.getElem?_append_right (by omega), h]; rfl
  have e4 := e0 _ (cutZ 32 line) hA
  rw [<- hc] at e4
  have i4 : line[4]'(by omega) = 32 := by
   have h := List.getElem?_eq_getElem (show 4 < line.length by omega)
   rw [e4] at h
   exact (Option.some.inj h).symm
  have d5 : line.drop 5 = cutZ 32 line := by
   conv => lhs; rw [hc]
   have : 5 = (cutA 32 line ++ [32]).length := by simp [hA]
   rw [this, List.drop_left]
  have i1 := t_idx line .i64 4 (by omega)
  rw [i4] at i1
  have i1' : vIndexSV (.str line) (.int .i64 4) = some (.int .u8 ((32 : UInt8).toNat : Int)) := i1
  have p1 : vSliceSV (.str line) (some (.int .i64 5)) none = some (.str (line.drop 5)) := t_suf line .i64 5 (by omega)
  rw [d5] at p1
  have hzl := cutZ_len 32 line
  have e1 := spec_LowerText_c (cutZ 32 line) (by omega)
  have e2 := l2Domain_c (lowT (cutZ 32 line)) (by simp [lowT]; omega)
  by_cases hd : domT (lowT (cutZ 32 line)) = true
  ·simp only [evv, i1', p1, e1, e2, hd, show ¬ ((line.length : Int) < 6) from by omega, show (((32 : UInt8).toNat : Int) = 32) from by decide]
   exact Gets.here ⟨_, rfl, ⟨_, _, _, rfl, rfl, rfl, by simp only [evv]⟩, by simp only [evv]⟩
  ·simp only [evv, i1', p1, e1, e2, hd, show ¬ ((line.length : Int) < 6) from by omega, show (((32 : UInt8).toNat : Int) = 32) from by decide]
   exact Gets.here ⟨_, rfl, keep s, by simp only [evv]⟩
theorem l10From_c (s : Session) (line : Bs) (hl : line.length <= 4000000) (hw : lowT (cutA 32 line) = [109, 97, 105, 108]) : ∃ v, pc id_spec_l10From [.agg (cS s), .str line] = some (.tup [v, .int .i64 (fromF s (argP [102, 114, 111, 109, 58] (cutZ 32 line))).2]) /\ AsS v (fromF s (argP [102, 114, 111, 109, 58] (cutZ 32 line))).1 := by
 obtain ⟨p, ok, e1, hp, ha⟩ := l10Path_g line [77, 65, 73, 76, 32, 70, 82, 79, 77, 58] hl (by simp)
 rw [show lowT [77, 65, 73, 76, 32, 70, 82, 79, 77, 58] = [109, 97, 105, 108] ++ [32] ++ [102, 114, 111, 109, 58] from rfl, argP_word' (by simp) hw] at ha
 rw [ha]
 suffices hg : Gets (cv id_spec_l10From [.agg (cS s), .str line] []) fun r => ∃ v, r.1 = .tup [v, .int .i64 (fromF s (if ok = true then some p else none)).2] /\ AsS v (fromF s (if ok = true then some p else none)).1 /\ data v = true by
  obtain ⟨⟨v, H⟩, e, u, h, h2, h3⟩ := hg
  have h : v = _ := h
  subst h
  exact ⟨u, pc_of e (by simp only [evv]) (by simp only [evv, h3]), h2⟩
 rw [spec_l10From_eq]
 have keep : ∀ s : Session, AsS (.agg [.int .i64 s.state, .str s.host, .str s.draft.from_, .sl false (vT s.draft.to), .sl false (vT s.draft.lines), .sl false (vR eM s.done)]) s := fun s => AsS.str s
 by_cases h1 : ok = true
 ·rw [if_pos h1]
  by_cases h2 : s.state = 1
  ·simp only [evv, e1, h1, h2, fromF]
   exact Gets.here ⟨_, rfl, ⟨_, _, _, rfl, rfl, rfl, by simp only [evv]⟩, by simp only [evv]⟩
  ·simp only [evv, e1, h1, h2, fromF]
   exact Gets.here ⟨_, rfl, keep s, by simp only [evv]⟩
 ·rw [if_neg h1]
  simp only [evv, e1, h1, fromF]
  exact Gets.here ⟨_, rfl, keep s, by simp only [evv]⟩
theorem l10To_g (s : Session) (line : Bs) (H : VH) (hs : SmS s) (hl : line.length <= 4000000) (hw : lowT (cutA 32 line) = [114, 99, 112, 116]) : Gets2 (cv id_spec_l10To [.agg (cSo s), .str line] H) (fun v H' => ∃ u, v = .tup [u, .int .i64 (toF s (argP [116, 111, 58] (cutZ 32 line))).2] /\ AsS u (toF s (argP [116, 111, 58] (cutZ 32 line))).1 /\ H' = H) := by
 obtain ⟨p, ok, e1, hp, ha⟩ := l10Path_g line [82, 67, 80, 84, 32, 84, 79, 58] hl (by simp)
 rw [show lowT [82, 67, 80, 84, 32, 84, 79, 58] = [114, 99, 112, 116] ++ [32] ++ [116, 111, 58] from rfl, argP_word' (by simp) hw] at ha
 rw [ha]
 refine Gets2.of ?_
 rw [spec_l10To_eq]
 have htl := hs.2.1.2.1.1
 have keep : AsS (.agg [.int .i64 s.state, .str s.host, .str s.draft.from_, .sl true (vT s.draft.to), .sl true (vT s.draft.lines), .sl true (vO s.done)]) s := AsS.own s
 have ap := sl_app1 (l := s.draft.to) p (by omega)
 by_cases h1 : ok = true
 ·rw [if_pos h1]
  by_cases h0 : p = []
  ·simp only [evv, cSo_e, e1, h1, h0, toF]
   exact Gets.here ⟨_, rfl, keep, rfl⟩
  ·by_cases h2 : s.state = 2
   ·by_cases h3 : s.draft.to.length = 10
    ·simp only [evv, cSo_e, e1, h1, h0, h2, h3, toF, show (((10 : Nat) : Int) = 10) from rfl, true_or]
     rw [<- h2]
     exact Gets.here ⟨_, rfl, keep, rfl⟩
    ·have h3' : ¬ ((s.draft.to.length : Nat) : Int) = 10 := by omega
     simp only [evv, cSo_e, e1, h1, h0, h2, h3, h3', ap, toF, true_or]
     exact Gets.here ⟨_, rfl, ⟨_, _, _, rfl, by simp only [evv], by simp only [evv], by simp only [evv, vO_strip]⟩, rfl⟩
   ·by_cases h2' : s.state = 3
    ·by_cases h3 : s.draft.to.length = 10
     ·simp only [evv, cSo_e, e1, h1, h0, h2', h3, toF, show ¬ ((3 : Int) = 2) from by decide, show (((10 : Nat) : Int) = 10) from rfl, or_true]
      rw [<- h2']
      exact Gets.here ⟨_, rfl, keep, rfl⟩
     ·have h3' : ¬ ((s.draft.to.length : Nat) : Int) = 10 := by omega
      simp only [evv, cSo_e, e1, h1, h0, h2', h3, h3', ap, toF, show ¬ ((3 : Int) = 2) from by decide, or_true]
      exact Gets.here ⟨_, rfl, ⟨_, _, _, rfl, by simp only [evv], by simp only [evv], by simp only [evv, vO_strip]⟩, rfl⟩
    ·simp only [evv, cSo_e, e1, h1, h0, h2, h2', toF, or_self]
     exact Gets.here ⟨_, rfl, keep, rfl⟩
 ·rw [if_neg h1]
  simp only [evv, cSo_e, e1, h1, toF]
  exact Gets.here ⟨_, rfl, keep, rfl⟩
theorem l10Data_g (s : Session) (line : Bs) (H : VH) (hs : SmS s) : Gets2 (cv id_spec_l10Data [.agg (cSo s), .str line] H) (fun v H' => ∃ u, v = .tup [u, .int .i64 (dataF s line).2] /\ AsS u (dataF s line).1 /\ H' = H) := by
 refine Gets2.of ?_
 rw [spec_l10Data_eq]
 have hll := hs.2.1.2.2.1
 have hdl := hs.2.2.1
 have keep : AsS (.agg [.int .i64 s.state, .str s.host, .str s.draft.from_, .sl true (vT s.draft.to), .sl true (vT s.draft.lines), .sl true (vO s.done)]) s := AsS.own s
 unfold dataF
 by_cases h1 : line = [46]
 ·by_cases h2 : 30 < s.draft.lines.length
  ·simp only [evv, cSo_e, h1, h2, show ((s.draft.lines.length : Int) > 30) from by omega]
   exact Gets.here ⟨_, rfl, ⟨_, _, _, rfl, rfl, rfl, by simp only [evv, vO_strip]⟩, rfl⟩
  ·by_cases h3 : s.done.length = 5
   ·simp only [evv, cSo_e, h1, h2, h3, vO_strip, show ¬ ((s.draft.lines.length : Int) > 30) from by omega, show (((5 : Nat) : Int) = 5) from rfl]
    exact Gets.here ⟨_, rfl, ⟨_, _, _, rfl, rfl, rfl, by simp only [evv, vO_strip]⟩, rfl⟩
   ·have h3' : ¬ ((s.done.length : Nat) : Int) = 5 := by omega
    have ap := mails_app (l := s.done) s.draft (by omega)
    simp only [evv, cSo_e, h1, h2, h3, h3', vO_strip, ap, show ¬ ((s.draft.lines.length : Int) > 30) from by omega]
    exact Gets.here ⟨_, rfl, ⟨_, _, _, rfl, rfl, rfl, by simp only [evv, vO_strip]⟩, rfl⟩
 ·rw [if_neg h1]
  have key : ∀ l : Bs, l = unst line -> ∀ (e : Option (V × VH)), (s.draft.lines.length <= 30 -> appV false 1 16 (vT s.draft.lines) (.sl true [[.str l]]) = some (.sl true (vT (s.draft.lines ++ [unst line]))) -> e = some (.tup [.agg [.int .i64 s.state, .str s.host, .str s.draft.from_, .sl true (vT s.draft.to), .sl true (vT (s.draft.lines ++ [unst line])), .sl true (vO s.done)], .int .i64 0], H)) -> (¬ s.draft.lines.length <= 30 -> e = some (.tup [.agg (cSo s), .int .i64 0], H)) →
   Gets e fun r : V × VH => ∃ u, r.1 = .tup [u, .int .i64 (if s.draft.lines.length <= 30 then ((⟨s.state, s.host, ⟨s.draft.from_, s.draft.to, s.draft.lines ++ [unst line]⟩, s.done⟩, 0) : Session × Int) else (s, 0)).2] /\ AsS u (if s.draft.lines.length <= 30 then ((⟨s.state, s.host, ⟨s.draft.from_, s.draft.to, s.draft.lines ++ [unst line]⟩, s.done⟩, 0) : Session × Int) else (s, 0)).1 /\ r.2 = H := by
   rintro l rfl e g1 g2
   by_cases h2 : s.draft.lines.length <= 30
   ·rw [g1 h2 (sl_app1 (l := s.draft.lines) (unst line) (by omega))]
    simp only [h2, if_true]
    exact Gets.here ⟨_, rfl, ⟨_, _, _, rfl, by simp only [evv], by simp only [evv], by simp only [evv, vO_strip]⟩, rfl⟩
   ·rw [g2 h2]
    simp only [h2, if_false]
    exact Gets.here ⟨_, rfl, AsS.own s, rfl⟩
  by_cases h2 : line = []
  ·subst h2
   refine key [] rfl _ (fun hL ap => ?_) (fun hL => ?_)
   ·simp only [evv, cSo_e, h1, ap, show ((s.draft.lines.length : Int) <= 30) from by omega]
   ·simp only [evv, cSo_e, h1, show ¬ ((s.draft.lines.length : Int) <= 30) from by omega]
  ·have hlen : 0 < line.length := List.length_pos_iff.2 h2
   have p1 : vIndexSV (.str line) (.int .i64 0) = some (.int .u8 (line[0].toNat : Int)) := t_idx line .i64 0 hlen
   have hd : line.head? = some line[0] := by rw [List.head?_eq_getElem?, List.getElem?_eq_getElem hlen]
   by_cases h3 : (line[0].toNat : Int) = 46
   ·have hu : unst line = line.drop 1 := by
     unfold unst
     rw [hd, show line[0] = 46 from UInt8.toNat_inj.1 (by show line[0].toNat = 46; omega)]; rfl
    have p2 : vSliceSV (.str line) (some (.int .i64 1)) none = some (.str (line.drop 1)) := t_suf line .i64 1 (by omega)
    refine key (line.drop 1) hu.symm _ (fun hL ap => ?_) (fun hL => ?_)
    ·simp only [evv, cSo_e, h1, h2, p1, h3, p2, ap, show ((s.draft.lines.length : Int) <= 30) from by omega]
    ·simp only [evv, cSo_e, h1, h2, p1, h3, p2, show ¬ ((s.draft.lines.length : Int) <= 30) from by omega]
   ·have hu : unst line = line := by
     unfold unst
     rw [hd, if_neg (fun e => h3 (by rw [Option.some.inj e]; rfl))]
    refine key line hu.symm _ (fun hL ap => ?_) (fun hL => ?_)
    ·simp only [evv, cSo_e, h1, h2, p1, h3, ap, show ((s.draft.lines.length : Int) <= 30) from by omega]
    ·simp only [evv, cSo_e, h1, h2, p1, h3, show ¬ ((s.draft.lines.length : Int) <= 30) from by omega]
theorem l13OwnMail_c (m : Mail) (h : SmM m) : pc id_spec_l13OwnMail [.agg (cM m)] = some (.agg (cO m)) := by
 have a1 : appV false 1 16 [] (.sl false (vT m.to)) = some (.sl true (vT ([] ++ m.to))) := v_app 1 16 [] false (vT m.to) rfl (vT_esz _) (by have := h.2.1.1; rw [vT_len]; simp; omega)
 have a2 : appV false 1 16 [] (.sl false (vT m.lines)) = some (.sl true (vT ([] ++ m.lines))) := v_app 1 16 [] false (vT m.lines) rfl (vT_esz _) (by have := h.2.2.1; rw [vT_len]; simp; omega)
 rw [List.nil_append] at a1 a2
 refine pc_of (H := []) ?_ (by simp only [evv]) (by simp only [evv, cO_e])
 show cv _ _ _ = _
 rw [spec_l13OwnMail_eq]
 simp only [evv, a1, a2, cO_e]
theorem l10Mail_c2 (m : Mail) (h : SmM m) : pc id_spec_l10Mail [.agg (cM m)] = some (.agg (cO m)) := by
 have a1 : appV false 1 16 [] (.sl false (vT m.to)) = some (.sl true (vT ([] ++ m.to))) := v_app 1 16 [] false (vT m.to) rfl (vT_esz _) (by have := h.2.1.1; rw [vT_len]; simp; omega)
 have a2 : appV false 1 16 [] (.sl false (vT m.lines)) = some (.sl true (vT ([] ++ m.lines))) := v_app 1 16 [] false (vT m.lines) rfl (vT_esz _) (by have := h.2.2.1; rw [vT_len]; simp; omega)
 rw [List.nil_append] at a1 a2
 refine pc_of (H := []) ?_ (by simp only [evv]) (by simp only [evv, cO_e])
 show cv _ _ _ = _
 rw [spec_l10Mail_eq]
 simp only [evv, a1, a2, cO_e]
theorem l13OwnListMail_c (l : List Mail) (h : SmMs l) : pc id_spec_l13OwnListMail [.sl false (vR eM l)] = some (.sl true (vO l)) := by
 have hl := h.1
 suffices hg : Gets (cv id_spec_l13OwnListMail [.sl false (vR eM l)] []) fun r => r.1 = .sl true (vO l) by
  obtain ⟨⟨v, H⟩, e, h⟩ := hg
  have h : v = _ := h
  subst h
  exact pc_of e (by simp only [evv]) (by simp only [evv, vO_data])
 rw [spec_l13OwnListMail_eq]
 simp only [evv]
 refine Gets.loop2 (I := fun n st H => ∃ i : Nat, n = l.length - i /\ i <= l.length /\ st = [.sl true (vO (l.take i)), .sl false (vR eM l), .int .i64 (l.length : Nat), .int .i64 (i : Nat)])
  (P := fun q vs H => q = 0 /\ vs = [.sl true (vO l)]) (n := l.length) ?_ ⟨0, by omega, by omega, rfl⟩ ?_
 ·rintro n st H ⟨i, rfl, hi, rfl⟩
  rw [spec_l13OwnListMail_l3_eq]
  by_cases hlt : i < l.length
  ·have i1 := vM_idx false l .i64 i hlt
   have e1 := l13OwnMail_c l[i] (h.2 _ (List.getElem_mem hlt))
   simp only [cM_e, cO_e] at e1
   have ap := mails_app (l := l.take i) l[i] (by simp; omega)
   rw [<- List.take_succ_eq_append_getElem hlt] at ap
   have e3 : vBinV (.int .i64) .add (.int .i64 (i : Int)) (.int .i64 1) = some (.int .i64 ((i + 1 : Nat) : Int)) := n_addN _ i 1 (by omega)
   simp only [evv, i1, e1, ap, e3, show ((i : Int) < (l.length : Int)) from by omega]
   exact ⟨_, rfl, .inr ⟨rfl, l.length - (i + 1), by omega, i + 1, rfl, by omega, rfl⟩⟩
  ·have : i = l.length := by omega
   subst this
   rw [List.take_length]
   simp only [evv, show ¬ ((l.length : Int) < (l.length : Int)) from by omega]
   exact ⟨_, rfl, .inl ⟨0, rfl, rfl, rfl⟩⟩
 rintro _ _ H ⟨rfl, rfl⟩
 simp only [evv]
 exact Gets.here rfl
theorem l13OwnSession_c (s : Session) (h : SmS s) : pc id_spec_l13OwnSession [.agg (cS s)] = some (.agg (cSo s)) := by
 have e1 := l13OwnMail_c s.draft h.2.1
 have e2 := l13OwnListMail_c s.done h.2.2
 simp only [cM_e, cO_e] at e1
 refine pc_of (H := []) ?_ (by simp only [evv]) (by simp only [evv, cSo_e, vO_data])
 show cv _ _ _ = _
 rw [spec_l13OwnSession_eq]
 simp only [evv, e1, e2, cSo_e]
theorem l10Copy_g (s : Session) (v : V) (H : VH) (hv : AsS v s) (h : SmS s) : Gets2 (cv id_spec_l10Copy [v] H) (fun r H' => r = .agg (cSo s) /\ Lg H H') := by
 obtain ⟨x, y, z, rfl, hx, hy, hz⟩ := hv
 refine Gets2.of ?_
 have e1 := l10Mail_c2 s.draft h.2.1
 simp only [cM_e, cO_e] at e1
 have hdl := h.2.2.1
 rw [spec_l10Copy_eq]
 have s1 : stO (.ptr H.length 0) [.int .i64 s.state, .str s.host, .str s.draft.from_, .sl true (vT s.draft.to), .sl true (vT s.draft.lines), .sl true []] (H ++ [[(.int .i64 0), (.str []), (.str []), (.sl true []), (.sl true []), (.sl true [])]]) = some (H ++ [[.int .i64 s.state, .str s.host, .str s.draft.from_, .sl true (vT s.draft.to), .sl true (vT s.draft.lines), .sl true []]]) := by
  have e := st_all (get_last H [(.int .i64 0), (.str []), (.str []), (.sl true []), (.sl true []), (.sl true [])]) (c := [.int .i64 s.state, .str s.host, .str s.draft.from_, .sl true (vT s.draft.to), .sl true (vT s.draft.lines), .sl true []]) rfl
  rw [set_end] at e
  exact e
 simp only [evv, hx, hy, e1, s1]
 refine Gets.loop2 (I := fun n st G => ∃ i : Nat, n = s.done.length - i /\ i <= s.done.length /\ st = [.ptr H.length 0, .int .i64 (i : Nat), .int .i64 s.state, .str s.host, .str s.draft.from_, x, y, z, .int .i64 0, .str [], .str [], .sl true [], .sl true [], .sl true []] /\ G = H ++ [[.int .i64 s.state, .str s.host, .str s.draft.from_, .sl true (vT s.draft.to), .sl true (vT s.draft.lines), .sl true (vO (s.done.take i))]])
  (P := fun q vs G => q = 0 /\ vs = [.ptr H.length 0, .int .i64 0, .str [], .str [], .sl true [], .sl true [], .sl true []] /\ G = H ++ [cSo s]) (n := s.done.length) ?_ ⟨0, by omega, by omega, rfl, rfl⟩ ?_
 ·rintro n st G ⟨i, rfl, hi, rfl, rfl⟩
  rw [spec_l10Copy_l3_eq]
  by_cases hlt : i < s.done.length
  ·have i1 := vM_idx false s.done .i64 i hlt
   have e2 := l10Mail_c2 s.done[i] (h.2.2.2 _ (List.getElem_mem hlt))
   simp only [cM_e, cO_e] at e2
   have ap := mails_app (l := s.done.take i) s.done[i] (by simp; omega)
   rw [<- List.take_succ_eq_append_getElem hlt] at ap
   have e3 : vBinV (.int .i64) .add (.int .i64 (i : Int)) (.int .i64 1) = some (.int .i64 ((i + 1 : Nat) : Int)) := n_addN _ i 1 (by omega)
   have l1 := ld_take (g := globB) (off := 5) (get_last H [.int .i64 s.state, .str s.host, .str s.draft.from_, .sl true (vT s.draft.to), .sl true (vT s.draft.lines), .sl true (vO (s.done.take i))]) rfl
   rw [set_end] at l1
   have e4 : gseg [.int .i64 s.state, .str s.host, .str s.draft.from_, .sl true (vT s.draft.to), .sl true (vT s.draft.lines), .sl true (vO (s.done.take i))] 5 [strip (.sl true (vO (s.done.take i)))] = [.int .i64 s.state, .str s.host, .str s.draft.from_, .sl true (vT s.draft.to), .sl true (vT s.draft.lines), .sl false (vR eM (s.done.take i))] := by rw [<- vO_strip]; rfl
   rw [e4] at l1
   have l2 : stO (.ptr H.length 5) [.sl true (vO (s.done.take (i + 1)))] (H ++ [[.int .i64 s.state, .str s.host, .str s.draft.from_, .sl true (vT s.draft.to), .sl true (vT s.draft.lines), .sl false (vR eM (s.done.take i))]]) = some (H ++ [[.int .i64 s.state, .str s.host, .str s.draft.from_, .sl true (vT s.draft.to), .sl true (vT s.draft.lines), .sl true (vO (s.done.take (i + 1)))]]) := by
    rw [sp_cell (get_last H _) (by simp), set_end]; rfl
   simp only [evv, hz, i1, e2, ap, e3, l1, l2, show ((i : Int) < (s.done.length : Int)) from by omega]
   exact ⟨_, rfl, .inr ⟨rfl, s.done.length - (i + 1), by omega, i + 1, rfl, by omega, rfl, rfl⟩⟩
  ·have : i = s.done.length := by omega
   subst this
   rw [List.take_length]
   simp only [evv, hz, show ¬ ((s.done.length : Int) < (s.done.length : Int)) from by omega]
   exact ⟨_, rfl, .inl ⟨0, rfl, rfl, rfl, rfl⟩⟩
 rintro _ _ G ⟨rfl, rfl, rfl⟩
 have l1 := ld_all (g := globB) (n := 6) (get_last H (cSo s)) rfl
 rw [set_end] at l1
 simp only [cSo_e] at l1
 simp only [evv, l1, cSo_e]
 exact Gets.here ⟨rfl, Lg.one _ _⟩
theorem low_q {s : Bs} (h : (34 : UInt8) ∈ s) : (34 : UInt8) ∈ lowT s := List.mem_map.2 ⟨34, h, rfl⟩
theorem l10Command_g (s : Session) (line : Bs) (H : VH) (hs : SmS s) (hl : line.length <= 4000000) : Gets2 (cv id_spec_l10Command [.agg (cSo s), .str line] H) (fun v H' => ∃ u, v = .tup [u, .int .i64 (cmdF s line).2] /\ AsS u (cmdF s line).1 /\ H' = H) := by
 refine Gets2.of ?_
 obtain ⟨a, z, ok, e1, hR⟩ := l2Cut_g line 32 (by decide) (by omega)
 have e1' : qc id_spec_l2Cut [.str line, .int .u8 32] = _ := e1
 have hal := hR.len
 have e2 := spec_LowerText_c a (by omega)
 have e3 := spec_LowerText_c line (by omega)
 have hw : ∀ w : Bs, (34 : UInt8) ∉ w -> ((lowT a = w) ↔ (lowT (cutA 32 line) = w)) := fun w h => by
  rcases hR with ⟨_, rfl, _, _⟩ | ⟨hq, hqa, _, _⟩
  ·exact Iff.rfl
  ·exact ⟨fun e => absurd (e ▸ low_q hqa) h, fun e => absurd (e ▸ low_q hq) h⟩
 have w1 := hw [104, 101, 108, 111] (by decide)
 have w2 := hw [109, 97, 105, 108] (by decide)
 have w3 := hw [114, 99, 112, 116] (by decide)
 rw [spec_l10Command_eq]
 have keep : AsS (.agg [.int .i64 s.state, .str s.host, .str s.draft.from_, .sl true (vT s.draft.to), .sl true (vT s.draft.lines), .sl true (vO s.done)]) s := AsS.own s
 unfold cmdF
 by_cases h1 : lowT (cutA 32 line) = [104, 101, 108, 111]
 ·obtain ⟨u, f1, x, y, q, rfl, f2, f3, f4⟩ := l10Hello_c s line hl h1
  simp only [cS_e] at f1
  simp only [evv, cSo_e, vO_strip, e1', e2, w1, h1, f1]
  exact Gets.here ⟨_, rfl, ⟨_, _, _, rfl, f2, f3, f4⟩, rfl⟩
 ·rw [if_neg h1]
  by_cases h2 : lowT (cutA 32 line) = [109, 97, 105, 108]
  ·obtain ⟨u, f1, x, y, q, rfl, f2, f3, f4⟩ := l10From_c s line hl h2
   simp only [cS_e] at f1
   have h1' : ¬ lowT a = [104, 101, 108, 111] := fun e => h1 (w1.1 e)
   have h2' : lowT a = [109, 97, 105, 108] := w2.2 h2
   simp only [evv, cSo_e, vO_strip, e1', e2, h1', h2', h2, f1, show ¬ (([109, 97, 105, 108] : Bs) = [104, 101, 108, 111]) from by decide]
   exact Gets.here ⟨_, rfl, ⟨_, _, _, rfl, f2, f3, f4⟩, rfl⟩
  ·rw [if_neg h2]
   by_cases h3 : lowT (cutA 32 line) = [114, 99, 112, 116]
   ·have h3' : lowT a = [114, 99, 112, 116] := w3.2 h3
    have f := l10To_g s line H hs hl h3
    simp only [cSo_e] at f
    simp only [evv, cSo_e, e1', e2, h3', h3, show ¬ (([114, 99, 112, 116] : Bs) = [104, 101, 108, 111]) from by decide, show ¬ (([114, 99, 112, 116] : Bs) = [109, 97, 105, 108]) from by decide]
    refine f.bind ?_
    rintro _ G ⟨u, rfl, ⟨x, y, q, rfl, f2, f3, f4⟩, rfl⟩
    simp only [evv]
    exact Gets.here ⟨_, rfl, ⟨_, _, _, rfl, f2, f3, f4⟩, rfl⟩
   ·rw [if_neg h3]
    have h1' : ¬ lowT a = [104, 101, 108, 111] := fun e => h1 (w1.1 e)
    have h2' : ¬ lowT a = [109, 97, 105, 108] := fun e => h2 (w2.1 e)
    have h3' : ¬ lowT a = [114, 99, 112, 116] := fun e => h3 (w3.1 e)
    unfold wordF
    by_cases k1 : lowT line = [100, 97, 116, 97]
    ·by_cases k2 : s.state = 3
     ·simp only [evv, cSo_e, e1', e2, e3, h1', h2', h3', k1, k2]
      exact Gets.here ⟨_, rfl, ⟨_, _, _, rfl, by simp only [evv], by simp only [evv], by simp only [evv, vO_strip]⟩, rfl⟩
     ·simp only [evv, cSo_e, e1', e2, e3, h1', h2', h3', k1, k2]
      exact Gets.here ⟨_, rfl, keep, rfl⟩
    ·by_cases k2 : lowT line = [114, 115, 101, 116]
     ·by_cases k3 : s.state = 0
      ·simp only [evv, cSo_e, e1', e2, e3, h1', h2', h3', k1, k2, k3, show ¬ (([114, 115, 101, 116] : Bs) = [100, 97, 116, 97]) from by decide]
       exact Gets.here ⟨_, rfl, ⟨_, _, _, rfl, rfl, rfl, by simp only [evv, vO_strip]⟩, rfl⟩
      ·simp only [evv, cSo_e, e1', e2, e3, h1', h2', h3', k1, k2, k3, show ¬ (([114, 115, 101, 116] : Bs) = [100, 97, 116, 97]) from by decide]
       exact Gets.here ⟨_, rfl, ⟨_, _, _, rfl, rfl, rfl, by simp only [evv, vO_strip]⟩, rfl⟩
     ·by_cases k3 : lowT line = [110, 111, 111, 112]
      ·simp only [evv, cSo_e, e1', e2, e3, h1', h2', h3', k3, show ¬ (([110, 111, 111, 112] : Bs) = [100, 97, 116, 97]) from by decide, show ¬ (([110, 111, 111, 112] : Bs) = [114, 115, 101, 116]) from by decide]
       exact Gets.here ⟨_, rfl, keep, rfl⟩
      ·by_cases k4 : lowT line = [113, 117, 105, 116]
       ·simp only [evv, cSo_e, e1', e2, e3, h1', h2', h3', k4, show ¬ (([113, 117, 105, 116] : Bs) = [100, 97, 116, 97]) from by decide, show ¬ (([113, 117, 105, 116] : Bs) = [114, 115, 101, 116]) from by decide, show ¬ (([113, 117, 105, 116] : Bs) = [110, 111, 111, 112]) from by decide]
        exact Gets.here ⟨_, rfl, ⟨_, _, _, rfl, rfl, rfl, by simp only [evv, vO_strip]⟩, rfl⟩
       ·simp only [evv, cSo_e, e1', e2, e3, h1', h2', h3', k1, k2, k3, k4]
        exact Gets.here ⟨_, rfl, keep, rfl⟩
def SzT (n : Nat) (l : List Bs) : Prop := l.length <= n /\ ∀ s ∈ l, s.length <= n
def SzM (n : Nat) (m : Mail) : Prop := m.from_.length <= n /\ SzT n m.to /\ SzT n m.lines
def SzS (n : Nat) (s : Session) : Prop := s.host.length <= n /\ SzM n s.draft /\ s.done.length <= n /\ ∀ m ∈ s.done, SzM n m
theorem SzT.le {n k : Nat} {l : List Bs} (h : SzT n l) (hk : n <= k) : SzT k l := ⟨by have := h.1; omega, fun s hs => by have := h.2 s hs; omega⟩
theorem SzM.le {n k : Nat} {m : Mail} (h : SzM n m) (hk : n <= k) : SzM k m := ⟨by have := h.1; omega, h.2.1.le hk, h.2.2.le hk⟩
theorem SzS.le {n k : Nat} {s : Session} (h : SzS n s) (hk : n <= k) : SzS k s := ⟨by have := h.1; omega, h.2.1.le hk, by have := h.2.2.1; omega, fun m hm => (h.2.2.2 m hm).le hk⟩
theorem SzT.add {n k : Nat} {l : List Bs} {s : Bs} (h : SzT n l) (hs : s.length <= k) (hk : n + 1 <= k) : SzT k (l ++ [s]) := by
 refine ⟨by have := h.1; simp; omega, fun t ht => ?_⟩
 rcases List.mem_append.1 ht with h1 | h1
 ·have := h.2 t h1; omega
 ·simp at h1; subst h1; exact hs
theorem SzT.none (n : Nat) : SzT n [] := ⟨by simp, by simp⟩
theorem SzM.none (n : Nat) : SzM n noM := ⟨by simp [noM], SzT.none n, SzT.none n⟩
theorem SzS.none (n : Nat) : SzS n noS := ⟨by simp [noS], SzM.none n, by simp [noS], by simp [noS]⟩
theorem SzM.sm {n : Nat} {m : Mail} (h : SzM n m) (hn : n <= 1049600) : SmM m := by
 have h := h.le hn
 exact ⟨h.1, ⟨h.2.1.1, h.2.1.2⟩, ⟨h.2.2.1, h.2.2.2⟩⟩
theorem SzS.sm {n : Nat} {s : Session} (h : SzS n s) (hn : n <= 1049600) : SmS s := by
 have h := h.le hn
 exact ⟨h.1, h.2.1.sm (Nat.le_refl _), ⟨h.2.2.1, fun m hm => (h.2.2.2 m hm).sm (Nat.le_refl _)⟩⟩
theorem argP_len {w r p : Bs} (h : argP w r = some p) : p.length <= r.length := by
 unfold argP at h
 split at h
 ·cases hi : innP (r.drop w.length) with
  | none => rw [hi] at h; cases h
  | some q =>
    rw [hi, Option.bind_some] at h
    unfold okP at h
    split at h
    ·have h := Option.some.inj h
     have hq : q.length <= r.length := by
      unfold innP at hi
      split at hi
      ·rw [<- Option.some.inj hi]; simp; omega
      ·cases hi
     rw [<- h]
     unfold pathF
     split
     ·rename_i hm
      have := congrArg List.length (cut_line hm)
      simp at this
      simp [lowT]; omega
     ·exact hq
    ·cases h
 ·cases h
theorem sayF_sz {n : Nat} {s : Session} {line : Bs} (h : SzS n s) (hl : line.length <= n) : SzS (n + 1) (sayF s line).1 := by
 have h1 := h.le (Nat.le_succ n)
 have hz := cutZ_len 32 line
 have hd : (s.done ++ [s.draft]).length <= n + 1 /\ ∀ m ∈ s.done ++ [s.draft], SzM (n + 1) m := by
  refine ⟨by have := h.2.2.1; simp; omega, fun m hm => ?_⟩
  rcases List.mem_append.1 hm with h2 | h2
  ·exact h1.2.2.2 m h2
  ·simp at h2; subst h2; exact h1.2.1
 unfold sayF
 split
 ·unfold dataF
  split
  ·split
   ·exact ⟨h1.1, SzM.none _, h1.2.2⟩
   ·split
    ·exact ⟨h1.1, SzM.none _, h1.2.2⟩
    ·exact ⟨h1.1, SzM.none _, hd⟩
  ·split
   ·refine ⟨h1.1, ⟨h1.2.1.1, h1.2.1.2.1, h.2.1.2.2.add ?_ (Nat.le_refl _)⟩, h1.2.2⟩
    unfold unst
    split
    ·simp; omega
    ·omega
   ·exact h1
 ·unfold cmdF
  split
  ·unfold helloF
   split
   ·exact ⟨by show (lowT (cutZ 32 line)).length <= n + 1; simp [lowT]; omega, SzM.none _, h1.2.2⟩
   ·exact h1
  ·split
   ·cases hp : argP [102, 114, 111, 109, 58] (cutZ 32 line) with
    | none => exact h1
    | some p =>
      have := argP_len hp
      unfold fromF
      simp only
      split
      ·exact ⟨h1.1, ⟨by show p.length <= n + 1; omega, SzT.none _, SzT.none _⟩, h1.2.2⟩
      ·exact h1
   ·split
    ·cases hp : argP [116, 111, 58] (cutZ 32 line) with
     | none => exact h1
     | some p =>
       have := argP_len hp
       unfold toF
       simp only
       split
       ·exact h1
       ·split
        ·split
         ·exact h1
         ·exact ⟨h1.1, ⟨h1.2.1.1, h.2.1.2.1.add (by omega) (Nat.le_refl _), h1.2.1.2.2⟩, h1.2.2⟩
        ·exact h1
    ·unfold wordF
     split
     ·split <;> exact h1
     ·split
      ·exact ⟨h1.1, SzM.none _, h1.2.2⟩
      ·split
       ·exact h1
       ·split
        ·exact ⟨h1.1, SzM.none _, h1.2.2⟩
        ·exact h1
theorem sayS_sz {n : Nat} {s : Session} {line : Bs} (h : SzS n s) (hl : line.length <= n) : SzS (n + 1) (sayS s line) := by
 unfold sayS
 split
 ·exact sayF_sz h hl
 ·exact SzS.none _
theorem l10RawSayLine_g {n : Nat} (s : Session) (v : V) (line : Bs) (H : VH) (hv : AsS v s) (hs : SzS n s) (hn : n + 1 <= 1049600) (hl : line.length <= n) : Gets2 (cv id_spec_l10RawSayLine [v, .str line] H) (fun r H' => ∃ u, r = .tup [u, .int .i64 (sayN s line), .bool (sayB s line)] /\ AsS u (sayS s line) /\ Lg H H') := by
 have hsm := hs.sm (by omega)
 obtain ⟨x, y, z, rfl, hx, hy, hz⟩ := hv
 refine Gets2.of ?_
 have e1 := spec_SessionValid_c s hsm
 have e2 := spec_TextValid_c line (by omega)
 simp only [cS_e] at e1
 rw [spec_l10RawSayLine_eq]
 have zero : AsS (.agg [.int .i64 0, .str [], .str [], .sl true [], .sl true [], .sl true []]) noS := ⟨_, _, _, rfl, rfl, rfl, rfl⟩
 unfold sayS sayN sayB
 by_cases h1 : sessT s = true
 ·by_cases h2 : s.state = 5
  ·rw [h2] at e1
   simp only [evv, hx, hy, hz, e1, h1, h2, Bool.false_and, Bool.and_false]
   exact Gets.here ⟨_, rfl, zero, Lg.refl _⟩
  ·by_cases h3 : textT line = true
   ·have f := l10Copy_g s (.agg [.int .i64 s.state, .str s.host, .str s.draft.from_, x, y, z]) H ⟨x, y, z, rfl, hx, hy, hz⟩ hsm
    simp only [evv, hx, hy, hz, e1, e2, h1, h2, h3, Bool.true_and]
    refine f.bind ?_
    rintro _ G ⟨rfl, hG⟩
    unfold sayF
    by_cases h4 : s.state = 4
    ·have f2 := l10Data_g s line G hsm
     simp only [cSo_e] at f2
     simp only [evv, cSo_e, h4]
     rw [h4] at f2
     refine Gets.bind (P := fun r => ∃ q0 q1 q2 x y z, r = (0, [.int .i64 (dataF s line).2, q0, q1, q2, .sl true [], .sl true [], .sl true [], .int .i64 (dataF s line).1.state, .str (dataF s line).1.host, .str (dataF s line).1.draft.from_, x, y, z], G) /\ strip x = .sl false (vT (dataF s line).1.draft.to) /\ strip y = .sl false (vT (dataF s line).1.draft.lines) /\ strip z = .sl false (vR eM (dataF s line).1.done)) ?_ ?_
     ·refine f2.bind ?_
      rintro _ G2 ⟨u, rfl, ⟨x, y, z, rfl, g1, g2, g3⟩, rfl⟩
      simp only [evv]
      exact Gets.here ⟨_, _, _, x, y, z, rfl, g1, g2, g3⟩
     ·rintro _ ⟨q0, q1, q2, x, y, z, rfl, g1, g2, g3⟩
      simp only [evv]
      exact Gets.here ⟨_, rfl, ⟨x, y, z, rfl, g1, g2, g3⟩, hG⟩
    ·have f2 := l10Command_g s line G hsm (by omega)
     simp only [cSo_e] at f2
     simp only [evv, cSo_e, h4]
     refine Gets.bind (P := fun r => ∃ q0 q1 q2 x y z, r = (0, [.int .i64 (cmdF s line).2, q0, q1, q2, .sl true [], .sl true [], .sl true [], .int .i64 (cmdF s line).1.state, .str (cmdF s line).1.host, .str (cmdF s line).1.draft.from_, x, y, z], G) /\ strip x = .sl false (vT (cmdF s line).1.draft.to) /\ strip y = .sl false (vT (cmdF s line).1.draft.lines) /\ strip z = .sl false (vR eM (cmdF s line).1.done)) ?_ ?_
     ·refine f2.bind ?_
      rintro _ G2 ⟨u, rfl, ⟨x, y, z, rfl, g1, g2, g3⟩, rfl⟩
      simp only [evv]
      exact Gets.here ⟨_, _, _, x, y, z, rfl, g1, g2, g3⟩
     ·rintro _ ⟨q0, q1, q2, x, y, z, rfl, g1, g2, g3⟩
      simp only [evv]
      exact Gets.here ⟨_, rfl, ⟨x, y, z, rfl, g1, g2, g3⟩, hG⟩
   ·simp only [evv, hx, hy, hz, e1, e2, h1, h2, h3, Bool.false_and, Bool.and_false]
    exact Gets.here ⟨_, rfl, zero, Lg.refl _⟩
 ·simp only [evv, hx, hy, hz, e1, h1, Bool.false_and]
  exact Gets.here ⟨_, rfl, zero, Lg.refl _⟩
theorem spec_SayLine_g {n : Nat} (s : Session) (v : V) (line : Bs) (H : VH) (hv : AsS v s) (hs : SzS n s) (hn : n + 1 <= 1049600) (hl : line.length <= n) : Gets2 (cv id_spec_SayLine [v, .str line] H) (fun r H' => r = .tup [.agg (cSo (sayS s line)), .int .i64 (sayN s line), .bool (sayB s line)] /\ Lg H H') := by
 have f := l10RawSayLine_g s v line H hv hs hn hl
 obtain ⟨x, y, z, rfl, hx, hy, hz⟩ := hv
 refine Gets2.of ?_
 rw [spec_SayLine_eq]
 simp only [evv]
 refine f.bind ?_
 rintro _ G ⟨u, rfl, ⟨x, y, z, rfl, g1, g2, g3⟩, hG⟩
 have e1 := l13OwnSession_c (sayS s line) ((sayS_sz hs hl).sm hn)
 simp only [cS_e, cSo_e] at e1
 simp only [evv, g1, g2, g3, e1, cSo_e]
 exact Gets.here ⟨rfl, hG⟩
end Go.Proofs.YtjpkhkndkockiaaGreatDoor.Q

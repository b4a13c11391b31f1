/- Contracts: mails are taken. -/
import Derived.Test.YtikpckcdpmjpgabGreatDoorExactTakeMailC99addboxZ
import Derived.Test.YtikpckcdpmjpgabGreatDoorFnExactTakeMailK4
namespace Go.Proofs.YtikpckcdpmjpgabGreatDoor.Q
open Go Go.AM
set_option linter.unusedSimpArgs false
set_option linter.unusedVariables false
set_option linter.unusedSectionVars false
def takeB (l : List Box) (p : Bs) : Bool := boxesT l && (l.any (isP p) && !decide ((boxAt l (l.findIdx (isP p))).mails.length = 0))
def takeL (l : List Box) (p : Bs) : List Box := if takeB l p = true then l.set (l.findIdx (isP p)) ⟨(boxAt l (l.findIdx (isP p))).path, (boxAt l (l.findIdx (isP p))).mails.drop 1⟩ else []
def takeM (l : List Box) (p : Bs) : Mail := if takeB l p = true then (boxAt l (l.findIdx (isP p))).mails.headD ⟨[], [], []⟩ else ⟨[], [], []⟩
def m0 : Mail := ⟨[], [], []⟩
theorem dataLL_mem {r : List (List V)} : dataLL r = true ↔ ∀ x ∈ r, dataL x = true := by
 induction r with
 | nil => simp [dataLL]
 | cons x r ih => simp [dataLL, ih]
theorem headD_get {ms : List Mail} (h : 0 < ms.length) : ms.headD ⟨[], [], []⟩ = ms[0] := by
 cases ms with
 | nil => simp at h
 | cons x xs => rfl
theorem eM_e (m : Mail) : eM.e m = [.str m.from_, .sl false (vT m.to), .sl false (vT m.lines)] := by exact id rfl
theorem box_putR {k i : Nat} {H : VH} {l : List Box} (hk : H[k]? = some (vOX l).flatten) (hi : i < l.length) (ms : List Mail) :
 ∃ r, stO (.ptr k (i * 2 + 1)) [.sl true (vR eM ms)] H = some (H.set k r.flatten) /\ RoX r (l.set i ⟨l[i].path, ms⟩) := by
 have hf : (vOX l).flatten.length = l.length * 2 := by have := (vOX_rows l).flat; rw [this, vOX_len]
 have hr : Go.AM.Rows 2 ((vOX l).set i [.str l[i].path, .sl true (vR eM ms)]) := fun x hx => by
  rcases List.mem_or_eq_of_mem_set hx with h | rfl
  ·exact vOX_rows l x h
  ·rfl
 refine ⟨(vOX l).set i [.str l[i].path, .sl true (vR eM ms)], ?_, ⟨?_, ?_, ?_⟩⟩
 ·rw [sp_cell hk (by omega), <- gseg_set (by omega), Go.AM.Rows.set (by omega) (vOX_rows l) (vOX_get l i hi)]
  rfl
 ·have e : stripLL ((vOX l).set i [.str l[i].path, .sl true (vR eM ms)]) = (stripLL (vOX l)).set i (stripL [.str l[i].path, .sl true (vR eM ms)]) := by
   rw [stripLL_map, stripLL_map, List.map_set, stripL_map]
  rw [e, vOX_strip]
  simp only [stripL, strip, vR_strip]
  simp only [vR, List.map_set]
  rfl
 ·rw [dataLL_mem]
  intro x hx
  rcases List.mem_or_eq_of_mem_set hx with h | rfl
  ·exact dataLL_mem.1 (vOX_data l) x h
  ·simp only [dataL, data, vR_data, Bool.and_self]
 ·simp only [eszOk, List.all_eq_true]
  intro x hx
  rw [hr x hx]; rfl
theorem mails_tail (ms : List Mail) (h : 1 <= ms.length) : vSliceVV 3 (.sl false (vR eM ms)) (some (.int .i64 1)) none = some (.sl false (vR eM (ms.drop 1))) := by
 simp only [vSliceVV, bndV, Option.bind_some]
 rw [if_pos ⟨vR_esz3 ms, by omega, by rw [vR_len]; omega, by omega⟩]
 have e1 : ((vR eM ms).length : Int).toNat - (1 : Int).toNat = (vR eM ms).length - 1 := by simp
 have e2 : ((1 : Int).toNat) = 1 := rfl
 rw [e1, e2, List.take_of_length_le (by simp)]
 have : (vR eM ms).drop 1 = vR eM (ms.drop 1) := by simp only [vR, List.map_drop]
 rw [this, vR_strip]
theorem takeL_sm {l : List Box} {p : Bs} (h : SmXs l) : SmXs (takeL l p) := by
 unfold takeL
 split
 ·refine ⟨by rw [List.length_set]; exact h.1, fun b hb => ?_⟩
  rcases List.mem_or_eq_of_mem_set hb with hb | rfl
  ·exact h.2 b hb
  ·have hm : ∀ i, SmX (boxAt l i) := fun i => by
    by_cases hi : i < l.length
    ·exact h.2 _ (boxAt_mem hi)
    ·have : boxAt l i = ⟨[], []⟩ := by unfold boxAt; rw [List.getD_eq_getElem?_getD, List.getElem?_eq_none (by omega)]; rfl
     rw [this]; exact ⟨by simp, by simp [SmMs]⟩
   have q := hm (l.findIdx (isP p))
   exact ⟨q.1, by have := q.2.1; simp; omega, fun m hm => q.2.2 m (List.mem_of_mem_drop hm)⟩
 ·exact ⟨by simp, by simp⟩
theorem takeM_mem {l : List Box} {p : Bs} (h : takeB l p = true) : takeM l p ∈ (boxAt l (l.findIdx (isP p))).mails := by
 unfold takeM
 rw [if_pos h]
 unfold takeB at h
 simp only [Bool.and_eq_true, Bool.not_eq_true', decide_eq_false_iff_not] at h
 cases hb : (boxAt l (l.findIdx (isP p))).mails with
 | nil => rw [hb] at h; simp at h
 | cons x xs => simp
theorem takeM_sm {l : List Box} {p : Bs} (h : SmXs l) : SmM (takeM l p) := by
 by_cases hB : takeB l p = true
 ·have := takeM_mem hB
  have hx : l.findIdx (isP p) < l.length := by
   unfold takeB at hB
   simp only [Bool.and_eq_true] at hB
   exact findIdx_isP hB.2.1
  exact (h.2 _ (boxAt_mem hx)).2.2 _ this
 ·unfold takeM; rw [if_neg hB]
  exact ⟨by simp, by simp [SmT], by simp [SmT]⟩
theorem RawTake_c (l : List Box) (p : Bs) (h : SmXs l) : ∃ o r oa ob, RoX r (takeL l p) /\ pc id_spec_l11RawTakeMail [.sl false (vR eX l), .str p] = some (.tup [.sl o r, .agg [.str (takeM l p).from_, .sl oa (vT (takeM l p).to), .sl ob (vT (takeM l p).lines)], .bool (takeB l p)]) := by
 have e1 := spec_BoxesValid_c l h
 have e3 := l11Find_c l p (by have := h.1; omega)
 have e4 := l11Copy_c l h
 have fals : takeB l p = false -> cv id_spec_l11RawTakeMail [.sl false (vR eX l), .str p] [] = some (.tup [.sl true [], .agg [.str [], .sl true [], .sl true []], .bool false], []) →
  ∃ o r oa ob, RoX r (takeL l p) /\ pc id_spec_l11RawTakeMail [.sl false (vR eX l), .str p] = some (.tup [.sl o r, .agg [.str (takeM l p).from_, .sl oa (vT (takeM l p).to), .sl ob (vT (takeM l p).lines)], .bool (takeB l p)]) := fun hB e => by
  have hL : takeL l p = [] := by unfold takeL; rw [hB]; rfl
  have hM : takeM l p = m0 := by unfold takeM; rw [hB]; rfl
  rw [hL, hM, hB]
  exact ⟨true, [], true, true, RoX.nil, pc_of e (by simp only [evv]) rfl⟩
 by_cases c1 : boxesT l = true
 ·rw [c1] at e1
  by_cases c3 : l.any (isP p) = true
  ·have hx := findIdx_isP c3
   have hat := boxAt_get hx
   have i1 := vX_idx false l .i64 _ hx
   rw [eX_e] at i1
   rw [if_pos c3] at e3
   by_cases c4 : (boxAt l (l.findIdx (isP p))).mails.length = 0
   ·refine fals (by unfold takeB; rw [c1, c3, decide_eq_true c4]; rfl) ?_
    rw [hat] at c4
    rw [spec_l11RawTakeMail_eq]
    simp only [evv, qco_d, e1, e3, i1, c4, show ¬ (((l.findIdx (isP p) : Nat) : Int) < 0) from by omega]
    first | done | rfl | simp
   ·have hB : takeB l p = true := by unfold takeB; rw [c1, c3, decide_eq_false c4]; rfl
    have hL : takeL l p = l.set (l.findIdx (isP p)) ⟨(boxAt l (l.findIdx (isP p))).path, (boxAt l (l.findIdx (isP p))).mails.drop 1⟩ := by unfold takeL; rw [hB]; rfl
    have hM : takeM l p = (boxAt l (l.findIdx (isP p))).mails.headD ⟨[], [], []⟩ := by unfold takeM; rw [hB]; rfl
    rw [hL, hM, hB]
    rw [hat] at c4 ⊢
    generalize hbx : l[l.findIdx (isP p)] = b at *
    have hm0 : 0 < b.mails.length := by omega
    have hml := (h.2 _ (List.getElem_mem hx)).2
    rw [hbx] at hml
    have hhd : b.mails.headD ⟨[], [], []⟩ = b.mails[0] := headD_get hm0
    rw [hhd]
    have hn : l ≠ [] := fun e => by subst e; simp at hx
    have hH : ([(vOX l).flatten] : VH)[0]? = some (vOX l).flatten := rfl
    have g2 := box_peek hH hx globB
    rw [hbx] at g2
    have g1 : vIdxV 2 (.obs 0 0 l.length 2) (.int .i64 (l.findIdx (isP p) : Nat)) = some (.ptr 0 (l.findIdx (isP p) * 2)) := vi_obs hx
    have j1 : vIdxV 3 (.sl false (vR eM b.mails)) (.int .i64 0) = some (.elt (eM.e b.mails[0]) 0) := vM_idx false b.mails .i64 0 hm0
    have mt := mails_tail b.mails hm0
    have ap : appV false 3 64 [] (.sl false (vR eM (b.mails.drop 1))) = some (.sl true (vR eM (b.mails.drop 1))) := by
     have := v_app 3 64 [] false (vR eM (b.mails.drop 1)) rfl (vR_esz _ _) (by rw [vR_len]; simp; have := hml.1; omega)
     simpa using this
    obtain ⟨r, g5, g6⟩ := box_putR hH hx (b.mails.drop 1)
    rw [hbx] at g6
    refine ⟨false, stripLL r, false, false, ⟨by rw [stripLL_stripLL]; exact g6.1, by rw [g6.1]; exact vR_data _ _, by rw [g6.1]; exact vR_esz _ _⟩, ?_⟩
    have run : cv id_spec_l11RawTakeMail [.sl false (vR eX l), .str p] [] = some (.tup [.obs 0 0 l.length 2, .agg [.str b.mails[0].from_, .sl false (vT b.mails[0].to), .sl false (vT b.mails[0].lines)], .bool true], [r.flatten]) := by
     rw [spec_l11RawTakeMail_eq]
     have hc4 : ¬ ((b.mails.length : Int) = 0) := by omega
     simp only [evv, qco_d, pco_d, e1, e3, e4, i1, hc4, show ¬ (((l.findIdx (isP p) : Nat) : Int) < 0) from by omega]
     show promB 1 (.sl true (vOX l)) [] _ = _
     rw [promB_one [] _ (fun e => hn (by simpa [vOX] using e)) (vOX_rows l) (vOX_own l), vOX_len]
     simp only [evv, List.nil_append, List.length_nil, g1, g2, j1, eM_e, mt, ap, g5]
     first | done | rfl | simp
    have hrl : r.length = l.length := by have := g6.len; rw [List.length_set] at this; exact this
    have hu := unobs1_obs (k := 0) (H := [r.flatten]) rfl g6.rows
    rw [hrl] at hu
    refine pc_un run (by simp only [evv]) (by simp only [data, dataL, Bool.false_and]) ?_ (by simp only [data, dataL, g6.1, vR_data, vT_data, Bool.and_self])
    simp only [unobs, unobsL, hu, show ∀ b, unobs1 [r.flatten] (.bool b) = some (.bool b) from fun _ => rfl, show ∀ b, unobs1 [r.flatten] (.agg b) = some (.agg b) from fun _ => rfl, Option.bind_some, Option.map_some]
  ·have c3' : l.any (isP p) = false := by simpa using c3
   rw [if_neg c3] at e3
   refine fals (by unfold takeB; rw [c1, c3']; rfl) ?_
   rw [spec_l11RawTakeMail_eq]
   simp only [evv, qco_d, e1, e3, show ((-1 : Int) < 0) from by omega]
   first | done | rfl | simp
 ·have c1' : boxesT l = false := by simpa using c1
  rw [c1'] at e1
  refine fals (by unfold takeB; rw [c1']; rfl) ?_
  rw [spec_l11RawTakeMail_eq]
  simp only [evv, qco_d, e1, e3]
  first | done | rfl | simp
theorem ouL_id {g : VH -> V -> Option (V × VH)} (hg : ∀ H v, ownA v = true -> g H v = some (v, H)) : ∀ (vs : List V) (H : VH), ownAL vs = true -> ouL g H vs = some (vs, H)
 | [], _, _ => rfl
 | v :: vs, H, h => by
   simp only [ownAL, Bool.and_eq_true] at h
   simp only [ouL, hg H v h.1, ouL_id hg vs H h.2, Option.bind_some]
theorem ou_id : ∀ (d : Nat) (H : VH) (v : V), ownA v = true -> ou d H v = some (v, H)
 | 0, H, v, h => by simp only [ou, h]
 | d + 1, H, v, h => by
   cases v with
   | obs => simp [ownA] at h
   | agg vs => simp only [ownA] at h; simp only [ou, ouL_id (ou_id d) vs H h, Option.bind_some]
   | tup vs => simp only [ownA] at h; simp only [ou, ouL_id (ou_id d) vs H h, Option.bind_some]
   | _ => simp only [ou, h]
theorem ownAL_app : ∀ a b : List V, ownAL (a ++ b) = (ownAL a && ownAL b)
 | [], b => by simp [ownAL]
 | v :: a, b => by simp only [List.cons_append, ownAL, ownAL_app a b, Bool.and_assoc]
theorem ownAL_flat : ∀ {r : List (List V)}, ownALL r = true -> ownAL r.flatten = true
 | [], _ => rfl
 | x :: r, h => by
   simp only [ownALL, Bool.and_eq_true] at h
   simp only [List.flatten_cons, ownAL_app, h.1, ownAL_flat h.2, Bool.and_self]
theorem ou_obs (d : Nat) (H : VH) (k m e : Nat) : ou (d + 1) H (.obs k 0 (m + 1) e) = (H[k]?).bind fun cs => if 0 = 0 /\ 1 < e /\ cs.length = (m + 1) * e then (ouL (ou d) (H.set k []) cs).bind fun r => some (.sl true (chunkV e (m + 1) r.1), r.2) else none := rfl
def CellX (H : VH) (kk : List Nat) (v : V) (ms : List Mail) : Prop := (kk = [] /\ ms = [] /\ (v = .sl true [] ∨ ∃ q, v = .obs q 0 0 3)) ∨ (∃ q, kk = [q] /\ ms ≠ [] /\ v = .obs q 0 ms.length 3 /\ H[q]? = some (vO ms).flatten)
def LayX (H : VH) : List Nat -> List (List V) -> List Box -> Prop
 | ks, r, [] => ks = [] /\ r = []
 | ks, r, b :: l => ∃ v r' kk ks', r = [.str b.path, v] :: r' /\ ks = kk ++ ks' /\ CellX H kk v b.mails /\ LayX H ks' r' l
theorem CellX.mono {H H' : VH} {kk : List Nat} {v : V} {ms : List Mail} (h : CellX H kk v ms) (e : ∀ j ∈ kk, H'[j]? = H[j]?) : CellX H' kk v ms := by
 rcases h with h | ⟨q, rfl, h2, h3, h4⟩
 ·exact .inl h
 ·exact .inr ⟨q, rfl, h2, h3, by rw [e q (by simp), h4]⟩
theorem LayX.mono {H H' : VH} : ∀ {l : List Box} {ks : List Nat} {r : List (List V)}, LayX H ks r l -> (∀ j ∈ ks, H'[j]? = H[j]?) -> LayX H' ks r l
 | [], _, _, h, _ => h
 | b :: l, ks, r, h, e => by
   obtain ⟨v, r', kk, ks', rfl, rfl, h1, h2⟩ := h
   exact ⟨v, r', kk, ks', rfl, rfl, h1.mono fun j hj => e j (by simp [hj]), h2.mono fun j hj => e j (by simp [hj])⟩
theorem LayX.rows {H : VH} : ∀ {l : List Box} {ks : List Nat} {r : List (List V)}, LayX H ks r l -> Go.AM.Rows 2 r /\ r.length = l.length
 | [], _, _, h => by obtain ⟨_, rfl⟩ := h; exact ⟨fun x hx => by simp at hx, rfl⟩
 | b :: l, ks, r, h => by
   obtain ⟨v, r', kk, ks', rfl, rfl, h1, h2⟩ := h
   obtain ⟨a1, a2⟩ := h2.rows
   exact ⟨fun x hx => by
    rcases List.mem_cons.1 hx with rfl | hx
    ·rfl
    ·exact a1 x hx, by simp [a2]⟩
theorem LayX.at {H : VH} : ∀ {l : List Box} {ks : List Nat} {r : List (List V)} {i : Nat} (hi : i < l.length), LayX H ks r l -> l[i].mails ≠ [] →
 ∃ k ks1 ks2, ks = ks1 ++ k :: ks2 /\ r[i]? = some [.str l[i].path, .obs k 0 l[i].mails.length 3] /\ H[k]? = some (vO l[i].mails).flatten ∧
   ∀ H' kk v ms, (∀ j ∈ ks1 ++ ks2, H'[j]? = H[j]?) -> CellX H' kk v ms -> LayX H' (ks1 ++ kk ++ ks2) (r.set i [.str l[i].path, v]) (l.set i ⟨l[i].path, ms⟩)
 | [], _, _, i, hi, _, _ => by simp at hi
 | b :: l, ks, r, 0, _, h, hm => by
   obtain ⟨v, r', kk, ks', rfl, rfl, h1, h2⟩ := h
   rcases h1 with ⟨_, h, _⟩ | ⟨q, rfl, h3, rfl, h4⟩
   ·exact absurd h hm
   ·refine ⟨q, [], ks', rfl, rfl, h4, fun H' kk v ms e hc => ?_⟩
    exact ⟨v, r', kk, ks', rfl, by simp, hc, h2.mono fun j hj => e j (by simpa using hj)⟩
 | b :: l, ks, r, i + 1, hi, h, hm => by
   obtain ⟨v, r', kk0, ks', rfl, rfl, h1, h2⟩ := h
   obtain ⟨k, ks1, ks2, rfl, g1, g2, g3⟩ := LayX.at (i := i) (by simpa using hi) h2 hm
   refine ⟨k, kk0 ++ ks1, ks2, by simp, g1, g2, fun H' kk v' ms e hc => ?_⟩
   refine ⟨v, _, kk0, ks1 ++ kk ++ ks2, rfl, by simp, h1.mono fun j hj => e j (by simp [hj]), g3 H' kk v' ms (fun j hj => e j ?_) hc⟩
   simp only [List.mem_append] at hj ⊢
   rcases hj with hj | hj
   ·exact .inl (.inr hj)
   ·exact .inr hj
def OwX : List (List V) -> List Box -> Prop
 | s, [] => s = []
 | s, b :: l => ∃ o s', s = [.str b.path, .sl o (vO b.mails)] :: s' /\ (o = true ∨ b.mails = []) /\ OwX s' l
theorem OwX.nil : OwX [] [] := rfl
theorem LayX.ou {d : Nat} : ∀ {l : List Box} {H : VH} {ks : List Nat} {r : List (List V)}, LayX H ks r l -> ks.Nodup -> ∃ s H', ouL (Go.AM.ou (d + 2)) H r.flatten = some (s.flatten, H') /\ RoX s l /\ ownALL s = true /\ OwX s l
 | [], H, _, _, h, _ => by
   obtain ⟨rfl, rfl⟩ := h
   exact ⟨[], H, rfl, RoX.nil, rfl, rfl⟩
 | b :: l, H, ks, r, h, hn => by
   obtain ⟨v, r', kk, ks', rfl, rfl, h1, h2⟩ := h
   have hs : ouL (Go.AM.ou (d + 2)) H ([V.str b.path, v] :: r').flatten = (Go.AM.ou (d + 2) H v).bind fun a => (ouL (Go.AM.ou (d + 2)) a.2 r'.flatten).bind fun c => some (V.str b.path :: a.1 :: c.1, c.2) := by
    show ouL (Go.AM.ou (d + 2)) H (V.str b.path :: v :: r'.flatten) = _
    simp only [ouL, ou_id (d + 2) H (.str b.path) rfl, Option.bind_some]
    cases Go.AM.ou (d + 2) H v with
    | none => rfl
    | some a =>
      simp only [Option.bind_some]
      cases ouL (Go.AM.ou (d + 2)) a.2 r'.flatten <;> rfl
   rcases h1 with ⟨rfl, hm, hv⟩ | ⟨q, rfl, hm, rfl, hq⟩
   ·obtain ⟨s, H', g1, g2, g3, g4⟩ := LayX.ou (d := d) h2 (by simpa using hn)
    have hv' : ∃ o, Go.AM.ou (d + 2) H v = some (.sl o [], H) := by
     rcases hv with rfl | ⟨q, rfl⟩
     ·exact ⟨true, rfl⟩
     ·exact ⟨false, rfl⟩
    obtain ⟨o, hv'⟩ := hv'
    refine ⟨[.str b.path, .sl o []] :: s, H', by rw [hs, hv']; simp only [Option.bind_some, g1]; rfl, ?_, by simp only [ownALL, ownAL, ownA, g3, List.isEmpty_nil, Bool.or_true, Bool.and_self], ⟨o, s, by rw [hm]; rfl, .inr hm, g4⟩⟩
    have := RoX.app (r := [[.str b.path, .sl o []]]) (l := [b]) ⟨by obtain ⟨p, ms⟩ := b; subst hm; rfl, rfl, rfl⟩ g2
    exact this
   ·have hn' : ks'.Nodup /\ q ∉ ks' := by simp at hn; exact ⟨hn.2, hn.1⟩
    have h2' : LayX (H.set q []) ks' r' l := h2.mono fun j hj => by
     rw [List.getElem?_set_ne (fun e => hn'.2 (by rw [e]; exact hj))]
    obtain ⟨s, H', g1, g2, g3, g4⟩ := LayX.ou (d := d) h2' hn'.1
    have hl : (vO b.mails).flatten.length = b.mails.length * 3 := by have := (vO_rows b.mails).flat; rw [this, vO_len]
    have hv' : Go.AM.ou (d + 2) H (.obs q 0 b.mails.length 3) = some (.sl true (vO b.mails), H.set q []) := by
     have hown : ownAL (vO b.mails).flatten = true := ownAL_flat (vO_own b.mails)
     have hch : chunkV 3 b.mails.length (vO b.mails).flatten = vO b.mails := by have := (vO_rows b.mails).chunk; rw [vO_len] at this; exact this
     have h0 : b.mails.length ≠ 0 := fun e => hm (List.length_eq_zero_iff.1 e)
     obtain ⟨n, hn⟩ := Nat.exists_eq_succ_of_ne_zero h0
     rw [hn] at hl hch ⊢
     refine (ou_obs (d + 1) H q n 3).trans ?_
     rw [hq, Option.bind_some, if_pos ⟨rfl, by omega, hl⟩, ouL_id (ou_id (d + 1)) _ _ hown, Option.bind_some]
     show some (V.sl true (chunkV 3 n.succ (vO b.mails).flatten), _) = _
     rw [hch]
    refine ⟨cOx b :: s, H', by rw [hs, hv']; simp only [Option.bind_some, g1]; rfl, ?_, ?_, ⟨true, s, rfl, .inl rfl, g4⟩⟩
    ·exact RoX.app (RoX.own [b]) g2
    ·have := vOX_own [b]
     simp only [vOX, List.map_cons, List.map_nil, ownALL, Bool.and_true] at this
     simp only [ownALL, this, g3, Bool.and_self]
theorem promX : ∀ (l : List Box) (H : VH), ∃ ks r G, promLL 1 H (vOX l) = (r.flatten, H ++ G) /\ LayX (H ++ G) ks r l /\ ks.Nodup /\ ∀ j ∈ ks, H.length <= j /\ j < (H ++ G).length
 | [], H => ⟨[], [], [], by simp [vOX, promLL], ⟨rfl, rfl⟩, List.nodup_nil, by simp⟩
 | ⟨p, []⟩ :: l, H => by
   obtain ⟨ks, r, G, e, h1, h2, h3⟩ := promX l H
   refine ⟨ks, [.str p, .sl true []] :: r, G, ?_, ⟨_, r, [], ks, rfl, rfl, .inl ⟨rfl, rfl, .inl rfl⟩, h1⟩, h2, h3⟩
   show promLL 1 H ([V.str p, .sl true []] :: vOX l) = _
   simp only [promLL, promL, prom, e]
   rfl
 | ⟨p, m :: ms⟩ :: l, H => by
   obtain ⟨ks, r, G, e, h1, h2, h3⟩ := promX l (H ++ [(vO (m :: ms)).flatten])
   refine ⟨H.length :: ks, [.str p, .obs H.length 0 (m :: ms).length 3] :: r, [(vO (m :: ms)).flatten] ++ G, ?_, ⟨_, r, [H.length], ks, rfl, rfl, .inr ⟨H.length, rfl, by simp, rfl, ?_⟩, by rw [<- List.append_assoc]; exact h1⟩, ?_, ?_⟩
   ·have e2 : promL 1 H [V.str p, .sl true (vO (m :: ms))] = ([.str p, .obs H.length 0 (m :: ms).length 3], H ++ [(vO (m :: ms)).flatten]) := by
     have : vO (m :: ms) = cO m :: vO ms := rfl
     rw [this]
     simp only [promL, prom, promLL_zero, List.length_cons, vO_len]
     rfl
    show promLL 1 H ([V.str p, .sl true (vO (m :: ms))] :: vOX l) = _
    simp only [promLL, e2, e, List.append_assoc]
    rfl
   ·simp
   ·rw [List.nodup_cons]
    exact ⟨fun hm => by have := (h3 _ hm).1; simp at this; omega, h2⟩
   ·intro j hj
    rcases List.mem_cons.1 hj with rfl | hj
    ·simp
    ·have := h3 j hj; simp at this ⊢; omega
theorem promB_two {R : Type} (l : List Box) (hl : l ≠ []) (K : V -> VH -> Option R) : ∃ ks r H, promB 2 (.sl true (vOX l)) [] K = K (.obs H.length 0 l.length 2) (H ++ [r.flatten]) /\ LayX H ks r l /\ ks.Nodup /\ ∀ j ∈ ks, j < H.length := by
 obtain ⟨ks, r, G, e, h1, h2, h3⟩ := promX l []
 rw [List.nil_append] at e h1 h3
 refine ⟨ks, r, G, ?_, h1, h2, fun j hj => (h3 j hj).2⟩
 unfold promB
 simp only [ownA, Bool.true_or, vOX_own, Bool.and_self]
 cases l with
 | nil => exact absurd rfl hl
 | cons b l =>
   have : vOX (b :: l) = cOx b :: vOX l := rfl
   rw [this] at e ⊢
   simp only [prom, e, List.length_cons, vOX_len]
   rfl
theorem pc_ou {call : CallV} {f : FuncId} {args : List V} {r v v' : V} {H : VH} (h : call f args [] = some (r, H)) (h1 : noPtrL args = true) (hd : data r = false) (hu : unobs H r = some v) (hd2 : data v = false) (ho : ouR H r = some v') : pcall call f args = some v' := by
 simp only [pcall, h1, h, Option.bind_some, hd, hu, hd2, ho]
theorem Delete1 {k m : Nat} {H : VH} {cs : List V} (hk : H[k]? = some cs) (hc : cs.length = m * 3) (hm : 1 <= m) : cv id_slices_Delete___impl_Mail_impl_Mail_ [.obs k 0 m 3, .int .i64 0, .int .i64 1] H = some (.obs H.length 0 (m - 1) 3, H.set k [] ++ [cs.drop 3]) := by
 show callV vb _ _ _ = _
 rw [callV_prim vb _ _ _ (g := delV 3) rfl]
 simp only [delV, hk, Option.bind_some]
 rw [if_pos (by first | exact ⟨rfl, hc, by omega, by omega, by omega⟩ | exact ⟨trivial, hc, by omega, by omega, by omega⟩)]
 simp
theorem ld_mail {k : Nat} {H : VH} {m : Mail} {ms : List Mail} (hk : H[k]? = some (vO (m :: ms)).flatten) : ldO globB true true 3 (.ptr k 0) H = some (.agg (cO m), H.set k (cM m ++ (vO ms).flatten)) := by
 have e : (vO (m :: ms)).flatten = cO m ++ (vO ms).flatten := rfl
 have hl : (cO m).length = 3 := rfl
 have hs : (cM m).length = 3 := rfl
 rw [e] at hk
 simp only [ldO, hk, loadC, gcut, gseg]
 rw [if_pos (by simp [hl])]
 have e1 : (List.drop 0 (cO m ++ (vO ms).flatten)).take 3 = cO m := by rw [List.drop_zero, List.take_append_of_le_length (by omega), List.take_of_length_le (by omega)]
 rw [e1]
 simp only [Option.bind_some, Option.map_some, cO_strip, List.take_zero, List.nil_append, hs, Nat.zero_add]
 rw [List.drop_append_of_le_length (by omega), List.drop_of_length_le (by omega : (cO m).length <= 3), List.nil_append]
theorem obs_data {r : List (List V)} {p : Bs} {k n e : Nat} (h : [V.str p, .obs k 0 n e] ∈ r) : dataLL (stripLL r) = false := by
 cases hd : dataLL (stripLL r) with
 | false => rfl
 | true =>
   rw [dataLL_mem] at hd
   have := hd [.str p, .obs k 0 n e] (by rw [stripLL_map]; exact List.mem_map.2 ⟨_, h, rfl⟩)
   simp [dataL, data] at this
theorem impl_TakeMail_pp (l : List Box) (p : Bs) (h : SmXs l) : (∃ o r, RoX r (takeL l p) /\ pc id_impl_TakeMail [.sl false (vR eX l), .str p] = some (.tup [.sl o r, .agg (cO (takeM l p)), .bool (takeB l p)])) ∧
 ∃ v H s, cv id_impl_TakeMail [.sl false (vR eX l), .str p] [] = some (v, H) /\ ouR H v = some (.tup [.sl true s, .agg (cO (takeM l p)), .bool (takeB l p)]) /\ OwX s (takeL l p) := by
 have e1 := impl_BoxesValid_c l h
 have e3 := copyBoxes_c l h
 obtain ⟨at_, kn, hat1, hbp, hat2, hat3⟩ := boxPlace_g l p (by have := h.1; omega)
 have fals : takeB l p = false -> cv id_impl_TakeMail [.sl false (vR eX l), .str p] [] = some (.tup [.sl true [], .agg [.str [], .sl true [], .sl true []], .bool false], []) →
  (∃ o r, RoX r (takeL l p) /\ pc id_impl_TakeMail [.sl false (vR eX l), .str p] = some (.tup [.sl o r, .agg (cO (takeM l p)), .bool (takeB l p)])) ∧
  ∃ v H s, cv id_impl_TakeMail [.sl false (vR eX l), .str p] [] = some (v, H) /\ ouR H v = some (.tup [.sl true s, .agg (cO (takeM l p)), .bool (takeB l p)]) /\ OwX s (takeL l p) := fun hB e => by
  have hL : takeL l p = [] := by unfold takeL; rw [hB]; rfl
  have hM : takeM l p = m0 := by unfold takeM; rw [hB]; rfl
  rw [hL, hM, hB]
  exact ⟨⟨true, [], RoX.nil, pc_of e (by simp only [evv]) rfl⟩, _, _, [], e, by unfold ouR; rw [ou_id 6 [] _ rfl]; rfl, OwX.nil⟩
 by_cases c1 : boxesT l = true
 ·rw [c1] at e1
  obtain ⟨q1, q2, q3, q4⟩ := hat3 (sort_of c1)
  by_cases c3 : l.any (isP p) = true
  ·rw [c3] at q1
   subst q1
   have q2 := q2 rfl
   have hx := findIdx_isP c3
   rw [<- q2] at hx
   have hat := boxAt_get hx
   have i1 := vX_idx false l .i64 _ hx
   rw [eX_e] at i1
   by_cases c4 : l[at_].mails.length = 0
   ·refine fals (by unfold takeB; rw [c1, c3, <- q2, hat, decide_eq_true c4]; rfl) ?_
    rw [impl_TakeMail_eq]
    simp only [evv, qco_d, hbp, e1, i1, c4]
    first | done | rfl | simp
   ·have hB : takeB l p = true := by unfold takeB; rw [c1, c3, <- q2, hat, decide_eq_false c4]; rfl
    have hL : takeL l p = l.set at_ ⟨l[at_].path, l[at_].mails.drop 1⟩ := by unfold takeL; rw [hB, <- q2, hat]; rfl
    have hM : takeM l p = l[at_].mails.headD ⟨[], [], []⟩ := by unfold takeM; rw [hB, <- q2, hat]; rfl
    rw [hL, hM, hB]
    have hn : l ≠ [] := fun e => by subst e; simp at hx
    have hmn : l[at_].mails ≠ [] := fun e => c4 (by rw [e]; rfl)
    cases hms : l[at_].mails with
    | nil => exact absurd hms hmn
    | cons m ms =>
    have hr1 : ∃ ks1 ks2 k r H0, LayX H0 (ks1 ++ k :: ks2) r l /\ (ks1 ++ k :: ks2).Nodup /\ (∀ j ∈ ks1 ++ k :: ks2, j < H0.length) /\ r[at_]? = some [.str l[at_].path, .obs k 0 (m :: ms).length 3] /\ H0[k]? = some (vO (m :: ms)).flatten ∧
     (∀ H' kk v ms', (∀ j ∈ ks1 ++ ks2, H'[j]? = H0[j]?) -> CellX H' kk v ms' -> LayX H' (ks1 ++ kk ++ ks2) (r.set at_ [.str l[at_].path, v]) (l.set at_ ⟨l[at_].path, ms'⟩)) ∧
     cv id_impl_TakeMail [.sl false (vR eX l), .str p] [] = some (.tup [.obs H0.length 0 l.length 2, .agg (cO m), .bool true], (((H0 ++ [r.flatten]).set k []) ++ [(vO ms).flatten]).set H0.length (r.set at_ [.str l[at_].path, .obs (H0.length + 1) 0 ms.length 3]).flatten) := by
     rw [impl_TakeMail_eq]
     have hc4 : ¬ ((l[at_].mails.length : Int) = 0) := by omega
     simp only [evv, qco_d, pco_d, hbp, e1, e3, i1, hc4]
     obtain ⟨ks, r, H0, hp, hlay, hnd, hlt⟩ := promB_two l hn (fun o49 h50 =>
 (vIdxV 2 (strip o49) (.int .i64 (at_ : Nat))).bind fun x54 =>
 (vOffV x54 1).bind fun x55 =>
 (ldO globB false false 1 x55 h50).bind fun r57 =>
 (vIdxV 3 r57.1 (.int .i64 0)).bind fun x58 =>
 (ldO globB true true 3 x58 r57.2).bind fun r60 =>
 (aggNV 3 r60.1).bind fun c63 =>
 (vIdxV 2 (strip o49) (.int .i64 (at_ : Nat))).bind fun x68 =>
 (vOffV x68 1).bind fun x69 =>
 (ldO globB false false 1 x69 r60.2).bind fun r71 =>
 (cv id_slices_Delete___impl_Mail_impl_Mail_ [(strip r71.1), (.int .i64 0), (.int .i64 1)] r71.2).bind fun r73 =>
 (vIdxV 2 (strip o49) (.int .i64 (at_ : Nat))).bind fun x74 =>
 (vOffV x74 1).bind fun x75 =>
 (vOneV r73.1).bind fun y77 =>
 (stO x75 [y77] r73.2).bind fun H78 =>
 some ((V.tup [o49, (.agg [(c63.getD 0 .nilp), (c63.getD 1 .nilp), (c63.getD 2 .nilp)]), (.bool true)]), H78))
     obtain ⟨k, ks1, ks2, rfl, g1, g2, g3⟩ := hlay.at hx hmn
     rw [hms] at g1 g2
     refine ⟨ks1, ks2, k, r, H0, hlay, hnd, hlt, g1, g2, g3, ?_⟩
     refine Eq.trans hp ?_
     have hk0 : k < H0.length := hlt k (by simp)
     have hrw := hlay.rows
     have hcell : r.flatten[at_ * 2 + 1]? = some (.obs k 0 (ms.length + 1) 3) := (hrw.1.get (j := 1) (by omega) g1).trans rfl
     have hP : (H0 ++ [r.flatten])[H0.length]? = some r.flatten := by simp
     have hPk : (H0 ++ [r.flatten])[k]? = some (vO (m :: ms)).flatten := by rw [List.getElem?_append_left hk0]; exact g2
     have v1 : vIdxV 2 (.obs H0.length 0 l.length 2) (.int .i64 (at_ : Nat)) = some (.ptr H0.length (at_ * 2)) := vi_obs hx
     have v2 := ld_peek (g := globB) hP hcell
     have v3 : vIdxV 3 (.obs k 0 (ms.length + 1) 3) (.int .i64 0) = some (.ptr k 0) := by have := vi_obs (k := k) (n := ms.length + 1) (e := 3) (i := 0) (kk := .i64) (by omega); simpa using this
     have v4 := ld_mail hPk
     have hQ : ((H0 ++ [r.flatten]).set k (cM m ++ (vO ms).flatten))[H0.length]? = some r.flatten := by rw [List.getElem?_set_ne (by omega)]; exact hP
     have v5 := ld_peek (g := globB) hQ hcell
     have hQk : ((H0 ++ [r.flatten]).set k (cM m ++ (vO ms).flatten))[k]? = some (cM m ++ (vO ms).flatten) := by rw [List.getElem?_set_self (by simp; omega)]
     have hml : (vO ms).flatten.length = ms.length * 3 := by have := (vO_rows ms).flat; rw [this, vO_len]
     have v6 := Delete1 hQk (m := ms.length + 1) (by simp [hml, cM_e]; omega) (by omega)
     have hd3 : (cM m ++ (vO ms).flatten).drop 3 = (vO ms).flatten := by rw [cM_e]; rfl
     rw [hd3, List.set_set, Nat.add_sub_cancel] at v6
     have hln : ((H0 ++ [r.flatten]).set k (cM m ++ (vO ms).flatten)).length = H0.length + 1 := by simp
     rw [hln] at v6
     have hS : (((H0 ++ [r.flatten]).set k []) ++ [(vO ms).flatten])[H0.length]? = some r.flatten := by rw [List.getElem?_append_left (by simp), List.getElem?_set_ne (by omega)]; exact hP
     have hfl : at_ * 2 + 1 < r.flatten.length := by rw [hrw.1.flat, hrw.2]; omega
     have v7 : stO (.ptr H0.length (at_ * 2 + 1)) [.obs (H0.length + 1) 0 ms.length 3] (((H0 ++ [r.flatten]).set k []) ++ [(vO ms).flatten]) = some ((((H0 ++ [r.flatten]).set k []) ++ [(vO ms).flatten]).set H0.length (r.set at_ [.str l[at_].path, .obs (H0.length + 1) 0 ms.length 3]).flatten) := by
      rw [sp_cell hS hfl, <- gseg_set hfl, Go.AM.Rows.set (by omega) hrw.1 g1]
      rfl
     generalize cM m ++ (vO ms).flatten = Z at v4 v5 v6
     have v8 : ∀ a b c d, vOneV (.obs a b c d) = some (.obs a b c d) := fun _ _ _ _ => rfl
     simp only [evv, v1, v2, v3, v4, v5, v6, v8, v7, cO_e, List.length_cons, Nat.add_sub_cancel]
     first | done | rfl | simp
    obtain ⟨ks1, ks2, k, r, H0, hlay, hnd, hlt, g1, g2, g3, run⟩ := hr1
    have hk0 : k < H0.length := hlt k (by simp)
    have hrw := hlay.rows
    have hr0 : 0 < l.length := by omega
    generalize hHF : (((H0 ++ [r.flatten]).set k []) ++ [(vO ms).flatten]).set H0.length (r.set at_ [.str l[at_].path, .obs (H0.length + 1) 0 ms.length 3]).flatten = HF at *
    generalize hr' : r.set at_ [.str l[at_].path, .obs (H0.length + 1) 0 ms.length 3] = r' at *
    have hF0 : HF[H0.length]? = some r'.flatten := by rw [<- hHF, List.getElem?_set_self (by simp; omega)]
    have hat' : at_ < r.length := by rw [hrw.2]; exact hx
    have hmem : [.str l[at_].path, .obs (H0.length + 1) 0 ms.length 3] ∈ r' := by rw [<- hr']; exact List.mem_iff_getElem?.2 ⟨at_, by rw [List.getElem?_set_self hat']⟩
    have hrow' : Go.AM.Rows 2 r' /\ r'.length = l.length := by
     rw [<- hr']
     refine ⟨fun x hx => ?_, by rw [List.length_set]; exact hrw.2⟩
     rcases List.mem_or_eq_of_mem_set hx with h | rfl
     ·exact hrw.1 x h
     ·rfl
    have hol : ∀ j, j ∈ ks1 ++ ks2 -> (HF.set H0.length [])[j]? = H0[j]? := fun j hj => by
     have hjk : j ≠ k := fun e => by
      subst e
      rw [List.nodup_append] at hnd
      rcases List.mem_append.1 hj with hj | hj
      ·exact hnd.2.2 j hj j (by simp) rfl
      ·have := hnd.2.1; rw [List.nodup_cons] at this; exact this.1 hj
     have hjl : j < H0.length := hlt j (by rcases List.mem_append.1 hj with hj | hj <;> simp [hj])
     rw [<- hHF, List.getElem?_set_ne (by omega), List.getElem?_set_ne (by omega), List.getElem?_append_left (by simp; omega), List.getElem?_set_ne (by omega), List.getElem?_append_left hjl]
    have hnd2 : (ks1 ++ ks2).Nodup := by
     rw [List.nodup_append] at hnd ⊢
     rw [List.nodup_cons] at hnd
     exact ⟨hnd.1, hnd.2.1.2, fun a ha b hb => hnd.2.2 a ha b (by simp [hb])⟩
    have hlay' : ∃ kk, LayX (HF.set H0.length []) (ks1 ++ kk ++ ks2) r' (l.set at_ ⟨l[at_].path, ms⟩) /\ (ks1 ++ kk ++ ks2).Nodup := by
     by_cases hm0 : ms = []
     ·refine ⟨[], ?_, by simpa using hnd2⟩
      have := g3 (HF.set H0.length []) [] (.obs (H0.length + 1) 0 ms.length 3) ms hol (.inl ⟨rfl, hm0, .inr ⟨_, by rw [hm0]; rfl⟩⟩)
      rw [hr'] at this
      exact this
     ·refine ⟨[H0.length + 1], ?_, ?_⟩
      ·have := g3 (HF.set H0.length []) [H0.length + 1] (.obs (H0.length + 1) 0 ms.length 3) ms hol (.inr ⟨_, rfl, hm0, rfl, by
        rw [<- hHF, List.getElem?_set_ne (by omega), List.getElem?_set_ne (by omega), List.getElem?_append_right (by simp)]; simp⟩)
       rw [hr'] at this
       exact this
      ·rw [List.nodup_append] at hnd2
       have hlt1 : ∀ j ∈ ks1, j < H0.length := fun j hj => hlt j (by simp [hj])
       have hlt2 : ∀ j ∈ ks2, j < H0.length := fun j hj => hlt j (by simp [hj])
       rw [List.append_assoc, List.nodup_append]
       refine ⟨hnd2.1, ?_, fun a ha b hb => ?_⟩
       ·show ((H0.length + 1) :: ks2).Nodup
        rw [List.nodup_cons]
        exact ⟨fun hm => by have := hlt2 _ hm; omega, hnd2.2.1⟩
       ·rcases List.mem_append.1 hb with hb | hb
        ·simp at hb; have := hlt1 a ha; omega
        ·exact hnd2.2.2 a ha b hb
    obtain ⟨kk, hl1, hl2⟩ := hlay'
    obtain ⟨s, H9, o1, o2, o3, o4⟩ := hl1.ou (d := 2) hl2
    have hsl : s.length = l.length := by have := o2.len; rw [List.length_set] at this; exact this
    have hch : chunkV 2 l.length s.flatten = s := by rw [<- hsl]; exact o2.rows.chunk
    have hou : ouR HF (.tup [.obs H0.length 0 l.length 2, .agg (cO m), .bool true]) = some (.tup [.sl true s, .agg (cO m), .bool true]) := by
     have a1 : ou 5 HF (.obs H0.length 0 l.length 2) = some (.sl true s, H9) := by
      obtain ⟨n, hn'⟩ := Nat.exists_eq_succ_of_ne_zero (show l.length ≠ 0 by omega)
      have hfl : r'.flatten.length = l.length * 2 := by rw [hrow'.1.flat, hrow'.2]
      rw [hn'] at hfl hch ⊢
      refine (ou_obs 4 HF H0.length n 2).trans ?_
      rw [hF0, Option.bind_some, if_pos ⟨rfl, by omega, hfl⟩, o1, Option.bind_some]
      show some (V.sl true (chunkV 2 n.succ s.flatten), _) = _
      rw [hch]
     have hown : ownA (.agg (cO m)) = true := by simp only [ownA, cO_e, ownAL, vT_own, Bool.true_or, Bool.and_self]
     have a2 := ou_id 5 H9 (.agg (cO m)) hown
     have a3 := ou_id 5 H9 (.bool true) rfl
     unfold ouR
     rw [show ou 6 HF (.tup [.obs H0.length 0 l.length 2, .agg (cO m), .bool true]) = (ouL (ou 5) HF [.obs H0.length 0 l.length 2, .agg (cO m), .bool true]).bind fun r => some (.tup r.1, r.2) from rfl]
     simp only [ouL, a1, a2, a3, Option.bind_some, ownA, ownAL, o3, Bool.true_or, Bool.and_self]
     have hown' : ownAL (cO m) = true := by simpa [ownA] using hown
     rw [hown']
     rfl
    refine ⟨⟨true, s, by simpa using o2, ?_⟩, _, _, s, run, by simpa using hou, by simpa using o4⟩
    have hu := unobs1_obs hF0 hrow'.1
    rw [hrow'.2] at hu
    refine pc_ou run (by simp only [evv]) (by simp only [data, dataL, Bool.false_and]) (v := .tup [.sl false (stripLL r'), .agg (cO m), .bool true]) ?_ (by simp only [data, dataL, obs_data hmem, Bool.false_and]) (by simpa using hou)
    simp only [unobs, unobsL, hu, show ∀ b, unobs1 HF (.bool b) = some (.bool b) from fun _ => rfl, show ∀ b, unobs1 HF (.agg b) = some (.agg b) from fun _ => rfl, Option.bind_some, Option.map_some]
  ·have c3' : l.any (isP p) = false := by simpa using c3
   rw [c3'] at q1
   subst q1
   refine fals (by unfold takeB; rw [c1, c3']; rfl) ?_
   rw [impl_TakeMail_eq]
   simp only [evv, qco_d, hbp, e1]
   first | done | rfl | simp
 ·have c1' : boxesT l = false := by simpa using c1
  rw [c1'] at e1
  refine fals (by unfold takeB; rw [c1']; rfl) ?_
  rw [impl_TakeMail_eq]
  simp only [evv, qco_d, hbp, e1]
  first | done | rfl | simp
theorem spec_TakeMail_c (l : List Box) (p : Bs) (h : SmXs l) : pc id_spec_TakeMail [.sl false (vR eX l), .str p] = some (.tup [.sl true (vOX (takeL l p)), .agg (cO (takeM l p)), .bool (takeB l p)]) := by
 obtain ⟨o, r, oa, ob, hr, e1⟩ := RawTake_c l p h
 have e2 := l13OwnListBox_c (takeL l p) (takeL_sm h)
 rw [<- hr.1] at e2
 have e3 := l13OwnMail_c (takeM l p) (takeM_sm h)
 simp only [cM_e] at e3
 refine pc_of (H := []) ?_ (by simp only [evv]) (by simp only [data, dataL, vOX_data, cO_e, vT_data, Bool.and_self])
 show cv _ _ _ = _
 rw [spec_TakeMail_eq]
 simp only [evv, e1, e2, e3, cO_e]
end Go.Proofs.YtikpckcdpmjpgabGreatDoor.Q

/- Contracts: marks in memory. -/
import Derived.Test.YtjpkhkndkockiaaGreatDoorExactSayAllC99addboxZ
import Derived.Test.YtjpkhkndkockiaaGreatDoorFnExactSayAllK4
namespace Go.Proofs.YtjpkhkndkockiaaGreatDoor.Q
open Go Go.AM
set_option linter.unusedSimpArgs false
set_option linter.unusedVariables false
set_option linter.unusedSectionVars false
noncomputable def mkN (k : Nat) : Bs := match qc id_laws_markText [.int .i64 (k : Nat)] with | some (.str s) => s | _ => []
theorem markText_c (k : Nat) (hk : k <= 9000000000000000000) : qc id_laws_markText [.int .i64 (k : Nat)] = some (.str (mkN k)) := by
 suffices h : ∃ s, qc id_laws_markText [.int .i64 (k : Nat)] = some (.str s) by
  obtain ⟨s, h⟩ := h
  unfold mkN
  rw [h]
 suffices hg : Gets (cv id_laws_markText [.int .i64 (k : Nat)] []) fun r => ∃ s, r.1 = .str s by
  obtain ⟨⟨v, H⟩, e, s, hs⟩ := hg
  cases hs
  exact ⟨s, qc_of e (by simp only [evv]) rfl⟩
 rw [laws_markText_eq]
 by_cases h0 : (k : Int) <= 0
 ·simp only [evv, h0]; exact Gets.here ⟨_, rfl⟩
 ·simp only [evv, h0]
  refine Gets.loop2 (I := fun n st H => ∃ s : Bs, s.length + n <= 9000000000000000000 /\ st = [.int .i64 (n : Nat), .str s]) (P := fun q vs H => q = 0 /\ ∃ s : Bs, s.length <= 9000000000000000000 /\ vs = [.str s]) (n := k) ?_ ⟨[], by simpa using hk, rfl⟩ ?_
  ·rintro n st H ⟨s, hn, rfl⟩
   rw [laws_markText_l4_eq]
   by_cases hp : (n : Int) > 0
   ·have q1 : vBinV (.int .i64) .rem (.int .i64 (n : Int)) (.int .i64 10) = some (.int .i64 ((n % 10 : Nat) : Int)) := n_remN _ n 10 (by omega)
    have q2 : vBinV (.int .i64) .add (.int .i64 48) (.int .i64 ((n % 10 : Nat) : Int)) = some (.int .i64 ((48 + n % 10 : Nat) : Int)) := n_addN _ 48 (n % 10) (by omega)
    have q3 : vBinV (.int .i64) .quo (.int .i64 (n : Int)) (.int .i64 10) = some (.int .i64 ((n / 10 : Nat) : Int)) := n_quoN _ n 10 (by omega) (by omega)
    have q4 : ∀ x, vConvV .u8 (.int .i64 x) = some (.int .u8 (IntKind.u8.wrap x)) := fun _ => rfl
    have q6 : ∀ c : UInt8, vBinV .str .add (.str [c]) (.str s) = some (.str ([c] ++ s)) := fun c => t_add .str [c] s (by simp; omega)
    have q5 : ∀ c G, b2sV (.sl true [[.int .u8 c]]) G = some (.str [UInt8.ofNat c.toNat]) := fun _ _ => rfl
    simp only [evv, hp, q1, q2, q3, q4, q5, q6]
    exact ⟨_, rfl, .inr ⟨rfl, n / 10, by omega, _, by simp; omega, rfl⟩⟩
   ·simp only [evv, hp]
    exact ⟨_, rfl, .inl ⟨0, rfl, rfl, s, by omega, rfl⟩⟩
  ·rintro _ _ H ⟨rfl, s, hs, rfl⟩
   have q6 : vBinV .str .add (.str [109]) (.str s) = some (.str ([109] ++ s)) := t_add .str [109] s (by simp; omega)
   simp only [evv, q6]
   exact Gets.here ⟨_, rfl⟩
noncomputable def mkT (k n : Nat) : List Bs := (List.range n).map fun i => mkN (k + i)
theorem mkT_len (k n : Nat) : (mkT k n).length = n := by simp [mkT]
theorem mkT_succ (k n : Nat) : mkT k (n + 1) = mkT k n ++ [mkN (k + n)] := by simp [mkT, List.range_succ]
theorem mkT_get (k n i : Nat) (h : i < (mkT k n).length) : (mkT k n)[i] = mkN (k + i) := by simp [mkT]
def TxR (H : VH) (ks : List Nat) (v : V) (l : List Bs) : Prop := (ks = [] /\ l = [] /\ (v = .sl true [] ∨ v = .sl false [] ∨ ∃ k, v = .obs k 0 0 1)) ∨ ∃ k, ks = [k] /\ l ≠ [] /\ v = .obs k 0 l.length 1 /\ H[k]? = some (l.map V.str)
theorem vT_map : ∀ l : List Bs, (vT l).flatten = l.map V.str
 | [] => rfl
 | s :: l => by
   show [V.str s] ++ (vT l).flatten = _
   rw [vT_map l]; rfl
theorem vT_rows (l : List Bs) : Go.AM.Rows 1 (vT l) := fun x hx => by
 obtain ⟨b, _, rfl⟩ := List.mem_map.1 hx
 rfl
theorem vT_chunk (l : List Bs) : chunkV 1 l.length (l.map V.str) = vT l := by
 have := (vT_rows l).chunk
 rw [vT_map, vT_len] at this
 exact this
theorem TxR.mono {H H' : VH} {ks : List Nat} {v : V} {l : List Bs} (h : TxR H ks v l) (e : ∀ j ∈ ks, H'[j]? = H[j]?) : TxR H' ks v l := by
 rcases h with h | ⟨k, rfl, h1, h2, h3⟩
 ·exact .inl h
 ·exact .inr ⟨k, rfl, h1, h2, by rw [e k (by simp), h3]⟩
theorem TxR.nod {H : VH} {ks : List Nat} {v : V} {l : List Bs} (h : TxR H ks v l) : ks.Nodup := by
 rcases h with ⟨rfl, _⟩ | ⟨k, rfl, _⟩ <;> simp
theorem TxR.strip {H : VH} {ks : List Nat} {v : V} {l : List Bs} (h : TxR H ks v l) : TxR H ks (Go.AM.strip v) l := by
 rcases h with ⟨h1, h2, h3⟩ | ⟨k, h1, h2, rfl, h3⟩
 ·refine .inl ⟨h1, h2, ?_⟩
  rcases h3 with rfl | rfl | ⟨k, rfl⟩
  ·exact .inr (.inl rfl)
  ·exact .inr (.inl rfl)
  ·exact .inr (.inr ⟨k, rfl⟩)
 ·exact .inr ⟨k, h1, h2, rfl, h3⟩
theorem TxR.len {H : VH} {ks : List Nat} {v : V} {l : List Bs} (h : TxR H ks v l) : vLenVV v = some (.int .i64 (l.length : Nat)) := by
 rcases h with ⟨h1, rfl, rfl | rfl | ⟨k, rfl⟩⟩ | ⟨k, h1, h2, rfl, h3⟩ <;> rfl
theorem TxR.one {H : VH} {ks : List Nat} {v : V} {l : List Bs} (h : TxR H ks v l) : vOneV v = some v := by
 rcases h with ⟨h1, rfl, rfl | rfl | ⟨k, rfl⟩⟩ | ⟨k, h1, h2, rfl, h3⟩ <;> rfl
theorem TxR.nd {H : VH} {ks : List Nat} {v : V} {l : List Bs} (h : TxR H ks v l) (hn : noObs v = true) : data v = true := by
 rcases h with ⟨h1, rfl, rfl | rfl | ⟨k, rfl⟩⟩ | ⟨k, h1, h2, rfl, h3⟩ <;> first | rfl | (simp [noObs] at hn)
theorem frD_strs (d : Nat) (H : VH) (l : List Bs) : (l.map V.str).map (frD d H) = l.map V.str := by
 rw [List.map_map]
 refine List.map_congr_left fun s _ => ?_
 exact frD_data d H (.str s) rfl
theorem TxR.frD {H : VH} {ks : List Nat} {v : V} {l : List Bs} (d : Nat) (h : TxR H ks v l) : Go.AM.frD (d + 1) H v = .sl false (vT l) := by
 rcases h with ⟨h1, rfl, h3⟩ | ⟨k, h1, h2, rfl, h3⟩
 ·rcases h3 with rfl | rfl | ⟨k, rfl⟩
  ·rfl
  ·rfl
  ·simp only [Go.AM.frD, frO, gcut, Nat.zero_mul, Nat.add_zero, Nat.zero_le, if_true, List.take_zero]
   rfl
 ·have hg : (H.map fun cs => cs.map (Go.AM.frD d H)).getD k [] = l.map V.str := by
   rw [List.getD_eq_getElem?_getD, List.getElem?_map, h3]
   exact frD_strs d H l
  simp only [Go.AM.frD, frO, hg, gcut]
  rw [if_pos (by simp)]
  simp only [List.drop_zero, Nat.mul_one]
  rw [List.take_of_length_le (by simp), vT_chunk]
theorem qco_fr {f : FuncId} {H : VH} {vs : List V} (h : noObsL vs = true -> dataL vs = true) : qco f H vs = qc f (vs.map (frD 3 H)) := by
 show qpcallO cv f H vs = qpcall cv f _
 cases hn : noObsL vs with
 | true =>
   rw [qpcallO_d (h hn), map_frD (h hn)]
 | false =>
   unfold qpcallO
   rw [hn]
theorem set_mid {a b : List V} {x y : V} {i : Nat} (h : a.length = i) : (a ++ x :: b).set i y = a ++ y :: b := by
 subst h
 rw [List.set_append_right _ _ (Nat.le_refl _), Nat.sub_self, List.set_cons_zero]
theorem markStringS_g {H : VH} {ks : List Nat} {v : V} {l : List Bs} (h : TxR H ks v l) (k : Nat) (hk : k + l.length <= 9000000000000000000) :
 Gets2 (cv id_laws_markStringS [v, .int .i64 (k : Nat)] H) (fun r G => r = .int .i64 ((k + l.length : Nat) : Int) /\ TxR G ks v (mkT k l.length) /\ (∀ j, j ∉ ks -> G[j]? = H[j]?) /\ G.length = H.length) := by
 have hlen := h.strip.len
 refine Gets2.of ?_
 rw [laws_markStringS_eq]
 refine Gets.loop2 (I := fun n st G => ∃ i : Nat, n = l.length - i /\ i <= l.length /\ st = [v, .int .i64 ((k + i : Nat) : Int), .int .i64 (i : Nat)] /\ G.length = H.length /\ (∀ j, j ∉ ks -> G[j]? = H[j]?) /\ (∀ q, ks = [q] -> G[q]? = some ((mkT k i).map V.str ++ (l.drop i).map V.str)))
  (P := fun q vs G => q = 0 /\ vs = [.int .i64 ((k + l.length : Nat) : Int)] /\ G.length = H.length /\ (∀ j, j ∉ ks -> G[j]? = H[j]?) /\ (∀ q, ks = [q] -> G[q]? = some ((mkT k l.length).map V.str))) (n := l.length) ?_
  ⟨0, by omega, by omega, rfl, rfl, fun _ _ => rfl, fun q hq => by
   rcases h with ⟨rfl, _⟩ | ⟨k', rfl, _, _, h3⟩
   ·cases hq
   ·cases hq; rw [h3]; simp [mkT]⟩ ?_
 ·rintro n st G ⟨i, rfl, hi, rfl, g1, g2, g3⟩
  rw [laws_markStringS_l2_eq]
  by_cases hlt : i < l.length
  ·obtain ⟨q, rfl, hne, rfl, hq⟩ : ∃ q, ks = [q] /\ l ≠ [] /\ v = .obs q 0 l.length 1 /\ H[q]? = some (l.map V.str) := by
    rcases h with ⟨_, rfl, _⟩ | h
    ·simp at hlt
    ·exact h
   have hG := g3 q rfl
   have m1 := markText_c (k + i) (by omega)
   have i1 : vIdxV 1 (.obs q 0 l.length 1) (.int .i64 (i : Nat)) = some (.ptr q i) := by have := vi_obs (k := q) (e := 1) (kk := .i64) hlt; rwa [Nat.mul_one] at this
   rw [List.drop_eq_getElem_cons hlt, List.map_cons] at hG
   have st : stO (.ptr q i) [.str (mkN (k + i))] G = some (G.set q ((mkT k (i + 1)).map V.str ++ (l.drop (i + 1)).map V.str)) := by
    rw [sp_cell hG (by simp [mkT_len]), set_mid (by simp [mkT_len]), mkT_succ]
    simp
   have e1 : vBinV (.int .i64) .add (.int .i64 ((k + i : Nat) : Int)) (.int .i64 1) = some (.int .i64 ((k + i + 1 : Nat) : Int)) := n_addN _ (k + i) 1 (by omega)
   have e2 : vBinV (.int .i64) .add (.int .i64 (i : Int)) (.int .i64 1) = some (.int .i64 ((i + 1 : Nat) : Int)) := n_addN _ i 1 (by omega)
   generalize hki : k + i = j at *
   simp only [evv, m1, i1, st, e1, e2, show ((i : Int) < (l.length : Int)) from by omega]
   refine ⟨_, rfl, .inr ⟨rfl, l.length - (i + 1), by omega, i + 1, rfl, by omega, by rw [<- hki]; rfl, by simpa using g1, fun j hj => ?_, fun q' hq' => ?_⟩⟩
   ·simp only
    rw [List.getElem?_set_ne (fun e => hj (by simp [e]))]; exact g2 j hj
   ·cases hq'
    simp only
    have hql : q < G.length := by
     have := List.getElem?_eq_some_iff.1 hG
     exact this.1
    rw [List.getElem?_set_self hql]
  ·have : i = l.length := by omega
   subst this
   simp only [evv, hlen, show ¬ ((l.length : Int) < (l.length : Int)) from by omega]
   exact ⟨_, rfl, .inl ⟨0, rfl, rfl, rfl, g1, g2, fun q hq => by rw [g3 q hq]; simp⟩⟩
 ·rintro _ _ G ⟨rfl, rfl, g1, g2, g3⟩
  simp only [evv]
  refine Gets.here ⟨rfl, ?_, g2, g1⟩
  rcases h with ⟨rfl, rfl, h3⟩ | ⟨q, rfl, hne, rfl, hq⟩
  ·exact .inl ⟨rfl, rfl, h3⟩
  ·exact .inr ⟨q, rfl, fun e => hne (List.length_eq_zero_iff.1 (by rw [<- mkT_len k l.length, e]; rfl)), by rw [mkT_len], g3 q rfl⟩
theorem heldStringS_c (k n : Nat) (hk : k + n <= 9000000000000000000) : qc id_laws_heldStringS [.sl false (vT (mkT k n)), .int .i64 (k : Nat)] = some (.int .i64 ((k + n : Nat) : Int)) := by
 suffices hg : Gets (cv id_laws_heldStringS [.sl false (vT (mkT k n)), .int .i64 (k : Nat)] []) fun r => r.1 = .int .i64 ((k + n : Nat) : Int) by
  obtain ⟨⟨v, H⟩, e, h⟩ := hg
  cases h
  exact qc_of e (by simp only [evv]) rfl
 have hl := mkT_len k n
 rw [laws_heldStringS_eq]
 refine Gets.loop2 (I := fun m st G => ∃ i : Nat, m = n - i /\ i <= n /\ st = [.sl false (vT (mkT k n)), .int .i64 ((k + i : Nat) : Int), .int .i64 (i : Nat)])
  (P := fun q vs G => q = 0 /\ vs = [.int .i64 ((k + n : Nat) : Int)]) (n := n) ?_ ⟨0, by omega, by omega, rfl⟩ ?_
 ·rintro m st G ⟨i, rfl, hi, rfl⟩
  rw [laws_heldStringS_l2_eq]
  by_cases hlt : i < n
  ·have i1 := vT_idx false (mkT k n) .i64 i (by omega)
   rw [mkT_get] at i1
   have m1 := markText_c (k + i) (by omega)
   have e1 : vBinV (.int .i64) .add (.int .i64 ((k + i : Nat) : Int)) (.int .i64 1) = some (.int .i64 ((k + i + 1 : Nat) : Int)) := n_addN _ (k + i) 1 (by omega)
   have e2 : vBinV (.int .i64) .add (.int .i64 (i : Int)) (.int .i64 1) = some (.int .i64 ((i + 1 : Nat) : Int)) := n_addN _ i 1 (by omega)
   generalize hki : k + i = j at *
   simp only [evv, hl, m1, i1, e1, e2, show ((i : Int) < (n : Int)) from by omega]
   exact ⟨_, rfl, .inr ⟨rfl, n - (i + 1), by omega, i + 1, rfl, by omega, by rw [<- hki]; rfl⟩⟩
  ·have : i = n := by omega
   subst this
   simp only [evv, hl, show ¬ ((i : Int) < (i : Int)) from by omega]
   exact ⟨_, rfl, .inl ⟨0, rfl, rfl, rfl⟩⟩
 ·rintro _ _ G ⟨rfl, rfl⟩
  simp only [evv]
  exact Gets.here rfl
theorem repV_str (n : Nat) : repV n [V.str []] = List.replicate n (V.str []) := by
 induction n with
 | zero => rfl
 | succ n ih => simp only [repV, ih]; rfl
theorem toStringS_g (l : List Bs) (hl : l.length <= 1049600) (H : VH) : Gets2 (cv id_laws_toStringS [.sl false (vT l)] H) (fun r G => r = .obs H.length 0 l.length 1 /\ G = H ++ [l.map V.str]) := by
 have hmk := mk_len 16 l.length (by omega) (by omega)
 refine Gets2.of ?_
 rw [laws_toStringS_eq]
 simp only [evv, hmk, repV_str]
 refine Gets.loop2 (I := fun n st G => ∃ i : Nat, n = l.length - i /\ i <= l.length /\ st = [.sl false (vT l), .obs H.length 0 l.length 1, .int .i64 (i : Nat)] /\ G = H ++ [(l.take i).map V.str ++ List.replicate (l.length - i) (V.str [])])
  (P := fun q vs G => q = 0 /\ vs = [.obs H.length 0 l.length 1] /\ G = H ++ [l.map V.str]) (n := l.length) ?_ ⟨0, by omega, by omega, rfl, by simp⟩ ?_
 ·rintro n st G ⟨i, rfl, hi, rfl, rfl⟩
  rw [laws_toStringS_l3_eq]
  by_cases hlt : i < l.length
  ·have i1 := vT_idx false l .i64 i hlt
   have i2 : vIdxV 1 (.obs H.length 0 l.length 1) (.int .i64 (i : Nat)) = some (.ptr H.length i) := by have := vi_obs (k := H.length) (e := 1) (kk := .i64) hlt; rwa [Nat.mul_one] at this
   obtain ⟨m, hm⟩ : ∃ m, l.length - i = m + 1 := ⟨l.length - i - 1, by omega⟩
   have st : stO (.ptr H.length i) [.str l[i]] (H ++ [(l.take i).map V.str ++ List.replicate (l.length - i) (V.str [])]) = some (H ++ [(l.take (i + 1)).map V.str ++ List.replicate (l.length - (i + 1)) (V.str [])]) := by
    rw [sp_cell (get_last H _) (by simp; omega), set_end, hm, List.replicate_succ, set_mid (by simp; omega), List.take_succ_eq_append_getElem hlt, show l.length - (i + 1) = m by omega, List.map_append, List.append_assoc]
    rfl
   have e2 : vBinV (.int .i64) .add (.int .i64 (i : Int)) (.int .i64 1) = some (.int .i64 ((i + 1 : Nat) : Int)) := n_addN _ i 1 (by omega)
   simp only [evv, i1, i2, st, e2, show ((i : Int) < (l.length : Int)) from by omega]
   exact ⟨_, rfl, .inr ⟨rfl, l.length - (i + 1), by omega, i + 1, rfl, by omega, rfl, rfl⟩⟩
  ·have : i = l.length := by omega
   subst this
   simp only [evv, show ¬ ((l.length : Int) < (l.length : Int)) from by omega]
   exact ⟨_, rfl, .inl ⟨0, rfl, rfl, rfl, by simp⟩⟩
 ·rintro _ _ G ⟨rfl, rfl, rfl⟩
  simp only [evv]
  exact Gets.here ⟨rfl, rfl⟩
theorem TxR.new (l : List Bs) (H : VH) : ∃ ks, TxR (H ++ [l.map V.str]) ks (.obs H.length 0 l.length 1) l /\ ∀ j ∈ ks, j = H.length := by
 by_cases h : l = []
 ·subst h; exact ⟨[], .inl ⟨rfl, rfl, .inr (.inr ⟨_, rfl⟩)⟩, by simp⟩
 ·exact ⟨[H.length], .inr ⟨_, rfl, h, rfl, by simp⟩, by simp⟩
theorem promLL_vT (d : Nat) (H : VH) : ∀ l : List Bs, promLL d H (vT l) = (l.map V.str, H)
 | [] => rfl
 | s :: l => by
   show promLL d H ([V.str s] :: vT l) = _
   simp only [promLL, promL, prom, promLL_vT d H l]
   rfl
theorem prom_vT (d : Nat) (l : List Bs) (H : VH) : ∃ ks v G, prom (d + 1) H (.sl true (vT l)) = (v, H ++ G) /\ TxR (H ++ G) ks v l /\ ∀ j ∈ ks, H.length <= j /\ j < (H ++ G).length := by
 cases l with
 | nil => exact ⟨[], .sl true [], [], by simp [vT, prom], .inl ⟨rfl, rfl, .inl rfl⟩, by simp⟩
 | cons s l =>
   have e := promLL_vT d H (s :: l)
   have hv : vT (s :: l) = [V.str s] :: vT l := rfl
   rw [hv] at e
   refine ⟨[H.length], .obs H.length 0 (l.length + 1) 1, [(s :: l).map V.str], ?_, .inr ⟨H.length, rfl, by simp, rfl, by simp⟩, by simp⟩
   rw [hv]
   simp only [prom, e, vT_len]
   rfl
def MlR (H : VH) (ks : List Nat) (cs : List V) (m : Mail) : Prop := ∃ v w k1 k2, cs = [.str m.from_, v, w] /\ ks = k1 ++ k2 /\ TxR H k1 v m.to /\ TxR H k2 w m.lines
theorem MlR.mono {H H' : VH} {ks : List Nat} {cs : List V} {m : Mail} (h : MlR H ks cs m) (e : ∀ j ∈ ks, H'[j]? = H[j]?) : MlR H' ks cs m := by
 obtain ⟨v, w, k1, k2, rfl, rfl, h1, h2⟩ := h
 exact ⟨v, w, k1, k2, rfl, rfl, h1.mono fun j hj => e j (by simp [hj]), h2.mono fun j hj => e j (by simp [hj])⟩
theorem MlR.strip {H : VH} {ks : List Nat} {cs : List V} {m : Mail} (h : MlR H ks cs m) : MlR H ks (stripL cs) m := by
 obtain ⟨v, w, k1, k2, rfl, rfl, h1, h2⟩ := h
 exact ⟨_, _, k1, k2, rfl, rfl, h1.strip, h2.strip⟩
theorem MlR.frD {H : VH} {ks : List Nat} {cs : List V} {m : Mail} (d : Nat) (h : MlR H ks cs m) : Go.AM.frD (d + 1) H (.agg cs) = .agg (cM m) := by
 obtain ⟨v, w, k1, k2, rfl, rfl, h1, h2⟩ := h
 have a1 := h1.frD d
 have a2 := h2.frD d
 simp only [Go.AM.frD] at a1 a2
 simp only [Go.AM.frD, frO, frOL, a1, a2, cM_e]
theorem MlR.nd {H : VH} {ks : List Nat} {cs : List V} {m : Mail} (h : MlR H ks cs m) (hn : noObs (.agg cs) = true) : data (.agg cs) = true := by
 obtain ⟨v, w, k1, k2, rfl, rfl, h1, h2⟩ := h
 simp only [noObs, noObsL, Bool.and_eq_true] at hn
 simp only [data, dataL, h1.nd hn.2.1, h2.nd hn.2.2.1, Bool.and_self]
theorem toMail_g (m : Mail) (h : SmM m) (H : VH) : Gets2 (cv id_laws_toMail [.agg (cM m)] H) (fun r G => ∃ cs ks X, r = .agg cs /\ G = H ++ X /\ MlR G ks cs m /\ ks.Nodup /\ ∀ j ∈ ks, H.length <= j /\ j < G.length) := by
 refine Gets2.of ?_
 rw [laws_toMail_eq]
 simp only [evv, cM_e]
 refine (toStringS_g m.to h.2.1.1 H).bind ?_
 rintro _ _ ⟨rfl, rfl⟩
 simp only [evv, show ∀ a b c d, vOneV (.obs a b c d) = some (.obs a b c d) from fun _ _ _ _ => rfl]
 refine (toStringS_g m.lines h.2.2.1 _).bind ?_
 rintro _ _ ⟨rfl, rfl⟩
 simp only [evv, show ∀ a b c d, vOneV (.obs a b c d) = some (.obs a b c d) from fun _ _ _ _ => rfl]
 obtain ⟨k1, a1, a2⟩ := TxR.new m.to H
 obtain ⟨k2, b1, b2⟩ := TxR.new m.lines (H ++ [m.to.map V.str])
 refine Gets.here ⟨_, k1 ++ k2, [m.to.map V.str, m.lines.map V.str], rfl, by simp, ⟨_, _, k1, k2, rfl, rfl, a1.mono fun j hj => ?_, by simpa using b1⟩, ?_, fun j hj => ?_⟩
 ·have := a2 j hj
  subst this
  simp
 ·rw [List.nodup_append]
  exact ⟨a1.nod, b1.nod, fun a ha b hb => by have := a2 a ha; have := b2 b hb; simp at this; omega⟩
 ·rcases List.mem_append.1 hj with hj | hj
  ·have := a2 j hj; simp; omega
  ·have := b2 j hj; simp at this ⊢; omega
noncomputable def mkM (k : Nat) (m : Mail) : Mail := ⟨m.from_, mkT k m.to.length, mkT (k + m.to.length) m.lines.length⟩
theorem markMail_g {H : VH} {ks : List Nat} {cs : List V} {m : Mail} (h : MlR H ks cs m) (hn : ks.Nodup) (k : Nat) (hk : k + m.to.length + m.lines.length <= 9000000000000000000) :
 Gets2 (cv id_laws_markMail [.agg cs, .int .i64 (k : Nat)] H) (fun r G => r = .int .i64 ((k + m.to.length + m.lines.length : Nat) : Int) /\ MlR G ks (stripL cs) (mkM k m) /\ (∀ j, j ∉ ks -> G[j]? = H[j]?) /\ G.length = H.length) := by
 obtain ⟨v, w, k1, k2, rfl, rfl, h1, h2⟩ := h
 rw [List.nodup_append] at hn
 refine Gets2.of ?_
 rw [laws_markMail_eq]
 have s1 := h1.strip
 have s2 := h2.strip
 simp only [evv]
 refine (markStringS_g s1 k (by omega)).bind ?_
 rintro _ G ⟨rfl, g1, g2, g3⟩
 have s2' := s2.mono (H' := G) fun j hj => g2 j fun hj1 => hn.2.2 j hj1 j hj rfl
 simp only [evv]
 refine (markStringS_g s2' (k + m.to.length) hk).bind ?_
 rintro _ G2 ⟨rfl, f1, f2, f3⟩
 simp only [evv]
 refine Gets.here ⟨rfl, ⟨_, _, k1, k2, rfl, rfl, g1.mono fun j hj => f2 j fun hj2 => hn.2.2 j hj j hj2 rfl, f1⟩, fun j hj => ?_, f3.trans g3⟩
 simp only [List.mem_append, not_or] at hj
 rw [f2 j hj.2, g2 j hj.1]
theorem heldMail_c (k : Nat) (m : Mail) (hk : k + m.to.length + m.lines.length <= 9000000000000000000) : qc id_laws_heldMail [.agg (cM (mkM k m)), .int .i64 (k : Nat)] = some (.int .i64 ((k + m.to.length + m.lines.length : Nat) : Int)) := by
 have e1 := heldStringS_c k m.to.length (by omega)
 have e2 := heldStringS_c (k + m.to.length) m.lines.length hk
 refine qc_of (H := []) ?_ (by simp only [evv]) rfl
 show cv _ _ _ = _
 rw [laws_heldMail_eq]
 simp only [evv, cM_e, mkM, e1, e2, show ¬ (((k + m.to.length : Nat) : Int) < 0) from by omega, show ¬ (((k + m.to.length + m.lines.length : Nat) : Int) < 0) from by omega]
end Go.Proofs.YtjpkhkndkockiaaGreatDoor.Q

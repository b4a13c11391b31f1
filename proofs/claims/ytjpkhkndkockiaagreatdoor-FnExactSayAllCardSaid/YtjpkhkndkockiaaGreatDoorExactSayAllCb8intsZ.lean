/- Contracts: numbers in memory, and the law of mails that come. -/
import Derived.Test.YtjpkhkndkockiaaGreatDoorExactSayAllCb6boxmarksZ
import Derived.Test.YtjpkhkndkockiaaGreatDoorFnExactSayAllK4
namespace Go.Proofs.YtjpkhkndkockiaaGreatDoor.Q
open Go Go.AM
set_option linter.unusedSimpArgs false
set_option linter.unusedVariables false
set_option linter.unusedSectionVars false
def IR (_ : VH) (ks : List Nat) (x : List V) (n : Int) : Prop := ks = [] /\ x = [.int .i64 n]
theorem IR.Mon : Mon IR 1 := ⟨fun h _ => h, fun h => by obtain ⟨_, rfl⟩ := h; rfl⟩
abbrev InR := ObR IR 1
theorem IR.cells {H : VH} : ∀ {l : List Int} {ks : List Nat} {r : List (List V)}, RwR IR H ks r l -> ks = [] /\ r = vI .i64 l
 | [], _, _, h => by obtain ⟨rfl, rfl⟩ := h; exact ⟨rfl, rfl⟩
 | n :: l, ks, r, h => by
   obtain ⟨x, r', k1, k2, rfl, rfl, ⟨rfl, rfl⟩, h2⟩ := h
   obtain ⟨rfl, rfl⟩ := IR.cells h2
   exact ⟨rfl, rfl⟩
theorem IR.of (H : VH) : ∀ l : List Int, RwR IR H [] (vI .i64 l) l
 | [] => ⟨rfl, rfl⟩
 | n :: l => ⟨_, _, [], [], rfl, rfl, ⟨rfl, rfl⟩, IR.of H l⟩
theorem InR.frD {H : VH} {ks : List Nat} {v : V} {l : List Int} (d : Nat) (h : InR H ks v l) : Go.AM.frD (d + 1) H v = .sl false (vI .i64 l) :=
 ObR.frD IR.Mon (f := fun n => [V.int .i64 n]) (fun h => by obtain ⟨_, rfl⟩ := h; simp only [List.map_cons, List.map_nil, frD_data d H (.int .i64 _) rfl, Go.AM.strip]) h
theorem prom_vI (d : Nat) (l : List Int) (H : VH) : ∃ ks v G, prom (d + 1) H (.sl true (vI .i64 l)) = (v, H ++ G) /\ InR (H ++ G) ks v l /\ ks.Nodup /\ ∀ j ∈ ks, H.length <= j /\ j < (H ++ G).length :=
 prom_ob IR.Mon (g := fun n => [V.int .i64 n]) (fun _ => rfl) (fun n H => ⟨[], [.int .i64 n], [], by simp [promL, prom], ⟨rfl, rfl⟩, List.nodup_nil, by simp⟩) l H
noncomputable def mkI (k n : Nat) : List Int := (List.range n).map fun i => ((k + i : Nat) : Int)
theorem mkI_len (k n : Nat) : (mkI k n).length = n := by simp [mkI]
theorem mkI_succ (k n : Nat) : mkI k (n + 1) = mkI k n ++ [((k + n : Nat) : Int)] := by simp [mkI, List.range_succ]
theorem mkI_get (k n i : Nat) (h : i < (mkI k n).length) : (mkI k n)[i] = ((k + i : Nat) : Int) := by simp [mkI]
theorem vI_map : ∀ l : List Int, (vI .i64 l).flatten = l.map (V.int .i64)
 | [] => rfl
 | s :: l => by
   show [V.int .i64 s] ++ (vI .i64 l).flatten = _
   rw [vI_map l]; rfl
theorem markIntS_g {H : VH} {ks : List Nat} {v : V} {l : List Int} (h : InR H ks v l) (k : Nat) (hk : k + l.length <= 9000000000000000000) :
 Gets2 (cv id_laws_markIntS [v, .int .i64 (k : Nat)] H) (fun r G => r = .int .i64 ((k + l.length : Nat) : Int) /\ InR G ks v (mkI k l.length) /\ (∀ j, j ∉ ks -> G[j]? = H[j]?) /\ G.length = H.length) := by
 have hlen := h.strip.len
 have h' : (ks = [] /\ l = [] /\ (v = .sl true [] ∨ v = .sl false [] ∨ ∃ k, v = .obs k 0 0 1)) ∨ ∃ q, ks = [q] /\ l ≠ [] /\ v = .obs q 0 l.length 1 /\ H[q]? = some (l.map (V.int .i64)) := by
  rcases h with h | ⟨q, r, ks', rfl, h1, h2, h3, h4⟩
  ·exact .inl h
  ·obtain ⟨rfl, rfl⟩ := IR.cells h4
   exact .inr ⟨q, rfl, h1, h2, by rw [h3, vI_map]⟩
 refine Gets2.of ?_
 rw [laws_markIntS_eq]
 refine Gets.loop2 (I := fun n st G => ∃ i : Nat, n = l.length - i /\ i <= l.length /\ st = [v, .int .i64 ((k + i : Nat) : Int), .int .i64 (i : Nat)] /\ G.length = H.length /\ (∀ j, j ∉ ks -> G[j]? = H[j]?) /\ (∀ q, ks = [q] -> G[q]? = some ((mkI k i).map (V.int .i64) ++ (l.drop i).map (V.int .i64))))
  (P := fun q vs G => q = 0 /\ vs = [.int .i64 ((k + l.length : Nat) : Int)] /\ G.length = H.length /\ (∀ j, j ∉ ks -> G[j]? = H[j]?) /\ (∀ q, ks = [q] -> G[q]? = some ((mkI k l.length).map (V.int .i64)))) (n := l.length) ?_
  ⟨0, by omega, by omega, rfl, rfl, fun _ _ => rfl, fun q hq => by
   rcases h' with ⟨rfl, _⟩ | ⟨k', rfl, _, _, h3⟩
   ·cases hq
   ·cases hq; rw [h3]; simp [mkI]⟩ ?_
 ·rintro n st G ⟨i, rfl, hi, rfl, g1, g2, g3⟩
  rw [laws_markIntS_l2_eq]
  by_cases hlt : i < l.length
  ·obtain ⟨q, rfl, hne, rfl, hq⟩ : ∃ q, ks = [q] /\ l ≠ [] /\ v = .obs q 0 l.length 1 /\ H[q]? = some (l.map (V.int .i64)) := by
    rcases h' with ⟨_, rfl, _⟩ | h
    ·simp at hlt
    ·exact h
   have hG := g3 q rfl
   have i1 : vIdxV 1 (.obs q 0 l.length 1) (.int .i64 (i : Nat)) = some (.ptr q i) := by have := vi_obs (k := q) (e := 1) (kk := .i64) hlt; rwa [Nat.mul_one] at this
   rw [List.drop_eq_getElem_cons hlt, List.map_cons] at hG
   have st : stO (.ptr q i) [.int .i64 ((k + i : Nat) : Int)] G = some (G.set q ((mkI k (i + 1)).map (V.int .i64) ++ (l.drop (i + 1)).map (V.int .i64))) := by
    rw [sp_cell hG (by simp [mkI_len]), set_mid (by simp [mkI_len]), mkI_succ]
    simp
   have e1 : vBinV (.int .i64) .add (.int .i64 ((k + i : Nat) : Int)) (.int .i64 1) = some (.int .i64 ((k + i + 1 : Nat) : Int)) := n_addN _ (k + i) 1 (by omega)
   have e2 : vBinV (.int .i64) .add (.int .i64 (i : Int)) (.int .i64 1) = some (.int .i64 ((i + 1 : Nat) : Int)) := n_addN _ i 1 (by omega)
   generalize hki : k + i = j at *
   simp only [evv, i1, st, e1, e2, show ((i : Int) < (l.length : Int)) from by omega]
   refine ⟨_, rfl, .inr ⟨rfl, l.length - (i + 1), by omega, i + 1, rfl, by omega, by rw [<- hki]; rfl, by simpa using g1, fun j hj => ?_, fun q' hq' => ?_⟩⟩
   ·simp only
    rw [List.getElem?_set_ne (fun e => hj (by simp [e]))]; exact g2 j hj
   ·cases hq'
    simp only
    have hql : q < G.length := by
     have := List.getElem?_eq_some_iff.1 hG
     exact this.1
    rw [List.getElem?_set_self hql]
  ·have : i = l.length := by omega
   subst this
   simp only [evv, hlen, show ¬ ((l.length : Int) < (l.length : Int)) from by omega]
   exact ⟨_, rfl, .inl ⟨0, rfl, rfl, rfl, g1, g2, fun q hq => by rw [g3 q hq]; simp⟩⟩
 ·rintro _ _ G ⟨rfl, rfl, g1, g2, g3⟩
  simp only [evv]
  refine Gets.here ⟨rfl, ?_, g2, g1⟩
  rcases h' with ⟨rfl, rfl, h3⟩ | ⟨q, rfl, hne, rfl, hq⟩
  ·exact .inl ⟨rfl, rfl, h3⟩
  ·exact .inr ⟨q, vI .i64 (mkI k l.length), [], rfl, fun e => hne (List.length_eq_zero_iff.1 (by rw [<- mkI_len k l.length, e]; rfl)), by rw [mkI_len], by rw [g3 q rfl, vI_map], IR.of G _⟩
theorem heldIntS_c (k n : Nat) (hk : k + n <= 9000000000000000000) : qc id_laws_heldIntS [.sl false (vI .i64 (mkI k n)), .int .i64 (k : Nat)] = some (.int .i64 ((k + n : Nat) : Int)) := by
 suffices hg : Gets (cv id_laws_heldIntS [.sl false (vI .i64 (mkI k n)), .int .i64 (k : Nat)] []) fun r => r.1 = .int .i64 ((k + n : Nat) : Int) by
  obtain ⟨⟨v, H⟩, e, h⟩ := hg
  cases h
  exact qc_of e (by simp only [evv]) rfl
 have hl := mkI_len k n
 rw [laws_heldIntS_eq]
 refine Gets.loop2 (I := fun m st G => ∃ i : Nat, m = n - i /\ i <= n /\ st = [.sl false (vI .i64 (mkI k n)), .int .i64 ((k + i : Nat) : Int), .int .i64 (i : Nat)])
  (P := fun q vs G => q = 0 /\ vs = [.int .i64 ((k + n : Nat) : Int)]) (n := n) ?_ ⟨0, by omega, by omega, rfl⟩ ?_
 ·rintro m st G ⟨i, rfl, hi, rfl⟩
  rw [laws_heldIntS_l2_eq]
  by_cases hlt : i < n
  ·have i1 := vI_idx false .i64 (mkI k n) .i64 i (by omega)
   rw [mkI_get] at i1
   have e1 : vBinV (.int .i64) .add (.int .i64 ((k + i : Nat) : Int)) (.int .i64 1) = some (.int .i64 ((k + i + 1 : Nat) : Int)) := n_addN _ (k + i) 1 (by omega)
   have e2 : vBinV (.int .i64) .add (.int .i64 (i : Int)) (.int .i64 1) = some (.int .i64 ((i + 1 : Nat) : Int)) := n_addN _ i 1 (by omega)
   generalize hki : k + i = j at *
   simp only [evv, vI_len, hl, i1, e1, e2, show ((i : Int) < (n : Int)) from by omega]
   exact ⟨_, rfl, .inr ⟨rfl, n - (i + 1), by omega, i + 1, rfl, by omega, by rw [<- hki]; rfl⟩⟩
  ·have : i = n := by omega
   subst this
   simp only [evv, vI_len, hl, show ¬ ((i : Int) < (i : Int)) from by omega]
   exact ⟨_, rfl, .inl ⟨0, rfl, rfl, rfl⟩⟩
 ·rintro _ _ G ⟨rfl, rfl⟩
  simp only [evv]
  exact Gets.here rfl
theorem heldIntS_o {H : VH} {ks : List Nat} {v : V} {k n : Nat} (h : InR H ks v (mkI k n)) (hk : k + n <= 9000000000000000000) : qco id_laws_heldIntS H [v, .int .i64 (k : Nat)] = some (.int .i64 ((k + n : Nat) : Int)) := by
 rw [qco_fr (fun hn => by
  simp only [noObsL, Bool.and_eq_true] at hn
  simp only [dataL, h.nd hn.1, data, Bool.and_self])]
 simp only [List.map_cons, List.map_nil, InR.frD 2 h, frD_data 3 H (.int .i64 (k : Nat)) rfl, strip]
 exact heldIntS_c k n hk
theorem eqIntS_c (a b : List Int) (h : a.length <= 1049600) : qc id_laws_eqIntS [.sl false (vI .i64 a), .sl false (vI .i64 b)] = some (.bool (decide (a = b))) := by
 refine qc_of (H := []) ?_ (by simp only [evv]) rfl
 show cv _ _ _ = _
 rw [laws_eqIntS_eq]
 by_cases hl : a.length = b.length
 ·have loop := lv_eq (B := laws_eqIntS_l4) (S := fun i => [.sl false (vI .i64 a), .sl false (vI .i64 b), .int .i64 (i : Nat)]) (H := []) (m0 := 0) (m1 := 1) (vs0 := []) (vs1 := [.bool false]) a b hl
   (fun i hi => by
    have i1 := vI_idx false .i64 a .i64 i hi
    have i2 := vI_idx false .i64 b .i64 i (by omega)
    have e2 : vBinV (.int .i64) .add (.int .i64 (i : Int)) (.int .i64 1) = some (.int .i64 ((i + 1 : Nat) : Int)) := n_addN _ i 1 (by omega)
    rw [laws_eqIntS_l4_eq]
    simp only [evv, vI_len, i1, i2, e2, show ((i : Int) < (a.length : Int)) from by omega]
    by_cases e : a[i] = b[i] <;> simp only [evv, e])
   (by
    rw [laws_eqIntS_l4_eq]
    simp only [evv, vI_len, show ¬ ((a.length : Int) < (a.length : Int)) from by omega])
  have loop' : lpW' laws_eqIntS_l4 [.sl false (vI .i64 a), .sl false (vI .i64 b), .int .i64 0] [] = _ := loop
  simp only [evv, vI_len, hl, loop']
  by_cases e : a = b <;> simp only [evv, e]
 ·have : a ≠ b := fun e => hl (by rw [e])
  simp only [evv, vI_len, show ¬ ((a.length : Int) = (b.length : Int)) from by omega, this]
theorem vI_dat (l : List Int) : data (.sl false (vI .i64 l)) = true := by simp only [data, vI_data]
theorem vI_strip' : ∀ l : List Int, stripLL (vI .i64 l) = vI .i64 l
 | [] => rfl
 | n :: l => by
   show stripL [V.int .i64 n] :: stripLL (vI .i64 l) = _
   rw [vI_strip' l]; rfl
theorem eqIntS_o {H : VH} {ks : List Nat} {v : V} {l : List Int} (n : List Int) (h : InR H ks v l) (hl : l.length <= 1049600) : qco id_laws_eqIntS H [v, .sl false (vI .i64 n)] = some (.bool (decide (l = n))) := by
 rw [qco_fr (fun hn => by
  simp only [noObsL, Bool.and_eq_true] at hn
  simp only [dataL, h.nd hn.1, vI_dat, Bool.and_self])]
 simp only [List.map_cons, List.map_nil, InR.frD 2 h, frD_data 3 H _ (vI_dat n), strip, vI_strip']
 exact eqIntS_c l n hl
end Go.Proofs.YtjpkhkndkockiaaGreatDoor.Q

/- Contracts: marks that are held, on lists of mails and of mailboxes. -/
import Derived.Test.YtikpckcdpmjpgabGreatDoorExactTakeMailCb5rowmarksZ
import Derived.Test.YtikpckcdpmjpgabGreatDoorFnExactTakeMailK4
namespace Go.Proofs.YtikpckcdpmjpgabGreatDoor.Q
open Go Go.AM
set_option linter.unusedSimpArgs false
set_option linter.unusedVariables false
set_option linter.unusedSectionVars false
theorem mkMs_mid (k : Nat) (l1 l2 : List Mail) (m : Mail) : (mkMs k (l1 ++ m :: l2))[l1.length]? = some (mk1 (k + szMk l1) m) := by
 rw [mkMs_app, List.getElem?_append_right (by rw [mkMs_len]; exact Nat.le_refl _), mkMs_len, Nat.sub_self]
 rfl
theorem heldMailS_c (k : Nat) (l : List Mail) (hk : k + szMk l <= 9000000000000000000) : qc id_laws_heldMailS [.sl false (vR eM (mkMs k l)), .int .i64 (k : Nat)] = some (.int .i64 ((k + szMk l : Nat) : Int)) := by
 suffices hg : Gets (cv id_laws_heldMailS [.sl false (vR eM (mkMs k l)), .int .i64 (k : Nat)] []) fun r => r.1 = .int .i64 ((k + szMk l : Nat) : Int) by
  obtain ⟨⟨v, H⟩, e, h⟩ := hg
  cases h
  exact qc_of e (by simp only [evv]) rfl
 have hl := mkMs_len k l
 rw [laws_heldMailS_eq]
 refine Gets.loop2 (I := fun n st G => ∃ l1 l2 : List Mail, n = l2.length /\ l = l1 ++ l2 /\ st = [.sl false (vR eM (mkMs k l)), .int .i64 ((k + szMk l1 : Nat) : Int), .int .i64 (l1.length : Nat)])
  (P := fun q vs G => q = 0 /\ vs = [.int .i64 ((k + szMk l : Nat) : Int)]) (n := l.length) ?_ ⟨[], l, rfl, rfl, rfl⟩ ?_
 ·rintro n st G ⟨l1, l2, rfl, rfl, rfl⟩
  rw [laws_heldMailS_l2_eq]
  cases l2 with
  | nil =>
    simp only [List.append_nil] at hl ⊢
    simp only [evv, vR_len, hl, show ¬ ((l1.length : Int) < (l1.length : Int)) from by omega]
    exact ⟨_, rfl, .inl ⟨0, rfl, rfl, rfl⟩⟩
  | cons m l2 =>
    have hlt : l1.length < (mkMs k (l1 ++ m :: l2)).length := by rw [hl]; simp
    have i1 := vM_idx false (mkMs k (l1 ++ m :: l2)) .i64 l1.length hlt
    have hg := mkMs_mid k l1 l2 m
    rw [List.getElem?_eq_getElem hlt] at hg
    rw [Option.some.inj hg] at i1
    have hem : ∀ x, eM.e x = cM x := fun _ => rfl
    rw [hem, cM_e] at i1
    have hsz : szMk (l1 ++ m :: l2) = szMk l1 + (1 + m.to.length + m.lines.length) + szMk l2 := by rw [szMk_app]; simp only [szMk, sz1]; omega
    have hge := szMk_ge l1
    have m1 := markText_c (k + szMk l1) (by omega)
    have e1 : vBinV (.int .i64) .add (.int .i64 ((k + szMk l1 : Nat) : Int)) (.int .i64 1) = some (.int .i64 ((k + szMk l1 + 1 : Nat) : Int)) := n_addN _ _ 1 (by omega)
    have e2 : vBinV (.int .i64) .add (.int .i64 (l1.length : Nat)) (.int .i64 1) = some (.int .i64 ((l1.length + 1 : Nat) : Int)) := n_addN _ _ 1 (by omega)
    have h1 := heldStringS_c (k + szMk l1 + 1) m.to.length (by omega)
    have h2 := heldStringS_c (k + szMk l1 + 1 + m.to.length) m.lines.length (by omega)
    have hnew : k + szMk l1 + 1 + m.to.length + m.lines.length = k + szMk (l1 ++ [m]) := by rw [szMk_app]; simp only [szMk, sz1]; omega
    have hl' : ((mkMs k (l1 ++ m :: l2)).length : Int) = ((l1.length + 1 + l2.length : Nat) : Int) := by rw [hl]; simp; omega
    simp only [mk1] at i1
    generalize hnum : k + szMk l1 = num at *
    generalize mkMs k (l1 ++ m :: l2) = Z at *
    simp only [evv, vR_len, hl', i1, m1, e1, e2, h1, h2, vT_strip, show ((l1.length : Int) < ((l1.length + 1 + l2.length : Nat) : Int)) from by omega, show ¬ (((num + 1 + m.to.length : Nat) : Int) < 0) from by omega, show ¬ (((num + 1 + m.to.length + m.lines.length : Nat) : Int) < 0) from by omega]
    exact ⟨_, rfl, .inr ⟨rfl, l2.length, by simp, l1 ++ [m], l2, rfl, by simp, by rw [<- hnew]; simp⟩⟩
 ·rintro _ _ G ⟨rfl, rfl⟩
  simp only [evv]
  exact Gets.here rfl
noncomputable def mkB1 (k : Nat) (b : Box) : Box := ⟨mkN k, mkMs (k + 1) b.mails⟩
def szBk : List Box -> Nat
 | [] => 0
 | b :: l => (1 + szMk b.mails) + szBk l
noncomputable def mkBs : Nat -> List Box -> List Box
 | _, [] => []
 | k, b :: l => mkB1 k b :: mkBs (k + (1 + szMk b.mails)) l
theorem szBk_app : ∀ a b : List Box, szBk (a ++ b) = szBk a + szBk b
 | [], b => by simp [szBk]
 | m :: a, b => by simp only [List.cons_append, szBk, szBk_app a b]; omega
theorem szBk_ge : ∀ l : List Box, l.length <= szBk l
 | [] => by simp
 | m :: l => by
   have := szBk_ge l
   simp only [List.length_cons, szBk]; omega
theorem mkBs_app : ∀ (k : Nat) (a b : List Box), mkBs k (a ++ b) = mkBs k a ++ mkBs (k + szBk a) b
 | k, [], b => by simp [mkBs, szBk]
 | k, m :: a, b => by simp only [List.cons_append, mkBs, szBk, mkBs_app (k + (1 + szMk m.mails)) a b, Nat.add_assoc]
theorem mkBs_len : ∀ (k : Nat) (l : List Box), (mkBs k l).length = l.length
 | _, [] => rfl
 | k, m :: l => by simp only [mkBs, List.length_cons, mkBs_len (k + (1 + szMk m.mails)) l]
theorem MsR.unstrip {H : VH} {ks : List Nat} {v : V} {l : List Mail} (h : MsR H ks (Go.AM.strip v) l) : MsR H ks v l := by
 have key : (Go.AM.strip v = .sl true [] ∨ Go.AM.strip v = .sl false [] -> v = .sl true [] ∨ v = .sl false []) /\ ∀ k n e, Go.AM.strip v = .obs k 0 n e -> v = .obs k 0 n e := by
  cases v with
  | sl o xs =>
    refine ⟨fun h => ?_, fun k n e h => by simp [Go.AM.strip] at h⟩
    have hx : xs = [] := by
     rcases h with h | h
     ·simp [Go.AM.strip] at h
     ·simp only [Go.AM.strip, V.sl.injEq, true_and] at h
      exact stripLL_nil.1 h
    subst hx
    cases o <;> simp
  | _ => simp [Go.AM.strip]
 rcases h with ⟨h1, h2, h3⟩ | ⟨k, r, ks', h1, h2, h3, h4⟩
 ·refine .inl ⟨h1, h2, ?_⟩
  rcases h3 with h | h | ⟨k, h⟩
  ·rcases key.1 (.inl h) with h | h
   ·exact .inl h
   ·exact .inr (.inl h)
  ·rcases key.1 (.inr h) with h | h
   ·exact .inl h
   ·exact .inr (.inl h)
  ·exact .inr (.inr ⟨k, key.2 k 0 3 h⟩)
 ·exact .inr ⟨k, r, ks', h1, h2, key.2 k _ 3 h3, h4⟩
theorem markBoxS_g {H : VH} {ks : List Nat} {v : V} {l : List Box} (h : BsR H ks v l) (hn : ks.Nodup) (k : Nat) (hk : k + szBk l <= 9000000000000000000) :
 Gets2 (cv id_laws_markBoxS [v, .int .i64 (k : Nat)] H) (fun r G => r = .int .i64 ((k + szBk l : Nat) : Int) /\ BsR G ks v (mkBs k l) /\ (∀ j, j ∉ ks -> G[j]? = H[j]?) /\ G.length = H.length) := by
 refine Gets2.of ?_
 rw [laws_markBoxS_eq]
 rcases h with ⟨rfl, rfl, h3⟩ | ⟨K, r, ks', rfl, hne, rfl, hK, hr⟩
 ·have hlen : vLenVV (strip v) = some (.int .i64 0) := by rcases h3 with rfl | rfl | ⟨q, rfl⟩ <;> rfl
  refine Gets.loop2 (I := fun n st G => st = [v, .int .i64 (k : Nat), .int .i64 0] /\ G = H) (P := fun q vs G => q = 0 /\ vs = [.int .i64 (k : Nat)] /\ G = H) (n := 0) ?_ ⟨rfl, rfl⟩ ?_
  ·rintro n st G ⟨rfl, rfl⟩
   rw [laws_markBoxS_l2_eq]
   simp only [evv, hlen, show ¬ ((0 : Int) < 0) from by omega]
   exact ⟨_, rfl, .inl ⟨0, rfl, rfl, rfl, rfl⟩⟩
  ·rintro _ _ G ⟨rfl, rfl, rfl⟩
   simp only [evv]
   exact Gets.here ⟨rfl, .inl ⟨rfl, rfl, h3⟩, fun _ _ => rfl, rfl⟩
 ·refine Gets.loop2 (I := fun n st G => ∃ (l1 l2 : List Box) (r1 r2 : List (List V)) (k1 k2 : List Nat), n = l2.length /\ l = l1 ++ l2 /\ ks' = k1 ++ k2 /\ st = [.obs K 0 l.length 2, .int .i64 ((k + szBk l1 : Nat) : Int), .int .i64 (l1.length : Nat)] /\ G.length = H.length /\ (∀ j, j ∉ K :: ks' -> G[j]? = H[j]?) /\ G[K]? = some (r1 ++ r2).flatten /\ RwR BoR G k1 r1 (mkBs k l1) /\ RwR BoR G k2 r2 l2)
   (P := fun q vs G => q = 0 /\ vs = [.int .i64 ((k + szBk l : Nat) : Int)] /\ G.length = H.length /\ (∀ j, j ∉ K :: ks' -> G[j]? = H[j]?) /\ BsR G (K :: ks') (.obs K 0 l.length 2) (mkBs k l)) (n := l.length) ?_
   ⟨[], l, [], r, [], ks', rfl, rfl, rfl, rfl, rfl, fun _ _ => rfl, hK, ⟨rfl, rfl⟩, hr⟩ ?_
  ·rintro n st G ⟨l1, l2, r1, r2, k1, k2, rfl, rfl, rfl, rfl, hgl, hoff, hGK, hr1, hr2⟩
   rw [laws_markBoxS_l2_eq]
   have hq1 := hr1.rows BoR.Mon
   rw [mkBs_len] at hq1
   cases l2 with
   | nil =>
     obtain ⟨rfl, rfl⟩ := hr2
     simp only [List.append_nil] at hGK hne ⊢
     simp only [evv, show ¬ ((l1.length : Int) < (l1.length : Int)) from by omega]
     refine ⟨_, rfl, .inl ⟨0, rfl, rfl, rfl, hgl, by simpa using hoff, .inr ⟨K, r1, k1, rfl, fun e => hne (List.length_eq_zero_iff.1 (by rw [<- mkBs_len k l1, e]; rfl)), by rw [mkBs_len], hGK, hr1⟩⟩⟩
   | cons m l2 =>
     obtain ⟨x, r2', ka, kb, rfl, rfl, hx, hr2⟩ := hr2
     obtain ⟨v1, rfl, t1⟩ := hx
     have hrows : ∀ s, Go.AM.Rows 2 (r1 ++ [V.str s, v1] :: r2') := fun s y hy => by
      rcases List.mem_append.1 hy with hy | hy
      ·exact hq1.1 y hy
      ·rcases List.mem_cons.1 hy with rfl | hy
       ·rfl
       ·exact (hr2.rows BoR.Mon).1 y hy
     simp only [List.nodup_cons, List.nodup_append, List.mem_append, not_or] at hn
     obtain ⟨⟨hK1, hKa, hKb⟩, hnk1, ⟨hna, hnkb, hdab⟩, hd1⟩ := hn
     have hsz : szBk (l1 ++ m :: l2) = szBk l1 + (1 + szMk m.mails) + szBk l2 := by rw [szBk_app]; simp only [szBk]; omega
     have hlt : l1.length < (l1 ++ m :: l2).length := by simp
     generalize hL : (l1 ++ m :: l2).length = L at *
     have i1 : vIdxV 2 (.obs K 0 L 2) (.int .i64 (l1.length : Nat)) = some (.ptr K (l1.length * 2)) := vi_obs hlt
     have o : ∀ j, vOffV (.ptr K (l1.length * 2)) j = some (.ptr K (l1.length * 2 + j)) := fun _ => rfl
     have m1 := markText_c (k + szBk l1) (by omega)
     have s1 := mid_set (v := .str (mkN (k + szBk l1))) (hrows m.path) hq1.2 (show 0 < 2 by omega) hGK
     have hset : ([V.str m.path, v1]).set 0 (.str (mkN (k + szBk l1))) = [.str (mkN (k + szBk l1)), v1] := rfl
     rw [hset] at s1
     have hKlt : K < G.length := (List.getElem?_eq_some_iff.1 hGK).1
     have hge0 := szBk_ge l1
     have e1 : vBinV (.int .i64) .add (.int .i64 ((k + szBk l1 : Nat) : Int)) (.int .i64 1) = some (.int .i64 ((k + szBk l1 + 1 : Nat) : Int)) := n_addN _ _ 1 (by omega)
     have e2 : vBinV (.int .i64) .add (.int .i64 (l1.length : Nat)) (.int .i64 1) = some (.int .i64 ((l1.length + 1 : Nat) : Int)) := n_addN _ _ 1 (by omega)
     generalize hnum : k + szBk l1 = num at *
     generalize hG1 : G.set K (r1 ++ [V.str (mkN num), v1] :: r2').flatten = G1 at *
     have g1K : G1[K]? = some (r1 ++ [V.str (mkN num), v1] :: r2').flatten := by rw [<- hG1, List.getElem?_set_self hKlt]
     have g1o : ∀ j, j ≠ K -> G1[j]? = G[j]? := fun j hj => by rw [<- hG1, List.getElem?_set_ne (fun e => hj e.symm)]
     have l1d := ld_peek (g := globB) g1K ((mid_get (hrows (mkN num)) hq1.2 (show 1 < 2 by omega)).trans rfl)
     have t1' := (t1.mono MlR.Mon (H' := G1) fun j hj => g1o j fun e => hKa (e ▸ hj)).strip
     have hge : G1.length = G.length := by rw [<- hG1]; simp
     simp only [evv, i1, o, m1, s1, e1, l1d, show ((l1.length : Int) < (L : Int)) from by omega]
     refine (markMailS_g t1' hna (num + 1) (by omega)).bind ?_
     rintro _ G3 ⟨rfl, u1, u2, u3⟩
     have g2K : G3[K]? = some (r1 ++ [V.str (mkN num), v1] :: r2').flatten := by rw [u2 K hKa, g1K]
     simp only [evv, e2]
     have hall : ∀ j, j ≠ K -> j ∉ ka -> G3[j]? = G[j]? := fun j h1 h2 => by rw [u2 j h2, g1o j h1]
     refine ⟨_, rfl, .inr ⟨rfl, l2.length, by simp, l1 ++ [m], l2, r1 ++ [[V.str (mkN num), v1]], r2', k1 ++ ka, kb, rfl, by simp, by simp, ?_, by simp only; omega, fun j hj => ?_, ?_, ?_, ?_⟩⟩
     ·simp only [szBk_app, szBk, List.length_append, List.length_singleton, <- hnum]
      congr 3
      simp only [Nat.add_zero]; omega
     ·simp only [List.mem_cons, List.mem_append, not_or] at hj
      simp only
      rw [hall j hj.1 hj.2.2.1]
      exact hoff j (by simp only [List.mem_cons, List.mem_append, not_or]; exact hj)
     ·simp only [List.append_assoc, List.singleton_append]
      exact g2K
     ·rw [mkBs_app]
      refine RwR.app (hr1.mono BoR.Mon fun j hj => hall j (fun e => hK1 (e ▸ hj)) (fun e => hd1 j hj j (.inl e) rfl)) ?_
      simp only [mkBs, hnum]
      exact RwR.one ⟨v1, rfl, u1.unstrip⟩
     ·exact hr2.mono BoR.Mon fun j hj => hall j (fun e => hKb (e ▸ hj)) (fun e => hdab j e j hj rfl)
  ·rintro _ _ G ⟨rfl, rfl, g1, g2, g3⟩
   simp only [evv]
   exact Gets.here ⟨rfl, g3, g2, g1⟩
theorem mkBs_mid (k : Nat) (l1 l2 : List Box) (m : Box) : (mkBs k (l1 ++ m :: l2))[l1.length]? = some (mkB1 (k + szBk l1) m) := by
 rw [mkBs_app, List.getElem?_append_right (by rw [mkBs_len]; exact Nat.le_refl _), mkBs_len, Nat.sub_self]
 rfl
theorem heldBoxS_c (k : Nat) (l : List Box) (hk : k + szBk l <= 9000000000000000000) : qc id_laws_heldBoxS [.sl false (vR eX (mkBs k l)), .int .i64 (k : Nat)] = some (.int .i64 ((k + szBk l : Nat) : Int)) := by
 suffices hg : Gets (cv id_laws_heldBoxS [.sl false (vR eX (mkBs k l)), .int .i64 (k : Nat)] []) fun r => r.1 = .int .i64 ((k + szBk l : Nat) : Int) by
  obtain ⟨⟨v, H⟩, e, h⟩ := hg
  cases h
  exact qc_of e (by simp only [evv]) rfl
 have hl := mkBs_len k l
 rw [laws_heldBoxS_eq]
 refine Gets.loop2 (I := fun n st G => ∃ l1 l2 : List Box, n = l2.length /\ l = l1 ++ l2 /\ st = [.sl false (vR eX (mkBs k l)), .int .i64 ((k + szBk l1 : Nat) : Int), .int .i64 (l1.length : Nat)])
  (P := fun q vs G => q = 0 /\ vs = [.int .i64 ((k + szBk l : Nat) : Int)]) (n := l.length) ?_ ⟨[], l, rfl, rfl, rfl⟩ ?_
 ·rintro n st G ⟨l1, l2, rfl, rfl, rfl⟩
  rw [laws_heldBoxS_l2_eq]
  cases l2 with
  | nil =>
    simp only [List.append_nil] at hl ⊢
    simp only [evv, vR_len, hl, show ¬ ((l1.length : Int) < (l1.length : Int)) from by omega]
    exact ⟨_, rfl, .inl ⟨0, rfl, rfl, rfl⟩⟩
  | cons m l2 =>
    have hlt : l1.length < (mkBs k (l1 ++ m :: l2)).length := by rw [hl]; simp
    have i1 := vX_idx false (mkBs k (l1 ++ m :: l2)) .i64 l1.length hlt
    have hg := mkBs_mid k l1 l2 m
    rw [List.getElem?_eq_getElem hlt] at hg
    rw [Option.some.inj hg, eX_e] at i1
    have hsz : szBk (l1 ++ m :: l2) = szBk l1 + (1 + szMk m.mails) + szBk l2 := by rw [szBk_app]; simp only [szBk]; omega
    have hge := szBk_ge l1
    have m1 := markText_c (k + szBk l1) (by omega)
    have e1 : vBinV (.int .i64) .add (.int .i64 ((k + szBk l1 : Nat) : Int)) (.int .i64 1) = some (.int .i64 ((k + szBk l1 + 1 : Nat) : Int)) := n_addN _ _ 1 (by omega)
    have e2 : vBinV (.int .i64) .add (.int .i64 (l1.length : Nat)) (.int .i64 1) = some (.int .i64 ((l1.length + 1 : Nat) : Int)) := n_addN _ _ 1 (by omega)
    have h1 := heldMailS_c (k + szBk l1 + 1) m.mails (by omega)
    have hnew : k + szBk l1 + 1 + szMk m.mails = k + szBk (l1 ++ [m]) := by rw [szBk_app]; simp only [szBk]; omega
    have hl' : ((mkBs k (l1 ++ m :: l2)).length : Int) = ((l1.length + 1 + l2.length : Nat) : Int) := by rw [hl]; simp; omega
    simp only [mkB1] at i1
    generalize hnum : k + szBk l1 = num at *
    generalize mkBs k (l1 ++ m :: l2) = Z at *
    simp only [evv, vR_len, vR_strip, hl', i1, m1, e1, e2, h1, show ((l1.length : Int) < ((l1.length + 1 + l2.length : Nat) : Int)) from by omega, show ¬ (((num + 1 + szMk m.mails : Nat) : Int) < 0) from by omega]
    exact ⟨_, rfl, .inr ⟨rfl, l2.length, by simp, l1 ++ [m], l2, rfl, by simp, by rw [<- hnew]; simp⟩⟩
 ·rintro _ _ G ⟨rfl, rfl⟩
  simp only [evv]
  exact Gets.here rfl
end Go.Proofs.YtikpckcdpmjpgabGreatDoor.Q

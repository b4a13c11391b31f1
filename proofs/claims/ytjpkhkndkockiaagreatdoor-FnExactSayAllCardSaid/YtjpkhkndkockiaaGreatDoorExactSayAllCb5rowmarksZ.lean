/- Contracts: marks on lists of mails and of mailboxes. -/
import Derived.Test.YtjpkhkndkockiaaGreatDoorExactSayAllCb4rowmarksZ
import Derived.Test.YtjpkhkndkockiaaGreatDoorFnExactSayAllK4
namespace Go.Proofs.YtjpkhkndkockiaaGreatDoor.Q
open Go Go.AM
set_option linter.unusedSimpArgs false
set_option linter.unusedVariables false
set_option linter.unusedSectionVars false
noncomputable def mk1 (k : Nat) (m : Mail) : Mail := ⟨mkN k, mkT (k + 1) m.to.length, mkT (k + 1 + m.to.length) m.lines.length⟩
def sz1 (m : Mail) : Nat := 1 + m.to.length + m.lines.length
def szMk : List Mail -> Nat
 | [] => 0
 | m :: l => sz1 m + szMk l
noncomputable def mkMs : Nat -> List Mail -> List Mail
 | _, [] => []
 | k, m :: l => mk1 k m :: mkMs (k + sz1 m) l
theorem szMk_app : ∀ a b : List Mail, szMk (a ++ b) = szMk a + szMk b
 | [], b => by simp [szMk]
 | m :: a, b => by simp only [List.cons_append, szMk, szMk_app a b]; omega
theorem szMk_ge : ∀ l : List Mail, l.length <= szMk l
 | [] => by simp
 | m :: l => by
   have := szMk_ge l
   simp only [List.length_cons, szMk, sz1]; omega
theorem mkMs_app : ∀ (k : Nat) (a b : List Mail), mkMs k (a ++ b) = mkMs k a ++ mkMs (k + szMk a) b
 | k, [], b => by simp [mkMs, szMk]
 | k, m :: a, b => by simp only [List.cons_append, mkMs, szMk, mkMs_app (k + sz1 m) a b, Nat.add_assoc]
theorem mkMs_len : ∀ (k : Nat) (l : List Mail), (mkMs k l).length = l.length
 | _, [] => rfl
 | k, m :: l => by simp only [mkMs, List.length_cons, mkMs_len (k + sz1 m) l]
theorem TxR.unstrip {H : VH} {ks : List Nat} {v : V} {l : List Bs} (h : TxR H ks (Go.AM.strip v) l) : TxR H ks v l := by
 have key : (Go.AM.strip v = .sl true [] ∨ Go.AM.strip v = .sl false [] -> v = .sl true [] ∨ v = .sl false []) /\ ∀ k n, Go.AM.strip v = .obs k 0 n 1 -> v = .obs k 0 n 1 := by
  cases v with
  | sl o xs =>
    refine ⟨fun h => ?_, fun k n h => by simp [Go.AM.strip] at h⟩
    have hx : xs = [] := by
     rcases h with h | h
     ·simp [Go.AM.strip] at h
     ·simp only [Go.AM.strip, V.sl.injEq, true_and] at h
      exact stripLL_nil.1 h
    subst hx
    cases o <;> simp
  | _ => simp [Go.AM.strip]
 rcases h with ⟨h1, h2, h3⟩ | ⟨k, h1, h2, h3, h4⟩
 ·refine .inl ⟨h1, h2, ?_⟩
  rcases h3 with h | h | ⟨k, h⟩
  ·rcases key.1 (.inl h) with h | h
   ·exact .inl h
   ·exact .inr (.inl h)
  ·rcases key.1 (.inr h) with h | h
   ·exact .inl h
   ·exact .inr (.inl h)
  ·exact .inr (.inr ⟨k, key.2 k 0 h⟩)
 ·exact .inr ⟨k, h1, h2, key.2 k _ h3, h4⟩
theorem mid_get {e j : Nat} {r1 r2 : List (List V)} {x : List V} {i : Nat} (hr : Go.AM.Rows e (r1 ++ x :: r2)) (hi : r1.length = i) (hj : j < e) : (r1 ++ x :: r2).flatten[i * e + j]? = x[j]? := by
 subst hi
 exact hr.get hj (by simp)
theorem mid_set {e j : Nat} {r1 r2 : List (List V)} {x : List V} {i K : Nat} {G : VH} {v : V} (hr : Go.AM.Rows e (r1 ++ x :: r2)) (hi : r1.length = i) (hj : j < e) (hG : G[K]? = some (r1 ++ x :: r2).flatten) : stO (.ptr K (i * e + j)) [v] G = some (G.set K (r1 ++ x.set j v :: r2).flatten) := by
 subst hi
 have hlen : r1.length * e + j < (r1 ++ x :: r2).flatten.length := by
  rw [hr.flat]
  simp only [List.length_append, List.length_cons]
  have : r1.length * e + j < (r1.length + 1) * e := by rw [Nat.add_mul]; omega
  refine Nat.lt_of_lt_of_le this (Nat.mul_le_mul_right _ (by omega))
 rw [sp_cell hG hlen, <- gseg_set hlen, Go.AM.Rows.set hj hr (i := r1.length) (x := x) (by simp)]
 congr 3
 rw [List.set_append_right _ _ (Nat.le_refl _), Nat.sub_self, List.set_cons_zero]
theorem markMailS_g {H : VH} {ks : List Nat} {v : V} {l : List Mail} (h : MsR H ks v l) (hn : ks.Nodup) (k : Nat) (hk : k + szMk l <= 9000000000000000000) :
 Gets2 (cv id_laws_markMailS [v, .int .i64 (k : Nat)] H) (fun r G => r = .int .i64 ((k + szMk l : Nat) : Int) /\ MsR G ks v (mkMs k l) /\ (∀ j, j ∉ ks -> G[j]? = H[j]?) /\ G.length = H.length) := by
 refine Gets2.of ?_
 rw [laws_markMailS_eq]
 rcases h with ⟨rfl, rfl, h3⟩ | ⟨K, r, ks', rfl, hne, rfl, hK, hr⟩
 ·have hlen : vLenVV (strip v) = some (.int .i64 0) := by rcases h3 with rfl | rfl | ⟨q, rfl⟩ <;> rfl
  refine Gets.loop2 (I := fun n st G => st = [v, .int .i64 (k : Nat), .int .i64 0] /\ G = H) (P := fun q vs G => q = 0 /\ vs = [.int .i64 (k : Nat)] /\ G = H) (n := 0) ?_ ⟨rfl, rfl⟩ ?_
  ·rintro n st G ⟨rfl, rfl⟩
   rw [laws_markMailS_l2_eq]
   simp only [evv, hlen, show ¬ ((0 : Int) < 0) from by omega]
   exact ⟨_, rfl, .inl ⟨0, rfl, rfl, rfl, rfl⟩⟩
  ·rintro _ _ G ⟨rfl, rfl, rfl⟩
   simp only [evv]
   exact Gets.here ⟨rfl, .inl ⟨rfl, rfl, h3⟩, fun _ _ => rfl, rfl⟩
 ·refine Gets.loop2 (I := fun n st G => ∃ (l1 l2 : List Mail) (r1 r2 : List (List V)) (k1 k2 : List Nat), n = l2.length /\ l = l1 ++ l2 /\ ks' = k1 ++ k2 /\ st = [.obs K 0 l.length 3, .int .i64 ((k + szMk l1 : Nat) : Int), .int .i64 (l1.length : Nat)] /\ G.length = H.length /\ (∀ j, j ∉ K :: ks' -> G[j]? = H[j]?) /\ G[K]? = some (r1 ++ r2).flatten /\ RwR MlR G k1 r1 (mkMs k l1) /\ RwR MlR G k2 r2 l2)
   (P := fun q vs G => q = 0 /\ vs = [.int .i64 ((k + szMk l : Nat) : Int)] /\ G.length = H.length /\ (∀ j, j ∉ K :: ks' -> G[j]? = H[j]?) /\ MsR G (K :: ks') (.obs K 0 l.length 3) (mkMs k l)) (n := l.length) ?_
   ⟨[], l, [], r, [], ks', rfl, rfl, rfl, rfl, rfl, fun _ _ => rfl, hK, ⟨rfl, rfl⟩, hr⟩ ?_
  ·rintro n st G ⟨l1, l2, r1, r2, k1, k2, rfl, rfl, rfl, rfl, hgl, hoff, hGK, hr1, hr2⟩
   rw [laws_markMailS_l2_eq]
   have hq1 := hr1.rows MlR.Mon
   rw [mkMs_len] at hq1
   cases l2 with
   | nil =>
     obtain ⟨rfl, rfl⟩ := hr2
     simp only [List.append_nil] at hGK hne ⊢
     simp only [evv, show ¬ ((l1.length : Int) < (l1.length : Int)) from by omega]
     refine ⟨_, rfl, .inl ⟨0, rfl, rfl, rfl, hgl, by simpa using hoff, .inr ⟨K, r1, k1, rfl, fun e => hne (List.length_eq_zero_iff.1 (by rw [<- mkMs_len k l1, e]; rfl)), by rw [mkMs_len], hGK, hr1⟩⟩⟩
   | cons m l2 =>
     obtain ⟨x, r2', ka, kb, rfl, rfl, hx, hr2⟩ := hr2
     obtain ⟨v1, w1, a1, a2, rfl, rfl, t1, t2⟩ := hx
     have hrows : ∀ s, Go.AM.Rows 3 (r1 ++ [V.str s, v1, w1] :: r2') := fun s y hy => by
      rcases List.mem_append.1 hy with hy | hy
      ·exact hq1.1 y hy
      ·rcases List.mem_cons.1 hy with rfl | hy
       ·rfl
       ·exact (hr2.rows MlR.Mon).1 y hy
     simp only [List.nodup_cons, List.nodup_append, List.mem_append, not_or] at hn
     obtain ⟨⟨hK1, ⟨hKa1, hKa2⟩, hKb⟩, hnk1, ⟨⟨hna1, hna2, hd12⟩, hnkb, hdab⟩, hd1⟩ := hn
     have hsz : szMk (l1 ++ m :: l2) = szMk l1 + (1 + m.to.length + m.lines.length) + szMk l2 := by rw [szMk_app]; simp only [szMk, sz1]; omega
     have hlt : l1.length < (l1 ++ m :: l2).length := by simp
     generalize hL : (l1 ++ m :: l2).length = L at *
     have i1 : vIdxV 3 (.obs K 0 L 3) (.int .i64 (l1.length : Nat)) = some (.ptr K (l1.length * 3)) := vi_obs hlt
     have o : ∀ j, vOffV (.ptr K (l1.length * 3)) j = some (.ptr K (l1.length * 3 + j)) := fun _ => rfl
     have m1 := markText_c (k + szMk l1) (by omega)
     have s1 := mid_set (v := .str (mkN (k + szMk l1))) (hrows m.from_) hq1.2 (show 0 < 3 by omega) hGK
     have hset : ([V.str m.from_, v1, w1]).set 0 (.str (mkN (k + szMk l1))) = [.str (mkN (k + szMk l1)), v1, w1] := rfl
     rw [hset] at s1
     have hKlt : K < G.length := (List.getElem?_eq_some_iff.1 hGK).1
     have e1 : vBinV (.int .i64) .add (.int .i64 ((k + szMk l1 : Nat) : Int)) (.int .i64 1) = some (.int .i64 ((k + szMk l1 + 1 : Nat) : Int)) := n_addN _ _ 1 (by omega)
     have e2 : vBinV (.int .i64) .add (.int .i64 (l1.length : Nat)) (.int .i64 1) = some (.int .i64 ((l1.length + 1 : Nat) : Int)) := n_addN _ _ 1 (by have := szMk_ge l1; omega)
     generalize hnum : k + szMk l1 = num at *
     generalize hG1 : G.set K (r1 ++ [V.str (mkN num), v1, w1] :: r2').flatten = G1 at *
     have g1K : G1[K]? = some (r1 ++ [V.str (mkN num), v1, w1] :: r2').flatten := by rw [<- hG1, List.getElem?_set_self hKlt]
     have g1o : ∀ j, j ≠ K -> G1[j]? = G[j]? := fun j hj => by rw [<- hG1, List.getElem?_set_ne (fun e => hj e.symm)]
     have l1d := ld_peek (g := globB) g1K ((mid_get (hrows (mkN num)) hq1.2 (show 1 < 3 by omega)).trans rfl)
     have t1' := (t1.mono (H' := G1) fun j hj => g1o j fun e => hKa1 (e ▸ hj)).strip
     have hge : G1.length = G.length := by rw [<- hG1]; simp
     simp only [evv, i1, o, m1, s1, e1, l1d, show ((l1.length : Int) < (L : Int)) from by omega]
     refine (markStringS_g t1' (num + 1) (by omega)).bind ?_
     rintro _ G2 ⟨rfl, u1, u2, u3⟩
     have g2K : G2[K]? = some (r1 ++ [V.str (mkN num), v1, w1] :: r2').flatten := by rw [u2 K hKa1, g1K]
     have l2d := ld_peek (g := globB) g2K ((mid_get (hrows (mkN num)) hq1.2 (show 2 < 3 by omega)).trans rfl)
     have t2' := (t2.mono (H' := G2) fun j hj => by rw [u2 j fun hj1 => hd12 j hj1 j hj rfl]; exact g1o j fun e => hKa2 (e ▸ hj)).strip
     simp only [evv, i1, o, l2d]
     refine (markStringS_g t2' (num + 1 + m.to.length) (by omega)).bind ?_
     rintro _ G3 ⟨rfl, w1', w2, w3⟩
     simp only [evv, e2]
     have hall : ∀ j, j ≠ K -> j ∉ a1 -> j ∉ a2 -> G3[j]? = G[j]? := fun j h1 h2 h3 => by rw [w2 j h3, u2 j h2, g1o j h1]
     refine ⟨_, rfl, .inr ⟨rfl, l2.length, by simp, l1 ++ [m], l2, r1 ++ [[V.str (mkN num), v1, w1]], r2', k1 ++ (a1 ++ a2), kb, rfl, by simp, by simp, ?_, by simp only; omega, fun j hj => ?_, ?_, ?_, ?_⟩⟩
     ·simp only [szMk_app, szMk, sz1, List.length_append, List.length_singleton, <- hnum]
      congr 3
      simp only [Nat.add_zero]; omega
     ·simp only [List.mem_cons, List.mem_append, not_or] at hj
      simp only
      rw [hall j hj.1 hj.2.2.1.1 hj.2.2.1.2]
      exact hoff j (by simp only [List.mem_cons, List.mem_append, not_or]; exact hj)
     ·simp only [List.append_assoc, List.singleton_append]
      rw [w2 K hKa2, g2K]
     ·rw [mkMs_app]
      refine RwR.app (hr1.mono MlR.Mon fun j hj => hall j (fun e => hK1 (e ▸ hj)) (fun e => hd1 j hj j (.inl (.inl e)) rfl) (fun e => hd1 j hj j (.inl (.inr e)) rfl)) ?_
      simp only [mkMs, hnum]
      exact RwR.one ⟨v1, w1, a1, a2, rfl, rfl, (u1.mono fun j hj => w2 j fun hj2 => hd12 j hj j hj2 rfl).unstrip, w1'.unstrip⟩
     ·exact hr2.mono MlR.Mon fun j hj => hall j (fun e => hKb (e ▸ hj)) (fun e => hdab j (.inl e) j hj rfl) (fun e => hdab j (.inr e) j hj rfl)
  ·rintro _ _ G ⟨rfl, rfl, g1, g2, g3⟩
   simp only [evv]
   exact Gets.here ⟨rfl, g3, g2, g1⟩
end Go.Proofs.YtjpkhkndkockiaaGreatDoor.Q

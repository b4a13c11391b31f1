/- Contracts: lists of mails and of mailboxes, made and marked in memory. -/
import Derived.Test.YtjpkhkndkockiaaGreatDoorExactSayAllCb3rowsZ
import Derived.Test.YtjpkhkndkockiaaGreatDoorFnExactSayAllK4
namespace Go.Proofs.YtjpkhkndkockiaaGreatDoor.Q
open Go Go.AM
set_option linter.unusedSimpArgs false
set_option linter.unusedVariables false
set_option linter.unusedSectionVars false
theorem st_seg {H : VH} {k off : Nat} {a b c cs : List V} (h : H[k]? = some (a ++ b ++ c)) (ha : a.length = off) (hb : b.length = cs.length) : stO (.ptr k off) cs H = some (H.set k (a ++ cs ++ c)) := by
 subst ha
 have hle : Nat.ble (a.length + cs.length) (a ++ b ++ c).length = true := by rw [Nat.ble_eq]; simp; omega
 simp only [stO, h, hle, gseg]
 congr 2
 rw [List.append_assoc a b c, List.take_left' rfl, <- hb, <- List.drop_drop, List.drop_left' rfl, List.drop_left' rfl]
theorem repV_flat (n : Nat) (z : List V) : repV n z = (List.replicate n z).flatten := by
 induction n with
 | zero => rfl
 | succ n ih => simp only [repV, ih, List.replicate_succ, List.flatten_cons]
section
variable {α : Type} {P : VH -> List Nat -> List V -> α -> Prop} {e : Nat}
theorem fil_st (hP : Mon P e) {z : List V} (hz : z.length = e) {H X X' : VH} {r : List (List V)} {ks kn : List Nat} {x : List V} {a : α} {l1 : List α} {m : Nat} {G : VH} (hG : G = H ++ [r.flatten ++ (List.replicate (m + 1) z).flatten] ++ X)
 (hr : RwR P G ks r l1) (hx : P (G ++ X') kn x a) (n1 : ks.Nodup) (b1 : ∀ j ∈ ks, H.length < j /\ j < G.length) (n2 : kn.Nodup) (b2 : ∀ j ∈ kn, G.length <= j /\ j < (G ++ X').length) :
 ∃ G', stO (.ptr H.length (l1.length * e)) x (G ++ X') = some G' /\ G' = H ++ [(r ++ [x]).flatten ++ (List.replicate m z).flatten] ++ (X ++ X') /\ RwR P G' (ks ++ kn) (r ++ [x]) (l1 ++ [a]) /\ (ks ++ kn).Nodup /\ ∀ j ∈ ks ++ kn, H.length < j /\ j < G'.length := by
 have hrw := hr.rows hP
 have hxl := hP.2 hx
 have hgl : H.length < G.length := by rw [hG]; simp
 have hk : (G ++ X')[H.length]? = some (r.flatten ++ z ++ (List.replicate m z).flatten) := by
  rw [hG, List.append_assoc _ X X', get_len, List.replicate_succ, List.flatten_cons, List.append_assoc]
 have hst := st_seg (cs := x) (off := l1.length * e) hk (by rw [hrw.1.flat, hrw.2]) (by rw [hz, hxl])
 have hset : (G ++ X').set H.length (r.flatten ++ x ++ (List.replicate m z).flatten) = H ++ [(r ++ [x]).flatten ++ (List.replicate m z).flatten] ++ (X ++ X') := by
  rw [hG, List.append_assoc _ X X', set_len]; simp
 have hlen : ((G ++ X').set H.length (r.flatten ++ x ++ (List.replicate m z).flatten)).length = (G ++ X').length := by simp
 have hap : (G ++ X').length = G.length + X'.length := by simp
 refine ⟨_, hst, hset, ?_, ?_, fun j hj => ?_⟩
 ·refine RwR.app (hr.mono hP fun j hj => ?_) (RwR.one (hP.1 hx fun j hj => ?_))
  ·have := b1 j hj
   rw [List.getElem?_set_ne (by omega), List.getElem?_append_left this.2]
  ·have := b2 j hj
   rw [List.getElem?_set_ne (by omega)]
 ·rw [List.nodup_append]
  exact ⟨n1, n2, fun a ha b hb => by have := b1 a ha; have := b2 b hb; omega⟩
 ·rw [hlen]
  rcases List.mem_append.1 hj with hj | hj
  ·have := b1 j hj; omega
  ·have := b2 j hj; omega
theorem fil_end (hP : Mon P e) {H X : VH} {r : List (List V)} {ks : List Nat} {l : List α} {G : VH} (hG : G = H ++ [r.flatten] ++ X) (hr : RwR P G ks r l) (n1 : ks.Nodup) (b1 : ∀ j ∈ ks, H.length < j /\ j < G.length) :
 ∃ ks', ObR P e G ks' (.obs H.length 0 l.length e) l /\ ks'.Nodup /\ ∀ j ∈ ks', H.length <= j /\ j < G.length := by
 by_cases h : l = []
 ·subst h; exact ⟨[], .inl ⟨rfl, rfl, .inr (.inr ⟨_, rfl⟩)⟩, List.nodup_nil, by simp⟩
 ·refine ⟨H.length :: ks, .inr ⟨_, r, ks, rfl, h, rfl, by rw [hG, get_len], hr⟩, ?_, fun j hj => ?_⟩
  ·rw [List.nodup_cons]; exact ⟨fun hm => by have := (b1 _ hm).1; omega, n1⟩
  ·have : H.length < G.length := by rw [hG]; simp
   rcases List.mem_cons.1 hj with rfl | hj
   ·omega
   ·have := b1 j hj; omega
end
theorem toMailS_g (l : List Mail) (h : SmMs l) (H : VH) : Gets2 (cv id_laws_toMailS [.sl false (vR eM l)] H) (fun r G => ∃ ks X, G = H ++ X /\ MsR G ks r l /\ ks.Nodup /\ ∀ j ∈ ks, H.length <= j /\ j < G.length) := by
 have hl := h.1
 have hmk := mk_len 64 l.length (by omega) (by omega)
 refine Gets2.of ?_
 rw [laws_toMailS_eq]
 simp only [evv, hmk, repV_flat, vR_len]
 refine Gets.loop2 (I := fun n st G => ∃ (i : Nat) (r : List (List V)) (ks : List Nat) (X : VH), n = l.length - i /\ i <= l.length /\ st = [.sl false (vR eM l), .obs H.length 0 l.length 3, .int .i64 (i : Nat)] /\ G = H ++ [r.flatten ++ (List.replicate (l.length - i) [V.str [], .sl true [], .sl true []]).flatten] ++ X /\ RwR MlR G ks r (l.take i) /\ ks.Nodup /\ ∀ j ∈ ks, H.length < j /\ j < G.length)
  (P := fun q vs G => q = 0 /\ vs = [.obs H.length 0 l.length 3] /\ ∃ ks X, G = H ++ X /\ MsR G ks (.obs H.length 0 l.length 3) l /\ ks.Nodup /\ ∀ j ∈ ks, H.length <= j /\ j < G.length) (n := l.length) ?_ ⟨0, [], [], [], by omega, by omega, rfl, by simp, ⟨rfl, rfl⟩, List.nodup_nil, by simp⟩ ?_
 ·rintro n st G ⟨i, r, ks, X, rfl, hi, rfl, hG, hr, n1, b1⟩
  rw [laws_toMailS_l3_eq]
  by_cases hlt : i < l.length
  ·have i1 := vM_idx false l .i64 i hlt
   have hem : eM.e l[i] = cM l[i] := rfl
   rw [hem, cM_e] at i1
   have i2 : vIdxV 3 (.obs H.length 0 l.length 3) (.int .i64 (i : Nat)) = some (.ptr H.length (i * 3)) := vi_obs hlt
   have e2 : vBinV (.int .i64) .add (.int .i64 (i : Int)) (.int .i64 1) = some (.int .i64 ((i + 1 : Nat) : Int)) := n_addN _ i 1 (by omega)
   simp only [evv, i1, vR_len, vT_strip, show ((i : Int) < (l.length : Int)) from by omega]
   refine (toMail_g l[i] (h.2 _ (List.getElem_mem hlt)) G).bind ?_
   rintro _ _ ⟨cs, kn, X', rfl, rfl, hx, n2, b2⟩
   obtain ⟨m', hm'⟩ : ∃ m', l.length - i = m' + 1 := ⟨l.length - i - 1, by omega⟩
   rw [hm'] at hG
   obtain ⟨G', g1, g2, g3, g4, g5⟩ := fil_st MlR.Mon (z := [V.str [], .sl true [], .sl true []]) rfl hG hr hx n1 b1 n2 b2
   have htl : (l.take i).length = i := by rw [List.length_take]; omega
   rw [htl] at g1
   have htk : l.take i ++ [l[i]] = l.take (i + 1) := (List.take_succ_eq_append_getElem hlt).symm
   rw [htk] at g3
   obtain ⟨v, w, _, _, rfl, -⟩ := hx
   simp only [evv, i2, g1, e2]
   exact ⟨_, rfl, .inr ⟨rfl, l.length - (i + 1), by omega, i + 1, _, _, _, rfl, by omega, rfl, by rw [g2, show l.length - (i + 1) = m' by omega], g3, g4, g5⟩⟩
  ·have : i = l.length := by omega
   subst this
   simp only [evv, vR_len, show ¬ ((l.length : Int) < (l.length : Int)) from by omega]
   rw [List.take_length] at hr
   have hG' : G = H ++ [r.flatten] ++ X := by rw [hG]; simp
   obtain ⟨ks', o1, o2, o3⟩ := fil_end MlR.Mon hG' hr n1 b1
   exact ⟨_, rfl, .inl ⟨0, rfl, rfl, rfl, ks', [r.flatten] ++ X, by rw [hG', List.append_assoc], o1, o2, o3⟩⟩
 ·rintro _ _ G ⟨rfl, rfl, ks, X, h1, h2, h3, h4⟩
  simp only [evv]
  exact Gets.here ⟨ks, X, h1, h2, h3, h4⟩
end Go.Proofs.YtjpkhkndkockiaaGreatDoor.Q

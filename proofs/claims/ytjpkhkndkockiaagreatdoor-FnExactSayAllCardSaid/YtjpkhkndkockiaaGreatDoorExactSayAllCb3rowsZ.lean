/- Contracts: rows in memory whose parts lie in memory. -/
import Derived.Test.YtjpkhkndkockiaaGreatDoorExactSayAllCb2exactmarksZ
import Derived.Test.YtjpkhkndkockiaaGreatDoorFnExactSayAllK4
namespace Go.Proofs.YtjpkhkndkockiaaGreatDoor.Q
open Go Go.AM
set_option linter.unusedSimpArgs false
set_option linter.unusedVariables false
set_option linter.unusedSectionVars false
theorem set_len {H X : VH} {a b : List V} : (H ++ [a] ++ X).set H.length b = H ++ [b] ++ X := by simp
theorem get_len {H X : VH} {a : List V} : (H ++ [a] ++ X)[H.length]? = some a := by simp
section
variable {α : Type} (P : VH -> List Nat -> List V -> α -> Prop)
def RwR (H : VH) : List Nat -> List (List V) -> List α -> Prop
 | ks, r, [] => ks = [] /\ r = []
 | ks, r, a :: l => ∃ x r' k1 k2, r = x :: r' /\ ks = k1 ++ k2 /\ P H k1 x a /\ RwR H k2 r' l
def ObR (e : Nat) (H : VH) (ks : List Nat) (v : V) (l : List α) : Prop := (ks = [] /\ l = [] /\ (v = .sl true [] ∨ v = .sl false [] ∨ ∃ k, v = .obs k 0 0 e)) ∨ ∃ k r ks', ks = k :: ks' /\ l ≠ [] /\ v = .obs k 0 l.length e /\ H[k]? = some r.flatten /\ RwR P H ks' r l
end
def Mon {α : Type} (P : VH -> List Nat -> List V -> α -> Prop) (e : Nat) : Prop := (∀ {H H' : VH} {ks : List Nat} {x : List V} {a : α}, P H ks x a -> (∀ j ∈ ks, H'[j]? = H[j]?) -> P H' ks x a) /\ (∀ {H : VH} {ks : List Nat} {x : List V} {a : α}, P H ks x a -> x.length = e)
section
variable {α : Type} {P : VH -> List Nat -> List V -> α -> Prop} {e : Nat}
theorem RwR.mono (hP : Mon P e) {H H' : VH} : ∀ {l : List α} {ks : List Nat} {r : List (List V)}, RwR P H ks r l -> (∀ j ∈ ks, H'[j]? = H[j]?) -> RwR P H' ks r l
 | [], _, _, h, _ => h
 | a :: l, ks, r, h, g => by
   obtain ⟨x, r', k1, k2, rfl, rfl, h1, h2⟩ := h
   exact ⟨x, r', k1, k2, rfl, rfl, hP.1 h1 fun j hj => g j (by simp [hj]), RwR.mono hP h2 fun j hj => g j (by simp [hj])⟩
theorem RwR.rows (hP : Mon P e) {H : VH} : ∀ {l : List α} {ks : List Nat} {r : List (List V)}, RwR P H ks r l -> Go.AM.Rows e r /\ r.length = l.length
 | [], _, _, h => by obtain ⟨_, rfl⟩ := h; exact ⟨fun x hx => by simp at hx, rfl⟩
 | a :: l, ks, r, h => by
   obtain ⟨x, r', k1, k2, rfl, rfl, h1, h2⟩ := h
   obtain ⟨a1, a2⟩ := RwR.rows hP h2
   exact ⟨fun y hy => by
    rcases List.mem_cons.1 hy with rfl | hy
    ·exact hP.2 h1
    ·exact a1 y hy, by simp [a2]⟩
theorem RwR.app {H : VH} : ∀ {l m : List α} {k1 k2 : List Nat} {r s : List (List V)}, RwR P H k1 r l -> RwR P H k2 s m -> RwR P H (k1 ++ k2) (r ++ s) (l ++ m)
 | [], _, _, _, _, _, h, g => by obtain ⟨rfl, rfl⟩ := h; exact g
 | a :: l, m, ks, k2, r, s, h, g => by
   obtain ⟨x, r', k1, k1', rfl, rfl, h1, h2⟩ := h
   exact ⟨x, r' ++ s, k1, k1' ++ k2, rfl, by simp, h1, RwR.app h2 g⟩
theorem RwR.one {H : VH} {ks : List Nat} {x : List V} {a : α} (h : P H ks x a) : RwR P H ks [x] [a] := ⟨x, [], ks, [], rfl, by simp, h, rfl, rfl⟩
theorem ObR.mono (hP : Mon P e) {H H' : VH} {l : List α} {ks : List Nat} {v : V} (h : ObR P e H ks v l) (g : ∀ j ∈ ks, H'[j]? = H[j]?) : ObR P e H' ks v l := by
 rcases h with h | ⟨k, r, ks', rfl, h1, h2, h3, h4⟩
 ·exact .inl h
 ·exact .inr ⟨k, r, ks', rfl, h1, h2, by rw [g k (by simp), h3], h4.mono hP fun j hj => g j (by simp [hj])⟩
theorem ObR.strip {H : VH} {l : List α} {ks : List Nat} {v : V} (h : ObR P e H ks v l) : ObR P e H ks (Go.AM.strip v) l := by
 rcases h with ⟨h1, h2, h3⟩ | ⟨k, r, ks', h0, h1, rfl, h3⟩
 ·refine .inl ⟨h1, h2, ?_⟩
  rcases h3 with rfl | rfl | ⟨k, rfl⟩
  ·exact .inr (.inl rfl)
  ·exact .inr (.inl rfl)
  ·exact .inr (.inr ⟨k, rfl⟩)
 ·exact .inr ⟨k, r, ks', h0, h1, rfl, h3⟩
theorem ObR.len {H : VH} {l : List α} {ks : List Nat} {v : V} (h : ObR P e H ks v l) : vLenVV v = some (.int .i64 (l.length : Nat)) := by
 rcases h with ⟨h1, rfl, rfl | rfl | ⟨k, rfl⟩⟩ | ⟨k, r, ks', h1, h2, rfl, h3⟩ <;> rfl
theorem ObR.one {H : VH} {l : List α} {ks : List Nat} {v : V} (h : ObR P e H ks v l) : vOneV v = some v := by
 rcases h with ⟨h1, rfl, rfl | rfl | ⟨k, rfl⟩⟩ | ⟨k, r, ks', h1, h2, rfl, h3⟩ <;> rfl
theorem ObR.nd {H : VH} {l : List α} {ks : List Nat} {v : V} (h : ObR P e H ks v l) (hn : noObs v = true) : data v = true := by
 rcases h with ⟨h1, rfl, rfl | rfl | ⟨k, rfl⟩⟩ | ⟨k, r, ks', h1, h2, rfl, h3⟩ <;> first | rfl | (simp [noObs] at hn)
theorem RwR.map {f : α -> List V} {d : Nat} {H : VH} (hf : ∀ {ks : List Nat} {x : List V} {a : α}, P H ks x a -> x.map (frD d H) = f a) : ∀ {l : List α} {ks : List Nat} {r : List (List V)}, RwR P H ks r l -> r.map (List.map (frD d H)) = l.map f
 | [], _, _, h => by obtain ⟨_, rfl⟩ := h; rfl
 | a :: l, ks, r, h => by
   obtain ⟨x, r', k1, k2, rfl, rfl, h1, h2⟩ := h
   simp only [List.map_cons, hf h1, RwR.map hf h2]
theorem ObR.frD (hP : Mon P e) {f : α -> List V} {d : Nat} {H : VH} (hf : ∀ {ks : List Nat} {x : List V} {a : α}, P H ks x a -> x.map (frD d H) = f a) {l : List α} {ks : List Nat} {v : V} (h : ObR P e H ks v l) : Go.AM.frD (d + 1) H v = .sl false (l.map f) := by
 rcases h with ⟨h1, rfl, h3⟩ | ⟨k, r, ks', h1, h2, rfl, h3, h4⟩
 ·rcases h3 with rfl | rfl | ⟨k, rfl⟩
  ·rfl
  ·rfl
  ·simp only [Go.AM.frD, frO, gcut, Nat.zero_mul, Nat.add_zero, Nat.zero_le, if_true, List.take_zero]
   rfl
 ·have hg : (H.map fun cs => cs.map (Go.AM.frD d H)).getD k [] = (r.map (List.map (Go.AM.frD d H))).flatten := by
   rw [List.getD_eq_getElem?_getD, List.getElem?_map, h3, <- List.map_flatten]
   rfl
  obtain ⟨hr1, hr2⟩ := h4.rows hP
  have hr : Go.AM.Rows e (r.map (List.map (Go.AM.frD d H))) := fun x hx => by
   obtain ⟨y, hy, rfl⟩ := List.mem_map.1 hx
   rw [List.length_map]; exact hr1 y hy
  have hc := hr.chunk
  have hfl := hr.flat
  rw [List.length_map, hr2] at hc hfl
  simp only [Go.AM.frD, frO, hg, gcut]
  rw [if_pos (by omega)]
  simp only [List.drop_zero]
  rw [List.take_of_length_le (by omega), hc, h4.map hf]
theorem prom_rows (hP : Mon P e) {g : α -> List V} {d : Nat} (hg : ∀ (a : α) (H : VH), ∃ ks x G, promL d H (g a) = (x, H ++ G) /\ P (H ++ G) ks x a /\ ks.Nodup /\ ∀ j ∈ ks, H.length <= j /\ j < (H ++ G).length) : ∀ (l : List α) (H : VH), ∃ ks r G, promLL d H (l.map g) = (r.flatten, H ++ G) /\ RwR P (H ++ G) ks r l /\ ks.Nodup /\ ∀ j ∈ ks, H.length <= j /\ j < (H ++ G).length
 | [], H => ⟨[], [], [], by simp [promLL], ⟨rfl, rfl⟩, List.nodup_nil, by simp⟩
 | a :: l, H => by
   obtain ⟨k1, x, G1, e1, h1, n1, b1⟩ := hg a H
   obtain ⟨k2, r, G2, e2, h2, n2, b2⟩ := prom_rows hP hg l (H ++ G1)
   refine ⟨k1 ++ k2, x :: r, G1 ++ G2, ?_, ⟨x, r, k1, k2, rfl, rfl, hP.1 h1 fun j hj => ?_, by rw [<- List.append_assoc]; exact h2⟩, ?_, fun j hj => ?_⟩
   ·simp only [List.map_cons, promLL, e1, e2, List.flatten_cons, List.append_assoc]
   ·rw [<- List.append_assoc, List.getElem?_append_left (b1 j hj).2]
   ·rw [List.nodup_append]
    exact ⟨n1, n2, fun a ha b hb => by have := b1 a ha; have := b2 b hb; omega⟩
   ·rcases List.mem_append.1 hj with hj | hj
    ·have := b1 j hj; simp at this ⊢; omega
    ·have := b2 j hj; simp at this ⊢; omega
theorem prom_ob (hP : Mon P e) {g : α -> List V} {d : Nat} (hl : ∀ a, (g a).length = e) (hg : ∀ (a : α) (H : VH), ∃ ks x G, promL d H (g a) = (x, H ++ G) /\ P (H ++ G) ks x a /\ ks.Nodup /\ ∀ j ∈ ks, H.length <= j /\ j < (H ++ G).length) (l : List α) (H : VH) : ∃ ks v G, prom (d + 1) H (.sl true (l.map g)) = (v, H ++ G) /\ ObR P e (H ++ G) ks v l /\ ks.Nodup /\ ∀ j ∈ ks, H.length <= j /\ j < (H ++ G).length := by
 cases l with
 | nil => exact ⟨[], .sl true [], [], by simp [prom], .inl ⟨rfl, rfl, .inl rfl⟩, List.nodup_nil, by simp⟩
 | cons a l =>
   obtain ⟨ks, r, G, e1, h1, n1, b1⟩ := prom_rows hP hg (a :: l) H
   refine ⟨(H ++ G).length :: ks, .obs (H ++ G).length 0 (a :: l).length e, G ++ [r.flatten], ?_, .inr ⟨_, r, ks, rfl, by simp, rfl, ?_, ?_⟩, ?_, fun j hj => ?_⟩
   ·rw [List.map_cons] at e1 ⊢
    simp only [prom, e1, List.length_cons, List.length_map, hl, List.append_assoc]
   ·rw [<- List.append_assoc]; simp
   ·rw [<- List.append_assoc]
    exact h1.mono hP fun j hj => by rw [List.getElem?_append_left (b1 j hj).2]
   ·rw [List.nodup_cons]
    exact ⟨fun hm => by have := (b1 _ hm).2; omega, n1⟩
   ·rcases List.mem_cons.1 hj with rfl | hj
    ·simp
    ·have := b1 j hj; simp at this ⊢; omega
end
theorem MlR.Mon : Mon MlR 3 := ⟨fun h g => h.mono g, fun h => by obtain ⟨v, w, _, _, rfl, _⟩ := h; rfl⟩
abbrev MsR := ObR MlR 3
theorem MlR.map {H : VH} {ks : List Nat} {x : List V} {m : Mail} (d : Nat) (h : MlR H ks x m) : x.map (Go.AM.frD (d + 1) H) = cM m := by
 obtain ⟨v, w, k1, k2, rfl, rfl, h1, h2⟩ := h
 simp only [List.map_cons, List.map_nil, h1.frD d, h2.frD d, frD_data (d + 1) H (.str m.from_) rfl, cM_e]
 rfl
theorem MsR.frD {H : VH} {ks : List Nat} {v : V} {l : List Mail} (d : Nat) (h : MsR H ks v l) : Go.AM.frD (d + 2) H v = .sl false (vR eM l) := ObR.frD MlR.Mon (f := cM) (fun h => h.map d) h
theorem promL_cO (d : Nat) (n : Mail) (H : VH) : ∃ ks x G, promL (d + 1) H (cO n) = (x, H ++ G) /\ MlR (H ++ G) ks x n /\ ks.Nodup /\ ∀ j ∈ ks, H.length <= j /\ j < (H ++ G).length := by
 obtain ⟨cs, ks, G, e, h⟩ := prom_cO d n H
 refine ⟨ks, cs, G, ?_, h⟩
 simp only [prom] at e
 have e1 := congrArg Prod.fst e
 have e2 := congrArg Prod.snd e
 simp only [V.agg.injEq] at e1 e2
 exact Prod.ext e1 e2
theorem prom_vO (d : Nat) (l : List Mail) (H : VH) : ∃ ks v G, prom (d + 2) H (.sl true (vO l)) = (v, H ++ G) /\ MsR (H ++ G) ks v l /\ ks.Nodup /\ ∀ j ∈ ks, H.length <= j /\ j < (H ++ G).length :=
 prom_ob MlR.Mon (g := cO) (fun _ => rfl) (fun a H => promL_cO d a H) l H
end Go.Proofs.YtjpkhkndkockiaaGreatDoor.Q

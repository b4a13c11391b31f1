/- Contracts: the laws that mark what they get. -/
import Derived.Test.YtjpkhkndkockiaaGreatDoorExactSayAllCb1marksZ
import Derived.Test.YtjpkhkndkockiaaGreatDoorFnExactSayAllK4
namespace Go.Proofs.YtjpkhkndkockiaaGreatDoor.Q
open Go Go.AM
set_option linter.unusedSimpArgs false
set_option linter.unusedVariables false
set_option linter.unusedSectionVars false
theorem ouL_id {g : VH -> V -> Option (V × VH)} (hg : ∀ H v, ownA v = true -> g H v = some (v, H)) : ∀ (vs : List V) (H : VH), ownAL vs = true -> ouL g H vs = some (vs, H)
 | [], _, _ => rfl
 | v :: vs, H, h => by
   simp only [ownAL, Bool.and_eq_true] at h
   simp only [ouL, hg H v h.1, ouL_id hg vs H h.2, Option.bind_some]
theorem ou_id : ∀ (d : Nat) (H : VH) (v : V), ownA v = true -> ou d H v = some (v, H)
 | 0, H, v, h => by simp only [ou, h]
 | d + 1, H, v, h => by
   cases v with
   | obs => simp [ownA] at h
   | agg vs => simp only [ownA] at h; simp only [ou, ouL_id (ou_id d) vs H h, Option.bind_some]
   | tup vs => simp only [ownA] at h; simp only [ou, ouL_id (ou_id d) vs H h, Option.bind_some]
   | _ => simp only [ou, h]
theorem pco_fr {f : FuncId} {H : VH} {vs : List V} {v : V} (h : noObsL vs = true -> dataL vs = true) (hp : pc f (vs.map (frD 3 H)) = some v) (ho : ownA v = true) : pco f H vs = some v := by
 show pcallO cv f H vs = some v
 cases hn : noObsL vs with
 | true =>
   rw [pcallO_d (h hn), <- map_frD (d := 3) (H := H) (h hn)]
   exact hp
 | false =>
   unfold pcallO
   rw [hn]
   show (pc f (vs.map (frD 3 H))).bind _ = _
   rw [hp]
   simp only [Option.bind_some, ho]
theorem pcu_fr {f : FuncId} {H H' : VH} {vs : List V} {v : V} (hn : noPtrL (vs.map (frD 3 H)) = true) (hc : cv f (vs.map (frD 3 H)) [] = some (v, H')) (ho : ownA v = true) : pcu f H vs = some v := by
 show pcallU cv f H vs = some v
 unfold pcallU
 rw [hn]
 show (cv f (vs.map (frD 3 H)) []).bind _ = _
 rw [hc]
 simp only [Option.bind_some, ouR, ou_id 6 H' v ho, ho]
theorem MlR.app {H : VH} {ks : List Nat} {cs : List V} {m : Mail} (X : VH) (h : MlR H ks cs m) (hk : ∀ j ∈ ks, j < H.length) : MlR (H ++ X) ks cs m :=
 h.mono fun j hj => by rw [List.getElem?_append_left (hk j hj)]
theorem vT_ownA : ∀ l : List Bs, ownALL (vT l) = true
 | [] => rfl
 | m :: l => by
   show (ownAL [.str m] && ownALL (vT l)) = true
   rw [vT_ownA l]; rfl
theorem TxR.app {H : VH} {ks : List Nat} {v : V} {l : List Bs} (X : VH) (h : TxR H ks v l) (hk : ∀ j ∈ ks, j < H.length) : TxR (H ++ X) ks v l :=
 h.mono fun j hj => by rw [List.getElem?_append_left (hk j hj)]
theorem prom_cO (d : Nat) (n : Mail) (H : VH) : ∃ cs ks G, prom (d + 1) H (.agg (cO n)) = (.agg cs, H ++ G) /\ MlR (H ++ G) ks cs n /\ ks.Nodup /\ ∀ j ∈ ks, H.length <= j /\ j < (H ++ G).length := by
 obtain ⟨k1, v, G1, e1, a1, a2⟩ := prom_vT d n.to H
 obtain ⟨k2, w, G2, e2, b1, b2⟩ := prom_vT d n.lines (H ++ G1)
 refine ⟨[.str n.from_, v, w], k1 ++ k2, G1 ++ G2, ?_, ⟨v, w, k1, k2, rfl, rfl, a1.mono fun j hj => ?_, by rw [<- List.append_assoc]; exact b1⟩, ?_, fun j hj => ?_⟩
 ·have ps : prom (d + 1) H (.str n.from_) = (.str n.from_, H) := by simp only [prom]
  have p0 : promL (d + 1) H (cO n) = ([.str n.from_, v, w], H ++ G1 ++ G2) := by
   rw [cO_e]
   simp only [promL, ps, e1, e2]
  rw [prom, p0, List.append_assoc]
 ·rw [<- List.append_assoc, List.getElem?_append_left (a2 j hj).2]
 ·rw [List.nodup_append]
  exact ⟨a1.nod, b1.nod, fun a ha b hb => by have := a2 a ha; have := b2 b hb; omega⟩
 ·rcases List.mem_append.1 hj with hj | hj
  ·have := a2 j hj; simp at this ⊢; omega
  ·have := b2 j hj; simp at this ⊢; omega
end Go.Proofs.YtjpkhkndkockiaaGreatDoor.Q

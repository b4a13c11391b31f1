/- Contracts: the laws that mark what they get. -/
import Derived.Test.YtikpckcdpmjpgabGreatDoorExactTakeMailCb1marksZ
import Derived.Test.YtikpckcdpmjpgabGreatDoorFnExactTakeMailK4
namespace Go.Proofs.YtikpckcdpmjpgabGreatDoor.Q
open Go Go.AM
set_option linter.unusedSimpArgs false
set_option linter.unusedVariables false
set_option linter.unusedSectionVars false
theorem pco_fr {f : FuncId} {H : VH} {vs : List V} {v : V} (h : noObsL vs = true -> dataL vs = true) (hp : pc f (vs.map (frD 3 H)) = some v) (ho : ownA v = true) : pco f H vs = some v := by
 show pcallO cv f H vs = some v
 cases hn : noObsL vs with
 | true =>
   rw [pcallO_d (h hn), <- map_frD (d := 3) (H := H) (h hn)]
   exact hp
 | false =>
   unfold pcallO
   rw [hn]
   show (pc f (vs.map (frD 3 H))).bind _ = _
   rw [hp]
   simp only [Option.bind_some, ho]
theorem pcu_of {f : FuncId} {H H' : VH} {vs : List V} {v w : V} (hn : noPtrL (vs.map (frD 3 H)) = true) (hc : cv f (vs.map (frD 3 H)) [] = some (v, H')) (ho : ouR H' v = some w) : pcu f H vs = some w := by
 show pcallU cv f H vs = some w
 unfold pcallU
 rw [hn]
 show (cv f (vs.map (frD 3 H)) []).bind _ = _
 rw [hc]
 exact ho
theorem MlR.app {H : VH} {ks : List Nat} {cs : List V} {m : Mail} (X : VH) (h : MlR H ks cs m) (hk : ∀ j ∈ ks, j < H.length) : MlR (H ++ X) ks cs m :=
 h.mono fun j hj => by rw [List.getElem?_append_left (hk j hj)]
theorem frD_cM (d : Nat) (H : VH) (m : Mail) : frD d H (.agg (cM m)) = .agg (cM m) := by
 rw [frD_data _ _ _ (by simp only [data, cM_e, dataL, vT_data, Bool.and_self])]
 simp only [strip, cM_e, stripL, vT_strip]
theorem eqMail_o {H : VH} {ks : List Nat} {cs : List V} {m n : Mail} (h : MlR H ks cs m) (hm : SmM m) : qco id_laws_eqMail H [.agg cs, .agg (cM n)] = some (.bool (decide (m = n))) := by
 rw [qco_fr (fun hn => by
  simp only [noObsL, Bool.and_eq_true] at hn
  simp only [dataL, h.nd hn.1, Bool.true_and]
  simp only [data, cM_e, dataL, vT_data, Bool.and_self])]
 simp only [List.map_cons, List.map_nil, h.frD 2, frD_cM]
 exact eqMail_c m n hm
theorem heldMail_o {H : VH} {ks : List Nat} {cs : List V} {m : Mail} {k : Nat} (h : MlR H ks cs (mkM k m)) (hk : k + m.to.length + m.lines.length <= 9000000000000000000) : qco id_laws_heldMail H [.agg cs, .int .i64 (k : Nat)] = some (.int .i64 ((k + m.to.length + m.lines.length : Nat) : Int)) := by
 rw [qco_fr (fun hn => by
  simp only [noObsL, Bool.and_eq_true] at hn
  have q := h.nd hn.1
  show (data (.agg cs) && (data (.int .i64 (k : Nat)) && true)) = true
  rw [q]; rfl)]
 simp only [List.map_cons, List.map_nil, h.frD 2, frD_data 3 H (.int .i64 (k : Nat)) rfl, strip]
 exact heldMail_c k m hk
theorem vT_ownA : ∀ l : List Bs, ownALL (vT l) = true
 | [] => rfl
 | m :: l => by
   show (ownAL [.str m] && ownALL (vT l)) = true
   rw [vT_ownA l]; rfl
theorem TxR.app {H : VH} {ks : List Nat} {v : V} {l : List Bs} (X : VH) (h : TxR H ks v l) (hk : ∀ j ∈ ks, j < H.length) : TxR (H ++ X) ks v l :=
 h.mono fun j hj => by rw [List.getElem?_append_left (hk j hj)]
theorem cO_own (m : Mail) : ownA (.agg (cO m)) = true := by simp only [ownA, cO_e, ownAL, Bool.true_or, Bool.true_and, Bool.and_true, vT_ownA]
theorem prom_cO (d : Nat) (n : Mail) (H : VH) : ∃ cs ks G, prom (d + 1) H (.agg (cO n)) = (.agg cs, H ++ G) /\ MlR (H ++ G) ks cs n /\ ks.Nodup /\ ∀ j ∈ ks, H.length <= j /\ j < (H ++ G).length := by
 obtain ⟨k1, v, G1, e1, a1, a2⟩ := prom_vT d n.to H
 obtain ⟨k2, w, G2, e2, b1, b2⟩ := prom_vT d n.lines (H ++ G1)
 refine ⟨[.str n.from_, v, w], k1 ++ k2, G1 ++ G2, ?_, ⟨v, w, k1, k2, rfl, rfl, a1.mono fun j hj => ?_, by rw [<- List.append_assoc]; exact b1⟩, ?_, fun j hj => ?_⟩
 ·have ps : prom (d + 1) H (.str n.from_) = (.str n.from_, H) := by simp only [prom]
  have p0 : promL (d + 1) H (cO n) = ([.str n.from_, v, w], H ++ G1 ++ G2) := by
   rw [cO_e]
   simp only [promL, ps, e1, e2]
  rw [prom, p0, List.append_assoc]
 ·rw [<- List.append_assoc, List.getElem?_append_left (a2 j hj).2]
 ·rw [List.nodup_append]
  exact ⟨a1.nod, b1.nod, fun a ha b hb => by have := a2 a ha; have := b2 b hb; omega⟩
 ·rcases List.mem_append.1 hj with hj | hj
  ·have := a2 j hj; simp at this ⊢; omega
  ·have := b2 j hj; simp at this ⊢; omega
end Go.Proofs.YtikpckcdpmjpgabGreatDoor.Q

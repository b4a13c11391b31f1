/- Contracts: the laws that mark what they get. -/
import Derived.Test.YtjobinbeggkliabDoorExactSpeakMailCb1marksZ
import Derived.Test.YtjobinbeggkliabDoorFnExactSpeakMailK4
namespace Go.Proofs.YtjobinbeggkliabDoor.Q
open Go Go.AM
set_option linter.unusedSimpArgs false
set_option linter.unusedVariables false
set_option linter.unusedSectionVars false
theorem ouL_id {g : VH -> V -> Option (V × VH)} (hg : ∀ H v, ownA v = true -> g H v = some (v, H)) : ∀ (vs : List V) (H : VH), ownAL vs = true -> ouL g H vs = some (vs, H)
 | [], _, _ => rfl
 | v :: vs, H, h => by
   simp only [ownAL, Bool.and_eq_true] at h
   simp only [ouL, hg H v h.1, ouL_id hg vs H h.2, Option.bind_some]
theorem ou_id : ∀ (d : Nat) (H : VH) (v : V), ownA v = true -> ou d H v = some (v, H)
 | 0, H, v, h => by simp only [ou, h]
 | d + 1, H, v, h => by
   cases v with
   | obs => simp [ownA] at h
   | agg vs => simp only [ownA] at h; simp only [ou, ouL_id (ou_id d) vs H h, Option.bind_some]
   | tup vs => simp only [ownA] at h; simp only [ou, ouL_id (ou_id d) vs H h, Option.bind_some]
   | _ => simp only [ou, h]
theorem pco_fr {f : FuncId} {H : VH} {vs : List V} {v : V} (h : noObsL vs = true -> dataL vs = true) (hp : pc f (vs.map (frD 3 H)) = some v) (ho : ownA v = true) : pco f H vs = some v := by
 show pcallO cv f H vs = some v
 cases hn : noObsL vs with
 | true =>
   rw [pcallO_d (h hn), <- map_frD (d := 3) (H := H) (h hn)]
   exact hp
 | false =>
   unfold pcallO
   rw [hn]
   show (pc f (vs.map (frD 3 H))).bind _ = _
   rw [hp]
   simp only [Option.bind_some, ho]
theorem pcu_fr {f : FuncId} {H H' : VH} {vs : List V} {v : V} (hn : noPtrL (vs.map (frD 3 H)) = true) (hc : cv f (vs.map (frD 3 H)) [] = some (v, H')) (ho : ownA v = true) : pcu f H vs = some v := by
 show pcallU cv f H vs = some v
 unfold pcallU
 rw [hn]
 show (cv f (vs.map (frD 3 H)) []).bind _ = _
 rw [hc]
 simp only [Option.bind_some, ouR, ou_id 6 H' v ho, ho]
theorem MlR.app {H : VH} {ks : List Nat} {cs : List V} {m : Mail} (X : VH) (h : MlR H ks cs m) (hk : ∀ j ∈ ks, j < H.length) : MlR (H ++ X) ks cs m :=
 h.mono fun j hj => by rw [List.getElem?_append_left (hk j hj)]
theorem frD_cM (d : Nat) (H : VH) (m : Mail) : frD d H (.agg (cM m)) = .agg (cM m) := by
 rw [frD_data _ _ _ (by simp only [data, cM_e, dataL, vT_data, Bool.and_self])]
 simp only [strip, cM_e, stripL, vT_strip]
theorem eqMail_oo {H : VH} {ks ls : List Nat} {cs ds : List V} {m n : Mail} (h : MlR H ks cs m) (g : MlR H ls ds n) (hm : SmM m) : qco id_laws_eqMail H [.agg cs, .agg ds] = some (.bool (decide (m = n))) := by
 rw [qco_fr (fun hn => by
  simp only [noObsL, Bool.and_eq_true] at hn
  simp only [dataL, h.nd hn.1, g.nd hn.2.1, Bool.and_self])]
 simp only [List.map_cons, List.map_nil, h.frD 2, g.frD 2]
 exact eqMail_c m n hm
theorem eqStringS_o {H : VH} {ks : List Nat} {v : V} {a : List Bs} (b : List Bs) (h : TxR H ks v a) (ha : a.length <= 1048576) : qco id_laws_eqStringS H [v, .sl false (vT b)] = some (.bool (decide (a = b))) := by
 have hd : data (.sl false (vT b)) = true := by simp only [data, vT_data]
 rw [qco_fr (fun hn => by
  simp only [noObsL, Bool.and_eq_true] at hn
  simp only [dataL, h.nd hn.1, hd, Bool.and_self])]
 simp only [List.map_cons, List.map_nil, h.frD 2, frD_data 3 H _ hd, strip, vT_strip]
 exact eqStringS_c a b ha
theorem heldStringS_o {H : VH} {ks : List Nat} {v : V} {k n : Nat} (h : TxR H ks v (mkT k n)) (hk : k + n <= 1000000000000) : qco id_laws_heldStringS H [v, .int .i64 (k : Nat)] = some (.int .i64 ((k + n : Nat) : Int)) := by
 rw [qco_fr (fun hn => by
  simp only [noObsL, Bool.and_eq_true] at hn
  simp only [dataL, h.nd hn.1, data, Bool.and_self])]
 simp only [List.map_cons, List.map_nil, h.frD 2, frD_data 3 H (.int .i64 (k : Nat)) rfl, strip]
 exact heldStringS_c k n hk
theorem vT_ownA : ∀ l : List Bs, ownALL (vT l) = true
 | [] => rfl
 | m :: l => by
   show (ownAL [.str m] && ownALL (vT l)) = true
   rw [vT_ownA l]; rfl
theorem TxR.app {H : VH} {ks : List Nat} {v : V} {l : List Bs} (X : VH) (h : TxR H ks v l) (hk : ∀ j ∈ ks, j < H.length) : TxR (H ++ X) ks v l :=
 h.mono fun j hj => by rw [List.getElem?_append_left (hk j hj)]
theorem Gets.promT {R : Type} {l : List Bs} {b : Bool} {H : VH} {K : V -> VH -> Option R} {Q : R -> Prop} (h : ∀ v ks G, TxR (H ++ G) ks v l -> (∀ j ∈ ks, H.length <= j /\ j < (H ++ G).length) -> Gets (K (.tup [v, .bool b]) (H ++ G)) Q) : Gets (promB 3 (.tup [.sl true (vT l), .bool b]) H K) Q := by
 obtain ⟨ks, v, G, e, h1, h2⟩ := prom_vT 2 l H
 have ho : ownA (.tup [.sl true (vT l), .bool b]) = true := by simp only [ownA, ownAL, vT_ownA, Bool.true_or, Bool.and_self]
 have pb : ∀ G, prom 3 G (.bool b) = (.bool b, G) := fun G => by simp only [prom]
 have p0 : prom 3 H (.tup [.sl true (vT l), .bool b]) = (.tup [v, .bool b], H ++ G) := by
  rw [prom]
  simp only [promL, e, pb]
 unfold promB
 rw [ho, p0]
 exact h v ks G h1 h2
theorem spokeL_le {m : Mail} : (spokeL m).length <= 1000 := by
 unfold spokeL
 split
 ·rename_i h
  unfold spokeB mailT at h
  simp only [Bool.and_eq_true, decide_eq_true_eq] at h
  simp [headL]; omega
 ·simp
theorem FnExactSpeakMail_v (u : V) (hu : HasArg tyM u) : ∃ H, cv id_laws_FnExactSpeakMail [u] [] = some (.bool true, H) := by
 obtain ⟨m, rfl, hm⟩ := argM hu
 have s1 := szMail_c m 1048576 (by omega) (by omega) hm.1 hm.2.1.1 hm.2.1.2 hm.2.2.1 hm.2.2.2
 suffices hg : Gets (cv id_laws_FnExactSpeakMail [.agg (cM m)] []) fun r => r.1 = .bool true by
  obtain ⟨⟨v, H⟩, e, h⟩ := hg
  cases h
  exact ⟨H, e⟩
 have s1' : qco id_laws_szMail [] [.agg (cM m), .int .i64 1048576] = some (.int .i64 (szM m 1048576)) := by
  rw [qco_fr (fun _ => by simp only [data, cM_e, dataL, vT_data, Bool.and_self])]
  simp only [List.map_cons, List.map_nil, frD_cM, frD_data 3 [] (.int .i64 1048576) rfl, strip]
  exact s1
 rw [laws_FnExactSpeakMail_eq]
 simp only [cM_e] at s1'
 by_cases h1 : szM m 1048576 < 0
 ·simp only [evv, cM_e, s1', h1]; exact Gets.here rfl
 ·have km : SmM m := SmM.of (n := 1048576) (by omega) (by omega) (by omega)
  have kn := spokeL_le (m := m)
  have hpc := spec_SpeakMail_c m km
  obtain ⟨Gi, c2⟩ := impl_SpeakMail_r m km
  have hown : ownA (.tup [.sl true (vT (spokeL m)), .bool (spokeB m)]) = true := by simp only [ownA, ownAL, vT_ownA, Bool.true_or, Bool.and_self]
  have hnp : noPtrL [V.agg (cM m)] = true := by simp only [evv, cM_e]
  have psp : ∀ {H : VH} {ks : List Nat} {cs : List V}, MlR H ks cs m -> pco id_spec_SpeakMail H [.agg cs] = some (.tup [.sl true (vT (spokeL m)), .bool (spokeB m)]) := fun h =>
   pco_fr (fun hn => by simp only [noObsL, Bool.and_eq_true] at hn; simp only [dataL, h.nd hn.1, Bool.and_self]) (by simp only [List.map_cons, List.map_nil, h.frD 2]; exact hpc) hown
  have pim : ∀ {H : VH} {ks : List Nat} {cs : List V}, MlR H ks cs m -> pcu id_impl_SpeakMail H [.agg cs] = some (.tup [.sl true (vT (spokeL m)), .bool (spokeB m)]) := fun h =>
   pcu_fr (by simp only [List.map_cons, List.map_nil, h.frD 2]; exact hnp) (by simp only [List.map_cons, List.map_nil, h.frD 2]; exact c2) hown
  generalize spokeL m = n at *
  generalize spokeB m = b at *
  simp only [evv, cM_e, s1', h1]
  refine (toMail_g m km []).bind ?_
  rintro _ G1 ⟨cs1, ks1, X1, rfl, -, r1, -, -⟩
  have q1 := psp r1
  obtain ⟨v1, w1, _, _, rfl, -⟩ := id r1
  simp only [evv, q1, vT_strip]
  refine (toMail_g m km G1).bind ?_
  rintro _ _ ⟨cs2, ks2, X2, rfl, rfl, r2, n2, b2⟩
  have r2s := r2.strip
  have q2 := pim r2s
  obtain ⟨v2, w2, _, _, rfl, -⟩ := id r2
  simp only [stripL, strip] at q2 r2s
  simp only [evv, q2]
  refine Gets.promT fun v3 ks3 X3 r3 b3 => ?_
  have r3s := r3.strip
  have r2a := r2s.app X3 fun j hj => (b2 j hj).2
  have e3 := eqStringS_o n r3s (by omega)
  rw [decide_eq_true rfl] at e3
  generalize hG3 : G1 ++ X2 ++ X3 = G3 at *
  simp only [evv, e3]
  refine (toMail_g m km G3).bind ?_
  rintro _ _ ⟨cs4, ks4, X4, rfl, rfl, r4, -, -⟩
  have r2b := r2a.app X4 fun j hj => by have := (b2 j hj).2; rw [<- hG3]; simp at this ⊢; omega
  have e4 := eqMail_oo r2b r4 km
  rw [decide_eq_true rfl] at e4
  simp only [evv, e4]
  refine (markMail_g r2b n2 1 (by have := km.2.1.1; have := km.2.2.1; omega)).bind ?_
  rintro _ G5 ⟨rfl, -, f5, l5⟩
  have r3b : TxR G5 ks3 _ n := (r3s.app X4 fun j hj => (b3 j hj).2).mono fun j hj => f5 j fun hj2 => by have := (b3 j hj).1; have := (b2 j hj2).2; omega
  have e5 := eqStringS_o n r3b (by omega)
  rw [decide_eq_true rfl] at e5
  simp only [evv, e5, show ¬ (((1 + m.to.length + m.lines.length : Nat) : Int) < 0) from by omega]
  refine (markStringS_g r3b 1 (by omega)).bind ?_
  rintro _ G6 ⟨rfl, r6, -, l6⟩
  have e6 := heldStringS_o r6 (by omega)
  rw [show ((1 : Nat) : Int) = 1 from rfl] at e6
  simp only [evv, e6, show ¬ (((1 + n.length : Nat) : Int) < 0) from by omega]
  refine (toMail_g m km G6).bind ?_
  rintro _ _ ⟨cs7, ks7, X7, rfl, rfl, r7, -, -⟩
  have q7 := pim r7
  simp only [evv, q7]
  refine Gets.promT fun v8 ks8 X8 r8 b8 => ?_
  have e8 := eqStringS_o n r8.strip (by omega)
  rw [decide_eq_true rfl] at e8
  have r9 := (r6.app X7 fun j hj => by have := (b3 j hj).2; rw [l6, l5]; simp at this ⊢; omega).app X8 fun j hj => by have := (b3 j hj).2; simp only [List.length_append, l6, l5] at this ⊢; omega
  have e9 := heldStringS_o r9 (by omega)
  rw [show ((1 : Nat) : Int) = 1 from rfl] at e9
  simp only [evv, e8, e9, show ¬ (((1 + n.length : Nat) : Int) < 0) from by omega]
  exact Gets.here rfl
end Go.Proofs.YtjobinbeggkliabDoor.Q

/- Contracts: the laws that mark what they get. -/
import Derived.Test.YtjobinbeggkliabDoorExactNormalMailCb1marksZ
import Derived.Test.YtjobinbeggkliabDoorFnExactNormalMailK4
namespace Go.Proofs.YtjobinbeggkliabDoor.Q
open Go Go.AM
set_option linter.unusedSimpArgs false
set_option linter.unusedVariables false
set_option linter.unusedSectionVars false
theorem ouL_id {g : VH -> V -> Option (V × VH)} (hg : ∀ H v, ownA v = true -> g H v = some (v, H)) : ∀ (vs : List V) (H : VH), ownAL vs = true -> ouL g H vs = some (vs, H)
 | [], _, _ => rfl
 | v :: vs, H, h => by
   simp only [ownAL, Bool.and_eq_true] at h
   simp only [ouL, hg H v h.1, ouL_id hg vs H h.2, Option.bind_some]
theorem ou_id : ∀ (d : Nat) (H : VH) (v : V), ownA v = true -> ou d H v = some (v, H)
 | 0, H, v, h => by simp only [ou, h]
 | d + 1, H, v, h => by
   cases v with
   | obs => simp [ownA] at h
   | agg vs => simp only [ownA] at h; simp only [ou, ouL_id (ou_id d) vs H h, Option.bind_some]
   | tup vs => simp only [ownA] at h; simp only [ou, ouL_id (ou_id d) vs H h, Option.bind_some]
   | _ => simp only [ou, h]
theorem pco_fr {f : FuncId} {H : VH} {vs : List V} {v : V} (h : noObsL vs = true -> dataL vs = true) (hp : pc f (vs.map (frD 3 H)) = some v) (ho : ownA v = true) : pco f H vs = some v := by
 show pcallO cv f H vs = some v
 cases hn : noObsL vs with
 | true =>
   rw [pcallO_d (h hn), <- map_frD (d := 3) (H := H) (h hn)]
   exact hp
 | false =>
   unfold pcallO
   rw [hn]
   show (pc f (vs.map (frD 3 H))).bind _ = _
   rw [hp]
   simp only [Option.bind_some, ho]
theorem pcu_fr {f : FuncId} {H H' : VH} {vs : List V} {v : V} (hn : noPtrL (vs.map (frD 3 H)) = true) (hc : cv f (vs.map (frD 3 H)) [] = some (v, H')) (ho : ownA v = true) : pcu f H vs = some v := by
 show pcallU cv f H vs = some v
 unfold pcallU
 rw [hn]
 show (cv f (vs.map (frD 3 H)) []).bind _ = _
 rw [hc]
 simp only [Option.bind_some, ouR, ou_id 6 H' v ho, ho]
theorem MlR.app {H : VH} {ks : List Nat} {cs : List V} {m : Mail} (X : VH) (h : MlR H ks cs m) (hk : ∀ j ∈ ks, j < H.length) : MlR (H ++ X) ks cs m :=
 h.mono fun j hj => by rw [List.getElem?_append_left (hk j hj)]
theorem frD_cM (d : Nat) (H : VH) (m : Mail) : frD d H (.agg (cM m)) = .agg (cM m) := by
 rw [frD_data _ _ _ (by simp only [data, cM_e, dataL, vT_data, Bool.and_self])]
 simp only [strip, cM_e, stripL, vT_strip]
theorem eqMail_o {H : VH} {ks : List Nat} {cs : List V} {m n : Mail} (h : MlR H ks cs m) (hm : SmM m) : qco id_laws_eqMail H [.agg cs, .agg (cM n)] = some (.bool (decide (m = n))) := by
 rw [qco_fr (fun hn => by
  simp only [noObsL, Bool.and_eq_true] at hn
  simp only [dataL, h.nd hn.1, Bool.true_and]
  simp only [data, cM_e, dataL, vT_data, Bool.and_self])]
 simp only [List.map_cons, List.map_nil, h.frD 2, frD_cM]
 exact eqMail_c m n hm
theorem eqMail_oo {H : VH} {ks ls : List Nat} {cs ds : List V} {m n : Mail} (h : MlR H ks cs m) (g : MlR H ls ds n) (hm : SmM m) : qco id_laws_eqMail H [.agg cs, .agg ds] = some (.bool (decide (m = n))) := by
 rw [qco_fr (fun hn => by
  simp only [noObsL, Bool.and_eq_true] at hn
  simp only [dataL, h.nd hn.1, g.nd hn.2.1, Bool.and_self])]
 simp only [List.map_cons, List.map_nil, h.frD 2, g.frD 2]
 exact eqMail_c m n hm
theorem heldMail_o {H : VH} {ks : List Nat} {cs : List V} {m : Mail} {k : Nat} (h : MlR H ks cs (mkM k m)) (hk : k + m.to.length + m.lines.length <= 1000000000000) : qco id_laws_heldMail H [.agg cs, .int .i64 (k : Nat)] = some (.int .i64 ((k + m.to.length + m.lines.length : Nat) : Int)) := by
 rw [qco_fr (fun hn => by
  simp only [noObsL, Bool.and_eq_true] at hn
  have q := h.nd hn.1
  show (data (.agg cs) && (data (.int .i64 (k : Nat)) && true)) = true
  rw [q]; rfl)]
 simp only [List.map_cons, List.map_nil, h.frD 2, frD_data 3 H (.int .i64 (k : Nat)) rfl, strip]
 exact heldMail_c k m hk
theorem vT_ownA : ∀ l : List Bs, ownALL (vT l) = true
 | [] => rfl
 | m :: l => by
   show (ownAL [.str m] && ownALL (vT l)) = true
   rw [vT_ownA l]; rfl
theorem cO_own (m : Mail) : ownA (.agg (cO m)) = true := by simp only [ownA, cO_e, ownAL, Bool.true_or, Bool.true_and, Bool.and_true, vT_ownA]
theorem prom_cO (d : Nat) (n : Mail) (H : VH) : ∃ cs ks G, prom (d + 1) H (.agg (cO n)) = (.agg cs, H ++ G) /\ MlR (H ++ G) ks cs n /\ ks.Nodup /\ ∀ j ∈ ks, H.length <= j /\ j < (H ++ G).length := by
 obtain ⟨k1, v, G1, e1, a1, a2⟩ := prom_vT d n.to H
 obtain ⟨k2, w, G2, e2, b1, b2⟩ := prom_vT d n.lines (H ++ G1)
 refine ⟨[.str n.from_, v, w], k1 ++ k2, G1 ++ G2, ?_, ⟨v, w, k1, k2, rfl, rfl, a1.mono fun j hj => ?_, by rw [<- List.append_assoc]; exact b1⟩, ?_, fun j hj => ?_⟩
 ·have ps : prom (d + 1) H (.str n.from_) = (.str n.from_, H) := by simp only [prom]
  have p0 : promL (d + 1) H (cO n) = ([.str n.from_, v, w], H ++ G1 ++ G2) := by
   rw [cO_e]
   simp only [promL, ps, e1, e2]
  rw [prom, p0, List.append_assoc]
 ·rw [<- List.append_assoc, List.getElem?_append_left (a2 j hj).2]
 ·rw [List.nodup_append]
  exact ⟨a1.nod, b1.nod, fun a ha b hb => by have := a2 a ha; have := b2 b hb; omega⟩
 ·rcases List.mem_append.1 hj with hj | hj
  ·have := a2 j hj; simp at this ⊢; omega
  ·have := b2 j hj; simp at this ⊢; omega
theorem promB_mail {R : Type} (n : Mail) (b : Bool) (H : VH) (K : V -> VH -> Option R) : ∃ cs ks G, promB 3 (.tup [.agg (cO n), .bool b]) H K = K (.tup [.agg cs, .bool b]) (H ++ G) /\ MlR (H ++ G) ks cs n /\ ks.Nodup /\ ∀ j ∈ ks, H.length <= j /\ j < (H ++ G).length := by
 obtain ⟨cs, ks, G, e, h1, h2, h3⟩ := prom_cO 2 n H
 refine ⟨cs, ks, G, ?_, h1, h2, h3⟩
 unfold promB
 have ho : ownA (.tup [.agg (cO n), .bool b]) = true := by
  show (ownA (.agg (cO n)) && (ownA (.bool b) && true)) = true
  rw [cO_own n]; rfl
 have pb : ∀ G, prom 3 G (.bool b) = (.bool b, G) := fun G => by simp only [prom]
 have p0 : prom 3 H (.tup [.agg (cO n), .bool b]) = (.tup [.agg cs, .bool b], H ++ G) := by
  rw [prom]
  simp only [promL, e, pb]
 rw [ho, p0]
theorem Gets.promM {R T : Type} {n : Mail} {b : Bool} {H : VH} {K : V -> VH -> Option R} {Q : R -> Prop} (h : ∀ cs ks G, MlR (H ++ G) ks cs n -> ks.Nodup -> (∀ j ∈ ks, H.length <= j /\ j < (H ++ G).length) -> Gets (K (.tup [.agg cs, .bool b]) (H ++ G)) Q) : Gets (promB 3 (.tup [.agg (cO n), .bool b]) H K) Q := by
 obtain ⟨cs, ks, G, e, h1, h2, h3⟩ := promB_mail n b H K
 rw [e]
 exact h cs ks G h1 h2 h3
theorem norR_sm {m : Mail} (h : SmM m) : SmM (norR m) := by
 unfold norR
 split
 ·have hl := (normA_len (l := m.to) (acc := [])).2
  refine ⟨h.1, ⟨by have := h.2.1.1; simp [norM] at hl ⊢; omega, fun s hs => ?_⟩, h.2.2⟩
  rcases normA_mem.1 hs with hs | hs
  ·simp at hs
  ·exact h.2.1.2 s hs
 ·exact ⟨by simp, ⟨by simp, by simp⟩, ⟨by simp, by simp⟩⟩
theorem FnExactNormalMail_v (u : V) (hu : HasArg tyM u) : ∃ H, cv id_laws_FnExactNormalMail [u] [] = some (.bool true, H) := by
 obtain ⟨m, rfl, hm⟩ := argM hu
 have s1 := szMail_c m 1048576 (by omega) (by omega) hm.1 hm.2.1.1 hm.2.1.2 hm.2.2.1 hm.2.2.2
 suffices hg : Gets (cv id_laws_FnExactNormalMail [.agg (cM m)] []) fun r => r.1 = .bool true by
  obtain ⟨⟨v, H⟩, e, h⟩ := hg
  cases h
  exact ⟨H, e⟩
 have s1' : qco id_laws_szMail [] [.agg (cM m), .int .i64 1048576] = some (.int .i64 (szM m 1048576)) := by
  rw [qco_fr (fun _ => by simp only [data, cM_e, dataL, vT_data, Bool.and_self])]
  simp only [List.map_cons, List.map_nil, frD_cM, frD_data 3 [] (.int .i64 1048576) rfl, strip]
  exact s1
 rw [laws_FnExactNormalMail_eq]
 simp only [cM_e] at s1'
 by_cases h1 : szM m 1048576 < 0
 ·simp only [evv, cM_e, s1', h1]; exact Gets.here rfl
 ·have km : SmM m := SmM.of (n := 1048576) (by omega) (by omega) (by omega)
  have kn := norR_sm km
  have hto := kn.2.1.1
  have hli := kn.2.2.1
  have hasm : AsM (.agg (cM m)) m := ⟨_, _, by rw [cM_e], by simp only [strip, vT_strip], by simp only [strip, vT_strip]⟩
  obtain ⟨_, Gs, c1, rfl, _⟩ := spec_NormalMail_g m (.agg (cM m)) [] hasm km
  obtain ⟨_, Gi, c2, rfl, _⟩ := impl_NormalMail_g m (.agg (cM m)) [] hasm km
  have hown : ownA (.tup [.agg (cO (norR m)), .bool (mailT m 1 30)]) = true := by simp only [ownA, ownAL, Bool.and_true]; exact cO_own _
  have hnp : noPtrL [V.agg (cM m)] = true := by simp only [evv, cM_e]
  have hpc : pc id_spec_NormalMail [.agg (cM m)] = some (.tup [.agg (cO (norR m)), .bool (mailT m 1 30)]) := pc_of c1 hnp (by simp only [data, dataL, cO_e, vT_data, Bool.and_self])
  have psp : ∀ {H : VH} {ks : List Nat} {cs : List V}, MlR H ks cs m -> pco id_spec_NormalMail H [.agg cs] = some (.tup [.agg (cO (norR m)), .bool (mailT m 1 30)]) := fun h =>
   pco_fr (fun hn => by simp only [noObsL, Bool.and_eq_true] at hn; simp only [dataL, h.nd hn.1, Bool.and_self]) (by simp only [List.map_cons, List.map_nil, h.frD 2]; exact hpc) hown
  have pim : ∀ {H : VH} {ks : List Nat} {cs : List V}, MlR H ks cs m -> pcu id_impl_NormalMail H [.agg cs] = some (.tup [.agg (cO (norR m)), .bool (mailT m 1 30)]) := fun h =>
   pcu_fr (by simp only [List.map_cons, List.map_nil, h.frD 2]; exact hnp) (by simp only [List.map_cons, List.map_nil, h.frD 2]; exact c2) hown
  generalize norR m = n at *
  generalize mailT m 1 30 = b at *
  simp only [evv, cM_e, s1', h1]
  refine (toMail_g m km []).bind ?_
  rintro _ G1 ⟨cs1, ks1, X1, rfl, -, r1, -, -⟩
  have q1 := psp r1
  obtain ⟨v1, w1, _, _, rfl, -⟩ := id r1
  simp only [evv, q1, cO_e, vT_strip]
  refine (toMail_g m km G1).bind ?_
  rintro _ _ ⟨cs2, ks2, X2, rfl, rfl, r2, n2, b2⟩
  have q2 := pim r2
  have r2s := r2.strip
  obtain ⟨v2, w2, _, _, rfl, -⟩ := id r2
  simp only [evv, q2]
  refine Gets.promM (T := Unit) fun cs3 ks3 X3 r3 n3 b3 => ?_
  have r3s := r3.strip
  have r2a := r2s.app X3 fun j hj => (b2 j hj).2
  have e3 := eqMail_o (n := n) r3s kn
  rw [decide_eq_true rfl] at e3
  obtain ⟨v3, w3, _, _, rfl, -⟩ := id r3
  generalize hG3 : G1 ++ X2 ++ X3 = G3 at *
  simp only [stripL, cM_e, strip, strip_strip] at e3 r3s r2a
  simp only [evv, e3]
  refine (toMail_g m km G3).bind ?_
  rintro _ _ ⟨cs4, ks4, X4, rfl, rfl, r4, -, -⟩
  have r2b := r2a.app X4 fun j hj => by have := (b2 j hj).2; rw [<- hG3]; simp at this ⊢; omega
  have e4 := eqMail_oo r2b r4 km
  rw [decide_eq_true rfl] at e4
  simp only [evv, e4]
  refine (markMail_g r2b n2 1 (by have := km.2.1.1; have := km.2.2.1; omega)).bind ?_
  rintro _ G5 ⟨rfl, -, f5, l5⟩
  have r3b : MlR G5 ks3 _ n := (r3s.app X4 fun j hj => (b3 j hj).2).mono fun j hj => f5 j fun hj2 => by have := (b3 j hj).1; have := (b2 j hj2).2; omega
  have e5 := eqMail_o (n := n) r3b kn
  rw [decide_eq_true rfl] at e5
  simp only [cM_e] at e5
  simp only [evv, e5, show ¬ (((1 + m.to.length + m.lines.length : Nat) : Int) < 0) from by omega]
  refine (markMail_g r3b n3 1 (by omega)).bind ?_
  rintro _ G6 ⟨rfl, r6, -, l6⟩
  simp only [stripL, strip, strip_strip] at r6
  have e6 := heldMail_o r6 (by omega)
  rw [show ((1 : Nat) : Int) = 1 from rfl] at e6
  simp only [evv, e6, show ¬ (((1 + n.to.length + n.lines.length : Nat) : Int) < 0) from by omega]
  refine (toMail_g m km G6).bind ?_
  rintro _ _ ⟨cs7, ks7, X7, rfl, rfl, r7, -, -⟩
  have q7 := pim r7
  simp only [evv, q7]
  refine Gets.promM (T := Unit) fun cs8 ks8 X8 r8 n8 b8 => ?_
  have e8 := eqMail_o (n := n) r8.strip kn
  rw [decide_eq_true rfl] at e8
  obtain ⟨v8, w8, _, _, rfl, -⟩ := id r8
  simp only [stripL, cM_e, strip, strip_strip] at e8
  have r9 := (r6.app X7 fun j hj => by have := (b3 j hj).2; rw [l6, l5]; simp at this ⊢; omega).app X8 fun j hj => by have := (b3 j hj).2; simp only [List.length_append, l6, l5] at this ⊢; omega
  have e9 := heldMail_o r9 (by omega)
  rw [show ((1 : Nat) : Int) = 1 from rfl] at e9
  simp only [evv, e8, e9, show ¬ (((1 + n.to.length + n.lines.length : Nat) : Int) < 0) from by omega]
  exact Gets.here rfl
end Go.Proofs.YtjobinbeggkliabDoor.Q

/- Contracts: the law of mails that come, with marks. -/
import Derived.Test.YtikpckcdpmjpgabGreatDoorExactDeliverMailCb8intsZ
import Derived.Test.YtikpckcdpmjpgabGreatDoorFnExactDeliverMailK4
namespace Go.Proofs.YtikpckcdpmjpgabGreatDoor.Q
open Go Go.AM
set_option linter.unusedSimpArgs false
set_option linter.unusedVariables false
set_option linter.unusedSectionVars false
theorem InR.app {H : VH} {ks : List Nat} {v : V} {l : List Int} (X : VH) (h : InR H ks v l) (hk : ∀ j ∈ ks, j < H.length) : InR (H ++ X) ks v l :=
 h.mono IR.Mon fun j hj => by rw [List.getElem?_append_left (hk j hj)]
theorem Gets.promD {R : Type} {l : List Box} {c : List Int} {b : Bool} {H : VH} {K : V -> VH -> Option R} {Q : R -> Prop} (h : ∀ v i ks ls G, BsR (H ++ G) ks v l -> InR (H ++ G) ls i c -> ks.Nodup -> (∀ j ∈ ks, H.length <= j /\ j < (H ++ G).length) -> (∀ j ∈ ls, H.length <= j /\ j < (H ++ G).length) -> (∀ j ∈ ks, j ∉ ls) -> Gets (K (.tup [v, i, .bool b]) (H ++ G)) Q) : Gets (promB 3 (.tup [.sl true (vOX l), .sl true (vI .i64 c), .bool b]) H K) Q := by
 obtain ⟨ks, v, G, e, h1, h2, h3⟩ := prom_vOX 0 l H
 obtain ⟨ls, i, G2, e2, i1, i2, i3⟩ := prom_vI 2 c (H ++ G)
 have hio : ∀ l : List Int, ownALL (vI .i64 l) = true := by
  intro l
  induction l with
  | nil => rfl
  | cons n l ih =>
    show (ownAL [V.int .i64 n] && ownALL (vI .i64 l)) = true
    rw [ih]; rfl
 have ho : ownA (.tup [.sl true (vOX l), .sl true (vI .i64 c), .bool b]) = true := by simp only [ownA, ownAL, vOX_own, hio, Bool.true_or, Bool.and_self]
 have pb : ∀ G, prom 3 G (.bool b) = (.bool b, G) := fun G => by simp only [prom]
 have p0 : prom 3 H (.tup [.sl true (vOX l), .sl true (vI .i64 c), .bool b]) = (.tup [v, i, .bool b], H ++ (G ++ G2)) := by
  rw [prom]
  simp only [promL, e, e2, pb, List.append_assoc]
 unfold promB
 rw [ho, p0]
 have h1' := BsR.app G2 h1 fun j hj => (h3 j hj).2
 rw [List.append_assoc] at h1' i1
 refine h v i ks ls (G ++ G2) h1' i1 h2 (fun j hj => ?_) (fun j hj => ?_) (fun j hj hj2 => ?_)
 ·have := h3 j hj; simp at this ⊢; omega
 ·have := i3 j hj; simp at this ⊢; omega
 ·have := h3 j hj; have := i3 j hj2; omega
theorem ouR_D {v : V} {H : VH} {l : List Box} {c : List Int} {b : Bool} (h : HoX v H l) : ouR H (.tup [v, .sl true (vI .i64 c), .bool b]) = some (.tup [.sl true (vOX l), .sl true (vI .i64 c), .bool b]) := by
 obtain ⟨H', e⟩ := ou_HoX (d := 3) h
 have hio : ∀ l : List Int, ownALL (vI .i64 l) = true := by
  intro l
  induction l with
  | nil => rfl
  | cons n l ih =>
    show (ownAL [V.int .i64 n] && ownALL (vI .i64 l)) = true
    rw [ih]; rfl
 have hi : ownA (.sl true (vI .i64 c)) = true := by simp only [ownA, hio, Bool.true_or, Bool.and_self]
 unfold ouR
 rw [show ou 6 H (.tup [v, .sl true (vI .i64 c), .bool b]) = (ouL (ou 5) H [v, .sl true (vI .i64 c), .bool b]).bind fun r => some (.tup r.1, r.2) from rfl]
 simp only [ouL, e, ou_id 5 H' (.bool b) rfl, ou_id 5 H' _ hi, Option.bind_some]
 simp only [ownA, ownAL, vOX_own, hio, Bool.true_or, Bool.and_self]
theorem FnExactDeliverMail_v (u v : V) (hu : HasArg tyXs u) (hv : HasArg tyM v) : ∃ H, cv id_laws_FnExactDeliverMail [u, v] [] = some (.bool true, H) := by
 obtain ⟨l, rfl, hla⟩ := argXs hu
 obtain ⟨m, rfl, hm⟩ := argM hv
 have s1 := szBoxS_c l 1048576 (by omega) (by omega) hla
 suffices hg : Gets (cv id_laws_FnExactDeliverMail [.sl false (vR eX l), .agg (cM m)] []) fun r => r.1 = .bool true by
  obtain ⟨⟨v, H⟩, e, h⟩ := hg
  cases h
  exact ⟨H, e⟩
 have s1' : qco id_laws_szBoxS [] [.sl false (vR eX l), .int .i64 1048576] = some (.int .i64 (szXs l 1048576)) := by
  rw [qco_fr (fun _ => by
   show (data (.sl false (vR eX l)) && (data (.int .i64 1048576) && true)) = true
   rw [vX_dat]; rfl)]
  simp only [List.map_cons, List.map_nil, frD_vX, frD_data 3 [] (.int .i64 1048576) rfl, strip]
  exact s1
 rw [laws_FnExactDeliverMail_eq]
 by_cases h0 : szXs l 1048576 < 0
 ·simp only [evv, cM_e, vR_strip, s1', h0]; exact Gets.here rfl
 have s2 := szMail_c m (szXs l 1048576) (by omega) (szXs_le (by omega)) hm.1 hm.2.1.1 hm.2.1.2 hm.2.2.1 hm.2.2.2
 have s2' : qco id_laws_szMail [] [.agg (cM m), .int .i64 (szXs l 1048576)] = some (.int .i64 (szM m (szXs l 1048576))) := by
  rw [qco_fr (fun _ => by simp only [data, cM_e, dataL, vT_data, Bool.and_self])]
  simp only [List.map_cons, List.map_nil, frD_cM, frD_data 3 [] (.int .i64 (szXs l 1048576)) rfl, strip]
  exact s2
 simp only [cM_e] at s2'
 by_cases h1 : szM m (szXs l 1048576) < 0
 ·simp only [evv, cM_e, vR_strip, s1', s2', h0, h1]; exact Gets.here rfl
 ·have kl : SmXs l := SmXs.of (n := 1048576) (by omega) (by omega) (by omega)
  have km : SmM m := SmM.of (n := szXs l 1048576) (by omega) (szXs_le (by omega)) (by omega)
  have hp : ∀ b ∈ l, b.path.length <= 1048576 := fun b hb => (kl.2 b hb).1
  have ht : ∀ t ∈ m.to, t.length <= 1048576 := km.2.1.2
  have kn := (dlvR_sm kl hp km ht).sm (by omega)
  have zl := szBk_sm kl
  have zn := szBk_sm kn
  have hto := km.2.1.1
  have hli := km.2.2.1
  have hcl : (dlvR l m).2.length <= 1000 := by
   unfold dlvR
   by_cases hb : (boxesT l && mailT m 1 30) = true
   ·rw [hb]
    rw [Bool.and_eq_true] at hb
    have := mailT_to hb.2
    have := (dlN_len m m.to (l, [])).1
    simp at this ⊢; omega
   ·have : (boxesT l && mailT m 1 30) = false := by simpa using hb
    rw [this]; simp
  have hpc := spec_DeliverMail_c l m kl hp km ht
  have hio : ∀ l : List Int, ownALL (vI .i64 l) = true := by
   intro l
   induction l with
   | nil => rfl
   | cons n l ih =>
     show (ownAL [V.int .i64 n] && ownALL (vI .i64 l)) = true
     rw [ih]; rfl
  have hown : ownA (.tup [.sl true (vOX (dlvR l m).1), .sl true (vI .i64 (dlvR l m).2), .bool (dlvB l m)]) = true := by simp only [ownA, ownAL, vOX_own, hio, Bool.true_or, Bool.and_self]
  have psp : ∀ {H : VH} {ks ls : List Nat} {v : V} {cs : List V}, BsR H ks v l -> MlR H ls cs m -> pco id_spec_DeliverMail H [v, .agg cs] = some (.tup [.sl true (vOX (dlvR l m).1), .sl true (vI .i64 (dlvR l m).2), .bool (dlvB l m)]) := fun h g =>
   pco_fr (fun hn => by simp only [noObsL, Bool.and_eq_true] at hn; simp only [dataL, h.nd hn.1, g.nd hn.2.1, Bool.and_self]) (by simp only [List.map_cons, List.map_nil, bs_frD3 h, g.frD 2]; exact hpc) hown
  have pim : ∀ {H : VH} {ks ls : List Nat} {v : V} {cs : List V}, BsR H ks v l -> MlR H ls cs m -> pcu id_impl_DeliverMail H [v, .agg cs] = some (.tup [.sl true (vOX (dlvR l m).1), .sl true (vI .i64 (dlvR l m).2), .bool (dlvB l m)]) := fun h g => by
   obtain ⟨r, H', e, hq⟩ := impl_Deliver_g l m kl hp km ht
   refine pcu_of (w := .tup [.sl true (vOX (dlvR l m).1), .sl true (vI .i64 (dlvR l m).2), .bool (dlvB l m)]) (by simp only [List.map_cons, List.map_nil, bs_frD3 h, g.frD 2]; simp only [evv, cM_e]) (by simp only [List.map_cons, List.map_nil, bs_frD3 h, g.frD 2]; exact e) ?_
   rcases hq with ⟨hf, rfl⟩ | ⟨hf, o, rfl, ho⟩
   ·have : dlvR l m = ([], []) := by unfold dlvR; unfold dlvB at hf; rw [hf]; rfl
    rw [this, hf]
    exact ouR_D (v := .sl true []) (l := []) (c := []) (.inl ⟨rfl, rfl⟩)
   ·rw [hf]
    exact ouR_D ho
  generalize (dlvR l m).1 = n at *
  generalize (dlvR l m).2 = c at *
  generalize dlvB l m = b at *
  simp only [evv, cM_e, vR_strip, s1', s2', h0, h1]
  refine (toBoxS_g l kl []).bind ?_
  rintro v1 G1 ⟨ks1, X1, rfl, r1, -, b1⟩
  simp only [evv, vT_strip]
  refine (toMail_g m km _).bind ?_
  rintro _ _ ⟨cs1, ls1, Y1, rfl, rfl, t1, -, -⟩
  have q1 := psp (BsR.app Y1 r1 fun j hj => (b1 j hj).2) t1
  simp only [evv, q1, vOX_strip, vI_strip', vT_strip]
  refine (toBoxS_g l kl _).bind ?_
  rintro v2 _ ⟨ks2, X2, rfl, r2, n2, b2⟩
  simp only [evv, vT_strip]
  refine (toMail_g m km _).bind ?_
  rintro _ _ ⟨cs2, ls2, Y2, rfl, rfl, t2, m2, d2⟩
  have r2s := BsR.app Y2 r2.strip fun j hj => (b2 j hj).2
  have t2s := t2.strip
  have q2 := pim r2s t2s
  obtain ⟨w1, w2, _, _, rfl, -⟩ := id t2
  simp only [stripL, strip] at q2 t2s
  simp only [evv, q2]
  refine Gets.promD fun v3 i3 ks3 ls3 X3 r3 j3 n3 b3 c3 dj => ?_
  have r3s := r3.strip
  have j3s := j3.strip
  have r2a := BsR.app X3 r2s fun j hj => by have := (b2 j hj).2; simp at this ⊢; omega
  have t2a := t2s.app X3 fun j hj => (d2 j hj).2
  have e3 := eqBoxS_o n r3s kn
  have f3 := eqIntS_o c j3s (by omega)
  rw [decide_eq_true rfl] at e3 f3
  have hsep : ∀ j, (j ∈ ks3 ∨ j ∈ ls3) -> j ∉ ks2 /\ j ∉ ls2 := fun j hj => by
   have h1 : (G1 ++ Y1 ++ X2 ++ Y2).length <= j := by
    rcases hj with hj | hj
    ·exact (b3 j hj).1
    ·exact (c3 j hj).1
   exact ⟨fun hk => by have := (b2 j hk).2; simp at this h1; omega, fun hk => by have := (d2 j hk).2; simp at this h1; omega⟩
  have hsep2 : ∀ j ∈ ls2, j ∉ ks2 := fun j hj hk => by have := (b2 j hk).2; have := (d2 j hj).1; omega
  generalize hG3 : G1 ++ Y1 ++ X2 ++ Y2 ++ X3 = G3 at *
  have l3 : ∀ j, (j ∈ ks2 ∨ j ∈ ls2) -> j < G3.length := fun j hj => by
   rw [<- hG3]
   rcases hj with hj | hj
   ·have := (b2 j hj).2; simp at this ⊢; omega
   ·have := (d2 j hj).2; simp at this ⊢; omega
  simp only [evv, e3, f3]
  refine (toBoxS_g l kl G3).bind ?_
  rintro v4 _ ⟨ks4, X4, rfl, r4, -, -⟩
  have e4 := eqBoxS_oo (BsR.app X4 r2a fun j hj => l3 j (.inl hj)) r4 kl
  rw [decide_eq_true rfl] at e4
  simp only [evv, e4, vT_strip]
  refine (toMail_g m km _).bind ?_
  rintro _ _ ⟨cs4, ls4, Y4, rfl, rfl, t4, -, -⟩
  have t2b := (t2a.app X4 fun j hj => l3 j (.inr hj)).app Y4 fun j hj => by have := l3 j (.inr hj); simp; omega
  have r2b := BsR.app Y4 (BsR.app X4 r2a fun j hj => l3 j (.inl hj)) fun j hj => by have := l3 j (.inl hj); simp; omega
  have g4 := eqMail_oo t2b t4 km
  rw [decide_eq_true rfl] at g4
  simp only [evv, g4]
  have r3b := BsR.app Y4 (BsR.app X4 r3s fun j hj => (b3 j hj).2) fun j hj => by have := (b3 j hj).2; simp at this ⊢; omega
  have j3b := InR.app Y4 (InR.app X4 j3s fun j hj => (c3 j hj).2) fun j hj => by have := (c3 j hj).2; simp at this ⊢; omega
  have hlen4 : G3.length <= (G3 ++ X4 ++ Y4).length := by simp only [List.length_append]; omega
  generalize G3 ++ X4 ++ Y4 = G4 at *
  refine (markBoxS_g r2b n2 1 (by omega)).bind ?_
  rintro _ G5 ⟨rfl, -, f5, l5⟩
  simp only [evv]
  refine (markMail_g (t2b.mono fun j hj => f5 j (hsep2 j hj)) m2 (1 + szBk l) (by omega)).bind ?_
  rintro _ G6 ⟨rfl, -, f6, l6⟩
  have r3c := r3b.mono BoR.Mon (H' := G6) fun j hj => by rw [f6 j (hsep j (.inl hj)).2, f5 j (hsep j (.inl hj)).1]
  have j3c := j3b.mono IR.Mon (H' := G6) fun j hj => by rw [f6 j (hsep j (.inr hj)).2, f5 j (hsep j (.inr hj)).1]
  have e6 := eqBoxS_o n r3c kn
  have g6 := eqIntS_o c j3c (by omega)
  rw [decide_eq_true rfl] at e6 g6
  simp only [evv, e6, g6, show ¬ (((1 + szBk l + m.to.length + m.lines.length : Nat) : Int) < 0) from by omega]
  refine (markBoxS_g r3c n3 1 (by omega)).bind ?_
  rintro _ G7 ⟨rfl, r7, f7, l7⟩
  simp only [evv]
  refine (markIntS_g (j3c.mono IR.Mon fun j hj => f7 j fun hk => dj j hk hj) (1 + szBk n) (by omega)).bind ?_
  rintro _ G8 ⟨rfl, j8, f8, l8⟩
  have r8 := r7.mono BoR.Mon (H' := G8) fun j hj => f8 j (dj j hj)
  have e8 := heldBoxS_o r8 (by omega)
  have g8 := heldIntS_o j8 (by omega)
  rw [show ((1 : Nat) : Int) = 1 from rfl] at e8
  simp only [evv, e8, g8, show ¬ (((1 + szBk n : Nat) : Int) < 0) from by omega, show ¬ (((1 + szBk n + c.length : Nat) : Int) < 0) from by omega, vR_strip]
  refine (toBoxS_g l kl G8).bind ?_
  rintro v9 _ ⟨ks9, X9, rfl, r9, -, b9⟩
  simp only [evv, vT_strip]
  refine (toMail_g m km _).bind ?_
  rintro _ _ ⟨cs9, ls9, Y9, rfl, rfl, t9, -, -⟩
  have q9 := pim (BsR.app Y9 r9 fun j hj => (b9 j hj).2) t9
  simp only [evv, q9]
  refine Gets.promD fun v10 i10 ks10 ls10 X10 r10 j10 n10 b10 c10 dj10 => ?_
  have e10 := eqBoxS_o n r10.strip kn
  have f10 := eqIntS_o c j10.strip (by omega)
  rw [decide_eq_true rfl] at e10 f10
  have hl8 : G3.length <= G8.length := by omega
  have r11 := BsR.app X10 (BsR.app Y9 (BsR.app X9 r8 fun j hj => by have := (b3 j hj).2; omega) fun j hj => by have := (b3 j hj).2; simp; omega) fun j hj => by have := (b3 j hj).2; simp; omega
  have j11 := InR.app X10 (InR.app Y9 (InR.app X9 j8 fun j hj => by have := (c3 j hj).2; omega) fun j hj => by have := (c3 j hj).2; simp; omega) fun j hj => by have := (c3 j hj).2; simp; omega
  have e11 := heldBoxS_o r11 (by omega)
  have g11 := heldIntS_o j11 (by omega)
  rw [show ((1 : Nat) : Int) = 1 from rfl] at e11
  simp only [evv, e10, f10, e11, g11, show ¬ (((1 + szBk n : Nat) : Int) < 0) from by omega, show ¬ (((1 + szBk n + c.length : Nat) : Int) < 0) from by omega]
  exact Gets.here rfl
end Go.Proofs.YtikpckcdpmjpgabGreatDoor.Q

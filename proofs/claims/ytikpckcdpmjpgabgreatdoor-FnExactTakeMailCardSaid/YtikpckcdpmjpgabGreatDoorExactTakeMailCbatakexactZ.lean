/- Contracts: the law of mails that are taken, with marks. -/
import Derived.Test.YtikpckcdpmjpgabGreatDoorExactTakeMailCb7boxexactZ
import Derived.Test.YtikpckcdpmjpgabGreatDoorFnExactTakeMailK4
namespace Go.Proofs.YtikpckcdpmjpgabGreatDoor.Q
open Go Go.AM
set_option linter.unusedSimpArgs false
set_option linter.unusedVariables false
set_option linter.unusedSectionVars false
theorem vO_ownA : ∀ l : List Mail, ownALL (vO l) = true := vO_own
theorem OwX.own : ∀ {l : List Box} {s : List (List V)}, OwX s l -> ownALL s = true /\ s.length = l.length
 | [], s, h => by rw [show s = [] from h]; exact ⟨rfl, rfl⟩
 | b :: l, s, h => by
   obtain ⟨o, s', rfl, ho, h2⟩ := h
   obtain ⟨a1, a2⟩ := OwX.own h2
   refine ⟨?_, by simp [a2]⟩
   rcases ho with rfl | hb
   ·simp only [ownALL, ownAL, ownA, vO_ownA, a1, Bool.true_or, Bool.and_self]
   ·rw [hb]
    simp only [ownALL, ownAL, ownA, vO, List.map_nil, List.isEmpty_nil, Bool.or_true, a1, Bool.and_self]
theorem promLL_OwX : ∀ {l : List Box} {s : List (List V)} (H : VH), OwX s l -> ∃ ks r G, promLL 2 H s = (r.flatten, H ++ G) /\ RwR BoR (H ++ G) ks r l /\ ks.Nodup /\ ∀ j ∈ ks, H.length <= j /\ j < (H ++ G).length
 | [], s, H, h => by rw [show s = [] from h]; exact ⟨[], [], [], by simp [promLL], ⟨rfl, rfl⟩, List.nodup_nil, by simp⟩
 | b :: l, s, H, h => by
   obtain ⟨o, s', rfl, ho, h2⟩ := h
   have hrow : ∃ ks v G, prom 2 H (.sl o (vO b.mails)) = (v, H ++ G) /\ MsR (H ++ G) ks v b.mails /\ ks.Nodup /\ ∀ j ∈ ks, H.length <= j /\ j < (H ++ G).length := by
    rcases ho with rfl | hb
    ·exact prom_vO 0 b.mails H
    ·refine ⟨[], .sl o [], [], by rw [hb]; simp [vO, prom], .inl ⟨rfl, hb, ?_⟩, List.nodup_nil, by simp⟩
     cases o
     ·exact .inr (.inl rfl)
     ·exact .inl rfl
   obtain ⟨k1, v, G1, e1, h1, n1, b1⟩ := hrow
   obtain ⟨k2, r, G2, e2, h3, n2, b2⟩ := promLL_OwX (H ++ G1) h2
   have ps : prom 2 H (.str b.path) = (.str b.path, H) := by simp only [prom]
   refine ⟨k1 ++ k2, [.str b.path, v] :: r, G1 ++ G2, ?_, ⟨[.str b.path, v], r, k1, k2, rfl, rfl, BoR.Mon.1 ⟨v, rfl, h1⟩ fun j hj => ?_, by rw [<- List.append_assoc]; exact h3⟩, ?_, fun j hj => ?_⟩
   ·simp only [promLL, promL, ps, e1, e2, List.flatten_cons, List.append_assoc]
   ·rw [<- List.append_assoc, List.getElem?_append_left (b1 j hj).2]
   ·rw [List.nodup_append]
    exact ⟨n1, n2, fun a ha b hb => by have := b1 a ha; have := b2 b hb; omega⟩
   ·rcases List.mem_append.1 hj with hj | hj
    ·have := b1 j hj; simp at this ⊢; omega
    ·have := b2 j hj; simp at this ⊢; omega
theorem prom_OwX {l : List Box} {s : List (List V)} (h : OwX s l) (H : VH) : ∃ ks v G, prom 3 H (.sl true s) = (v, H ++ G) /\ BsR (H ++ G) ks v l /\ ks.Nodup /\ ∀ j ∈ ks, H.length <= j /\ j < (H ++ G).length := by
 have hlen := h.own.2
 obtain ⟨ks, r, G, e1, h1, n1, b1⟩ := promLL_OwX H h
 cases l with
 | nil => rw [show s = [] from h]; exact ⟨[], .sl true [], [], by simp [prom], .inl ⟨rfl, rfl, .inl rfl⟩, List.nodup_nil, by simp⟩
 | cons b l =>
   obtain ⟨o, s', rfl, _, _⟩ := h
   refine ⟨(H ++ G).length :: ks, .obs (H ++ G).length 0 (b :: l).length 2, G ++ [r.flatten], ?_, .inr ⟨_, r, ks, rfl, by simp, rfl, ?_, ?_⟩, ?_, fun j hj => ?_⟩
   ·simp only [List.length_cons] at hlen ⊢
    have : s'.length = l.length := by omega
    simp only [prom, e1, this, List.length_cons, List.length_nil, List.append_assoc]
   ·rw [<- List.append_assoc]; simp
   ·rw [<- List.append_assoc]
    exact h1.mono BoR.Mon fun j hj => by rw [List.getElem?_append_left (b1 j hj).2]
   ·rw [List.nodup_cons]
    exact ⟨fun hm => by have := (b1 _ hm).2; omega, n1⟩
   ·rcases List.mem_cons.1 hj with rfl | hj
    ·simp
    ·have := b1 j hj; simp at this ⊢; omega
theorem Gets.promTk {R : Type} {l : List Box} {s : List (List V)} {m : Mail} {b : Bool} {H : VH} {K : V -> VH -> Option R} {Q : R -> Prop} (hs : OwX s l) (h : ∀ v cs ks ls G, BsR (H ++ G) ks v l -> MlR (H ++ G) ls cs m -> ks.Nodup -> ls.Nodup -> (∀ j ∈ ks, H.length <= j /\ j < (H ++ G).length) -> (∀ j ∈ ls, H.length <= j /\ j < (H ++ G).length) -> (∀ j ∈ ks, j ∉ ls) -> Gets (K (.tup [v, .agg cs, .bool b]) (H ++ G)) Q) : Gets (promB 3 (.tup [.sl true s, .agg (cO m), .bool b]) H K) Q := by
 obtain ⟨ks, v, G, e, h1, h2, h3⟩ := prom_OwX hs H
 obtain ⟨cs, ls, G2, e2, i1, i2, i3⟩ := prom_cO 2 m (H ++ G)
 have ho : ownA (.tup [.sl true s, .agg (cO m), .bool b]) = true := by
  show (ownA (.sl true s) && (ownA (.agg (cO m)) && (ownA (.bool b) && true))) = true
  rw [cO_own]
  simp only [ownA, hs.own.1, Bool.true_or, Bool.and_self]
 have pb : ∀ G, prom 3 G (.bool b) = (.bool b, G) := fun G => by simp only [prom]
 have p0 : prom 3 H (.tup [.sl true s, .agg (cO m), .bool b]) = (.tup [v, .agg cs, .bool b], H ++ (G ++ G2)) := by
  rw [prom]
  simp only [promL, e, e2, pb, List.append_assoc]
 unfold promB
 rw [ho, p0]
 have h1' := BsR.app G2 h1 fun j hj => (h3 j hj).2
 rw [List.append_assoc] at h1' i1
 refine h v cs ks ls (G ++ G2) h1' i1 h2 i2 (fun j hj => ?_) (fun j hj => ?_) (fun j hj hj2 => ?_)
 ·have := h3 j hj; simp at this ⊢; omega
 ·have := i3 j hj; simp at this ⊢; omega
 ·have := h3 j hj; have := i3 j hj2; omega
theorem FnExactTakeMail_v (u v : V) (hu : HasArg tyXs u) (hv : HasArg .str v) : ∃ H, cv id_laws_FnExactTakeMail [u, v] [] = some (.bool true, H) := by
 obtain ⟨l, rfl, hla⟩ := argXs hu
 obtain ⟨p, rfl⟩ := argStr hv
 have s1 := szBoxS_c l 1048576 (by omega) (by omega) hla
 suffices hg : Gets (cv id_laws_FnExactTakeMail [.sl false (vR eX l), .str p] []) fun r => r.1 = .bool true by
  obtain ⟨⟨v, H⟩, e, h⟩ := hg
  cases h
  exact ⟨H, e⟩
 have s1' : qco id_laws_szBoxS [] [.sl false (vR eX l), .int .i64 1048576] = some (.int .i64 (szXs l 1048576)) := by
  rw [qco_fr (fun _ => by
   show (data (.sl false (vR eX l)) && (data (.int .i64 1048576) && true)) = true
   rw [vX_dat]; rfl)]
  simp only [List.map_cons, List.map_nil, frD_vX, frD_data 3 [] (.int .i64 1048576) rfl, strip]
  exact s1
 rw [laws_FnExactTakeMail_eq]
 by_cases h0 : ((p.length : Int) > 1048576)
 ·simp only [evv, h0]; exact Gets.here rfl
 by_cases h1 : szXs l 1048576 < 0
 ·simp only [evv, vR_strip, s1', h0, h1]; exact Gets.here rfl
 ·have kl : SmXs l := SmXs.of (n := 1048576) (by omega) (by omega) (by omega)
  have kn := takeL_sm (p := p) kl
  have km := takeM_sm (p := p) kl
  have zl := szBk_sm kl
  have zn := szBk_sm kn
  have hto := km.2.1.1
  have hli := km.2.2.1
  have hpc := spec_TakeMail_c l p kl
  have hown : ownA (.tup [.sl true (vOX (takeL l p)), .agg (cO (takeM l p)), .bool (takeB l p)]) = true := by
   show (ownA (.sl true (vOX (takeL l p))) && (ownA (.agg (cO (takeM l p))) && (ownA (.bool (takeB l p)) && true))) = true
   rw [cO_own]
   simp only [ownA, vOX_own, Bool.true_or, Bool.and_self]
  have hsp : ∀ H, frD 3 H (.str p) = .str p := fun H => frD_data 3 H (.str p) rfl
  have psp : ∀ {H : VH} {ks : List Nat} {v : V}, BsR H ks v l -> pco id_spec_TakeMail H [v, .str p] = some (.tup [.sl true (vOX (takeL l p)), .agg (cO (takeM l p)), .bool (takeB l p)]) := fun h =>
   pco_fr (fun hn => by simp only [noObsL, Bool.and_eq_true] at hn; simp only [dataL, h.nd hn.1, data, Bool.and_self]) (by simp only [List.map_cons, List.map_nil, bs_frD3 h, hsp]; exact hpc) hown
  obtain ⟨_, vi, Hi, s, ei, oi, os⟩ := impl_TakeMail_pp l p kl
  have pim : ∀ {H : VH} {ks : List Nat} {v : V}, BsR H ks v l -> pcu id_impl_TakeMail H [v, .str p] = some (.tup [.sl true s, .agg (cO (takeM l p)), .bool (takeB l p)]) := fun h =>
   pcu_of (by simp only [List.map_cons, List.map_nil, bs_frD3 h, hsp]; simp only [evv]) (by simp only [List.map_cons, List.map_nil, bs_frD3 h, hsp]; exact ei) oi
  generalize takeL l p = n at *
  generalize takeM l p = m at *
  generalize takeB l p = b at *
  simp only [evv, vR_strip, s1', h0, h1]
  refine (toBoxS_g l kl []).bind ?_
  rintro v1 G1 ⟨ks1, X1, rfl, r1, -, -⟩
  have q1 := psp r1
  simp only [evv, q1, vOX_strip, cO_e, vT_strip]
  refine (toBoxS_g l kl _).bind ?_
  rintro v2 _ ⟨ks2, X2, rfl, r2, n2, b2⟩
  have r2s := r2.strip
  have q2 := pim r2s
  simp only [evv, q2]
  refine Gets.promTk os fun v3 cs3 ks3 ls3 X3 r3 t3 n3 m3 b3 d3 dj => ?_
  have r3s := r3.strip
  have t3s := t3.strip
  have r2a := BsR.app X3 r2s fun j hj => (b2 j hj).2
  have e3 := eqBoxS_o n r3s kn
  have g3 := eqMail_o (n := m) t3s km
  rw [decide_eq_true rfl] at e3 g3
  have hsep : ∀ j, (j ∈ ks3 ∨ j ∈ ls3) -> j ∉ ks2 := fun j hj hk => by
   have h1 : (G1 ++ X2).length <= j := by
    rcases hj with hj | hj
    ·exact (b3 j hj).1
    ·exact (d3 j hj).1
   have := (b2 j hk).2
   omega
  generalize hG3 : G1 ++ X2 ++ X3 = G3 at *
  have l3 : ∀ j, j ∈ ks2 -> j < G3.length := fun j hj => by
   rw [<- hG3]
   have := (b2 j hj).2; simp at this ⊢; omega
  obtain ⟨w1, w2, _, _, rfl, -⟩ := id t3
  simp only [stripL, strip, strip_strip, cM_e] at t3s g3
  simp only [evv, e3, g3]
  refine (toBoxS_g l kl G3).bind ?_
  rintro v4 _ ⟨ks4, X4, rfl, r4, -, -⟩
  have r2b := BsR.app X4 r2a l3
  have e4 := eqBoxS_oo r2b r4 kl
  rw [decide_eq_true rfl] at e4
  simp only [evv, e4]
  have r3b := BsR.app X4 r3s fun j hj => (b3 j hj).2
  have t3b := t3s.app X4 fun j hj => (d3 j hj).2
  have hlen4 : G3.length <= (G3 ++ X4).length := by simp
  generalize G3 ++ X4 = G4 at *
  refine (markBoxS_g r2b n2 1 (by omega)).bind ?_
  rintro _ G5 ⟨rfl, -, f5, l5⟩
  have r3c := r3b.mono BoR.Mon (H' := G5) fun j hj => f5 j (hsep j (.inl hj))
  have t3c := t3b.mono (H' := G5) fun j hj => f5 j (hsep j (.inr hj))
  have e6 := eqBoxS_o n r3c kn
  have g6 := eqMail_o (n := m) t3c km
  rw [decide_eq_true rfl] at e6 g6
  simp only [cM_e] at g6
  simp only [evv, e6, g6, show ¬ (((1 + szBk l : Nat) : Int) < 0) from by omega]
  refine (markBoxS_g r3c n3 1 (by omega)).bind ?_
  rintro _ G7 ⟨rfl, r7, f7, l7⟩
  simp only [evv]
  refine (markMail_g (t3c.mono fun j hj => f7 j fun hk => dj j hk hj) m3 (1 + szBk n) (by omega)).bind ?_
  rintro _ G8 ⟨rfl, t8, f8, l8⟩
  have r8 := r7.mono BoR.Mon (H' := G8) fun j hj => f8 j (dj j hj)
  simp only [stripL, strip, strip_strip] at t8
  have e8 := heldBoxS_o r8 (by omega)
  have g8 := heldMail_o t8 (by omega)
  rw [show ((1 : Nat) : Int) = 1 from rfl] at e8
  simp only [evv, e8, g8, show ¬ (((1 + szBk n : Nat) : Int) < 0) from by omega, show ¬ (((1 + szBk n + m.to.length + m.lines.length : Nat) : Int) < 0) from by omega, vR_strip]
  refine (toBoxS_g l kl G8).bind ?_
  rintro v9 _ ⟨ks9, X9, rfl, r9, -, b9⟩
  have q9 := pim r9
  simp only [evv, q9]
  refine Gets.promTk os fun v10 cs10 ks10 ls10 X10 r10 t10 n10 m10 b10 d10 dj10 => ?_
  have e10 := eqBoxS_o n r10.strip kn
  have g10 := eqMail_o (n := m) t10.strip km
  rw [decide_eq_true rfl] at e10 g10
  obtain ⟨w3, w4, _, _, rfl, -⟩ := id t10
  simp only [stripL, strip, strip_strip, cM_e] at g10
  have hl8 : G3.length <= G8.length := by omega
  have r11 := BsR.app X10 (BsR.app X9 r8 fun j hj => by have := (b3 j hj).2; omega) fun j hj => by have := (b3 j hj).2; simp; omega
  have t11 := (t8.app X9 fun j hj => by have := (d3 j hj).2; omega).app X10 fun j hj => by have := (d3 j hj).2; simp; omega
  have e11 := heldBoxS_o r11 (by omega)
  have g11 := heldMail_o t11 (by omega)
  rw [show ((1 : Nat) : Int) = 1 from rfl] at e11
  simp only [evv, e10, g10, e11, g11, show ¬ (((1 + szBk n : Nat) : Int) < 0) from by omega, show ¬ (((1 + szBk n + m.to.length + m.lines.length : Nat) : Int) < 0) from by omega]
  exact Gets.here rfl
end Go.Proofs.YtikpckcdpmjpgabGreatDoor.Q

/- Contracts: the laws of mailboxes that mark what they get. -/
import Derived.Test.YtikpckcdpmjpgabGreatDoorExactAddBoxCb6boxmarksZ
import Derived.Test.YtikpckcdpmjpgabGreatDoorFnExactAddBoxK4
namespace Go.Proofs.YtikpckcdpmjpgabGreatDoor.Q
open Go Go.AM
set_option linter.unusedSimpArgs false
set_option linter.unusedVariables false
set_option linter.unusedSectionVars false
theorem BsR.app {H : VH} {ks : List Nat} {v : V} {l : List Box} (X : VH) (h : BsR H ks v l) (hk : ∀ j ∈ ks, j < H.length) : BsR (H ++ X) ks v l :=
 h.mono BoR.Mon fun j hj => by rw [List.getElem?_append_left (hk j hj)]
theorem bs_frD3 {H : VH} {ks : List Nat} {v : V} {l : List Box} (h : BsR H ks v l) : frD 3 H v = .sl false (vR eX l) := BsR.frD 0 h
theorem vX_dat (l : List Box) : data (.sl false (vR eX l)) = true := by simp only [data, vR_data]
theorem frD_vX (H : VH) (l : List Box) : frD 3 H (.sl false (vR eX l)) = .sl false (vR eX l) := by
 rw [frD_data 3 H _ (vX_dat l)]
 simp only [strip, vR_strip]
theorem eqBoxS_o {H : VH} {ks : List Nat} {v : V} {l : List Box} (n : List Box) (h : BsR H ks v l) (hl : SmXs l) : qco id_laws_eqBoxS H [v, .sl false (vR eX n)] = some (.bool (decide (l = n))) := by
 rw [qco_fr (fun hn => by
  simp only [noObsL, Bool.and_eq_true] at hn
  simp only [dataL, h.nd hn.1, vX_dat, Bool.and_self])]
 simp only [List.map_cons, List.map_nil, bs_frD3 h, frD_vX]
 exact eqBoxS_c l n hl
theorem eqBoxS_oo {H : VH} {ks ls : List Nat} {v w : V} {l n : List Box} (h : BsR H ks v l) (g : BsR H ls w n) (hl : SmXs l) : qco id_laws_eqBoxS H [v, w] = some (.bool (decide (l = n))) := by
 rw [qco_fr (fun hn => by
  simp only [noObsL, Bool.and_eq_true] at hn
  simp only [dataL, h.nd hn.1, g.nd hn.2.1, Bool.and_self])]
 simp only [List.map_cons, List.map_nil, bs_frD3 h, bs_frD3 g]
 exact eqBoxS_c l n hl
theorem heldBoxS_o {H : VH} {ks : List Nat} {v : V} {l : List Box} {k : Nat} (h : BsR H ks v (mkBs k l)) (hk : k + szBk l <= 9000000000000000000) : qco id_laws_heldBoxS H [v, .int .i64 (k : Nat)] = some (.int .i64 ((k + szBk l : Nat) : Int)) := by
 rw [qco_fr (fun hn => by
  simp only [noObsL, Bool.and_eq_true] at hn
  simp only [dataL, h.nd hn.1, data, Bool.and_self])]
 simp only [List.map_cons, List.map_nil, bs_frD3 h, frD_data 3 H (.int .i64 (k : Nat)) rfl, strip]
 exact heldBoxS_c k l hk
theorem Gets.promX {R : Type} {l : List Box} {b : Bool} {H : VH} {K : V -> VH -> Option R} {Q : R -> Prop} (h : ∀ v ks G, BsR (H ++ G) ks v l -> ks.Nodup -> (∀ j ∈ ks, H.length <= j /\ j < (H ++ G).length) -> Gets (K (.tup [v, .bool b]) (H ++ G)) Q) : Gets (promB 3 (.tup [.sl true (vOX l), .bool b]) H K) Q := by
 obtain ⟨ks, v, G, e, h1, h2, h3⟩ := prom_vOX 0 l H
 have ho : ownA (.tup [.sl true (vOX l), .bool b]) = true := by simp only [ownA, ownAL, vOX_own, Bool.true_or, Bool.and_self]
 have pb : ∀ G, prom 3 G (.bool b) = (.bool b, G) := fun G => by simp only [prom]
 have p0 : prom 3 H (.tup [.sl true (vOX l), .bool b]) = (.tup [v, .bool b], H ++ G) := by
  rw [prom]
  simp only [promL, e, pb]
 unfold promB
 rw [ho, p0]
 exact h v ks G h1 h2 h3
theorem szMk_le : ∀ {l : List Mail}, (∀ m ∈ l, SmM m) -> szMk l <= l.length * 2097153
 | [], _ => by simp [szMk]
 | m :: l, h => by
   have h1 := h m (by simp)
   have h2 := szMk_le (l := l) fun x hx => h x (by simp [hx])
   have := h1.2.1.1
   have := h1.2.2.1
   simp only [szMk, sz1, List.length_cons]
   omega
theorem szBk_le : ∀ {l : List Box}, (∀ b ∈ l, SmX b) -> szBk l <= l.length * 2199024304130
 | [], _ => by simp [szBk]
 | b :: l, h => by
   have h1 := h b (by simp)
   have h2 := szBk_le (l := l) fun x hx => h x (by simp [hx])
   have h3 := szMk_le (l := b.mails) h1.2.2
   have := h1.2.1
   simp only [szBk, List.length_cons]
   omega
theorem szBk_sm {l : List Box} (h : SmXs l) : szBk l <= 3000000000000000000 := by
 have := szBk_le h.2
 have := h.1
 omega
theorem argStr {u : V} (h : HasArg .str u) : ∃ s : Bs, u = .str s := by
 obtain ⟨s, hs, _⟩ := h
 exact ⟨s, by simpa using hs⟩
theorem ou_HoX {d : Nat} {v : V} {H : VH} {l : List Box} (h : HoX v H l) : ∃ H', ou (d + 2) H v = some (.sl true (vOX l), H') := by
 rcases h with ⟨rfl, rfl⟩ | ⟨hne, k, rfl, hk⟩
 ·exact ⟨H, ou_id (d + 2) H _ rfl⟩
 ·refine ⟨H.set k [], ?_⟩
  have hl : (vOX l).flatten.length = l.length * 2 := by have := (vOX_rows l).flat; rw [this, vOX_len]
  have hch : chunkV 2 l.length (vOX l).flatten = vOX l := by have := (vOX_rows l).chunk; rw [vOX_len] at this; exact this
  obtain ⟨n, hn⟩ := Nat.exists_eq_succ_of_ne_zero (fun e => hne (List.length_eq_zero_iff.1 e))
  rw [hn] at hl hch ⊢
  refine (ou_obs (d + 1) H k n 2).trans ?_
  rw [hk, Option.bind_some, if_pos ⟨rfl, by omega, hl⟩, ouL_id (ou_id (d + 1)) _ _ (ownAL_flat (vOX_own l)), Option.bind_some]
  show some (V.sl true (chunkV 2 n.succ (vOX l).flatten), _) = _
  rw [hch]
theorem ouR_X {v : V} {H : VH} {l : List Box} {b : Bool} (h : HoX v H l) : ouR H (.tup [v, .bool b]) = some (.tup [.sl true (vOX l), .bool b]) := by
 obtain ⟨H', e⟩ := ou_HoX (d := 3) h
 unfold ouR
 rw [show ou 6 H (.tup [v, .bool b]) = (ouL (ou 5) H [v, .bool b]).bind fun r => some (.tup r.1, r.2) from rfl]
 simp only [ouL, e, ou_id 5 H' (.bool b) rfl, Option.bind_some, ownA, ownAL, vOX_own, Bool.true_or, Bool.and_self]
theorem FnExactAddBox_v (u v : V) (hu : HasArg tyXs u) (hv : HasArg .str v) : ∃ H, cv id_laws_FnExactAddBox [u, v] [] = some (.bool true, H) := by
 obtain ⟨l, rfl, hla⟩ := argXs hu
 obtain ⟨p, rfl, hpa⟩ := argStr hv
 have s1 := szBoxS_c l 1048576 (by omega) (by omega) hla
 suffices hg : Gets (cv id_laws_FnExactAddBox [.sl false (vR eX l), .str p] []) fun r => r.1 = .bool true by
  obtain ⟨⟨v, H⟩, e, h⟩ := hg
  cases h
  exact ⟨H, e⟩
 have s1' : qco id_laws_szBoxS [] [.sl false (vR eX l), .int .i64 1048576] = some (.int .i64 (szXs l 1048576)) := by
  rw [qco_fr (fun _ => by
   show (data (.sl false (vR eX l)) && (data (.int .i64 1048576) && true)) = true
   rw [vX_dat]; rfl)]
  simp only [List.map_cons, List.map_nil, frD_vX, frD_data 3 [] (.int .i64 1048576) rfl, strip]
  exact s1
 rw [laws_FnExactAddBox_eq]
 by_cases h0 : ((p.length : Int) > 1048576)
 ·simp only [evv, h0]; exact Gets.here rfl
 by_cases h1 : szXs l 1048576 < 0
 ·simp only [evv, vR_strip, s1', h0, h1]; exact Gets.here rfl
 ·have kl : SmXs l := SmXs.of (n := 1048576) (by omega) (by omega) (by omega)
  have hpl : p.length <= 1048576 := by omega
  have kn := addR_sm (p := p) kl kl.1 hpl
  have zl := szBk_sm kl
  have zn := szBk_sm kn
  have hpc := spec_AddBox_c l p kl kl.1 hpl
  have hown : ownA (.tup [.sl true (vOX (addR l p)), .bool (addB l p)]) = true := by simp only [ownA, ownAL, vOX_own, Bool.true_or, Bool.and_self]
  have hsp : ∀ H, frD 3 H (.str p) = .str p := fun H => frD_data 3 H (.str p) rfl
  have psp : ∀ {H : VH} {ks : List Nat} {v : V}, BsR H ks v l -> pco id_spec_AddBox H [v, .str p] = some (.tup [.sl true (vOX (addR l p)), .bool (addB l p)]) := fun h =>
   pco_fr (fun hn => by simp only [noObsL, Bool.and_eq_true] at hn; simp only [dataL, h.nd hn.1, data, Bool.and_self]) (by simp only [List.map_cons, List.map_nil, bs_frD3 h, hsp]; exact hpc) hown
  have pim : ∀ {H : VH} {ks : List Nat} {v : V}, BsR H ks v l -> pcu id_impl_AddBox H [v, .str p] = some (.tup [.sl true (vOX (addR l p)), .bool (addB l p)]) := fun h => by
   obtain ⟨r, H', e, hq⟩ := impl_AddBox_g l p kl kl.1 (fun b hb => (kl.2 b hb).1) hpl
   refine pcu_of (w := .tup [.sl true (vOX (addR l p)), .bool (addB l p)]) (by simp only [List.map_cons, List.map_nil, bs_frD3 h, hsp]; simp only [evv]) (by simp only [List.map_cons, List.map_nil, bs_frD3 h, hsp]; exact e) ?_
   rcases hq with ⟨hf, rfl⟩ | ⟨hf, o, rfl, ho⟩
   ·have : addR l p = [] := by unfold addR; rw [hf]; rfl
    rw [this, hf]
    exact ouR_X (.inl ⟨rfl, rfl⟩)
   ·rw [hf]
    exact ouR_X ho
  generalize addR l p = n at *
  generalize addB l p = b at *
  simp only [evv, vR_strip, s1', h0, h1]
  refine (toBoxS_g l kl []).bind ?_
  rintro v1 G1 ⟨ks1, X1, rfl, r1, -, -⟩
  have q1 := psp r1
  simp only [evv, q1, vOX_strip]
  refine (toBoxS_g l kl _).bind ?_
  rintro v2 _ ⟨ks2, X2, rfl, r2, n2, b2⟩
  have r2s := r2.strip
  have q2 := pim r2s
  simp only [evv, q2]
  refine Gets.promX fun v3 ks3 X3 r3 n3 b3 => ?_
  have r3s := r3.strip
  have r2a := BsR.app X3 r2s fun j hj => (b2 j hj).2
  have e3 := eqBoxS_o n r3s kn
  rw [decide_eq_true rfl] at e3
  generalize hG3 : G1 ++ X2 ++ X3 = G3 at *
  simp only [evv, e3]
  refine (toBoxS_g l kl G3).bind ?_
  rintro v4 _ ⟨ks4, X4, rfl, r4, -, -⟩
  have r2b := BsR.app X4 r2a fun j hj => by have := (b2 j hj).2; rw [<- hG3]; simp at this ⊢; omega
  have e4 := eqBoxS_oo r2b r4 kl
  rw [decide_eq_true rfl] at e4
  simp only [evv, e4]
  refine (markBoxS_g r2b n2 1 (by omega)).bind ?_
  rintro _ G5 ⟨rfl, -, f5, l5⟩
  have r3b : BsR G5 ks3 _ n := (BsR.app X4 r3s fun j hj => (b3 j hj).2).mono BoR.Mon fun j hj => f5 j fun hj2 => by have := (b3 j hj).1; have := (b2 j hj2).2; omega
  have e5 := eqBoxS_o n r3b kn
  rw [decide_eq_true rfl] at e5
  simp only [evv, e5, show ¬ (((1 + szBk l : Nat) : Int) < 0) from by omega]
  refine (markBoxS_g r3b n3 1 (by omega)).bind ?_
  rintro _ G6 ⟨rfl, r6, -, l6⟩
  have e6 := heldBoxS_o r6 (by omega)
  rw [show ((1 : Nat) : Int) = 1 from rfl] at e6
  simp only [evv, e6, show ¬ (((1 + szBk n : Nat) : Int) < 0) from by omega]
  refine (toBoxS_g l kl G6).bind ?_
  rintro v7 _ ⟨ks7, X7, rfl, r7, -, -⟩
  have q7 := pim r7
  simp only [evv, q7]
  refine Gets.promX fun v8 ks8 X8 r8 n8 b8 => ?_
  have e8 := eqBoxS_o n r8.strip kn
  rw [decide_eq_true rfl] at e8
  have r9 := BsR.app X8 (BsR.app X7 r6 fun j hj => by have := (b3 j hj).2; rw [l6, l5]; simp at this ⊢; omega) fun j hj => by have := (b3 j hj).2; simp only [List.length_append, l6, l5] at this ⊢; omega
  have e9 := heldBoxS_o r9 (by omega)
  rw [show ((1 : Nat) : Int) = 1 from rfl] at e9
  simp only [evv, e8, e9, show ¬ (((1 + szBk n : Nat) : Int) < 0) from by omega]
  exact Gets.here rfl
end Go.Proofs.YtikpckcdpmjpgabGreatDoor.Q

/- Contracts: the laws of mailboxes that mark what they get. -/
import Derived.Test.YtikpckcdpmjpgabGreatDoorExactTakeMailCb6boxmarksZ
import Derived.Test.YtikpckcdpmjpgabGreatDoorFnExactTakeMailK4
namespace Go.Proofs.YtikpckcdpmjpgabGreatDoor.Q
open Go Go.AM
set_option linter.unusedSimpArgs false
set_option linter.unusedVariables false
set_option linter.unusedSectionVars false
theorem BsR.app {H : VH} {ks : List Nat} {v : V} {l : List Box} (X : VH) (h : BsR H ks v l) (hk : ∀ j ∈ ks, j < H.length) : BsR (H ++ X) ks v l :=
 h.mono BoR.Mon fun j hj => by rw [List.getElem?_append_left (hk j hj)]
theorem bs_frD3 {H : VH} {ks : List Nat} {v : V} {l : List Box} (h : BsR H ks v l) : frD 3 H v = .sl false (vR eX l) := BsR.frD 0 h
theorem vX_dat (l : List Box) : data (.sl false (vR eX l)) = true := by simp only [data, vR_data]
theorem frD_vX (H : VH) (l : List Box) : frD 3 H (.sl false (vR eX l)) = .sl false (vR eX l) := by
 rw [frD_data 3 H _ (vX_dat l)]
 simp only [strip, vR_strip]
theorem eqBoxS_o {H : VH} {ks : List Nat} {v : V} {l : List Box} (n : List Box) (h : BsR H ks v l) (hl : SmXs l) : qco id_laws_eqBoxS H [v, .sl false (vR eX n)] = some (.bool (decide (l = n))) := by
 rw [qco_fr (fun hn => by
  simp only [noObsL, Bool.and_eq_true] at hn
  simp only [dataL, h.nd hn.1, vX_dat, Bool.and_self])]
 simp only [List.map_cons, List.map_nil, bs_frD3 h, frD_vX]
 exact eqBoxS_c l n hl
theorem eqBoxS_oo {H : VH} {ks ls : List Nat} {v w : V} {l n : List Box} (h : BsR H ks v l) (g : BsR H ls w n) (hl : SmXs l) : qco id_laws_eqBoxS H [v, w] = some (.bool (decide (l = n))) := by
 rw [qco_fr (fun hn => by
  simp only [noObsL, Bool.and_eq_true] at hn
  simp only [dataL, h.nd hn.1, g.nd hn.2.1, Bool.and_self])]
 simp only [List.map_cons, List.map_nil, bs_frD3 h, bs_frD3 g]
 exact eqBoxS_c l n hl
theorem heldBoxS_o {H : VH} {ks : List Nat} {v : V} {l : List Box} {k : Nat} (h : BsR H ks v (mkBs k l)) (hk : k + szBk l <= 9000000000000000000) : qco id_laws_heldBoxS H [v, .int .i64 (k : Nat)] = some (.int .i64 ((k + szBk l : Nat) : Int)) := by
 rw [qco_fr (fun hn => by
  simp only [noObsL, Bool.and_eq_true] at hn
  simp only [dataL, h.nd hn.1, data, Bool.and_self])]
 simp only [List.map_cons, List.map_nil, bs_frD3 h, frD_data 3 H (.int .i64 (k : Nat)) rfl, strip]
 exact heldBoxS_c k l hk
theorem Gets.promX {R : Type} {l : List Box} {b : Bool} {H : VH} {K : V -> VH -> Option R} {Q : R -> Prop} (h : ∀ v ks G, BsR (H ++ G) ks v l -> ks.Nodup -> (∀ j ∈ ks, H.length <= j /\ j < (H ++ G).length) -> Gets (K (.tup [v, .bool b]) (H ++ G)) Q) : Gets (promB 3 (.tup [.sl true (vOX l), .bool b]) H K) Q := by
 obtain ⟨ks, v, G, e, h1, h2, h3⟩ := prom_vOX 0 l H
 have ho : ownA (.tup [.sl true (vOX l), .bool b]) = true := by simp only [ownA, ownAL, vOX_own, Bool.true_or, Bool.and_self]
 have pb : ∀ G, prom 3 G (.bool b) = (.bool b, G) := fun G => by simp only [prom]
 have p0 : prom 3 H (.tup [.sl true (vOX l), .bool b]) = (.tup [v, .bool b], H ++ G) := by
  rw [prom]
  simp only [promL, e, pb]
 unfold promB
 rw [ho, p0]
 exact h v ks G h1 h2 h3
theorem szMk_le : ∀ {l : List Mail}, (∀ m ∈ l, SmM m) -> szMk l <= l.length * 2097153
 | [], _ => by simp [szMk]
 | m :: l, h => by
   have h1 := h m (by simp)
   have h2 := szMk_le (l := l) fun x hx => h x (by simp [hx])
   have := h1.2.1.1
   have := h1.2.2.1
   simp only [szMk, sz1, List.length_cons]
   omega
theorem szBk_le : ∀ {l : List Box}, (∀ b ∈ l, SmX b) -> szBk l <= l.length * 2199024304130
 | [], _ => by simp [szBk]
 | b :: l, h => by
   have h1 := h b (by simp)
   have h2 := szBk_le (l := l) fun x hx => h x (by simp [hx])
   have h3 := szMk_le (l := b.mails) h1.2.2
   have := h1.2.1
   simp only [szBk, List.length_cons]
   omega
theorem szBk_sm {l : List Box} (h : SmXs l) : szBk l <= 3000000000000000000 := by
 have := szBk_le h.2
 have := h.1
 omega
theorem argStr {u : V} (h : HasArg .str u) : ∃ s : Bs, u = .str s := by
 obtain ⟨s, hs, _⟩ := h
 exact ⟨s, by simpa using hs⟩
end Go.Proofs.YtikpckcdpmjpgabGreatDoor.Q

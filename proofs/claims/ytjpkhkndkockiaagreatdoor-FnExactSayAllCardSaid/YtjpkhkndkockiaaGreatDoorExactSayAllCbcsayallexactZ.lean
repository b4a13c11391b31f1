/- Contracts: the law of all lines that are said, with marks. -/
import Derived.Test.YtjpkhkndkockiaaGreatDoorExactSayAllCbbsessexactZ
import Derived.Test.YtjpkhkndkockiaaGreatDoorFnExactSayAllK4
namespace Go.Proofs.YtjpkhkndkockiaaGreatDoor.Q
open Go Go.AM
set_option linter.unusedSimpArgs false
set_option linter.unusedVariables false
set_option linter.unusedSectionVars false
theorem szGo_gap {α : Type} {f : α -> Int -> Int} {Q : α -> Int -> Prop} (hf : ∀ a k, 0 <= k -> f a k <= k) (hq : ∀ a k, 0 <= k -> 0 <= f a k -> Q a (k - f a k)) (hm : ∀ a d e, Q a d -> d <= e -> Q a e) : ∀ (l : List α) (n : Int), 0 <= n -> 0 <= szGo f l n -> ∀ a ∈ l, Q a (n - szGo f l n)
 | [], _, _, _ => by simp
 | x :: l, n, h0, h => by
   simp only [szGo] at h ⊢
   split at h
   ·omega
   ·rename_i hx
    rw [if_neg hx]
    have h1 := hf x n h0
    have h2 := szGo_le (f := f) (l := l) (fun a _ k hk => hf a k hk) (n := f x n) (by omega)
    intro a ha
    rcases List.mem_cons.1 ha with rfl | ha
    ·exact hm _ _ _ (hq _ n h0 (by omega)) (by omega)
    ·exact hm _ _ _ (szGo_gap hf hq hm l (f x n) (by omega) h a ha) (by omega)
def IzT (d : Int) (l : List Bs) : Prop := (l.length : Int) <= d /\ ∀ s ∈ l, (s.length : Int) <= d
def IzM (d : Int) (m : Mail) : Prop := (m.from_.length : Int) <= d /\ IzT d m.to /\ IzT d m.lines
theorem IzT.le {d e : Int} {l : List Bs} (h : IzT d l) (he : d <= e) : IzT e l := ⟨by have := h.1; omega, fun s hs => by have := h.2 s hs; omega⟩
theorem IzM.le {d e : Int} {m : Mail} (h : IzM d m) (he : d <= e) : IzM e m := ⟨by have := h.1; omega, h.2.1.le he, h.2.2.le he⟩
theorem IzT.of {l : List Bs} {n : Int} (h : 0 <= n) (h2 : 0 <= szT l n) : IzT (n - szT l n) l := by
 unfold szT at h2 ⊢
 split at h2
 ·omega
 ·rename_i hx
  rw [if_neg hx]
  have h3 := szGo_le (f := szB) (l := l) (fun a _ k _ => szB_le a k) (n := n - l.length) (by omega)
  refine ⟨by omega, fun s hs => ?_⟩
  have := szGo_gap (f := szB) (Q := fun s d => (s.length : Int) <= d) (fun a k _ => szB_le a k) (fun a k _ _ => by unfold szB; omega) (fun a d e h he => by omega) l (n - l.length) (by omega) h2 s hs
  omega
theorem IzM.of {m : Mail} {n : Int} (h : 0 <= n) (h2 : 0 <= szM m n) : IzM (n - szM m n) m := by
 have hle := szM_le (m := m) h
 unfold szM at h2 hle ⊢
 split at h2
 ·omega
 ·rename_i h3
  rw [if_neg h3] at hle ⊢
  have h5 := szT_le (l := m.to) (n := n - m.from_.length) (by omega)
  split at h2
  ·omega
  ·rename_i h4
   rw [if_neg h4] at hle ⊢
   have h7 := szT_le (l := m.lines) (n := szT m.to (n - m.from_.length)) (by omega)
   split at h2
   ·omega
   ·rename_i h6
    rw [if_neg h6] at hle ⊢
    exact ⟨by omega, (IzT.of (l := m.to) (n := n - m.from_.length) (by omega) (by omega)).le (by omega), (IzT.of (l := m.lines) (n := szT m.to (n - m.from_.length)) (by omega) h2).le (by omega)⟩
theorem IzS.of {s : Session} {n : Int} (h : 0 <= n) (h2 : 0 <= szSn s n) : SzS (n - szSn s n).toNat s := by
 unfold szSn at h2 ⊢
 split at h2
 ·omega
 ·rename_i h3
  rw [if_neg h3]
  have h5 := szM_le (m := s.draft) (n := n - s.host.length) (by omega)
  split at h2
  ·omega
  ·rename_i h4
   rw [if_neg h4]
   have h7 := szMs_le (l := s.done) (n := szM s.draft (n - s.host.length)) (by omega)
   split at h2
   ·omega
   ·rename_i h6
    rw [if_neg h6]
    have im := IzM.of (m := s.draft) (n := n - s.host.length) (by omega) (by omega)
    have toM : ∀ {d : Int} {m : Mail} {e : Nat}, IzM d m -> d <= e -> SzM e m := fun h he => by
     refine ⟨by have := h.1; omega, ⟨by have := h.2.1.1; omega, fun s hs => by have := h.2.1.2 s hs; omega⟩, ⟨by have := h.2.2.1; omega, fun s hs => by have := h.2.2.2 s hs; omega⟩⟩
    have hms := h2
    unfold szMs at hms h7 ⊢
    split at hms
    ·omega
    ·rename_i h8
     rw [if_neg h8] at h7 ⊢
     have h9 := szGo_le (f := szM) (l := s.done) (fun a _ k hk => szM_le hk) (n := szM s.draft (n - s.host.length) - s.done.length) (by omega)
     refine ⟨by omega, toM im (by omega), by omega, fun m hm => ?_⟩
     have := szGo_gap (f := szM) (Q := fun m d => IzM d m) (fun a k hk => szM_le hk) (fun a k hk h0 => IzM.of hk h0) (fun a d e h he => h.le he) s.done (szM s.draft (n - s.host.length) - s.done.length) (by omega) hms m hm
     exact toM this (by omega)
theorem InR.app {H : VH} {ks : List Nat} {v : V} {l : List Int} (X : VH) (h : InR H ks v l) (hk : ∀ j ∈ ks, j < H.length) : InR (H ++ X) ks v l :=
 h.mono IR.Mon fun j hj => by rw [List.getElem?_append_left (hk j hj)]
theorem vI_ownA : ∀ l : List Int, ownALL (vI .i64 l) = true
 | [] => rfl
 | n :: l => by
   show (ownAL [V.int .i64 n] && ownALL (vI .i64 l)) = true
   rw [vI_ownA l]; rfl
theorem Gets.promSA {R : Type} {s : Session} {c : List Int} {b : Bool} {H : VH} {K : V -> VH -> Option R} {Q : R -> Prop} (h : ∀ cs i ks ls G, SnR (H ++ G) ks cs s -> InR (H ++ G) ls i c -> ks.Nodup -> (∀ j ∈ ks, H.length <= j /\ j < (H ++ G).length) -> (∀ j ∈ ls, H.length <= j /\ j < (H ++ G).length) -> (∀ j ∈ ks, j ∉ ls) -> Gets (K (.tup [.agg cs, i, .bool b]) (H ++ G)) Q) : Gets (promB 3 (.tup [.agg (cSo s), .sl true (vI .i64 c), .bool b]) H K) Q := by
 obtain ⟨cs, ks, G, e, h1, h2, h3⟩ := prom_cSo s H
 obtain ⟨ls, i, G2, e2, i1, i2, i3⟩ := prom_vI 2 c (H ++ G)
 have ho : ownA (.tup [.agg (cSo s), .sl true (vI .i64 c), .bool b]) = true := by
  show (ownA (.agg (cSo s)) && (ownA (.sl true (vI .i64 c)) && (ownA (.bool b) && true))) = true
  rw [cSo_own]
  simp only [ownA, vI_ownA, Bool.true_or, Bool.and_self]
 have pb : ∀ G, prom 3 G (.bool b) = (.bool b, G) := fun G => by simp only [prom]
 have p0 : prom 3 H (.tup [.agg (cSo s), .sl true (vI .i64 c), .bool b]) = (.tup [.agg cs, i, .bool b], H ++ (G ++ G2)) := by
  rw [prom]
  simp only [promL, e, e2, pb, List.append_assoc]
 unfold promB
 rw [ho, p0]
 have h1' := h1.app G2 fun j hj => (h3 j hj).2
 rw [List.append_assoc] at h1' i1
 refine h cs i ks ls (G ++ G2) h1' i1 h2 (fun j hj => ?_) (fun j hj => ?_) (fun j hj hj2 => ?_)
 ·have := h3 j hj; simp at this ⊢; omega
 ·have := i3 j hj; simp at this ⊢; omega
 ·have := h3 j hj; have := i3 j hj2; omega
theorem argTs {u : V} (h : HasArg (.sl .str) u) : ∃ l : List Bs, u = .sl false (vT l) /\ l.length <= 9223372036854775807 /\ ∀ s ∈ l, s.length <= 9223372036854775807 := by
 obtain ⟨xs, hu, hl, hx⟩ := h
 have hu : u = .sl false xs := by simpa using hu
 have key : ∀ xs : List (List V), (∀ x ∈ xs, HasTy .str x) -> ∃ l : List Bs, xs = vT l /\ ∀ s ∈ l, s.length <= 9223372036854775807 := by
  intro xs
  induction xs with
  | nil => intro _; exact ⟨[], rfl, by simp⟩
  | cons x xs ih =>
    intro h
    obtain ⟨s, rfl, hs⟩ := h x (by simp)
    obtain ⟨l, rfl, hl⟩ := ih fun y hy => h y (by simp [hy])
    refine ⟨s :: l, rfl, fun t ht => ?_⟩
    rcases List.mem_cons.1 ht with rfl | ht
    ·exact hs
    ·exact hl t ht
 obtain ⟨l, rfl, hb⟩ := key xs hx
 exact ⟨l, hu, by rw [vT_len] at hl; exact hl, hb⟩
theorem eqStringS_oo {H : VH} {ks ls : List Nat} {v w : V} {a b : List Bs} (h : TxR H ks v a) (g : TxR H ls w b) (ha : a.length <= 1049600) : qco id_laws_eqStringS H [v, w] = some (.bool (decide (a = b))) := by
 rw [qco_fr (fun hn => by
  simp only [noObsL, Bool.and_eq_true] at hn
  simp only [dataL, h.nd hn.1, g.nd hn.2.1, Bool.and_self])]
 simp only [List.map_cons, List.map_nil, h.frD 2, g.frD 2]
 exact eqStringS_c a b ha
theorem gt_22' {R : Type} (x0 x1 x2 x3 x4 x5 x6 x7 x8 x9 x10 x11 x12 x13 x14 x15 x16 x17 x18 x19 x20 x21 : V) (K : (Nat -> V) -> Option R) : gotV 22 [x0, x1, x2, x3, x4, x5, x6, x7, x8, x9, x10, x11, x12, x13, x14, x15, x16, x17, x18, x19, x20, x21] K = K fun i => [x0, x1, x2, x3, x4, x5, x6, x7, x8, x9, x10, x11, x12, x13, x14, x15, x16, x17, x18, x19, x20, x21].getD i .nilp := by exact id rfl
theorem gt_30' {R : Type} (x0 x1 x2 x3 x4 x5 x6 x7 x8 x9 x10 x11 x12 x13 x14 x15 x16 x17 x18 x19 x20 x21 x22 x23 x24 x25 x26 x27 x28 x29 : V) (K : (Nat -> V) -> Option R) : gotV 30 [x0, x1, x2, x3, x4, x5, x6, x7, x8, x9, x10, x11, x12, x13, x14, x15, x16, x17, x18, x19, x20, x21, x22, x23, x24, x25, x26, x27, x28, x29] K = K fun i => [x0, x1, x2, x3, x4, x5, x6, x7, x8, x9, x10, x11, x12, x13, x14, x15, x16, x17, x18, x19, x20, x21, x22, x23, x24, x25, x26, x27, x28, x29].getD i .nilp := by exact id rfl
theorem FnExactSayAll_v (u v : V) (hu : HasArg tyS u) (hv : HasArg (.sl .str) v) : ∃ H, cv id_laws_FnExactSayAll [u, v] [] = some (.bool true, H) := by
 obtain ⟨s, rfl, hsa⟩ := argS hu
 obtain ⟨p, rfl, hpa, hpb⟩ := argTs hv
 have s1 := szSession_c s 1048576 (by omega) (by omega) hsa
 suffices hg : Gets (cv id_laws_FnExactSayAll [.agg (cS s), .sl false (vT p)] []) fun r => r.1 = .bool true by
  obtain ⟨⟨v, H⟩, e, h⟩ := hg
  cases h
  exact ⟨H, e⟩
 have s1' : qco id_laws_szSession [] [.agg (cS s), .int .i64 1048576] = some (.int .i64 (szSn s 1048576)) := by
  rw [qco_fr (fun _ => by
   show (data (.agg (cS s)) && (data (.int .i64 1048576) && true)) = true
   rw [cS_dat]; rfl)]
  simp only [List.map_cons, List.map_nil, frD_cS, frD_data 3 [] (.int .i64 1048576) rfl, strip]
  exact s1
 have vTd : data (.sl false (vT p)) = true := by simp only [data, vT_data]
 have frT : ∀ H, frD 3 H (.sl false (vT p)) = .sl false (vT p) := fun H => by rw [frD_data 3 H _ vTd]; simp only [strip, vT_strip]
 rw [laws_FnExactSayAll_eq]
 simp only [cS_e] at s1'
 by_cases h0 : szSn s 1048576 < 0
 ·simp only [evv, cS_e, vT_strip, vR_strip, s1', h0]; exact Gets.here rfl
 have hle := szSn_le (s := s) (n := 1048576) (by omega)
 have s2 := szStringS_c p (szSn s 1048576) (by omega) hle hpa hpb
 have s2' : qco id_laws_szStringS [] [.sl false (vT p), .int .i64 (szSn s 1048576)] = some (.int .i64 (szT p (szSn s 1048576))) := by
  rw [qco_fr (fun _ => by
   show (data (.sl false (vT p)) && (data (.int .i64 (szSn s 1048576)) && true)) = true
   rw [vTd]; rfl)]
  simp only [List.map_cons, List.map_nil, frT, frD_data 3 [] (.int .i64 (szSn s 1048576)) rfl, strip]
  exact s2
 by_cases h1 : szT p (szSn s 1048576) < 0
 ·simp only [evv, cS_e, vT_strip, vR_strip, s1', s2', h0, h1]; exact Gets.here rfl
 ·have it := szT_ok (l := p) (n := szSn s 1048576) (by omega) (by omega)
  have ip : ∀ l ∈ p, (l.length : Int) <= szSn s 1048576 - p.length := fun l hl => by
   have h2 : 0 <= szT p (szSn s 1048576) := by omega
   unfold szT at h2
   split at h2
   ·omega
   ·obtain ⟨k, h3, h4, h5⟩ := szGo_mem (f := szB) (l := p) (fun a _ k _ => szB_le a k) (n := szSn s 1048576 - p.length) (by omega) h2 l hl
    unfold szB at h5; omega
  have zs : SzS (1048576 - p.length) s := (IzS.of (s := s) (n := 1048576) (by omega) (by omega)).le (by omega)
  have hpl : (1048576 - p.length) + p.length <= 1049600 := by omega
  have hpm : ∀ l ∈ p, l.length <= 1048576 - p.length := fun l hl => by have := ip l hl; omega
  have kl : SmS s := zs.sm (by omega)
  obtain ⟨az1, az2⟩ := allS_sz zs hpm
  have kn : SmS (allS s p) := az1.sm hpl
  have zl := szS1_sm kl
  have zn := szS1_sm kn
  have hp3 : p.length <= 1049600 := by omega
  obtain ⟨_, Gs, c1, rfl, _⟩ := spec_SayAll_g s (.agg (cS s)) p [] (AsS.str s) zs hpl hpm
  obtain ⟨Gi, c2⟩ := impl_SayAll_r s p zs hpl hpm
  have hown : ownA (.tup [.agg (cSo (allS s p)), .sl true (vI .i64 (allC s p)), .bool (allB s p)]) = true := by
   show (ownA (.agg (cSo (allS s p))) && (ownA (.sl true (vI .i64 (allC s p))) && (ownA (.bool (allB s p)) && true))) = true
   rw [cSo_own]
   simp only [ownA, vI_ownA, Bool.true_or, Bool.and_self]
  have hnp : noPtrL [V.agg (cS s), .sl false (vT p)] = true := by simp only [evv, cS_e]
  have hpc : pc id_spec_SayAll [.agg (cS s), .sl false (vT p)] = some (.tup [.agg (cSo (allS s p)), .sl true (vI .i64 (allC s p)), .bool (allB s p)]) := pc_of c1 hnp (by simp only [data, dataL, cSo_e, vT_data, vO_data, vI_data, Bool.and_self])
  have psp : ∀ {H : VH} {ks ls : List Nat} {cs : List V} {w : V}, SnR H ks cs s -> TxR H ls w p -> pco id_spec_SayAll H [.agg cs, w] = some (.tup [.agg (cSo (allS s p)), .sl true (vI .i64 (allC s p)), .bool (allB s p)]) := fun h g =>
   pco_fr (fun hn => by
    simp only [noObsL, Bool.and_eq_true] at hn
    simp only [dataL, h.nd hn.1, g.nd hn.2.1, Bool.and_self]) (by simp only [List.map_cons, List.map_nil, h.frD3, g.frD 2]; exact hpc) hown
  have pim : ∀ {H : VH} {ks ls : List Nat} {cs : List V} {w : V}, SnR H ks cs s -> TxR H ls w p -> pcu id_impl_SayAll H [.agg cs, w] = some (.tup [.agg (cSo (allS s p)), .sl true (vI .i64 (allC s p)), .bool (allB s p)]) := fun h g =>
   pcu_fr (by simp only [List.map_cons, List.map_nil, h.frD3, g.frD 2]; exact hnp) (by simp only [List.map_cons, List.map_nil, h.frD3, g.frD 2]; exact c2) hown
  have hcl : (allC s p).length <= 1048576 := by omega
  generalize allS s p = n at *
  generalize allC s p = c at *
  generalize allB s p = b at *
  simp only [evv, cS_e, vT_strip, vR_strip, s1', s2', h0, h1]
  refine (toSession_g s kl []).bind ?_
  rintro _ G1 ⟨cs1, ks1, X1, rfl, -, r1, -, b1⟩
  simp only [evv, vT_strip]
  refine (toStringS_g p hp3 G1).bind ?_
  rintro _ _ ⟨rfl, rfl⟩
  obtain ⟨ls1, t1, _⟩ := TxR.new p G1
  have q1 := psp (r1.app _ fun j hj => (b1 j hj).2) t1
  obtain ⟨v1, w1, d1, _, _, _, rfl, -⟩ := id r1
  simp only [evv, q1, cSo_e, vT_strip, vO_strip, vI_strip']
  refine (toSession_g s kl _).bind ?_
  rintro _ _ ⟨cs2, ks2, X2, rfl, rfl, r2, n2, b2⟩
  obtain ⟨v2, w2, d2, _, _, _, rfl, -⟩ := id r2
  simp only [evv, vT_strip]
  refine (toStringS_g p hp3 _).bind ?_
  rintro _ _ ⟨rfl, rfl⟩
  obtain ⟨ls2, t2, tb2⟩ := TxR.new p (G1 ++ [p.map V.str] ++ X2)
  have r2s := (r2.app [p.map V.str] fun j hj => (b2 j hj).2).strip
  have q2 := pim r2s t2
  simp only [stripL, strip, strip_strip] at q2 r2s
  simp only [evv, q2]
  refine Gets.promSA fun cs3 i3 ks3 ls3 X3 r3 j3 n3 b3 c3 dj => ?_
  have r3s := r3.strip
  have j3s := j3.strip
  have r2a := r2s.app X3 fun j hj => by have := (b2 j hj).2; simp at this ⊢; omega
  have t2a := t2.app X3 fun j hj => by have := tb2 j hj; simp at this ⊢; omega
  have e3 := eqSession_o n r3s kn
  have f3 := eqIntS_o c j3s (by omega)
  rw [decide_eq_true rfl] at e3 f3
  have hsep : ∀ j, (j ∈ ks3 ∨ j ∈ ls3) -> j ∉ ks2 /\ j ∉ ls2 := fun j hj => by
   have h1 : (G1 ++ [p.map V.str] ++ X2 ++ [p.map V.str]).length <= j := by
    rcases hj with hj | hj
    ·exact (b3 j hj).1
    ·exact (c3 j hj).1
   exact ⟨fun hk => by have := (b2 j hk).2; simp at this h1; omega, fun hk => by have := tb2 j hk; simp at this h1; omega⟩
  have hsep2 : ∀ j ∈ ls2, j ∉ ks2 := fun j hj hk => by have := (b2 j hk).2; have := tb2 j hj; omega
  generalize (V.obs (G1 ++ [p.map V.str] ++ X2).length 0 p.length 1) = x1 at *
  have l3 : ∀ j, (j ∈ ks2 ∨ j ∈ ls2) -> j < (G1 ++ [p.map V.str] ++ X2 ++ [p.map V.str] ++ X3).length := fun j hj => by
   rcases hj with hj | hj
   ·have := (b2 j hj).2; simp at this ⊢; omega
   ·have := tb2 j hj; simp at this ⊢; omega
  generalize hG3 : G1 ++ [p.map V.str] ++ X2 ++ [p.map V.str] ++ X3 = G3 at *
  obtain ⟨v3, w3, d3, _, _, _, rfl, -⟩ := id r3
  simp only [stripL, cS_e, strip, strip_strip] at e3 r3s r2a
  simp only [evv, gt_22', gt_30', List.getD_cons_succ, List.getD_cons_zero, e3, f3, vT_strip, vR_strip]
  refine (toSession_g s kl G3).bind ?_
  rintro _ _ ⟨cs4, ks4, X4, rfl, rfl, r4, -, -⟩
  have r2b := r2a.app X4 fun j hj => l3 j (.inl hj)
  have e4 := eqSession_oo r2b r4 kl
  rw [decide_eq_true rfl] at e4
  simp only [evv, gt_22', gt_30', List.getD_cons_succ, List.getD_cons_zero, e4, vT_strip]
  refine (toStringS_g p hp3 _).bind ?_
  rintro _ _ ⟨rfl, rfl⟩
  obtain ⟨ls4, t4, _⟩ := TxR.new p (G3 ++ X4)
  have t2b := ((t2a.app X4 fun j hj => l3 j (.inr hj)).app [p.map V.str] fun j hj => by have := l3 j (.inr hj); simp; omega).strip
  have r2c := r2b.app [p.map V.str] fun j hj => by have := l3 j (.inl hj); simp; omega
  have g4 := eqStringS_oo t2b t4 hp3
  rw [decide_eq_true rfl] at g4
  have r3b := (r3s.app X4 fun j hj => (b3 j hj).2).app [p.map V.str] fun j hj => by have := (b3 j hj).2; simp at this ⊢; omega
  have j3b := InR.app [p.map V.str] (InR.app X4 j3s fun j hj => (c3 j hj).2) fun j hj => by have := (c3 j hj).2; simp at this ⊢; omega
  have hlen4 : G3.length <= (G3 ++ X4 ++ [p.map V.str]).length := by simp only [List.length_append]; omega
  simp only [evv, g4]
  generalize (V.obs (G3 ++ X4).length 0 p.length 1) = x4 at *
  generalize G3 ++ X4 ++ [p.map V.str] = G4 at *
  refine (markSession_g r2c n2 1 (by omega)).bind ?_
  rintro _ G5 ⟨rfl, -, f5, l5⟩
  simp only [evv]
  refine (markStringS_g (t2b.mono fun j hj => f5 j (hsep2 j hj)) (1 + szS1 s) (by omega)).bind ?_
  rintro _ G6 ⟨rfl, -, f6, l6⟩
  have r3c := r3b.mono (H' := G6) fun j hj => by rw [f6 j (hsep j (.inl hj)).2, f5 j (hsep j (.inl hj)).1]
  have j3c := j3b.mono IR.Mon (H' := G6) fun j hj => by rw [f6 j (hsep j (.inr hj)).2, f5 j (hsep j (.inr hj)).1]
  have e6 := eqSession_o n r3c kn
  have g6 := eqIntS_o c j3c (by omega)
  rw [decide_eq_true rfl] at e6 g6
  simp only [cS_e] at e6
  simp only [evv, gt_22', gt_30', List.getD_cons_succ, List.getD_cons_zero, e6, g6, show ¬ (((1 + szS1 s + p.length : Nat) : Int) < 0) from by omega]
  refine (markSession_g r3c n3 1 (by omega)).bind ?_
  rintro _ G7 ⟨rfl, r7, f7, l7⟩
  simp only [evv]
  refine (markIntS_g (j3c.mono IR.Mon fun j hj => f7 j fun hk => dj j hk hj) (1 + szS1 n) (by omega)).bind ?_
  rintro _ G8 ⟨rfl, j8, f8, l8⟩
  have r8 := r7.mono (H' := G8) fun j hj => f8 j (dj j hj)
  simp only [stripL, strip, strip_strip] at r8
  have e8 := heldSession_o r8 (by omega)
  have g8 := heldIntS_o j8 (by omega)
  rw [show ((1 : Nat) : Int) = 1 from rfl] at e8
  simp only [evv, gt_22', gt_30', List.getD_cons_succ, List.getD_cons_zero, e8, g8, vT_strip, vR_strip, show ¬ (((1 + szS1 n : Nat) : Int) < 0) from by omega, show ¬ (((1 + szS1 n + c.length : Nat) : Int) < 0) from by omega]
  refine (toSession_g s kl G8).bind ?_
  rintro _ _ ⟨cs9, ks9, X9, rfl, rfl, r9, -, b9⟩
  simp only [evv, vT_strip]
  refine (toStringS_g p hp3 _).bind ?_
  rintro _ _ ⟨rfl, rfl⟩
  obtain ⟨ls9, t9, _⟩ := TxR.new p (G8 ++ X9)
  have q9 := pim (r9.app [p.map V.str] fun j hj => (b9 j hj).2) t9
  simp only [evv, q9]
  refine Gets.promSA fun cs10 i10 ks10 ls10 X10 r10 j10 n10 b10 c10 dj10 => ?_
  have e10 := eqSession_o n r10.strip kn
  have f10 := eqIntS_o c j10.strip (by omega)
  rw [decide_eq_true rfl] at e10 f10
  obtain ⟨v10, w10, d10, _, _, _, rfl, -⟩ := id r10
  simp only [stripL, cS_e, strip, strip_strip] at e10
  have hl8 : G3.length <= G8.length := by omega
  have r11 := ((r8.app X9 fun j hj => by have := (b3 j hj).2; omega).app [p.map V.str] fun j hj => by have := (b3 j hj).2; simp; omega).app X10 fun j hj => by have := (b3 j hj).2; simp; omega
  have j11 := InR.app X10 (InR.app [p.map V.str] (InR.app X9 j8 fun j hj => by have := (c3 j hj).2; omega) fun j hj => by have := (c3 j hj).2; simp; omega) fun j hj => by have := (c3 j hj).2; simp; omega
  have e11 := heldSession_o r11 (by omega)
  have g11 := heldIntS_o j11 (by omega)
  rw [show ((1 : Nat) : Int) = 1 from rfl] at e11
  simp only [evv, gt_22', gt_30', List.getD_cons_succ, List.getD_cons_zero, e10, f10, e11, g11, show ¬ (((1 + szS1 n : Nat) : Int) < 0) from by omega, show ¬ (((1 + szS1 n + c.length : Nat) : Int) < 0) from by omega]
  exact Gets.here rfl
end Go.Proofs.YtjpkhkndkockiaaGreatDoor.Q

/- Contracts: sessions in memory, marked; the laws of lines that are said. -/
import Derived.Test.YtjpkhkndkockiaaGreatDoorExactSayAllCb8intsZ
import Derived.Test.YtjpkhkndkockiaaGreatDoorFnExactSayAllK4
namespace Go.Proofs.YtjpkhkndkockiaaGreatDoor.Q
open Go Go.AM
set_option linter.unusedSimpArgs false
set_option linter.unusedVariables false
set_option linter.unusedSectionVars false
def SnR (H : VH) (ks : List Nat) (cs : List V) (s : Session) : Prop := ∃ v w d k1 k2 k3, cs = [.int .i64 s.state, .str s.host, .str s.draft.from_, v, w, d] /\ ks = k1 ++ (k2 ++ k3) /\ TxR H k1 v s.draft.to /\ TxR H k2 w s.draft.lines /\ MsR H k3 d s.done
theorem SnR.mono {H H' : VH} {ks : List Nat} {cs : List V} {s : Session} (h : SnR H ks cs s) (e : ∀ j ∈ ks, H'[j]? = H[j]?) : SnR H' ks cs s := by
 obtain ⟨v, w, d, k1, k2, k3, rfl, rfl, h1, h2, h3⟩ := h
 exact ⟨v, w, d, k1, k2, k3, rfl, rfl, h1.mono fun j hj => e j (by simp [hj]), h2.mono fun j hj => e j (by simp [hj]), h3.mono MlR.Mon fun j hj => e j (by simp [hj])⟩
theorem SnR.strip {H : VH} {ks : List Nat} {cs : List V} {s : Session} (h : SnR H ks cs s) : SnR H ks (stripL cs) s := by
 obtain ⟨v, w, d, k1, k2, k3, rfl, rfl, h1, h2, h3⟩ := h
 exact ⟨_, _, _, k1, k2, k3, rfl, rfl, h1.strip, h2.strip, h3.strip⟩
theorem SnR.app {H : VH} {ks : List Nat} {cs : List V} {s : Session} (X : VH) (h : SnR H ks cs s) (hk : ∀ j ∈ ks, j < H.length) : SnR (H ++ X) ks cs s :=
 h.mono fun j hj => by rw [List.getElem?_append_left (hk j hj)]
theorem SnR.frD3 {H : VH} {ks : List Nat} {cs : List V} {s : Session} (h : SnR H ks cs s) : frD 3 H (.agg cs) = .agg (cS s) := by
 obtain ⟨v, w, d, k1, k2, k3, rfl, rfl, h1, h2, h3⟩ := h
 have a1 := h1.frD 2
 have a2 := h2.frD 2
 have a3 := MsR.frD 1 h3
 simp only [Go.AM.frD] at a1 a2 a3
 simp only [Go.AM.frD, frO, frOL, a1, a2, a3, cS_e]
theorem SnR.nd {H : VH} {ks : List Nat} {cs : List V} {s : Session} (h : SnR H ks cs s) (hn : noObs (.agg cs) = true) : data (.agg cs) = true := by
 obtain ⟨v, w, d, k1, k2, k3, rfl, rfl, h1, h2, h3⟩ := h
 simp only [noObs, noObsL, Bool.and_eq_true] at hn
 simp only [data, dataL, h1.nd hn.2.2.2.1, h2.nd hn.2.2.2.2.1, h3.nd hn.2.2.2.2.2.1, Bool.and_self]
theorem toSession_g (s : Session) (h : SmS s) (H : VH) : Gets2 (cv id_laws_toSession [.agg (cS s)] H) (fun r G => ∃ cs ks X, r = .agg cs /\ G = H ++ X /\ SnR G ks cs s /\ ks.Nodup /\ ∀ j ∈ ks, H.length <= j /\ j < G.length) := by
 refine Gets2.of ?_
 rw [laws_toSession_eq]
 simp only [evv, cS_e, vT_strip, vR_strip]
 refine (toMail_g s.draft h.2.1 H).bind ?_
 rintro _ _ ⟨cs, ks, X, rfl, rfl, t1, n1, b1⟩
 obtain ⟨v, w, k1, k2, rfl, rfl, t2, t3⟩ := t1
 simp only [evv, vR_strip]
 refine (toMailS_g s.done h.2.2 _).bind ?_
 rintro d _ ⟨ls, Y, rfl, u1, n2, b2⟩
 simp only [evv, u1.one]
 refine Gets.here ⟨_, k1 ++ (k2 ++ ls), X ++ Y, rfl, by rw [List.append_assoc], ⟨v, w, d, k1, k2, ls, rfl, rfl, t2.app Y fun j hj => (b1 j (by simp [hj])).2, t3.app Y fun j hj => (b1 j (by simp [hj])).2, u1⟩, ?_, fun j hj => ?_⟩
 ·rw [<- List.append_assoc, List.nodup_append]
  exact ⟨n1, n2, fun a ha b hb => by have := b1 a ha; have := b2 b hb; omega⟩
 ·rw [<- List.append_assoc] at hj
  rcases List.mem_append.1 hj with hj | hj
  ·have := b1 j hj; simp at this ⊢; omega
  ·have := b2 j hj; simp at this ⊢; omega
noncomputable def mkS (k : Nat) (s : Session) : Session := ⟨s.state, s.host, mkM k s.draft, mkMs (k + s.draft.to.length + s.draft.lines.length) s.done⟩
def szS1 (s : Session) : Nat := s.draft.to.length + s.draft.lines.length + szMk s.done
theorem markSession_g {H : VH} {ks : List Nat} {cs : List V} {s : Session} (h : SnR H ks cs s) (hn : ks.Nodup) (k : Nat) (hk : k + szS1 s <= 9000000000000000000) :
 Gets2 (cv id_laws_markSession [.agg cs, .int .i64 (k : Nat)] H) (fun r G => r = .int .i64 ((k + szS1 s : Nat) : Int) /\ SnR G ks (stripL cs) (mkS k s) /\ (∀ j, j ∉ ks -> G[j]? = H[j]?) /\ G.length = H.length) := by
 obtain ⟨v, w, d, k1, k2, k3, rfl, rfl, h1, h2, h3⟩ := h
 rw [<- List.append_assoc, List.nodup_append] at hn
 have hz : k + szS1 s = k + s.draft.to.length + s.draft.lines.length + szMk s.done := by unfold szS1; omega
 refine Gets2.of ?_
 rw [laws_markSession_eq, hz]
 have hm : MlR H (k1 ++ k2) [.str s.draft.from_, Go.AM.strip v, Go.AM.strip w] s.draft := ⟨_, _, k1, k2, rfl, rfl, h1.strip, h2.strip⟩
 simp only [evv]
 refine (markMail_g hm hn.1 k (by omega)).bind ?_
 rintro _ G ⟨rfl, g1, g2, g3⟩
 have h3' := h3.strip.mono MlR.Mon (H' := G) fun j hj => g2 j fun hj1 => hn.2.2 j hj1 j hj rfl
 simp only [evv]
 refine (markMailS_g h3' hn.2.1 (k + s.draft.to.length + s.draft.lines.length) (by omega)).bind ?_
 rintro _ G2 ⟨rfl, f1, f2, f3⟩
 simp only [evv]
 have g1' := g1.mono (H' := G2) fun j hj => f2 j fun hj2 => hn.2.2 j hj j hj2 rfl
 simp only [stripL, strip, strip_strip] at g1'
 obtain ⟨x, y, q1, q2, he, hq, t1, t2⟩ := g1'
 simp only [List.cons.injEq] at he
 obtain ⟨_, rfl, rfl, _⟩ := he
 refine Gets.here ⟨rfl, ?_, fun j hj => ?_, f3.trans g3⟩
 ·exact ⟨_, _, _, q1, q2, k3, rfl, by rw [<- List.append_assoc, <- List.append_assoc, hq], t1, t2, f1⟩
 ·simp only [List.mem_append, not_or] at hj
  rw [f2 j hj.2.2, g2 j (by simp only [List.mem_append, not_or]; exact ⟨hj.1, hj.2.1⟩)]
theorem heldSession_c (k : Nat) (s : Session) (hk : k + szS1 s <= 9000000000000000000) : qc id_laws_heldSession [.agg (cS (mkS k s)), .int .i64 (k : Nat)] = some (.int .i64 ((k + szS1 s : Nat) : Int)) := by
 have hz : k + szS1 s = k + s.draft.to.length + s.draft.lines.length + szMk s.done := by unfold szS1; omega
 have e1 := heldMail_c k s.draft (by omega)
 have e2 := heldMailS_c (k + s.draft.to.length + s.draft.lines.length) s.done (by omega)
 simp only [cM_e] at e1
 rw [hz]
 refine qc_of (H := []) ?_ (by simp only [evv, cS_e]) rfl
 show cv _ _ _ = _
 rw [laws_heldSession_eq]
 simp only [evv, cS_e, mkS, e1, e2, show ¬ (((k + s.draft.to.length + s.draft.lines.length : Nat) : Int) < 0) from by omega, show ¬ (((k + s.draft.to.length + s.draft.lines.length + szMk s.done : Nat) : Int) < 0) from by omega]
theorem heldSession_o {H : VH} {ks : List Nat} {cs : List V} {s : Session} {k : Nat} (h : SnR H ks cs (mkS k s)) (hk : k + szS1 s <= 9000000000000000000) : qco id_laws_heldSession H [.agg cs, .int .i64 (k : Nat)] = some (.int .i64 ((k + szS1 s : Nat) : Int)) := by
 rw [qco_fr (fun hn => by
  simp only [noObsL, Bool.and_eq_true] at hn
  have q := h.nd hn.1
  show (data (.agg cs) && (data (.int .i64 (k : Nat)) && true)) = true
  rw [q]; rfl)]
 simp only [List.map_cons, List.map_nil, h.frD3, frD_data 3 H (.int .i64 (k : Nat)) rfl, strip]
 exact heldSession_c k s hk
theorem frD_cS (d : Nat) (H : VH) (s : Session) : frD d H (.agg (cS s)) = .agg (cS s) := by
 rw [frD_data _ _ _ (by simp only [data, cS_e, dataL, vT_data, vR_data, Bool.and_self])]
 simp only [strip, cS_e, stripL, vT_strip, vR_strip]
theorem cS_dat (s : Session) : data (.agg (cS s)) = true := by simp only [data, cS_e, dataL, vT_data, vR_data, Bool.and_self]
theorem eqSession_o {H : VH} {ks : List Nat} {cs : List V} {s : Session} (n : Session) (h : SnR H ks cs s) (hm : SmS s) : qco id_laws_eqSession H [.agg cs, .agg (cS n)] = some (.bool (decide (s = n))) := by
 rw [qco_fr (fun hn => by
  simp only [noObsL, Bool.and_eq_true] at hn
  simp only [dataL, h.nd hn.1, cS_dat, Bool.and_self])]
 simp only [List.map_cons, List.map_nil, h.frD3, frD_cS]
 exact eqSession_c s n hm
theorem eqSession_oo {H : VH} {ks ls : List Nat} {cs ds : List V} {s n : Session} (h : SnR H ks cs s) (g : SnR H ls ds n) (hm : SmS s) : qco id_laws_eqSession H [.agg cs, .agg ds] = some (.bool (decide (s = n))) := by
 rw [qco_fr (fun hn => by
  simp only [noObsL, Bool.and_eq_true] at hn
  simp only [dataL, h.nd hn.1, g.nd hn.2.1, Bool.and_self])]
 simp only [List.map_cons, List.map_nil, h.frD3, g.frD3]
 exact eqSession_c s n hm
theorem cSo_own (s : Session) : ownA (.agg (cSo s)) = true := by
 have := vO_own s.done
 simp only [ownA, cSo_e, ownAL, this, vT_ownA, Bool.true_or, Bool.and_self]
theorem prom_cSo (s : Session) (H : VH) : ∃ cs ks G, prom 3 H (.agg (cSo s)) = (.agg cs, H ++ G) /\ SnR (H ++ G) ks cs s /\ ks.Nodup /\ ∀ j ∈ ks, H.length <= j /\ j < (H ++ G).length := by
 obtain ⟨k1, v, G1, e1, a1, a2⟩ := prom_vT 2 s.draft.to H
 obtain ⟨k2, w, G2, e2, b1, b2⟩ := prom_vT 2 s.draft.lines (H ++ G1)
 obtain ⟨k3, d, G3, e3, c1, c2, c3⟩ := prom_vO 1 s.done (H ++ G1 ++ G2)
 have p1 : ∀ G, prom 3 G (.int .i64 s.state) = (.int .i64 s.state, G) := fun G => by simp only [prom]
 have p2 : ∀ G t, prom 3 G (.str t) = (.str t, G) := fun G t => by simp only [prom]
 have p0 : promL 3 H (cSo s) = ([.int .i64 s.state, .str s.host, .str s.draft.from_, v, w, d], H ++ G1 ++ G2 ++ G3) := by
  rw [cSo_e]
  simp only [promL, p1, p2, e1, e2, e3]
 have a1' := (a1.app G2 fun j hj => (a2 j hj).2).app G3 fun j hj => by have := (a2 j hj).2; simp at this ⊢; omega
 have b1' := b1.app G3 fun j hj => (b2 j hj).2
 refine ⟨[.int .i64 s.state, .str s.host, .str s.draft.from_, v, w, d], k1 ++ (k2 ++ k3), G1 ++ G2 ++ G3, ?_, ⟨v, w, d, k1, k2, k3, rfl, rfl, ?_, ?_, ?_⟩, ?_, fun j hj => ?_⟩
 ·rw [prom, p0]; simp
 ·simpa using a1'
 ·simpa using b1'
 ·simpa using c1
 ·rw [List.nodup_append, List.nodup_append]
  refine ⟨a1.nod, ⟨b1.nod, c2, fun a ha b hb => by have := b2 a ha; have := c3 b hb; omega⟩, fun a ha b hb => ?_⟩
  have := a2 a ha
  rcases List.mem_append.1 hb with hb | hb
  ·have := b2 b hb; omega
  ·have := c3 b hb; simp at this; simp at *; omega
 ·rcases List.mem_append.1 hj with hj | hj
  ·have := a2 j hj; simp at this ⊢; omega
  ·rcases List.mem_append.1 hj with hj | hj
   ·have := b2 j hj; simp at this ⊢; omega
   ·have := c3 j hj; simp at this ⊢; omega
theorem SzT.of {l : List Bs} {n : Nat} {k : Int} (h : 0 <= k) (hk : k <= n) (h2 : 0 <= szT l k) : SzT n l := by
 obtain ⟨h3, h4⟩ := szT_ok h h2
 exact ⟨by omega, fun s hs => by have := h4 s hs; omega⟩
theorem SzM.of {m : Mail} {n : Nat} {k : Int} (h : 0 <= k) (hk : k <= n) (h2 : 0 <= szM m k) : SzM n m := by
 unfold szM at h2
 split at h2
 ·omega
 ·rename_i h3
  have h5 := szT_le (l := m.to) (n := k - m.from_.length) (by omega)
  split at h2
  ·omega
  ·rename_i h4
   split at h2
   ·omega
   ·exact ⟨by omega, SzT.of (k := k - m.from_.length) (by omega) (by omega) (by omega), SzT.of (k := szT m.to (k - m.from_.length)) (by omega) (by omega) h2⟩
theorem SzS.of {s : Session} {n : Nat} {k : Int} (h : 0 <= k) (hk : k <= n) (h2 : 0 <= szSn s k) : SzS n s := by
 unfold szSn at h2
 split at h2
 ·omega
 ·rename_i h3
  have h5 := szM_le (m := s.draft) (n := k - s.host.length) (by omega)
  split at h2
  ·omega
  ·rename_i h4
   split at h2
   ·omega
   ·have h6 := h2
    unfold szMs at h6
    split at h6
    ·omega
    ·refine ⟨by omega, SzM.of (k := k - s.host.length) (by omega) (by omega) (by omega), by omega, fun m hm => ?_⟩
     obtain ⟨q, g3, g4, g5⟩ := szGo_mem (f := szM) (l := s.done) (fun a _ k hk => szM_le hk) (n := szM s.draft (k - s.host.length) - s.done.length) (by omega) h6 m hm
     exact SzM.of g3 (by omega) g5
theorem szMk_leS : ∀ {l : List Mail}, (∀ m ∈ l, SmM m) -> szMk l <= l.length * 2099201
 | [], _ => by simp [szMk]
 | m :: l, h => by
   have h1 := h m (by simp)
   have h2 := szMk_leS (l := l) fun x hx => h x (by simp [hx])
   have := h1.2.1.1
   have := h1.2.2.1
   simp only [szMk, sz1, List.length_cons]
   omega
theorem szS1_sm {s : Session} (h : SmS s) : szS1 s <= 3000000000000 := by
 have h1 := szMk_leS h.2.2.2
 have := h.2.2.1
 have := h.2.1.2.1.1
 have := h.2.1.2.2.1
 unfold szS1
 omega
end Go.Proofs.YtjpkhkndkockiaaGreatDoor.Q

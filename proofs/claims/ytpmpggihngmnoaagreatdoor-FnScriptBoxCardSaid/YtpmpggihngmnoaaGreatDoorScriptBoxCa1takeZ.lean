/- Contracts: mails are taken. -/
import Derived.Test.YtpmpggihngmnoaaGreatDoorScriptBoxC99addboxZ
import Derived.Test.YtpmpggihngmnoaaGreatDoorFnScriptBoxK4
namespace Go.Proofs.YtpmpggihngmnoaaGreatDoor.Q
open Go Go.AM
set_option linter.unusedSimpArgs false
set_option linter.unusedVariables false
set_option linter.unusedSectionVars false
def takeB (l : List Box) (p : Bs) : Bool := boxesT l && (l.any (isP p) && !decide ((boxAt l (l.findIdx (isP p))).mails.length = 0))
def takeL (l : List Box) (p : Bs) : List Box := if takeB l p = true then l.set (l.findIdx (isP p)) ⟨(boxAt l (l.findIdx (isP p))).path, (boxAt l (l.findIdx (isP p))).mails.drop 1⟩ else []
def takeM (l : List Box) (p : Bs) : Mail := if takeB l p = true then (boxAt l (l.findIdx (isP p))).mails.headD ⟨[], [], []⟩ else ⟨[], [], []⟩
def m0 : Mail := ⟨[], [], []⟩
theorem ouL_id {g : VH -> V -> Option (V × VH)} (hg : ∀ H v, ownA v = true -> g H v = some (v, H)) : ∀ (vs : List V) (H : VH), ownAL vs = true -> ouL g H vs = some (vs, H)
 | [], _, _ => rfl
 | v :: vs, H, h => by
   simp only [ownAL, Bool.and_eq_true] at h
   simp only [ouL, hg H v h.1, ouL_id hg vs H h.2, Option.bind_some]
theorem ou_id : ∀ (d : Nat) (H : VH) (v : V), ownA v = true -> ou d H v = some (v, H)
 | 0, H, v, h => by simp only [ou, h]
 | d + 1, H, v, h => by
   cases v with
   | obs => simp [ownA] at h
   | agg vs => simp only [ownA] at h; simp only [ou, ouL_id (ou_id d) vs H h, Option.bind_some]
   | tup vs => simp only [ownA] at h; simp only [ou, ouL_id (ou_id d) vs H h, Option.bind_some]
   | _ => simp only [ou, h]
theorem ownAL_app : ∀ a b : List V, ownAL (a ++ b) = (ownAL a && ownAL b)
 | [], b => by simp [ownAL]
 | v :: a, b => by simp only [List.cons_append, ownAL, ownAL_app a b, Bool.and_assoc]
theorem ownAL_flat : ∀ {r : List (List V)}, ownALL r = true -> ownAL r.flatten = true
 | [], _ => rfl
 | x :: r, h => by
   simp only [ownALL, Bool.and_eq_true] at h
   simp only [List.flatten_cons, ownAL_app, h.1, ownAL_flat h.2, Bool.and_self]
theorem ou_obs (d : Nat) (H : VH) (k m e : Nat) : ou (d + 1) H (.obs k 0 (m + 1) e) = (H[k]?).bind fun cs => if 0 = 0 /\ 1 < e /\ cs.length = (m + 1) * e then (ouL (ou d) (H.set k []) cs).bind fun r => some (.sl true (chunkV e (m + 1) r.1), r.2) else none := rfl
def CellX (H : VH) (kk : List Nat) (v : V) (ms : List Mail) : Prop := (kk = [] /\ ms = [] /\ (v = .sl true [] ∨ ∃ q, v = .obs q 0 0 3)) ∨ (∃ q, kk = [q] /\ ms ≠ [] /\ v = .obs q 0 ms.length 3 /\ H[q]? = some (vO ms).flatten)
def LayX (H : VH) : List Nat -> List (List V) -> List Box -> Prop
 | ks, r, [] => ks = [] /\ r = []
 | ks, r, b :: l => ∃ v r' kk ks', r = [.str b.path, v] :: r' /\ ks = kk ++ ks' /\ CellX H kk v b.mails /\ LayX H ks' r' l
theorem CellX.mono {H H' : VH} {kk : List Nat} {v : V} {ms : List Mail} (h : CellX H kk v ms) (e : ∀ j ∈ kk, H'[j]? = H[j]?) : CellX H' kk v ms := by
 rcases h with h | ⟨q, rfl, h2, h3, h4⟩
 ·exact .inl h
 ·exact .inr ⟨q, rfl, h2, h3, by rw [e q (by simp), h4]⟩
theorem LayX.mono {H H' : VH} : ∀ {l : List Box} {ks : List Nat} {r : List (List V)}, LayX H ks r l -> (∀ j ∈ ks, H'[j]? = H[j]?) -> LayX H' ks r l
 | [], _, _, h, _ => h
 | b :: l, ks, r, h, e => by
   obtain ⟨v, r', kk, ks', rfl, rfl, h1, h2⟩ := h
   exact ⟨v, r', kk, ks', rfl, rfl, h1.mono fun j hj => e j (by simp [hj]), h2.mono fun j hj => e j (by simp [hj])⟩
theorem LayX.rows {H : VH} : ∀ {l : List Box} {ks : List Nat} {r : List (List V)}, LayX H ks r l -> Go.AM.Rows 2 r /\ r.length = l.length
 | [], _, _, h => by obtain ⟨_, rfl⟩ := h; exact ⟨fun x hx => by simp at hx, rfl⟩
 | b :: l, ks, r, h => by
   obtain ⟨v, r', kk, ks', rfl, rfl, h1, h2⟩ := h
   obtain ⟨a1, a2⟩ := h2.rows
   exact ⟨fun x hx => by
    rcases List.mem_cons.1 hx with rfl | hx
    ·rfl
    ·exact a1 x hx, by simp [a2]⟩
theorem LayX.at {H : VH} : ∀ {l : List Box} {ks : List Nat} {r : List (List V)} {i : Nat} (hi : i < l.length), LayX H ks r l -> l[i].mails ≠ [] →
 ∃ k ks1 ks2, ks = ks1 ++ k :: ks2 /\ r[i]? = some [.str l[i].path, .obs k 0 l[i].mails.length 3] /\ H[k]? = some (vO l[i].mails).flatten ∧
   ∀ H' kk v ms, (∀ j ∈ ks1 ++ ks2, H'[j]? = H[j]?) -> CellX H' kk v ms -> LayX H' (ks1 ++ kk ++ ks2) (r.set i [.str l[i].path, v]) (l.set i ⟨l[i].path, ms⟩)
 | [], _, _, i, hi, _, _ => by simp at hi
 | b :: l, ks, r, 0, _, h, hm => by
   obtain ⟨v, r', kk, ks', rfl, rfl, h1, h2⟩ := h
   rcases h1 with ⟨_, h, _⟩ | ⟨q, rfl, h3, rfl, h4⟩
   ·exact absurd h hm
   ·refine ⟨q, [], ks', rfl, rfl, h4, fun H' kk v ms e hc => ?_⟩
    exact ⟨v, r', kk, ks', rfl, by simp, hc, h2.mono fun j hj => e j (by simpa using hj)⟩
 | b :: l, ks, r, i + 1, hi, h, hm => by
   obtain ⟨v, r', kk0, ks', rfl, rfl, h1, h2⟩ := h
   obtain ⟨k, ks1, ks2, rfl, g1, g2, g3⟩ := LayX.at (i := i) (by simpa using hi) h2 hm
   refine ⟨k, kk0 ++ ks1, ks2, by simp, g1, g2, fun H' kk v' ms e hc => ?_⟩
   refine ⟨v, _, kk0, ks1 ++ kk ++ ks2, rfl, by simp, h1.mono fun j hj => e j (by simp [hj]), g3 H' kk v' ms (fun j hj => e j ?_) hc⟩
   simp only [List.mem_append] at hj ⊢
   rcases hj with hj | hj
   ·exact .inl (.inr hj)
   ·exact .inr hj
def OwX : List (List V) -> List Box -> Prop
 | s, [] => s = []
 | s, b :: l => ∃ o s', s = [.str b.path, .sl o (vO b.mails)] :: s' /\ (o = true ∨ b.mails = []) /\ OwX s' l
theorem OwX.nil : OwX [] [] := rfl
theorem LayX.ou {d : Nat} : ∀ {l : List Box} {H : VH} {ks : List Nat} {r : List (List V)}, LayX H ks r l -> ks.Nodup -> ∃ s H', ouL (Go.AM.ou (d + 2)) H r.flatten = some (s.flatten, H') /\ RoX s l /\ ownALL s = true /\ OwX s l
 | [], H, _, _, h, _ => by
   obtain ⟨rfl, rfl⟩ := h
   exact ⟨[], H, rfl, RoX.nil, rfl, rfl⟩
 | b :: l, H, ks, r, h, hn => by
   obtain ⟨v, r', kk, ks', rfl, rfl, h1, h2⟩ := h
   have hs : ouL (Go.AM.ou (d + 2)) H ([V.str b.path, v] :: r').flatten = (Go.AM.ou (d + 2) H v).bind fun a => (ouL (Go.AM.ou (d + 2)) a.2 r'.flatten).bind fun c => some (V.str b.path :: a.1 :: c.1, c.2) := by
    show ouL (Go.AM.ou (d + 2)) H (V.str b.path :: v :: r'.flatten) = _
    simp only [ouL, ou_id (d + 2) H (.str b.path) rfl, Option.bind_some]
    cases Go.AM.ou (d + 2) H v with
    | none => rfl
    | some a =>
      simp only [Option.bind_some]
      cases ouL (Go.AM.ou (d + 2)) a.2 r'.flatten <;> rfl
   rcases h1 with ⟨rfl, hm, hv⟩ | ⟨q, rfl, hm, rfl, hq⟩
   ·obtain ⟨s, H', g1, g2, g3, g4⟩ := LayX.ou (d := d) h2 (by simpa using hn)
    have hv' : ∃ o, Go.AM.ou (d + 2) H v = some (.sl o [], H) := by
     rcases hv with rfl | ⟨q, rfl⟩
     ·exact ⟨true, rfl⟩
     ·exact ⟨false, rfl⟩
    obtain ⟨o, hv'⟩ := hv'
    refine ⟨[.str b.path, .sl o []] :: s, H', by rw [hs, hv']; simp only [Option.bind_some, g1]; rfl, ?_, by simp only [ownALL, ownAL, ownA, g3, List.isEmpty_nil, Bool.or_true, Bool.and_self], ⟨o, s, by rw [hm]; rfl, .inr hm, g4⟩⟩
    have := RoX.app (r := [[.str b.path, .sl o []]]) (l := [b]) ⟨by obtain ⟨p, ms⟩ := b; subst hm; rfl, rfl, rfl⟩ g2
    exact this
   ·have hn' : ks'.Nodup /\ q ∉ ks' := by simp at hn; exact ⟨hn.2, hn.1⟩
    have h2' : LayX (H.set q []) ks' r' l := h2.mono fun j hj => by
     rw [List.getElem?_set_ne (fun e => hn'.2 (by rw [e]; exact hj))]
    obtain ⟨s, H', g1, g2, g3, g4⟩ := LayX.ou (d := d) h2' hn'.1
    have hl : (vO b.mails).flatten.length = b.mails.length * 3 := by have := (vO_rows b.mails).flat; rw [this, vO_len]
    have hv' : Go.AM.ou (d + 2) H (.obs q 0 b.mails.length 3) = some (.sl true (vO b.mails), H.set q []) := by
     have hown : ownAL (vO b.mails).flatten = true := ownAL_flat (vO_own b.mails)
     have hch : chunkV 3 b.mails.length (vO b.mails).flatten = vO b.mails := by have := (vO_rows b.mails).chunk; rw [vO_len] at this; exact this
     have h0 : b.mails.length ≠ 0 := fun e => hm (List.length_eq_zero_iff.1 e)
     obtain ⟨n, hn⟩ := Nat.exists_eq_succ_of_ne_zero h0
     rw [hn] at hl hch ⊢
     refine (ou_obs (d + 1) H q n 3).trans ?_
     rw [hq, Option.bind_some, if_pos ⟨rfl, by omega, hl⟩, ouL_id (ou_id (d + 1)) _ _ hown, Option.bind_some]
     show some (V.sl true (chunkV 3 n.succ (vO b.mails).flatten), _) = _
     rw [hch]
    refine ⟨cOx b :: s, H', by rw [hs, hv']; simp only [Option.bind_some, g1]; rfl, ?_, ?_, ⟨true, s, rfl, .inl rfl, g4⟩⟩
    ·exact RoX.app (RoX.own [b]) g2
    ·have := vOX_own [b]
     simp only [vOX, List.map_cons, List.map_nil, ownALL, Bool.and_true] at this
     simp only [ownALL, this, g3, Bool.and_self]
end Go.Proofs.YtpmpggihngmnoaaGreatDoor.Q

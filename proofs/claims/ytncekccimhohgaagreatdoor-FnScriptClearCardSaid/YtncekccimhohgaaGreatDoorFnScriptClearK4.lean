/- Part 4 of the machines: what is proved is told at each theorem; no condition. -/
import Derived.Test.YtncekccimhohgaaGreatDoorFnScriptClearK3
import Derived.Test.YtncekccimhohgaaGreatDoorFnScriptClearK2
import Derived.IntWalk
import Derived.Laws.Strings
import Derived.Lib.Bytealg
import Derived.ChangeArms
import Derived.DataReads
import Derived.LaidSub
import Derived.OpenShut
import Derived.WideShapes
/- One operation: the machine of values and the abstract machine side by side. -/
namespace Go.AM
set_option linter.unusedSimpArgs false
set_option linter.unusedVariables false
structure TabOk (X : XV) : Prop where
 zero : ∀ t ti, look X.tab t = some ti -> ∀ u ∈ ti.zero, pureV1 u = true
 sl : ∀ t e esz eb z ag n zz, look X.tab t = some ⟨.slice e esz eb z, ag, n, zz⟩ -> (∀ u ∈ z, pureV1 u = true) /\ z.length = esz /\ 0 < esz
 gd : GlobData X
 pos : ∀ t ti, look X.tab t = some ti -> 0 < ti.size
theorem repV_len {n : Nat} {l : List V} : (repV n l).length = n * l.length := by
 induction n with
 | zero => simp [repV]
 | succ n ih => simp only [repV, List.length_append, ih, Nat.succ_mul]; omega
theorem rep_sim {w : Wd} {l : List V} {xs : List Value} (h : RVs w l xs (fun _ => 0)) : ∀ n, RVs w (repV n l) (rep n xs) (fun _ => 0)
 | 0 => by simp [repV, rep, RVs]
 | n + 1 => by
   simp only [repV, rep]
   exact h.app (rep_sim h n)
theorem scalV_sim {w : Wd} {r : V} {x : Value} {c : Cnt} (h : RV w r x c) (hs : scalV r = true) : scalarV x = true /\ ∀ i, c i = 0 := by
 have one : ∀ {r : V} {x : Value} {c : Cnt}, RV w r x c -> scal1 r = true -> scalar1 x = true /\ ∀ i, c i = 0 := by
  intro r x c h hs
  cases r <;> simp only [scal1] at hs <;> try (cases hs; done)
  all_goals simp only [RV] at h; rw [h.1]; exact ⟨rfl, h.2⟩
 by_cases ht : ∃ vs, r = .tup vs
 rotate_left
 ·have hs1 : scal1 r = true := by cases r <;> first | exact hs | exact absurd ⟨_, rfl⟩ ht
  obtain ⟨h1, h2⟩ := one h hs1
  refine ⟨?_, h2⟩
  cases x <;> first | exact h1 | cases h1
 obtain ⟨vs, rfl⟩ := ht
 simp only [scalV] at hs
 simp only [RV] at h
 obtain ⟨ws, rfl, hw⟩ := h
 have : ∀ {vs : List V} {ws : List Value} {c : Cnt}, RVs w vs ws c -> vs.all scal1 = true -> ws.all scalar1 = true /\ ∀ i, c i = 0 := by
  intro vs
  induction vs with
  | nil => intro ws c h _; simp only [RVs] at h; rw [h.1]; exact ⟨rfl, h.2⟩
  | cons v vs ih =>
    intro ws c h hs
    simp only [RVs] at h
    obtain ⟨x, ys, c1, c2, rfl, h2, h3, h4⟩ := h
    simp only [List.all_cons, Bool.and_eq_true] at hs ⊢
    obtain ⟨a1, a2⟩ := one h2 hs.1
    obtain ⟨b1, b2⟩ := ih h3 hs.2
    exact ⟨⟨a1, b1⟩, fun i => by rw [h4, a2, b2]⟩
 obtain ⟨a, b⟩ := this hw hs
 refine ⟨?_, b⟩
 simp only [scalarV]
 simpa using a
theorem loadC_ne {take agg : Bool} {size off : Nat} {cs : List V} {r : V × List V} (h : loadC take agg size cs off = some r) (hp : 0 < size) : cs ≠ [] := by
 intro e
 subst e
 cases agg with
 | true =>
   simp only [loadC] at h
   obtain ⟨c, h1, _⟩ := bind_some' h
   have := (gcut_some h1).1
   simp at this; omega
 | false =>
   simp [loadC] at h
theorem store_sim {X : XV} {E : En} {w : Wd} {s : VS} {s' : St} {ce cl ch cx c : Cnt} (g : StC X E w s s' ce cl ch cx) {k off : Nat} {old cs : List V} {p : Value} {xs : List Value} {cp : Cnt}
 (hp : RV w (.ptr k off) p cp) (hk : s.H[k]? = some old) (hcs : RVs w cs xs c) (hc : ∀ i, c i <= cx i) (hb : off + cs.length <= old.length) (hne : cs ≠ []) :
 ∃ w2, hStore w.hp p xs = some w2.hp /\ StR X E w2 { s with H := s.H.set k (gseg old off cs) } { s' with hp := w2.hp } (fun _ => 0) := by
 simp only [RV] at hp
 obtain ⟨⟨b, h1, rfl⟩, _⟩ := hp
 obtain ⟨kb, c1, c2, g2, g3, g4, o2, g5⟩ := g.obj.store g.hw.nd hk (fun e => by subst e; cases cs with | nil => exact hne rfl | cons a l => simp at hb) h1
 have hbm := List.mem_of_getElem? h1
 obtain ⟨c', k1, k2⟩ := g3.seg hcs hb
 have hl := g3.len
 have hst : hStore w.hp (.pointer (some ⟨b, off, none⟩)) xs = some (setW w b { kb with cells := setSeg kb.cells off xs }).hp := by
  simp only [hStore, blkAt_mk g2 (by rw [o2]; simp), Option.bind_some]
  rw [if_pos ⟨o2, by rw [<- hcs.len, <- hl]; exact hb⟩]
  rfl
 have hx : Ext w (setW w b { kb with cells := setSeg kb.cells off xs }) (fun _ => True) := ext_set (k := { kb with cells := setSeg kb.cells off xs }) g.hw hbm g2 rfl rfl _
 have hset : (setW w b { kb with cells := setSeg kb.cells off xs }).hp[b]? = some { kb with cells := setSeg kb.cells off xs } := by
  exact setW_at (List.getElem?_eq_some_iff.1 g2).1
 have hobj := g5 _ (gseg old off cs) _ c' hx (fun e he hne ke hke => by
  obtain ⟨q', a1, _⟩ := setW_some (b := b) (k := { kb with cells := setSeg kb.cells off xs }) g2 rfl rfl hke
  refine ⟨q', a1, fun hm => ?_⟩
  have := setW_ne (k := { kb with cells := setSeg kb.cells off xs }) hke (show ke.fam ≠ kb.fam from g.hw.ofam hke g2 hm o2 hne) hne
  rw [this] at a1; cases a1; rfl) hset (.inr ⟨o2, RVs.mono hx _ k1 (fun _ _ => trivial)⟩)
 have hlen : (setW w b { kb with cells := setSeg kb.cells off xs }).hp.length = w.hp.length := setW_len
 refine ⟨_, hst, ce, cl, _, rfl, g.hw.set hbm g2 rfl rfl rfl, g.gl.mono hx, g.fr.set g.hw hbm g2 rfl rfl, g.env.mono hx (fun _ _ => trivial), g.loc.mono hx (fun _ _ => trivial), g.locn, hobj, fun i => ?_, fun i hi => ?_, fun i hi => ?_⟩
 ·have := g.le1 i; have := k2 i; have := hc i; have := g4 i; omega
 ·have := g.le0 i hi; have := k2 i; have := hc i; have := g4 i; omega
 ·rw [hlen] at hi; have := g.big i hi; have := k2 i; have := hc i; have := g4 i; omega
theorem alloc_sim {X : XV} {E : En} {w : Wd} {s : VS} {s' : St} {ce cl ch cx c : Cnt} (g : StC X E w s s' ce cl ch cx) {cs : List V} {xs : List Value} (hcs : RVs w cs xs c) (hc : ∀ i, c i <= cx i) (n : Nat) (p : Bool) (hpl : p = false -> n = 1) :
 ∃ w2, w2.hp = w.hp ++ [⟨xs, n, .rw, w.hp.length, p⟩] /\ StR X E w2 { s with H := s.H ++ [cs] } { s' with hp := w2.hp } (fun _ => 0) /\ RV w2 (.ptr s.H.length 0) (.pointer (some ⟨w.hp.length, 0, none⟩)) (fun _ => 0) := by
 have hx := ext_obj (k := ⟨xs, n, .rw, w.hp.length, p⟩) g.hw rfl (fun _ => True)
 refine ⟨{ hp := w.hp ++ [⟨xs, n, .rw, w.hp.length, p⟩], rho := w.rho ++ [w.hp.length], fb := w.hp.length :: w.fb }, rfl, ⟨ce, cl, fun i => ch i + c i, rfl, g.hw.pushObj rfl hpl, g.gl.mono hx, g.fr.pushObj g.hw rfl, g.env.mono hx (fun _ _ => trivial), g.loc.mono hx (fun _ _ => trivial), g.locn, ?_, fun i => ?_, fun i hi => ?_, fun i hi => ?_⟩, ?_⟩
 ·refine ROs.snoc (kb := ⟨xs, n, .rw, w.hp.length, p⟩) (by simp) rfl (RVs.mono hx _ hcs (fun _ _ => trivial)) (g.obj.mono hx (fun b hb => .eq ?_) (fun _ _ => trivial))
  show (w.hp ++ _)[b]? = _
  rw [List.getElem?_append_left (g.hw.fbl _ (g.hw.sub _ hb))]
 ·have := g.le1 i; have := hc i; omega
 ·have := g.le0 i hi; have := hc i; omega
 ·simp at hi; have := g.big i (by omega); have := hc i; omega
 ·simp only [RV]
  exact ⟨⟨w.hp.length, by rw [<- g.obj.len]; simp, rfl⟩, by simp⟩
theorem obs_new {w w2 : Wd} {p : Bool} {k m esz cc : Nat} {xs : List Value} (h1 : w2.hp = w.hp ++ [⟨xs, esz, .rw, w.hp.length, p⟩]) (h2 : RV w2 (.ptr k 0) (.pointer (some ⟨w.hp.length, 0, none⟩)) (fun _ => 0)) (h0 : 0 < esz) :
 RV w2 (.obs k 0 m esz) (newSl w.hp m cc) (fun _ => 0) := by
 simp only [RV] at h2 ⊢
 obtain ⟨⟨b, g1, g2⟩, g3⟩ := h2
 cases g2
 exact ⟨⟨w.hp.length, cc, ⟨xs, esz, .rw, w.hp.length, p⟩, g1, by rw [h1]; simp, rfl, h0, rfl⟩, by simp⟩
theorem appO_sim {X : XV} {E : En} {w : Wd} {s : VS} {s' : St} {ce cl ch cx c1 c2 : Cnt} {fl b : Bool} {esz bytes : Nat} {sv yv r : V} {x z : Value} {H' : VH}
 (g : StC X E w s s' ce cl ch cx) (hx : RV w sv x c1) (hy : RV w yv z c2) (hc : ∀ i, c1 i + c2 i <= cx i) (h : appO fl b esz bytes sv yv s.H = some (r, H')) (h0 : 0 < esz) :
 ∃ w2 x' c', hAppF false w.hp esz bytes x z = some (x', w2.hp) /\ vAny b z = some z /\ StR X E w2 { s with H := H' } { s' with hp := w2.hp } c' /\ RV w2 r x' c' := by
 unfold appO at h
 split at h
 ·-- the row lies in an object
  rename_i k off n e
  split at h
  ·rename_i ow ys
   obtain ⟨cs, hk, hq⟩ := bind_some' h
   clear h
   have h := hq
   clear hq
   split at h
   ·rename_i hcond
    obtain ⟨rfl, rfl, hn, hcl, hesz, hbt⟩ := hcond
    obtain ⟨new, d, hnew, hys, hd, hlen, _, a2, cc2, rfl⟩ := hy.read hesz
    have hvs : vAny false (Value.slice a2 ys.length cc2) = some (Value.slice a2 ys.length cc2) := rfl
    simp only [RV] at hx
    obtain ⟨⟨bk, cc, kb, hr, hkb, hsz, _, rfl⟩, hx0⟩ := hx
    have hne : cs ≠ [] := fun e => by subst e; simp only [List.length_nil] at hcl; have := Nat.mul_pos hn h0; omega
    obtain ⟨kb', d1, d2, g2, g3, g4, hrw, g5⟩ := g.obj.store g.hw.nd hk hne hr
    rw [hkb] at g2; cases g2
    have hbm := List.mem_of_getElem? hr
    have hcells : n * e = kb.cells.length := by rw [<- g3.len]; exact hcl.symm
    have hw := g.hw
    have hbl := (List.getElem?_eq_some_iff.1 hkb).1
    have hcut : cut kb.cells 0 (n * e) = some kb.cells := by
     show gcut kb.cells 0 (n * e) = some kb.cells
     rw [gcut_mk (by omega), hcells]; simp
    have hold : hRead w.hp e (.slice (some ⟨bk, 0, none⟩) n cc) = some kb.cells := by
     simp only [hRead]
     rw [if_neg (by omega), blkAt_mk hkb (by rw [hrw]; simp)]
     simp only [Option.bind_some, hsz, if_true, hcut]
    cases ys with
    | nil =>
      cases h
      simp only [List.length_nil] at hlen hnew ⊢
      refine ⟨w, .slice (some ⟨bk, 0, none⟩) n cc, fun _ => 0, ?_, hvs, ⟨ce, cl, ch, { g with hp := rfl, le1 := fun i => by have := g.le1 i; omega, le0 := fun i hi => by have := g.le0 i hi; omega, big := fun i hi => by have := g.big i hi; omega }⟩, ?_⟩
      rotate_left
      ·simp only [RV]
       exact ⟨⟨bk, cc, kb, hr, hkb, hsz, h0, rfl⟩, by simp⟩
      ·simp only [hAppF, hApp]
       split
       ·simp only [hAppFull, hnew, Option.bind_some, hlen, if_true, List.length_nil]
       ·simp only [hnew, Option.bind_some, hlen, if_true, List.length_nil]
    | cons y l =>
      cases h
      have hll : lenV (Value.slice a2 (y :: l).length cc2) = l.length + 1 := hlen
      have hfl := g.fr.len
      have fin : ∀ (w2 : Wd) (f : Nat) (p : Bool), w2.hp[w.hp.length]? = some ⟨kb.cells ++ new, e, .rw, f, p⟩ -> w2.rho = w.rho ++ [w.hp.length] -> w2.hp.length = w.hp.length + 1 -> Ext w w2 (fun _ => True) -> HW w2 -> Fr' E w2 →
       (∀ c ∈ w.rho, c ≠ bk -> Keeps w w2 c) -> (∃ kb' : Blk, w2.hp[bk]? = some kb') →
       StR X E w2 { s with H := s.H.set k [] ++ [cs ++ (y :: l).flatten] } { s' with hp := w2.hp } (fun _ => 0) /\ RV w2 (.obs s.H.length 0 (n + (l.length + 1)) e) (newSl w.hp (n + (l.length + 1)) (n + (l.length + 1) + 1)) (fun _ => 0) := by
       intro w2 f p hat hrho hlen2 hE hw2 hfr hkeep ⟨kb2, hkb2⟩
       refine ⟨⟨ce, cl, fun i => (0 + d2 i) + (d1 i + d i), rfl, hw2, g.gl.mono hE, hfr, g.env.mono hE (fun _ _ => trivial), g.loc.mono hE (fun _ _ => trivial), g.locn, ?_, fun i => ?_, fun i hi => ?_, fun i hi => ?_⟩, ?_⟩
       ·rw [hrho]
        exact ROs.snoc (kb := ⟨kb.cells ++ new, e, .rw, f, p⟩) hat rfl ((RVs.mono hE _ g3 (fun _ _ => trivial)).app (RVs.mono hE _ hys.flat (fun _ _ => trivial))) (g5 w2 [] kb2 (fun _ => 0) hE hkeep hkb2 (.inl ⟨rfl, by simp⟩))
       ·have := g.le1 i; have := g4 i; have := hd i; have := hc i; omega
       ·have := g.le0 i hi; have := g4 i; have := hd i; have := hc i; omega
       ·have := g.big i (by omega); have := g4 i; have := hd i; have := hc i; omega
       ·simp only [RV, newSl]
        refine ⟨⟨w.hp.length, _, _, ?_, hat, rfl, h0, rfl⟩, by simp⟩
        rw [hrho, <- g.obj.len]; simp
      by_cases hcc : cc = n
      ·obtain ⟨f1, f2⟩ := fin ⟨w.hp ++ [⟨kb.cells ++ new, e, .rw, w.hp.length, true⟩], w.rho ++ [w.hp.length], w.hp.length :: w.fb⟩ w.hp.length true (by simp) rfl (by simp) (ext_obj hw rfl _) (hw.pushObj rfl (fun h => by cases h)) (g.fr.pushObj hw rfl)
        (fun c hc _ => .eq (by show (w.hp ++ _)[c]? = _; rw [List.getElem?_append_left (hw.rlt c hc)])) ⟨kb, by show (w.hp ++ _)[bk]? = _; rw [List.getElem?_append_left hbl]; exact hkb⟩
       refine ⟨_, _, _, ?_, hvs, f1, f2⟩
       simp only [hAppF, hApp]
       rw [if_pos hcc]
       simp only [hAppFull, hnew, Option.bind_some, hll]
       rw [if_neg (by omega), if_pos ⟨hcc, by simpa using hbt⟩, hold]; rfl
      ·obtain ⟨f1, f2⟩ := fin (useO w bk kb ⟨kb.cells ++ new, e, .rw, kb.fam, kb.pl⟩) kb.fam kb.pl (by simp [useO, useW]) rfl (by simp [useO, useW]) (ext_useO (k := ⟨kb.cells ++ new, e, .rw, kb.fam, kb.pl⟩) hw hkb hbm rfl _) (hw.useO (k := ⟨kb.cells ++ new, e, .rw, kb.fam, kb.pl⟩) hkb hrw hbm rfl (fun h => by show e = 1; rw [<- hsz]; exact hw.mrk bk kb hkb h)) (g.fr.useO (k := ⟨kb.cells ++ new, e, .rw, kb.fam, kb.pl⟩) hw hkb hbm rfl hsz.symm)
        (fun c hc hne => .eq (use_get (hw.rlt c hc) hne)) ⟨_, use_at hbl⟩
       have huse : useUp w.hp bk kb (0 + n * e) = w.hp.set bk { kb with md := .ro } := by unfold useUp; rw [if_pos (by omega)]
       refine ⟨_, _, _, ?_, hvs, f1, f2⟩
       simp only [hAppF, hApp]
       rw [if_neg hcc]
       simp only [hnew, Option.bind_some, hll]
       rw [if_neg (by omega), if_pos ⟨hn, by simpa using hbt⟩, hold]
       simp only [Option.bind_some, blkAt_mk hkb (by rw [hrw]; simp), hrw, if_true, huse]
       rfl
   ·cases h
  ·cases h
 ·-- an own row
  obtain ⟨xs, hxs, hq⟩ := bind_some' h
  clear h
  obtain ⟨rv, ha, h⟩ := bind_some' hq
  clear hq
  have hsv : sv = .sl true xs := by
   unfold ownV at hxs
   split at hxs
   ·cases hxs; rfl
   ·cases hxs
  subst hsv
  have plain : r = rv -> H' = s.H -> ∃ w2 x' c', hAppF false w.hp esz bytes x z = some (x', w2.hp) /\ vAny b z = some z /\ StR X E w2 { s with H := H' } { s' with hp := w2.hp } c' /\ RV w2 r x' c' := by
   rintro rfl rfl
   obtain ⟨w2, x', c', k1, k2, k3, k4⟩ := app_sim (full := false) g hx (fun q => by cases q) hy hc ha h0
   exact ⟨w2, x', c', k1, k2, ⟨ce, cl, ch, k3⟩, k4⟩
  split at h
  ·rename_i hfl
   split at h
   ·rename_i y l
    cases h
    obtain ⟨ys, new, d, hrv, hnew, hys, hd, hlen, hesz, hb, hst⟩ := app_read ha hy
    have hxe : xs = [] := by simp at hfl; exact hfl.2
    subst hxe
    injection hrv with _ hrv
    simp only [List.nil_append] at hrv
    subst hrv
    simp only [RV] at hx
    rcases hx with ⟨_, ⟨a, cc, rfl, hcc⟩, hx0⟩ | ⟨h', _⟩
    ·have hcc := hcc trivial
     subst hcc
     obtain ⟨w2, k1, k2, k3⟩ := alloc_sim g (cs := (y :: l).flatten) hys.flat (fun i => by have := hd i; have := hc i; omega) esz true (fun h => by cases h)
     refine ⟨w2, newSl w.hp (l.length + 1) (l.length + 1 + 1), fun _ => 0, ?_, hst, k2, obs_new k1 k3 h0⟩
     have hlen' : lenV z = l.length + 1 := hlen
     simp only [hAppF, hApp, List.length_nil, if_true]
     simp only [hAppFull, hnew, Option.bind_some, hlen']
     rw [if_neg (by omega), if_pos ⟨trivial, by simpa using hb⟩]
     have hold : hRead w.hp esz (.slice a 0 0) = some [] := by
      cases a with
      | none => rfl
      | some a =>
        obtain ⟨b0, o0, s0⟩ := a
        cases s0 <;> simp [hRead]
     rw [hold, k1]
     simp [newSl]
    ·exact absurd rfl h'
   ·cases h; exact plain rfl rfl
  ·cases h; exact plain rfl rfl
theorem sliceA_sim {X : XV} {w : Wd} {n esz : Nat} {a v : V} {x : Value} {c : Cnt} (hg : GlobOk X w) (h : vSliceAV X.glob n esz a = some v) (ha : RV w a x c) : ∃ z, vSliceA w.hp n esz x = some z /\ RV w v z (fun _ => 0) := by
 unfold vSliceAV at h
 split at h
 ·rename_i g
  obtain ⟨cs, hcs, hq⟩ := bind_some' h
  split at hq
  ·rename_i hc
   obtain ⟨hn, rfl, hl⟩ := hc
   cases hq
   obtain ⟨kb, b1, b2, b3, b4, b5⟩ := hg g cs hcs
   simp only [RV] at ha
   obtain ⟨rfl, _⟩ := ha
   have hlen : kb.cells.length = n := by rw [<- b3.len, hl]
   refine ⟨.slice (some ⟨g, 0, none⟩) n n, ?_, ?_⟩
   ·simp only [vSliceA, b1, Option.bind_some]
    rw [if_pos ⟨hn, trivial, b5, by omega⟩]
   ·have hch := chunk_sim (sz := 1) (n := n) b3 (by omega)
    have hcl : (chunkV 1 n cs).length = n := by have := hch.len; omega
    simp only [RV]
    refine .inr ⟨fun q => by rw [q] at hcl; simp at hcl; omega, g, 0, kb, kb.cells, n, fun _ => 0, b1, b4, b2, by rw [hcl], by omega, ?_, by rw [b5]; exact hch, .inl ⟨trivial, by simp, by simp⟩⟩
    rw [hcl, b5, gcut_mk (by omega)]
    rw [List.drop_zero, List.take_of_length_le (by omega)]
  ·cases hq
 ·cases h
theorem bytes_RVs {w : Wd} (l : List UInt8) : RVs w (l.map fun b => V.int .u8 b.toNat) (l.map fun b => Value.int .u8 b.toNat) (fun _ => 0) := by
 induction l with
 | nil => simp [RVs]
 | cons b l ih =>
   simp only [List.map_cons, RVs]
   exact ⟨_, _, fun _ => 0, fun _ => 0, rfl, by simp [RV], ih, by simp⟩
section
variable {X : XV} {Y : Ctx} {A : Ann} {T : List Nat} {E : En} {w : Wd} {s : VS} {s' : St} {R R' : Type} {r : R} {o : Oper}
 {K : VE -> VS -> Cls -> Option R} {K' : EV -> List (Nat × List Value) -> Heap -> Cls -> Option R'} {Q : R' -> Prop}
def Goes (X : XV) (E : En) (env : List (Nat × EV)) (K : VE -> VS -> Cls -> Option R) (K' : EV -> List (Nat × List Value) -> Heap -> Cls -> Option R') (r : R) (Q : R' -> Prop) : Prop :=
 ∀ (w2 : Wd) (e : VE) (e' : EV) (s2 : VS) (loc : List (Nat × List Value)) (c : Cls) (ce : Cnt), K e s2 c = some r -> RE w2 e e' ce -> StR X E w2 s2 ⟨env, loc, w2.hp⟩ ce -> ∃ r', K' e' loc w2.hp c = some r' /\ Q r'
theorem StR.hp {cx : Cnt} (hs : StR X E w s s' cx) : s'.hp = w.hp := by
 obtain ⟨_, _, _, g⟩ := hs; exact g.hp
theorem StR.self {cx : Cnt} (hs : StR X E w s s' cx) : StR X E w s ⟨s'.env, s'.loc, w.hp⟩ cx := by
 have := hs.hp
 obtain ⟨env, loc, hp⟩ := s'
 simp only at this
 subst this
 exact hs
theorem Goes.pure (hK : Goes X E s'.env K K' r Q) {v : V} {x : Value} {s2 : VS} {c : Cls} {cx : Cnt} (h : K (.val v) s2 c = some r) (hr : RV w v x (fun _ => 0)) (hs : StR X E w s2 s' cx) : ∃ r', K' (.val x) s'.loc s'.hp c = some r' /\ Q r' := by
 rw [hs.hp]
 exact hK w (.val v) (.val x) s2 s'.loc c (fun _ => 0) h hr (hs.less (by simp)).self
theorem newBlkV {hp : Heap} {k : Blk} (h : k.md ≠ .gone) : blkAt (hp ++ [k]) hp.length = some k := by
 unfold blkAt
 rw [List.getElem?_append_right (Nat.le_refl _)]
 simp [h]
def clsF (full : Bool) : Cls := match full with | true => .A | false => .W
theorem StC.newLoc {ce cl ch cx c : Cnt} (g : StC X E w s s' ce cl ch cx) {d : Nat} (hl : look s.loc d = none) {cs : List V} {xs : List Value} (hcs : RVs w cs xs c) (hc : ∀ i, c i <= cx i) :
 StR X E w { s with loc := (d, cs) :: s.loc } ⟨s'.env, (d, xs) :: s'.loc, w.hp⟩ (fun _ => 0) := by
 refine ⟨ce, fun i => c i + cl i, ch, rfl, g.hw, g.gl, g.fr, g.env, ?_, fun k hk => ?_, g.obj, fun i => ?_, fun i hi => ?_, fun i hi => ?_⟩
 ·simp only [RLoc]
  refine ⟨xs, c, cl, by rw [look_cons, if_pos rfl], hcs, hl, ?_, by simp⟩
  have : ∀ {l : List (Nat × List V)} {c : Cnt}, RLoc w l s'.loc c -> look l d = none -> RLoc w l ((d, xs) :: s'.loc) c := by
   intro l
   induction l with
   | nil => intro c h _; simpa [RLoc] using h
   | cons p l ih =>
     intro c h hn
     obtain ⟨q, v⟩ := p
     simp only [RLoc] at h ⊢
     obtain ⟨ws, d1, d2, h1, h2, h0, h3, h4⟩ := h
     rw [look_cons] at hn
     split at hn
     ·cases hn
     ·rename_i hq
      exact ⟨ws, d1, d2, by rw [look_cons, if_neg (Ne.symm hq)]; exact h1, h2, h0, ih h3 hn, h4⟩
  exact this g.loc hl
 ·rw [look_cons] at hk ⊢
  split at hk
  ·cases hk
  ·rename_i hq; rw [if_neg hq]; exact g.locn k hk
 ·have := g.le1 i; have := hc i; omega
 ·have := g.le0 i hi; have := hc i; omega
 ·have := g.big i hi; have := hc i; omega
theorem RVs.one {w : Wd} {v : V} {x : Value} {c : Cnt} (h : RV w v x c) : RVs w [v] [x] c := ⟨x, [], c, fun _ => 0, rfl, h, by simp [RVs], by simp⟩
theorem call_step (hcall : ∀ f args H r H', X.call f args H = some (r, H') -> CallSim X Y.call f args H r H') {cx : Cnt} (hs : StR X E w s s' cx) {f : FuncId} {vs : List V} {xs : List Value} {c1 : Cnt} (h2 : RVs w vs xs c1) (hc : ∀ i, c1 i <= cx i) {rv : V} {H' : VH} (hr : X.call f vs s.H = some (rv, H')) :
 ∃ x w2 cr, Y.call f xs w.hp = some (x, w2.hp) /\ RV w2 rv x cr /\ StR X E w2 { s with H := H' } ⟨s'.env, s'.loc, w2.hp⟩ cr := by
 obtain ⟨ce, cl, ch, g⟩ := hs
 obtain ⟨x, w2, cr, ch', q1, q2, q3, q4, q5, q6, q7, q8, q9⟩ := hcall f vs s.H rv H' hr w xs c1 ch g.hw g.gl h2 g.obj (fun i => by have := g.le1 i; have := hc i; omega) (fun i hi => by have := g.big i hi; have := hc i; omega)
 have hx := q4.ext
 refine ⟨x, w2, cr, q1, q5, ce, cl, ch', rfl, q2, q3, ?_, g.env.mono hx (fun b hb => by have := g.le1 b; have := hc b; show c1 b + ch b = 0; omega), g.loc.mono hx (fun b hb => by have := g.le1 b; have := hc b; show c1 b + ch b = 0; omega), g.locn, q6, fun i => ?_, fun i hi => ?_, fun i hi => ?_⟩
 ·refine g.fr.trans q4 g.hw q2 (fun b hb => hb) (fun i hi => by have := g.le0 i hi; have := hc i; omega) rfl ?_ ?_
  ·obtain ⟨r1, a1, a2⟩ := g.fr.rho
   obtain ⟨r2, b1, b2⟩ := q4.rho
   simp only at b1 b2
   refine ⟨r1 ++ r2, by rw [b1, a1, List.append_assoc], fun b hb => ?_⟩
   have hl := g.fr.len
   rcases List.mem_append.1 hb with hb | hb
   ·have hbw : b < w.hp.length := g.hw.rlt b (by rw [a1]; exact List.mem_append.2 (.inr hb))
    refine ⟨(a2 b hb).1, fun k hk => ?_⟩
    rw [q4.keep b _ k (List.getElem?_eq_getElem hbw) hk]
    exact (a2 b hb).2 _ (List.getElem?_eq_getElem hbw)
   ·have := (b2 b hb).1
    refine ⟨by omega, fun k hk => ?_⟩
    rcases (b2 b hb).2 k hk with q | ⟨b0, q1, k0, q2, q3⟩
    ·left; simp only at q; omega
    ·rw [<- q3]; exact g.fr.objfam q1 q2
  ·obtain ⟨r1, a1, a2⟩ := g.fr.fb
   obtain ⟨r2, b1, b2⟩ := q4.fb
   simp only at b1 b2
   refine ⟨r2 ++ r1, by rw [b1, a1, List.append_assoc], fun b hb => ?_⟩
   rcases List.mem_append.1 hb with hb | hb
   ·have := b2 b hb; have := g.fr.len; omega
   ·exact a2 b hb
 ·by_cases hi : i < w.hp.length
  ·have := q8 i hi; have := g.le1 i; have := hc i; omega
  ·have := g.big i (by omega); have := q7 i; omega
 ·have := q8 i (by have := g.fr.len; omega); have := g.le0 i hi; have := hc i; omega
 ·have := q9 i hi
  have hl := q4.len
  simp only at hl
  have := g.big i (by omega); omega
theorem qcall_any (hT : TabOk X) (hcall : ∀ f args H r H', X.call f args H = some (r, H') -> CallSim X Y.call f args H r H') {cx : Cnt} (hs : StR X E w s s' cx) {f : FuncId} {vs : List V} {xs : List Value} (fb : List Nat) (hfb : ∀ b ∈ fb, b ∈ w.fb) (h2 : noPtrL vs = true -> RVs ⟨w.hp, [], fb⟩ vs xs (fun _ => 0)) {rv : V} (hr : qpcall X.call f vs = some rv) :
 ∃ x, qcall Y.call f xs s'.hp = some x /\ RV w rv x (fun _ => 0) := by
 have hhp := hs.hp
 obtain ⟨ce, cl, ch, g⟩ := hs
 unfold qpcall at hr
 split at hr
 ·rename_i hn
  obtain ⟨⟨rv', H'⟩, hr1, hr2⟩ := bind_some' hr
  simp only at hr2
  split at hr2
  ·rename_i hsc
   cases hr2
   obtain ⟨x, hp2, fb2, rho2, cr, q1, q2, q3, q4, q5, q6, q7, q8, q9, q10, _⟩ := bare_any g.hw g.gl hT.gd fb hfb (h2 hn) (hcall _ _ _ _ _ hr1)
   obtain ⟨t1, t2⟩ := scalV_sim q3 hsc
   have hq : qcall Y.call f xs s'.hp = some x := by
    unfold qcall
    rw [hhp, q1]
    simp only [Option.bind_some]
    rw [if_pos ⟨q2, t1⟩]
   have hdat : data rv = true := by
    cases rv <;> first | rfl | (simp only [scalV, scal1] at hsc; cases hsc; done) | skip
    rename_i l
    simp only [scalV] at hsc
    simp only [data]
    have : ∀ {l : List V}, l.all scal1 = true -> dataL l = true := by
     intro l
     induction l with
     | nil => intro _; rfl
     | cons a l ih =>
       intro h
       simp only [List.all_cons, Bool.and_eq_true] at h
       simp only [dataL, Bool.and_eq_true]
       refine ⟨?_, ih h.2⟩
       cases a <;> first | rfl | (simp only [scal1] at h; exact absurd h.1 (by simp))
    exact this hsc
   have hxw : RV w rv x (fun _ => 0) := by
    have : ∀ {v : V} {x : Value} {c : Cnt}, RV ⟨hp2, rho2, fb2⟩ v x c -> scal1 v = true -> RV w v x (fun _ => 0) := by
     intro v x c h hs
     cases v <;> simp only [scal1] at hs <;> first | (cases hs; done) | skip
     all_goals simp only [RV] at h ⊢; exact ⟨h.1, by simp⟩
    by_cases ht2 : ∃ l, rv = .tup l
    ·obtain ⟨l, rfl⟩ := ht2
     simp only [scalV] at hsc
     simp only [RV] at q3 ⊢
     obtain ⟨ws, rfl, q3⟩ := q3
     refine ⟨ws, rfl, ?_⟩
     have all : ∀ {l : List V} {ws : List Value} {c : Cnt}, RVs ⟨hp2, rho2, fb2⟩ l ws c -> l.all scal1 = true -> RVs w l ws (fun _ => 0) := by
      intro l
      induction l with
      | nil => intro ws c h _; simp only [RVs] at h ⊢; exact ⟨h.1, by simp⟩
      | cons a l ih =>
        intro ws c h hs
        simp only [RVs] at h ⊢
        obtain ⟨x, ys, c1, c2, rfl, h2, h3, h4⟩ := h
        simp only [List.all_cons, Bool.and_eq_true] at hs
        exact ⟨x, ys, _, _, rfl, this h2 hs.1, ih h3 hs.2, by simp⟩
     exact all q3 hsc
    ·have hs1 : scal1 rv = true := by cases rv <;> first | exact hsc | exact absurd ⟨_, rfl⟩ ht2
     exact this q3 hs1
   exact ⟨x, hq, hxw⟩
  ·cases hr2
 ·cases hr
theorem qcall_step (hT : TabOk X) (hcall : ∀ f args H r H', X.call f args H = some (r, H') -> CallSim X Y.call f args H r H') {cx : Cnt} (hs : StR X E w s s' cx) {f : FuncId} {vs : List V} {xs : List Value} {c1 : Cnt} (h2 : RVs w vs xs c1) {rv : V} (hr : qpcall X.call f (vs.map (frz s.H)) = some rv) :
 ∃ x, qcall Y.call f xs s'.hp = some x /\ RV w rv x (fun _ => 0) := by
 have hs' := hs
 obtain ⟨ce, cl, ch, g⟩ := hs'
 exact qcall_any hT hcall hs w.fb (fun _ h => h) (fun hn => frzs_sim (wc := ⟨w.hp, [], w.fb⟩) g.hw g.obj rfl rfl rfl h2 hn) hr
theorem qcallO_step (hT : TabOk X) (hcall : ∀ f args H r H', X.call f args H = some (r, H') -> CallSim X Y.call f args H r H') {cx : Cnt} (hs : StR X E w s s' cx) {f : FuncId} {vs : List V} {xs : List Value} {c1 : Cnt} (h2 : RVs w vs xs c1) {rv : V} (hr : qpcallO X.call f s.H vs = some rv) :
 ∃ x, qcall Y.call f xs s'.hp = some x /\ RV w rv x (fun _ => 0) := by
 unfold qpcallO at hr
 split at hr
 ·exact qcall_step hT hcall hs h2 hr
 ·have hs' := hs
  obtain ⟨ce, cl, ch, g⟩ := hs'
  exact qcall_any hT hcall hs [] (by simp) (fun hn => frDs_sim (w := w) (wc := ⟨w.hp, [], []⟩) rfl rfl rfl g.hw g.obj 3 h2 hn) hr
theorem qcallD_step (hT : TabOk X) (hcall : ∀ f args H r H', X.call f args H = some (r, H') -> CallSim X Y.call f args H r H') {cx : Cnt} (hs : StR X E w s s' cx) {f : FuncId} {vs : List V} {xs : List Value} {c1 : Cnt} (h2 : RVs w vs xs c1) {rv : V} (hr : qpcallD X.call f s.H vs = some rv) :
 ∃ x, qcall Y.call f xs s'.hp = some x /\ RV w rv x (fun _ => 0) := by
 unfold qpcallD at hr
 have hs' := hs
 obtain ⟨ce, cl, ch, g⟩ := hs'
 exact qcall_any hT hcall hs [] (by simp) (fun hn => frDs_sim (w := w) (wc := ⟨w.hp, [], []⟩) rfl rfl rfl g.hw g.obj 3 h2 hn) hr
def Came (Y : Ctx) (w : Wd) (f : FuncId) (xs : List Value) (rv : V) : Prop :=
 ∃ (x : Value) (hp2 : Heap) (fb fb2 rho2 : List Nat) (cr : Cnt), Y.call f xs w.hp = some (x, hp2) /\ hp2.take w.hp.length = w.hp /\ RV ⟨hp2, w.rho, w.fb⟩ rv x cr /\ (∀ i, cr i <= 1) /\ (∀ i, i < w.hp.length -> cr i = 0) /\ (∀ i, hp2.length <= i -> cr i = 0) ∧
   HW ⟨hp2, w.rho, w.fb⟩ /\ Fr' ⟨w.hp, [], fb, fun _ => 0⟩ ⟨hp2, rho2, fb2⟩ /\ HW ⟨hp2, rho2, fb2⟩
theorem ou_came {w : Wd} {f : FuncId} {xs : List Value} {rv rv' : V} {x : Value} {hp2 : Heap} {fb fb2 rho2 : List Nat} {cr ch' : Cnt} {H' : VH} (q1 : Y.call f xs w.hp = some (x, hp2)) (q2 : hp2.take w.hp.length = w.hp) (q3 : RV ⟨hp2, rho2, fb2⟩ rv' x cr)
 (q7 : HW ⟨hp2, w.rho, w.fb⟩) (q9 : Fr' ⟨w.hp, [], fb, fun _ => 0⟩ ⟨hp2, rho2, fb2⟩) (q10 : HW ⟨hp2, rho2, fb2⟩) (hq : ∀ (b : Nat) (k : Blk), w.hp.length <= b -> hp2[b]? = some k -> b ∉ w.fb /\ Fre hp2 w.rho k.fam)
 (ho : ROs ⟨hp2, rho2, fb2⟩ H' rho2 ch') (c1 : ∀ i, cr i + ch' i <= 1) (c2 : ∀ i, i < w.hp.length -> cr i + ch' i = 0) (c3 : ∀ i, hp2.length <= i -> cr i + ch' i = 0) (hr : ouR H' rv' = some rv) : Came Y w f xs rv := by
 unfold ouR at hr
 obtain ⟨⟨v, H2⟩, e1, e2⟩ := bind_some' hr
 simp only at e2
 split at e2
 ·cases e2
  have hge : ∀ b ∈ rho2, w.hp.length <= b := fun b hb => q9.rho_ge (w := ⟨hp2, rho2, fb2⟩) hb (by simp)
  obtain ⟨c', ch2, p1, p2, p3⟩ := ou_ok (w := ⟨hp2, rho2, fb2⟩) (w' := ⟨hp2, w.rho, w.fb⟩) (n0 := w.hp.length) rfl hq q10 hge 6 ho q3 c2 e1
  have hlo := fun i => LO_le (H := H') i q10.nd
  have hin : ∀ i, 1 <= LO H' rho2 i -> cr i = 0 /\ ch' i = 0 /\ w.hp.length <= i /\ i < hp2.length := fun i hi => by
   have hm : i ∈ rho2 := by
    by_cases q : i ∈ rho2
    ·exact q
    ·rw [LO_out q] at hi; omega
   refine ⟨?_, ?_, hge i hm, q10.rlt i hm⟩
   ·by_cases q : 1 <= cr i
    ·exact absurd hm (RV.owned _ q3 i q).2.1
    ·omega
   ·by_cases q : 1 <= ch' i
    ·obtain ⟨kb, a1, a2⟩ := ROs.owned' ho i q
     exact absurd hm (a2.nin a1)
    ·omega
  refine ⟨x, hp2, fb, fb2, rho2, c', q1, q2, p1, fun i => ?_, fun i hi => ?_, fun i hi => ?_, q7, q9, q10⟩
  ·have := p3 i; have := c1 i; have := hlo i
   by_cases q : 1 <= LO H' rho2 i
   ·have := hin i q; simp only at *; omega
   ·simp only at *; omega
  ·have := p3 i; have := c2 i hi
   by_cases q : 1 <= LO H' rho2 i
   ·have := hin i q; omega
   ·simp only at *; omega
  ·have := p3 i; have := c3 i hi
   by_cases q : 1 <= LO H' rho2 i
   ·have := hin i q; omega
   ·simp only at *; omega
 ·cases e2
theorem pcall_came (hT : TabOk X) (hcall : ∀ f args H r H', X.call f args H = some (r, H') -> CallSim X Y.call f args H r H') {cx : Cnt} (hs : StR X E w s s' cx) {f : FuncId} {vs : List V} {xs : List Value} {c1 : Cnt} (h2 : RVs w vs xs c1) {rv : V} (hr : pcall X.call f (vs.map (frz s.H)) = some rv) : Came Y w f xs rv := by
 obtain ⟨ce, cl, ch, g⟩ := hs
 unfold pcall at hr
 split at hr
 ·rename_i hn
  obtain ⟨⟨rv', H'⟩, hr1, hr2⟩ := bind_some' hr
  simp only at hr2
  split at hr2
  ·rename_i hdat
   cases hr2
   obtain ⟨x, hp2, fb2, rho2, cr, q1, q2, q3, q4, q5, q6, q7, q8, q9, q10, q11, q12, _⟩ := bare_sim g.hw g.obj g.gl hT.gd h2 hn (hcall _ _ _ _ _ hr1)
   exact ⟨x, hp2, _, fb2, rho2, cr, q1, q2, RV.data (w := ⟨hp2, rho2, fb2⟩) (w' := ⟨hp2, w.rho, w.fb⟩) rfl q8 rv hdat q3, q4, q5, q6, q7, q9, q10⟩
  ·obtain ⟨v2, hv2, hr3⟩ := bind_some' hr2
   split at hr3
   ·rename_i hdat
    cases hr3
    obtain ⟨x, hp2, fb2, rho2, cr, q1, q2, q3, q4, q5, q6, q7, q8, q9, q10, q11, _, ch', q12, _⟩ := bare_sim g.hw g.obj g.gl hT.gd h2 hn (hcall _ _ _ _ _ hr1)
    obtain ⟨c', p1, p2⟩ := unobs_sim (w := ⟨hp2, rho2, fb2⟩) (w' := ⟨hp2, w.rho, w.fb⟩) rfl q8 q11 q10 q12 q3 hv2 hdat
    exact ⟨x, hp2, _, fb2, rho2, c', q1, q2, p1, fun i => Nat.le_trans (p2 i) (q4 i), fun i hi => by have := p2 i; have := q5 i hi; omega, fun i hi => by have := p2 i; have := q6 i hi; omega, q7, q9, q10⟩
   ·unfold ouD at hr3
    split at hr3
    ·rename_i u hu
     cases hr3
     obtain ⟨x, hp2, fb2, rho2, cr, q1, q2, q3, q4, q5, q6, q7, q8, q9, q10, q11, q12, ch', q13, q14, q15, q16⟩ := bare_sim g.hw g.obj g.gl hT.gd h2 hn (hcall _ _ _ _ _ hr1)
     exact ou_came q1 q2 q3 q7 q9 q10 q12 q13 q14 q15 q16 hu
    ·obtain ⟨v3, hv3, hr4⟩ := bind_some' hr3
     split at hr4
     ·rename_i hdat
      cases hr4
      obtain ⟨x, hp2, fb2, rho2, cr, q1, q2, q3, q4, q5, q6, q7, q8, q9, q10, q11, _, ch', q12, _⟩ := bare_sim g.hw g.obj g.gl hT.gd h2 hn (hcall _ _ _ _ _ hr1)
      obtain ⟨c', p1, p2⟩ := unobsD_sim (w := ⟨hp2, rho2, fb2⟩) (w' := ⟨hp2, w.rho, w.fb⟩) rfl q8 q11 q10 q12 q3 hv3 hdat
      exact ⟨x, hp2, _, fb2, rho2, c', q1, q2, p1, fun i => Nat.le_trans (p2 i) (q4 i), fun i hi => by have := p2 i; have := q5 i hi; omega, fun i hi => by have := p2 i; have := q6 i hi; omega, q7, q9, q10⟩
     ·cases hr4
 ·cases hr
theorem pcallU_came (hT : TabOk X) (hcall : ∀ f args H r H', X.call f args H = some (r, H') -> CallSim X Y.call f args H r H') {cx : Cnt} (hs : StR X E w s s' cx) {f : FuncId} {vs : List V} {xs : List Value} {c1 : Cnt} (h2 : RVs w vs xs c1) {rv : V} (hr : pcallU X.call f s.H vs = some rv) : Came Y w f xs rv := by
 obtain ⟨ce, cl, ch, g⟩ := hs
 unfold pcallU at hr
 split at hr
 ·rename_i hn
  obtain ⟨⟨rv', H'⟩, hr1, hr2⟩ := bind_some' hr
  simp only at hr2
  obtain ⟨x, hp2, fb2, rho2, cr, q1, q2, q3, q4, q5, q6, q7, q8, q9, q10, ch', q13, q14, q15, q16⟩ := bare_any g.hw g.gl hT.gd [] (by simp) (frDs_sim (w := w) (wc := ⟨w.hp, [], []⟩) rfl rfl rfl g.hw g.obj 3 h2 hn) (hcall _ _ _ _ _ hr1)
  exact ou_came q1 q2 q3 q7 q8 q9 q10 q13 q14 q15 q16 hr2
 ·cases hr
theorem pcallO_came (hT : TabOk X) (hcall : ∀ f args H r H', X.call f args H = some (r, H') -> CallSim X Y.call f args H r H') {cx : Cnt} (hs : StR X E w s s' cx) {f : FuncId} {vs : List V} {xs : List Value} {c1 : Cnt} (h2 : RVs w vs xs c1) {rv : V} (hr : pcallO X.call f s.H vs = some rv) : Came Y w f xs rv := by
 unfold pcallO at hr
 split at hr
 ·exact pcall_came hT hcall hs h2 hr
 ·obtain ⟨v, hr, hown⟩ := bind_some' hr
  split at hown
  ·rename_i ho
   cases hown
   obtain ⟨ce, cl, ch, g⟩ := hs
   unfold pcall at hr
   split at hr
   ·rename_i hn
    obtain ⟨⟨rv', H'⟩, hr1, hr2⟩ := bind_some' hr
    simp only at hr2
    obtain ⟨x, hp2, fb2, rho2, cr, q1, q2, q3, q4, q5, q6, q7, q8, q9, q10, ch', q12, q13⟩ := bare_any g.hw g.gl hT.gd [] (by simp) (frDs_sim (w := w) (wc := ⟨w.hp, [], []⟩) rfl rfl rfl g.hw g.obj 3 h2 hn) (hcall _ _ _ _ _ hr1)
    have fin : ∀ {v : V} {c : Cnt}, RV ⟨hp2, rho2, fb2⟩ v x c -> (∀ i, c i <= cr i) -> ownA v = true -> RV ⟨hp2, w.rho, w.fb⟩ v x c := fun h hc ho => RV.own (w := ⟨hp2, rho2, fb2⟩) (w' := ⟨hp2, w.rho, w.fb⟩) rfl _ ho h (fun b k hb hk => q10 b k (by
     have := hc b
     by_cases hlt : b < w.hp.length
     ·have := q5 b hlt; omega
     ·omega) hk)
    split at hr2
    ·cases hr2
     exact ⟨x, hp2, _, fb2, rho2, cr, q1, q2, fin q3 (fun _ => Nat.le_refl _) ho, q4, q5, q6, q7, q8, q9⟩
    ·obtain ⟨v2, hv2, hr3⟩ := bind_some' hr2
     split at hr3
     ·rename_i hdat
      cases hr3
      obtain ⟨c', p1, p2⟩ := unobs_sim (w := ⟨hp2, rho2, fb2⟩) (w' := ⟨hp2, [], []⟩) rfl (fun b k _ _ => ⟨by simp, Fre.nil⟩) (fun b _ k _ => ⟨by simp, Fre.nil⟩) q9 q12 q3 hv2 hdat
      have := RV.own (w := ⟨hp2, [], []⟩) (w' := ⟨hp2, w.rho, w.fb⟩) rfl _ ho p1 (fun b k hb hk => q10 b k (by
       have := p2 b
       by_cases hlt : b < w.hp.length
       ·have := q5 b hlt; omega
       ·omega) hk)
      exact ⟨x, hp2, _, fb2, rho2, c', q1, q2, this, fun i => Nat.le_trans (p2 i) (q4 i), fun i hi => by have := p2 i; have := q5 i hi; omega, fun i hi => by have := p2 i; have := q6 i hi; omega, q7, q8, q9⟩
     ·unfold ouD at hr3
      split at hr3
      ·rename_i u hu
       cases hr3
       exact ou_came q1 q2 q3 q7 q8 q9 q10 q12 q13.1 q13.2.1 q13.2.2 hu
      ·obtain ⟨v3, hv3, hr4⟩ := bind_some' hr3
       split at hr4
       ·rename_i hdat
        cases hr4
        obtain ⟨c', p1, p2⟩ := unobsD_sim (w := ⟨hp2, rho2, fb2⟩) (w' := ⟨hp2, [], []⟩) rfl (fun b k _ _ => ⟨by simp, Fre.nil⟩) (fun b _ k _ => ⟨by simp, Fre.nil⟩) q9 q12 q3 hv3 hdat
        have := RV.own (w := ⟨hp2, [], []⟩) (w' := ⟨hp2, w.rho, w.fb⟩) rfl _ ho p1 (fun b k hb hk => q10 b k (by
         have := p2 b
         by_cases hlt : b < w.hp.length
         ·have := q5 b hlt; omega
         ·omega) hk)
        exact ⟨x, hp2, _, fb2, rho2, c', q1, q2, this, fun i => Nat.le_trans (p2 i) (q4 i), fun i hi => by have := p2 i; have := q5 i hi; omega, fun i hi => by have := p2 i; have := q6 i hi; omega, q7, q8, q9⟩
       ·cases hr4
   ·cases hr
  ·cases hown
theorem acall_go {cx : Cnt} (hK : Goes X E s'.env K K' r Q) (hs : StR X E w s s' cx) {f : FuncId} {xs : List Value} {x : Value} {hp2 : Heap} {fb fb2 rho2 : List Nat} {rv : V} {cr : Cnt} (h1 : K (.val rv) s .A = some r) (q1 : Y.call f xs w.hp = some (x, hp2)) (q2 : hp2.take w.hp.length = w.hp)
 (q3 : RV ⟨hp2, w.rho, w.fb⟩ rv x cr) (q4 : ∀ i, cr i <= 1) (q5 : ∀ i, i < w.hp.length -> cr i = 0) (q6 : ∀ i, hp2.length <= i -> cr i = 0) (q7 : HW ⟨hp2, w.rho, w.fb⟩) (q9 : Fr' ⟨w.hp, [], fb, fun _ => 0⟩ ⟨hp2, rho2, fb2⟩) (q10 : HW ⟨hp2, rho2, fb2⟩) :
 ∃ r', ((acall Y.call f xs s'.hp).bind fun r => K' (.val r.1) s'.loc r.2 .A) = some r' /\ Q r' := by
 have hhp := hs.hp
 obtain ⟨ce, cl, ch, g⟩ := hs
 have hq : acall Y.call f xs s'.hp = some (x, hp2) := by
  unfold acall
  rw [hhp, q1]
  simp only [Option.bind_some]
  rw [if_pos q2]
 rw [hq]
 simp only [Option.bind_some]
 have hlen := q9.len
 simp only at hlen
 have same : ∀ b, b < w.hp.length -> hp2[b]? = w.hp[b]? := fun b hb => by
  rw [List.getElem?_eq_getElem hb]
  exact q9.same b _ (List.getElem?_eq_getElem hb) Fre.nil rfl
 have hx : Ext w ⟨hp2, w.rho, w.fb⟩ (fun _ => True) := by
  refine ⟨fun b kb hb hn => ?_, fun k b h => h, fun j b kb _ hb => ⟨kb, by show hp2[b]? = _; rw [same b (List.getElem?_eq_some_iff.1 hb).1]; exact hb, rfl⟩⟩
  obtain ⟨a1, a2, a3⟩ := blkAt_some hb
  exact ⟨kb, blkAt_mk (by show hp2[b]? = _; rw [same b a3]; exact a1) a2, fun c hc q hq => hn c hc q (by rw [<- same c (g.hw.rlt c hc)]; exact hq), fun h => h, rfl, rfl, fun _ => ⟨rfl, rfl⟩⟩
 have hfr : Fr' E ⟨hp2, w.rho, w.fb⟩ := g.fr.trans q9 g.hw q10 (by simp) (by simp) rfl (by
  obtain ⟨r0, a1, a2⟩ := g.fr.rho
  refine ⟨r0, a1, fun b hb => ⟨(a2 b hb).1, fun k hk => ?_⟩⟩
  have hk' : hp2[b]? = some k := hk
  rw [same b (g.hw.rlt b (by rw [a1]; exact List.mem_append.2 (.inr hb)))] at hk'
  exact (a2 b hb).2 k hk') g.fr.fb
 have g' := g.move hx (fun _ _ => trivial) q7 hfr (fun b hb => .eq (same b (g.hw.fbl _ (g.hw.sub _ hb)))) rfl hlen
 refine hK ⟨hp2, w.rho, w.fb⟩ (.val rv) (.val x) _ _ _ cr h1 (by simp only [RE]; exact q3) ⟨ce, cl, ch, { g' with le1 := fun i => ?_, le0 := fun i hi => ?_, big := fun i hi => ?_ }⟩
 ·by_cases hi : i < w.hp.length
  ·have := q5 i hi; have := g.le1 i; omega
  ·have := g.big i (by omega); have := q4 i; omega
 ·have := q5 i (by have := g.fr.len; omega); have := g.le0 i hi; omega
 ·have := q6 i hi; have := g.big i (by simp only at hi; omega); omega
open Classical in
theorem aprom_gen {cx : Cnt} (hK : Goes X E s'.env K K' r Q) (hs : StR X E w s s' cx) {f : FuncId} {xs : List Value} {x : Value} {hp2 : Heap} {fb fb2 rho2 : List Nat} {ov : V} {oH : VH} {cr : Cnt} (own : ∀ b, 1 <= cr b -> b ∉ w.fb /\ b ∉ w.rho /\ ∃ kb : Blk, blkAt hp2 b = some kb /\ kb.md = .rw /\ Fre hp2 w.rho kb.fam)
 (hP : Prm ⟨hp2, w.rho, w.fb⟩ s.H oH cr (fun W c' => RV W ov x c')) (h1 : K (.val ov) { s with H := oH } .A = some r) (q1 : Y.call f xs w.hp = some (x, hp2)) (q2 : hp2.take w.hp.length = w.hp)
 (q4 : ∀ i, cr i <= 1) (q5 : ∀ i, i < w.hp.length -> cr i = 0) (q6 : ∀ i, hp2.length <= i -> cr i = 0) (q7 : HW ⟨hp2, w.rho, w.fb⟩) (q9 : Fr' ⟨w.hp, [], fb, fun _ => 0⟩ ⟨hp2, rho2, fb2⟩) (q10 : HW ⟨hp2, rho2, fb2⟩) :
 ∃ r', ((acall Y.call f xs s'.hp).bind fun r => K' (.val r.1) s'.loc r.2 .A) = some r' /\ Q r' := by
 have hhp := hs.hp
 obtain ⟨ce, cl, ch, g⟩ := hs
 have hq : acall Y.call f xs s'.hp = some (x, hp2) := by
  unfold acall
  rw [hhp, q1]
  simp only [Option.bind_some]
  rw [if_pos q2]
 rw [hq]
 simp only [Option.bind_some]
 have hlen := q9.len
 simp only at hlen
 have same : ∀ b, b < w.hp.length -> hp2[b]? = w.hp[b]? := fun b hb => by
  rw [List.getElem?_eq_getElem hb]
  exact q9.same b _ (List.getElem?_eq_getElem hb) Fre.nil rfl
 have newf : ∀ (b : Nat) (k : Blk), w.hp.length <= b -> hp2[b]? = some k -> w.hp.length <= k.fam := fun b k hb hk => by
  rcases q9.fam b k hb hk with (q | ⟨_, q, _⟩) | ⟨_, _, _, q, _⟩
  ·exact q
  ·cases q
  ·simp at q
 obtain ⟨ps, Hs, c', ch', e1, e2, e3, e4, e5, e6⟩ := hP.ex
 let FB : List Nat := (List.range hp2.length).filter fun b => decide (∃ p ∈ ps, ∃ kp kb : Blk, hp2[p]? = some kp /\ hp2[b]? = some kb /\ kb.fam = kp.fam)
 have hFB : ∀ b, b ∈ FB ↔ b < hp2.length /\ ∃ p ∈ ps, ∃ kp kb : Blk, hp2[p]? = some kp /\ hp2[b]? = some kb /\ kb.fam = kp.fam := fun b => by
  simp only [FB, List.mem_filter, List.mem_range, decide_eq_true_eq]
 have pnew : ∀ p ∈ ps, w.hp.length <= p := fun p hp => by
  have := e4 p hp
  by_cases hlt : p < w.hp.length
  ·have := q5 p hlt; omega
  ·omega
 have pown : ∀ p ∈ ps, ∃ kp : Blk, hp2[p]? = some kp /\ kp.md = .rw /\ w.hp.length <= kp.fam /\ p < hp2.length := fun p hp => by
  obtain ⟨_, _, kp, a1, a2, _⟩ := own p (e4 p hp)
  obtain ⟨b1, b2, b3⟩ := blkAt_some a1
  exact ⟨kp, b1, a2, newf p kp (pnew p hp) b1, b3⟩
 have FBnew : ∀ b ∈ FB, w.hp.length <= b := fun b hb => by
  obtain ⟨_, p, hp, kp, kb, a1, a2, a3⟩ := (hFB b).1 hb
  obtain ⟨kp', b1, _, b3, _⟩ := pown p hp
  rw [a1] at b1; cases b1
  by_cases hlt : b < w.hp.length
  ·rw [same b hlt] at a2
   have := g.hw.fam b kb a2; omega
  ·omega
 have hW : HW ⟨hp2, w.rho ++ ps, FB ++ w.fb⟩ := by
  refine ⟨fun b hb => ?_, q7.one, q7.fam, fun b hb => ?_, fun b hb => ?_, ?_, fun b c kb kc hb hk hk' hff => ?_, q7.mrk⟩
  ·rcases List.mem_append.1 hb with hb | hb
   ·exact q7.obj b hb
   ·obtain ⟨kp, a1, a2, _⟩ := pown b hb
    exact ⟨kp, a1⟩
  ·rcases List.mem_append.1 hb with hb | hb
   ·exact ((hFB b).1 hb).1
   ·exact q7.fbl b hb
  ·rcases List.mem_append.1 hb with hb | hb
   ·exact List.mem_append.2 (.inr (q7.sub b hb))
   ·obtain ⟨kp, a1, a2, _, a4⟩ := pown b hb
    exact List.mem_append.2 (.inl ((hFB b).2 ⟨a4, b, hb, kp, kp, a1, a1, rfl⟩))
  ·rw [List.nodup_append]
   exact ⟨q7.nd, e3, fun a ha b hb e => by subst e; have := g.hw.rlt a ha; have := pnew a hb; omega⟩
  ·rcases List.mem_append.1 hb with hb | hb
   ·exact List.mem_append.2 (.inr (q7.fbf b c kb kc hb hk hk' hff))
   ·exact List.mem_append.2 (.inl ((hFB c).2 ⟨(List.getElem?_eq_some_iff.1 hk').1, b, hb, kb, kc, hk, hk', hff⟩))
 have hx : Ext w ⟨hp2, w.rho ++ ps, FB ++ w.fb⟩ (fun _ => True) := by
  refine ⟨fun b kb hb hn => ?_, fun k b h => ?_, fun j b kb _ hb => ⟨kb, by show hp2[b]? = _; rw [same b (List.getElem?_eq_some_iff.1 hb).1]; exact hb, rfl⟩⟩
  ·obtain ⟨a1, a2, a3⟩ := blkAt_some hb
   refine ⟨kb, blkAt_mk (by show hp2[b]? = _; rw [same b a3]; exact a1) a2, fun c hc q hq => ?_, fun h h' => ?_, rfl, rfl, fun _ => ⟨rfl, rfl⟩⟩
   ·have hq' : hp2[c]? = some q := hq
    rcases List.mem_append.1 hc with hc | hc
    ·exact hn c hc q (by rw [<- same c (g.hw.rlt c hc)]; exact hq')
    ·have := newf c q (pnew c hc) hq'
     have := g.hw.fam b kb a1
     omega
   ·rcases List.mem_append.1 h' with h' | h'
    ·have := FBnew b h'; omega
    ·exact h h'
  ·show (w.rho ++ ps)[k]? = _
   rw [List.getElem?_append_left (List.getElem?_eq_some_iff.1 h).1]; exact h
 have hfr : Fr' E ⟨hp2, w.rho ++ ps, FB ++ w.fb⟩ := g.fr.trans q9 g.hw q10 (by simp) (by simp) rfl (by
  obtain ⟨r0, a1, a2⟩ := g.fr.rho
  have hl := g.fr.len
  refine ⟨r0 ++ ps, by show w.rho ++ ps = _; rw [a1, List.append_assoc], fun b hb => ?_⟩
  rcases List.mem_append.1 hb with hb | hb
  ·refine ⟨(a2 b hb).1, fun k hk => ?_⟩
   have hk' : hp2[b]? = some k := hk
   rw [same b (g.hw.rlt b (by rw [a1]; exact List.mem_append.2 (.inr hb)))] at hk'
   exact (a2 b hb).2 k hk'
  ·have := pnew b hb
   refine ⟨by omega, fun k hk => ?_⟩
   have := newf b k this hk; left; omega) (by
  obtain ⟨r0, a1, a2⟩ := g.fr.fb
  have hl := g.fr.len
  refine ⟨FB ++ r0, by show FB ++ w.fb = _; rw [a1, List.append_assoc], fun b hb => ?_⟩
  rcases List.mem_append.1 hb with hb | hb
  ·have := FBnew b hb; omega
  ·exact a2 b hb)
 obtain ⟨p1, o1⟩ := e6 ⟨hp2, w.rho ++ ps, FB ++ w.fb⟩ rfl (fun j hj => by
  show (w.rho ++ ps)[_]? = _
  rw [<- g.obj.len, List.getElem?_append_right (by omega)]
  congr 1; omega) (fun b k hb hk => by
  have hcb := e5 b
  have hnb : b ∉ ps := fun hp => by rw [if_pos hp] at hcb; have := q4 b; omega
  rw [if_neg hnb] at hcb
  obtain ⟨a1, _, kb, a3, a4, a5⟩ := own b (by omega)
  have hkb := (blkAt_some a3).1
  have hk' : hp2[b]? = some k := hk
  have hkb' : hp2[b]? = some kb := hkb
  rw [hk'] at hkb'; cases hkb'
  have ne : ∀ p ∈ ps, ∀ kp : Blk, hp2[p]? = some kp -> kp.fam ≠ k.fam := fun p hp kp hkp e => by
   obtain ⟨kp', b1, b2, _⟩ := pown p hp
   rw [hkp] at b1; cases b1
   exact hnb (q7.one p b kp k hkp hk' b2 a4 e ▸ hp)
  refine ⟨fun h => ?_, fun c hc q hq => ?_⟩
  ·rcases List.mem_append.1 h with h | h
   ·obtain ⟨_, p, hp, kp, kb, b1, b2, b3⟩ := (hFB b).1 h
    rw [hk'] at b2; cases b2
    exact ne p hp kp b1 b3.symm
   ·exact a1 h
  ·rcases List.mem_append.1 hc with hc | hc
   ·exact a5 c hc q hq
   ·exact ne c hc q hq)
 have hobj : ROs ⟨hp2, w.rho ++ ps, FB ++ w.fb⟩ oH (w.rho ++ ps) (fun i => ch i + ch' i) := by
  rw [e1]
  exact (g.obj.mono hx (fun b hb => .eq (same b (g.hw.rlt b hb))) (fun _ _ => trivial)).app o1
 have cnt : ∀ i, c' i + ch' i <= cr i := fun i => by have := e5 i; omega
 refine hK ⟨hp2, w.rho ++ ps, FB ++ w.fb⟩ (.val ov) (.val x) _ _ _ c' h1 (by simp only [RE]; exact p1) ⟨ce, cl, _, rfl, hW, g.gl.mono hx, hfr, g.env.mono hx (fun _ _ => trivial), g.loc.mono hx (fun _ _ => trivial), g.locn, hobj, fun i => ?_, fun i hi => ?_, fun i hi => ?_⟩
 ·have := cnt i
  by_cases hi : i < w.hp.length
  ·have := q5 i hi; have := g.le1 i; omega
  ·have := g.big i (by omega); have := q4 i; omega
 ·have := cnt i; have := q5 i (by have := g.fr.len; omega); have := g.le0 i hi; omega
 ·have := cnt i; have := q6 i hi; have := g.big i (by simp only at hi; omega); omega
theorem aprom_go {cx : Cnt} (hK : Goes X E s'.env K K' r Q) (hs : StR X E w s s' cx) {f : FuncId} {xs : List Value} {x : Value} {hp2 : Heap} {fb fb2 rho2 : List Nat} {rv : V} {cr : Cnt} {d : Nat} (ho : ownA rv = true) (h1 : K (.val (prom d s.H rv).1) { s with H := (prom d s.H rv).2 } .A = some r) (q1 : Y.call f xs w.hp = some (x, hp2)) (q2 : hp2.take w.hp.length = w.hp)
 (q3 : RV ⟨hp2, w.rho, w.fb⟩ rv x cr) (q4 : ∀ i, cr i <= 1) (q5 : ∀ i, i < w.hp.length -> cr i = 0) (q6 : ∀ i, hp2.length <= i -> cr i = 0) (q7 : HW ⟨hp2, w.rho, w.fb⟩) (q9 : Fr' ⟨w.hp, [], fb, fun _ => 0⟩ ⟨hp2, rho2, fb2⟩) (q10 : HW ⟨hp2, rho2, fb2⟩) :
 ∃ r', ((acall Y.call f xs s'.hp).bind fun r => K' (.val r.1) s'.loc r.2 .A) = some r' /\ Q r' :=
 aprom_gen hK hs (fun b hb => RV.owned rv q3 b hb) (prom_sim rv d s.H ho q3 q4) h1 q1 q2 q4 q5 q6 q7 q9 q10
theorem RVs.text {w w' : Wd} : ∀ {cs : List V} {xs : List Value} {c : Cnt}, textL cs = true -> RVs w cs xs c -> RVs w' cs xs (fun _ => 0)
 | [], xs, c, ht, h => by simp only [RVs] at *; exact ⟨h.1, by simp⟩
 | v :: cs, xs, c, ht, h => by
   cases v with
   | str s =>
     simp only [RVs, RV] at h ⊢
     obtain ⟨x, ys, c1, c2, h1, ⟨h2, _⟩, h3, _⟩ := h
     exact ⟨x, ys, fun _ => 0, fun _ => 0, h1, ⟨h2, by simp⟩, RVs.text (cs := cs) ht h3, by simp⟩
   | _ => simp [textL] at ht
theorem graft_go (hT : TabOk X) (hcall : ∀ f args H r H', X.call f args H = some (r, H') -> CallSim X Y.call f args H r H') {cx : Cnt} (hK : Goes X E s'.env K K' r Q) (hs : StR X E w s s' cx) {f : FuncId} {vs : List V} {xs : List Value} {c1 : Cnt} (h2 : RVs w vs xs c1) {rv : V × VH} (hr : pcallG X.call f s.H vs = some rv) (h1 : K (.val rv.1) { s with H := rv.2 } .A = some r) :
 ∃ r', ((acall Y.call f xs s'.hp).bind fun r => K' (.val r.1) s'.loc r.2 .A) = some r' /\ Q r' := by
 have hs' := hs
 obtain ⟨ce, cl, ch, g⟩ := hs'
 unfold pcallG at hr
 split at hr
 ·rename_i hn
  obtain ⟨⟨rv', H'⟩, hr1, hr2⟩ := bind_some' hr
  simp only at hr2
  split at hr2
  ·rename_i k off n e
   obtain ⟨cs, hcs, hr3⟩ := bind_some' hr2
   split at hr3
   ·rename_i htx
    cases hr3
    simp only [Bool.and_eq_true] at htx
    obtain ⟨x, hp2, fb2, rho2, cr, q1, q2, q3, q4, q5, q6, q7, q8, q9, q10, ch', q13, q14, q15, q16⟩ := bare_any g.hw g.gl hT.gd [] (by simp) (frDs_sim (w := w) (wc := ⟨w.hp, [], []⟩) rfl rfl rfl g.hw g.obj 3 h2 hn) (hcall _ _ _ _ _ hr1)
    simp only [RV] at q3
    obtain ⟨⟨b, cc, kb, b1, b2, b3, b4, rfl⟩, _⟩ := q3
    have hne : cs ≠ [] := fun e => by subst e; simp at htx
    obtain ⟨b', kb', d1, d2, a1, a2, a3, a4, a5, a6⟩ := q13.get hcs hne
    rw [b1] at a1; cases a1
    have b2' : hp2[b]? = some kb := b2
    have a2' : hp2[b]? = some kb' := a2
    rw [b2'] at a2'; cases a2'
    have hbm := List.mem_of_getElem? b1
    have hge : w.hp.length <= b := q8.rho_ge (w := ⟨hp2, rho2, fb2⟩) hbm (by simp)
    have hlt := (List.getElem?_eq_some_iff.1 b2').1
    obtain ⟨n1, n2⟩ := q10 b kb hge b2'
    refine aprom_gen hK hs (cr := fun i => if i = b then 1 else 0) (fun i hi => ?_) ⟨[b], [cs], fun _ => 0, fun _ => 0, rfl, rfl, by simp, fun p hp => by simp at hp; subst hp; simp, fun i => by by_cases q : i = b <;> simp [q], fun W hW hr hb => ⟨?_, ?_⟩⟩ h1 q1 q2 (fun i => by show (if i = b then 1 else 0) <= 1; split <;> omega) (fun i hi => by show (if i = b then 1 else 0) = 0; rw [if_neg (by omega)]) (fun i hi => by show (if i = b then 1 else 0) = 0; rw [if_neg (by omega)]) q7 q8 q9
    ·have : i = b := by
      by_cases q : i = b
      ·exact q
      ·simp only [if_neg q] at hi; omega
     subst this
     exact ⟨n1, fun h => by have := g.hw.rlt _ h; omega, kb, blkAt_mk b2' (by rw [a6]; simp), a6, n2⟩
    ·have := hr 0 (by simp)
     simp only [Nat.add_zero, List.getElem?_cons_zero] at this
     simp only [RV]
     exact ⟨⟨b, cc, kb, this, by rw [hW]; exact b2', b3, b4, rfl⟩, by simp⟩
    ·simp only [ROs]
     exact ⟨b, [], kb, fun _ => 0, fun _ => 0, rfl, by rw [hW]; exact b2', .inr ⟨a6, RVs.text htx.1 a3⟩, ⟨rfl, by simp⟩, by simp⟩
   ·cases hr3
  ·cases hr2
 ·cases hr
set_option maxHeartbeats 4000000 in
theorem op_sim (ht : Twin X Y) (hT : TabOk X) (hcall : ∀ f args H r H', X.call f args H = some (r, H') -> CallSim X Y.call f args H r H')
 (hs : StR X E w s s' (fun _ => 0)) (h : opV X A T o s K = some r) (hK : Goes X E s'.env K K' r Q) : ∃ r', opK Y A o s' K' = some r' /\ Q r' := by
 have hhp := hs.hp
 unfold opV at h
 unfold opK
 cases hop : o.op with
 | move x =>
   simp only [hop] at h ⊢
   split at h
   ·obtain ⟨e, e', c, h1, h2, h3, h4⟩ := ev_sim ht hs h
    rw [h4, hhp]
    exact hK w e e' _ _ _ c h1 h2 (h3.less (by simp)).self
   ·obtain ⟨e, e', c, h1, h2, h3, h4⟩ := ev_sim ht hs h
    rw [h4, hhp]
    exact hK w (stripVE e) e' _ _ _ (fun _ => 0) h1 h2.stripVE (hs.less (by simp)).self
 | assign x =>
   simp only [hop] at h ⊢
   split at h
   ·obtain ⟨e, e', c, h1, h2, h3, h4⟩ := ev_sim ht hs h
    rw [h4, hhp]
    exact hK w e e' _ _ _ c h1 h2 (h3.less (by simp)).self
   ·obtain ⟨e, e', c, h1, h2, h3, h4⟩ := ev_sim ht hs h
    rw [h4, hhp]
    exact hK w (stripVE e) e' _ _ _ (fun _ => 0) h1 h2.stripVE (hs.less (by simp)).self
 | pick cc x y =>
   simp only [hop] at h ⊢
   obtain ⟨vc, xc, c0, h1, h2, _, h4⟩ := va_sim ht hs h
   obtain ⟨ea, ea', ca, g1, g2, g3, g4⟩ := ev_sim ht hs h1
   obtain ⟨eb, eb', cb, k1, k2, k3, k4⟩ := ev_sim ht g3 g1
   rw [h4, g4, k4]
   have hb : ∀ {S : Type} {p q : Option S} {a : S}, ifGV vc p q = some a -> (vc = .bool true /\ p = some a) ∨ (vc = .bool false /\ q = some a) := by
    intro S p q a hh
    unfold ifGV at hh
    split at hh
    ·exact .inl ⟨rfl, hh⟩
    ·exact .inr ⟨rfl, hh⟩
    ·cases hh
   split at k1
   ·-- skp, val
    cases ea' <;> simp only [RE] at g2
    cases eb' <;> simp only [RE] at k2
    rcases hb k1 with ⟨rfl, hh⟩ | ⟨rfl, hh⟩
    ·cases hh
    ·simp only [RV] at h2
     simp only [h2.1, ifV, hhp]
     exact hK w _ _ _ _ _ cb hh (by simpa only [RE] using k2) (k3.less (by simp)).self
   ·-- val, skp
    cases ea' <;> simp only [RE] at g2
    cases eb' <;> simp only [RE] at k2
    rcases hb k1 with ⟨rfl, hh⟩ | ⟨rfl, hh⟩
    ·simp only [RV] at h2
     simp only [h2.1, ifV, hhp]
     exact hK w _ _ _ _ _ ca hh (by simpa only [RE] using g2) (k3.less (by simp)).self
    ·cases hh
   ·-- val, val
    cases ea' <;> simp only [RE] at g2
    cases eb' <;> simp only [RE] at k2
    obtain ⟨v, hv, k1⟩ := bind_some' k1
    unfold vPickV at hv
    split at hv
    ·cases hv
     simp only [RV] at h2
     simp only [h2.1, vPick, Option.bind_some, hhp]
     exact hK w _ _ _ _ _ ca k1 (by simpa only [RE] using g2) (k3.less (by simp)).self
    ·cases hv
     simp only [RV] at h2
     simp only [h2.1, vPick, Option.bind_some, hhp]
     exact hK w _ _ _ _ _ cb k1 (by simpa only [RE] using k2) (k3.less (by simp)).self
    ·cases hv
   ·cases k1
 | alloc elem =>
   simp only [hop] at h ⊢
   rw [ht.tab]
   split at h
   ·rename_i ti d hti hd
    simp only [hti, hd]
    have hz := pureVs_RVs (w := w) (hT.zero _ _ hti)
    split at h
    ·rename_i hm
     simp only [hm]
     split at h
     ·rename_i hl
      obtain ⟨ce, cl, ch, g⟩ := hs
      simp only [g.locn d hl, hhp]
      exact hK w _ (.loc d 0) _ _ _ (fun _ => 0) h (by simp [RE]) (g.newLoc hl hz (by simp))
     ·cases h
    ·rename_i hm
     simp only [hm]
     obtain ⟨ce, cl, ch, g⟩ := hs
     obtain ⟨w2, h1, h2, h3⟩ := alloc_sim g hz (by simp) ti.size true (fun h => by cases h)
     rw [hhp, <- h1]
     exact hK w2 _ _ _ _ _ (fun _ => 0) h h3 h2.self
   ·cases h
 | box elem x =>
   simp only [hop] at h ⊢
   rw [ht.tab]
   split at h
   ·rename_i ti d hti hd
    simp only [hti, hd]
    obtain ⟨v, x', c, h1, h2, h3, h4⟩ := vt_sim ht hs h
    obtain ⟨cs, xs, g1, g2, g3, _⟩ := cells_sim h1 h2
    rw [h4, g3]
    obtain ⟨ce, cl, ch, g⟩ := h3
    split at g1
    ·rename_i hm
     simp only [hm]
     split at g1
     ·rename_i hl
      have hl' : look (used s x).loc d = none := hl
      simp only [g.locn d hl', hhp]
      exact hK w _ (.loc d 0) _ _ _ (fun _ => 0) g1 (by simp [RE]) (g.newLoc hl' g2 (by simp))
     ·cases g1
    ·rename_i hm
     simp only [hm]
     obtain ⟨w2, k1, k2, k3⟩ := alloc_sim g g2 (by simp) ti.size true (fun h => by cases h)
     rw [hhp, <- k1]
     exact hK w2 _ _ _ _ _ (fun _ => 0) g1 k3 k2.self
   ·cases h
 | build t parts =>
   simp only [hop] at h ⊢
   rw [ht.tab]
   split at h
   ·rename_i fs z ag n hti
    simp only [hti]
    have hz := pureVs_RVs (w := w) (hT.zero _ _ hti)
    obtain ⟨cs, s2, ys, c, h1, h2, h3, h4, h5⟩ := parts_sim ht hs hz h
    rw [h5, hhp]
    exact hK w (.val (.agg cs)) (.val (.agg ys.toArray)) _ _ _ c h1 (by simp only [RE, RV]; exact ⟨ys, rfl, h2⟩) h3.self
   ·rename_i na esz z ag n hti
    simp only [hti]
    have hz := pureVs_RVs (w := w) (hT.zero _ _ hti)
    obtain ⟨cs, s2, ys, c, h1, h2, h3, h4, h5⟩ := parts_sim ht hs hz h
    rw [h5, hhp]
    exact hK w (.val (.agg cs)) (.val (.agg ys.toArray)) _ _ _ c h1 (by simp only [RE, RV]; exact ⟨ys, rfl, h2⟩) h3.self
   ·cases h
 | buildSlice t len parts =>
   simp only [hop] at h ⊢
   rw [ht.tab]
   split at h
   ·rename_i e esz eb z ag n zz hti
    simp only [hti]
    split at h
    ·rename_i te hte
     simp only [hte]
     split at h
     ·rename_i hb
      simp only [hb]
      obtain ⟨q1, q2, q3⟩ := hT.sl _ _ _ _ _ _ _ _ hti
      have hz := rep_sim (pureVs_RVs (w := w) q1) len
      obtain ⟨cs, s2, ys, c, h1, h2, h3, h4, h5⟩ := parts_sim ht hs hz h
      rw [h5, hhp]
      have hlen : cs.length = len * esz := by rw [h4, repV_len, List.length_map, q2]
      have hch := chunk_sim h2 hlen
      obtain ⟨ce, cl, ch, g⟩ := h3
      have hx := ext_push g.hw ⟨ys, esz, .rw, w.hp.length, true⟩ (fun _ => True)
      have g' := g.move hx (fun _ _ => trivial) (g.hw.push rfl (fun h => by cases h)) (g.fr.push g.hw rfl) (fun b hb => .eq (by show (w.hp ++ _)[b]? = _; rw [List.getElem?_append_left (g.hw.fbl _ (g.hw.sub _ hb))])) rfl (by simp)
      have hcl : (chunkV esz len cs).length = len := by
       have : ∀ (n : Nat) (l : List V), (chunkV esz n l).length = n := by
        intro n; induction n with
        | zero => intro l; rfl
        | succ n ih => intro l; simp only [chunkV, List.length_cons, ih]
       exact this _ _
      by_cases h0 : chunkV esz len cs = []
      ·refine hK { w with hp := w.hp ++ [⟨ys, esz, .rw, w.hp.length, true⟩] } (.fl (chunkV esz len cs)) _ _ _ _ c h1 ?_ ⟨ce, cl, ch, g'⟩
       simp only [RE, RV, newSl]
       refine ⟨?_, _, by rw [hcl]⟩
       left
       have hl0 : len = 0 := by rw [h0] at hcl; simpa using hcl.symm
       refine ⟨h0, ⟨_, _, by rw [hl0], fun _ => rfl⟩, ?_⟩
       rw [h0] at hch
       simp only [RVss] at hch; exact hch.2
      ·have hfl := g.fr.len
       refine hK { w with hp := w.hp ++ [⟨ys, esz, .rw, w.hp.length, true⟩] } (.fl (chunkV esz len cs)) _ _ _ _ (fun i => c i + if i = w.hp.length then 1 else 0) h1 ?_ ⟨ce, cl, ch, { g' with le1 := fun i => ?_, le0 := fun i hi => ?_, big := fun i hi => ?_ }⟩
       rotate_left
       ·have := g.le1 i
        by_cases e : i = w.hp.length
        ·have := g.big i (by omega); rw [if_pos e]; omega
        ·rw [if_neg e]; omega
       ·have := g.le0 i hi
        rw [if_neg (by omega)]; omega
       ·have hi' : (w.hp ++ [(⟨ys, esz, .rw, w.hp.length, true⟩ : Blk)]).length <= i := hi
        simp at hi'
        have := g.big i (by omega)
        rw [if_neg (by omega)]; omega
       simp only [RE, RV, newSl]
       refine ⟨?_, _, by rw [hcl]⟩
       right
       have hyl := hch.len
       refine ⟨h0, w.hp.length, 0, ⟨ys, esz, .rw, w.hp.length, true⟩, ys, len, c, newBlkV (by simp), ?_, ?_, by rw [hcl], q3, ?_, RVss.mono hx _ hch (fun _ _ => trivial), .inr ⟨trivial, ⟨rfl, rfl⟩, rfl, hyl.symm, fun i => rfl⟩⟩
       ·intro hb; have := g.hw.fbl _ hb; omega
       ·exact (show Fre w.hp w.rho w.hp.length from fun b hb q hq => by have := g.hw.fam b q hq; omega).push g.hw.rlt
       ·have hyl' : ys.length = (chunkV esz len cs).length * esz := hyl
        show gcut ys 0 ((chunkV esz len cs).length * esz) = some ys
        rw [gcut_mk (by omega)]
        simp only [List.drop_zero]
        rw [List.take_of_length_le (by omega)]
     ·cases h
    ·cases h
   ·cases h
 | load t x =>
   simp only [hop] at h ⊢
   rw [ht.tab]
   split at h
   ·rename_i ti hti
    simp only [hti]
    obtain ⟨e, e', c, h1, h2, h3, h4⟩ := ev_sim ht hs h
    rw [h4]
    split at h1
    ·-- a local
     rename_i k off
     cases e' <;> simp only [RE] at h2
     obtain ⟨rfl, rfl, _⟩ := h2
     split at h1
     ·rename_i cs hl
      obtain ⟨⟨v, cs2⟩, hld, h1⟩ := bind_some' h1
      obtain ⟨ce, cl, ch, g⟩ := hs
      obtain ⟨ws, c1, c2, g1, g2, g3, g4⟩ := g.loc.look hl
      obtain ⟨z, d1, d2, k1, k2, k3, k4⟩ := load_sim hld g2
      have hset := g4 cs2 ws d2 k3
      have hsame : setL s'.loc k ws = s'.loc := by
       have : ∀ {l : List (Nat × List Value)}, look l k = some ws -> setL l k ws = l := by
        intro l
        induction l with
        | nil => intro h; rfl
        | cons p l ih =>
          intro h
          obtain ⟨q, v⟩ := p
          by_cases e : q = k
          ·subst e
           have hb : Nat.beq q q = true := Nat.beq_refl q
           simp only [look, hb] at h
           cases h; simp only [setL, hb]
          ·simp only [look, beq_ne e] at h
           simp only [setL, beq_ne e, ih h]
       exact this g1
      rw [hsame] at hset
      have hst : StR X E w { s with loc := setLV s.loc k cs2 } s' d1 := by
       refine ⟨ce, fun i => d2 i + c2 i, ch, g.hp, g.hw, g.gl, g.fr, g.env, hset, fun j hj => g.locn j (setLV_none hj), g.obj, fun i => ?_, fun i hi => ?_, fun i hi => ?_⟩
       ·have := g.le1 i; have := g3 i; have := k4 i; omega
       ·have := g.le0 i hi; have := g3 i; have := k4 i; omega
       ·have := g.big i hi; have := g3 i; have := k4 i; omega
      simp only [g1, hhp]
      cases hag : ti.agg with
      | true =>
        rw [hag] at k1
        simp only at k1
        cases hcut : cut ws off ti.size with
        | none => rw [hcut] at k1; cases k1
        | some m =>
          rw [hcut] at k1; cases k1
          simp only [Option.bind_some]
          exact hK w _ _ _ _ _ d1 h1 (by simp only [RE]; exact k2) hst.self
      | false =>
        rw [hag] at k1
        simp only at k1
        simp only [k1, Option.bind_some]
        exact hK w _ _ _ _ _ d1 h1 (by simp only [RE]; exact k2) hst.self
     ·cases h1
    ·rename_i p
     obtain ⟨⟨v, H2⟩, hld, h1⟩ := bind_some' h1
     cases e' <;> simp only [RE] at h2
     rename_i x'
     unfold ldO at hld
     split at hld
     ·-- an object
      rename_i k off
      simp only [RV] at h2
      obtain ⟨⟨b, hb1, rfl⟩, _⟩ := h2
      split at hld
      ·rename_i cs hl
       obtain ⟨⟨v', cs2⟩, hlc, heq⟩ := Option.map_eq_some_iff.1 hld
       cases heq
       obtain ⟨ce, cl, ch, g⟩ := hs
       obtain ⟨b', kb, c1, c2, g1, g2, g3, g4, g5, o2⟩ := g.obj.get hl (loadC_ne hlc (hT.pos _ _ hti))
       rw [hb1] at g1; cases g1
       obtain ⟨z, d1, d2, k1, k2, k3, k4⟩ := load_sim hlc g3
       have hst : StR X E w { s with H := s.H.set k cs2 } s' d1 := by
        refine ⟨ce, cl, fun i => d2 i + c2 i, g.hp, g.hw, g.gl, g.fr, g.env, g.loc, g.locn, g5 cs2 d2 k3, fun i => ?_, fun i hi => ?_, fun i hi => ?_⟩
        ·have := g.le1 i; have := g4 i; have := k4 i; omega
        ·have := g.le0 i hi; have := g4 i; have := k4 i; omega
        ·have := g.big i hi; have := g4 i; have := k4 i; omega
       have hload : hLoad s'.hp ti.agg ti.size (.pointer (some ⟨b, off, none⟩)) = some z := by
        simp only [hLoad, hhp, blkAt_mk g2 (by rw [o2]; simp), Option.bind_some]; exact k1
       simp only [hload, Option.bind_some]
       rw [hhp]
       exact hK w _ _ _ _ _ d1 h1 (by simp only [RE]; exact k2) hst.self
      ·cases hld
     ·-- an element
      rename_i cs off
      simp only [RV] at h2
      obtain ⟨⟨b, o', kb, ws, b1, b2, rfl, b3, b4⟩, _⟩ := h2
      cases hv : loadE ti.agg ti.size cs off with
      | none => rw [hv] at hld; cases hld
      | some v' =>
        rw [hv] at hld
        cases hld
        obtain ⟨z, k1, k2⟩ := loadE_sim hv b4
        have hload : hLoad s'.hp ti.agg ti.size (.pointer (some ⟨b, o' + off, none⟩)) = some z := by
         simp only [hLoad, hhp, b1, Option.bind_some]
         cases hag : ti.agg with
         | true =>
           rw [hag] at k1
           simp only at k1 ⊢
           cases hcut : cut ws off ti.size with
           | none => rw [hcut] at k1; cases k1
           | some m =>
             rw [hcut] at k1; cases k1
             have : cut kb.cells (o' + off) ti.size = some m := gcut_gcut b3 hcut
             rw [this]; rfl
         | false =>
           rw [hag] at k1
           simp only at k1 ⊢
           exact cut_get (gcut_gcut b3 (get_cut k1))
        simp only [hload, Option.bind_some]
        exact hK.pure h1 k2 hs
     ·-- a package variable
      rename_i g0 off
      simp only [RV] at h2
      obtain ⟨rfl, _⟩ := h2
      split at hld
      ·rename_i cs hg
       cases hv : loadE ti.agg ti.size cs off with
       | none => rw [hv] at hld; cases hld
       | some v' =>
         rw [hv] at hld
         cases hld
         have hgl : GlobOk X w := by obtain ⟨_, _, _, g⟩ := hs; exact g.gl
         obtain ⟨kb, b1, b2, b3, _⟩ := hgl g0 cs hg
         obtain ⟨z, k1, k2⟩ := loadE_sim hv b3
         have hload : hLoad s'.hp ti.agg ti.size (.pointer (some ⟨g0, off, none⟩)) = some z := by
          simp only [hLoad, hhp, b1, Option.bind_some]; exact k1
         simp only [hload, Option.bind_some]
         exact hK.pure h1 k2 hs
      ·cases hld
     ·cases hld
    ·cases h1
   ·cases h
 | store t x y =>
   simp only [hop] at h ⊢
   rw [ht.tab]
   split at h
   ·rename_i ti hti
    simp only [hti]
    obtain ⟨e, e', c, h1, h2, _, h4⟩ := ev_sim ht hs h
    obtain ⟨v, x', cv, g1, g2, g3, g4⟩ := vt_sim ht hs h1
    obtain ⟨cs, xs, k1, k2, k3, k5⟩ := cells_sim g1 g2
    rw [h4, g4, k3]
    obtain ⟨ce, cl, ch, g⟩ := g3
    split at k1
    ·rename_i k off
     cases e' <;> simp only [RE] at h2
     obtain ⟨rfl, rfl, _⟩ := h2
     split at k1
     ·rename_i old hl
      split at k1
      ·rename_i hb
       have hle := Nat.le_of_ble_eq_true hb
       obtain ⟨ws, c1, c2, m1, m2, m3, m4⟩ := g.loc.look hl
       obtain ⟨c', n1, n2⟩ := m2.seg k2 hle
       have hb' : Nat.ble (off + xs.length) ws.length = true := by rw [<- k2.len, <- m2.len]; exact hb
       simp only [m1, hb', hhp]
       refine hK w .skp .skp _ _ _ (fun _ => 0) k1 (by simp [RE]) ⟨ce, fun i => c' i + c2 i, ch, rfl, g.hw, g.gl, g.fr, g.env, m4 _ _ c' n1, fun j hj => setL_none (g.locn j (setLV_none hj)), g.obj, fun i => ?_, fun i hi => ?_, fun i hi => ?_⟩
       ·have := g.le1 i; have := m3 i; have := n2 i; omega
       ·have := g.le0 i hi; have := m3 i; have := n2 i; omega
       ·have := g.big i hi; have := m3 i; have := n2 i; omega
      ·cases k1
     ·cases k1
    ·rename_i p0
     cases e' <;> simp only [RE] at h2
     rename_i p
     obtain ⟨H2, hst, k1⟩ := bind_some' k1
     unfold stO at hst
     split at hst
     ·rename_i k off
      split at hst
      ·rename_i old hl
       split at hst
       ·rename_i hb
        cases hst
        have hle := Nat.le_of_ble_eq_true hb
        obtain ⟨w2, n1, n2⟩ := store_sim g h2 hl k2 (by simp) hle (k5 (hT.pos _ _ hti))
        simp only [hhp, n1, Option.bind_some]
        exact hK w2 .skp .skp _ _ _ (fun _ => 0) k1 (by simp [RE]) n2.self
       ·cases hst
      ·cases hst
     ·cases hst
    ·cases k1
   ·cases h
 | nilCheck x =>
   simp only [hop] at h ⊢
   obtain ⟨e, e', c, h1, h2, _, h4⟩ := ev_sim ht hs h
   rw [h4]
   split at h1
   ·cases e' <;> simp only [RE] at h2
    obtain ⟨rfl, rfl, _⟩ := h2
    rw [hhp]
    exact hK w _ _ _ _ _ (fun _ => 0) h1 (by simp [RE]) hs.self
   ·rename_i p0
    cases e' <;> simp only [RE] at h2
    obtain ⟨v, hv, h1⟩ := bind_some' h1
    have h2' := h2
    unfold vNilV at hv
    split at hv
    ·cases hv
     simp only [RV] at h2
     obtain ⟨⟨b, hb1, rfl⟩, h0⟩ := h2
     simp only [vNil, Option.bind_some]
     exact hK.pure h1 (h2'.congr (fun i => (h0 i).symm)) hs
    ·cases hv
     simp only [RV] at h2
     obtain ⟨rfl, h0⟩ := h2
     simp only [vNil, Option.bind_some]
     exact hK.pure h1 (h2'.congr (fun i => (h0 i).symm)) hs
    ·cases hv
     simp only [RV] at h2
     obtain ⟨⟨b, o', kb, ws, b1, b2, rfl, b3, b4⟩, h0⟩ := h2
     simp only [vNil, Option.bind_some]
     exact hK.pure h1 (h2'.congr (fun i => (h0 i).symm)) hs
    ·cases hv
     simp only [RV] at h2
     obtain ⟨⟨ws, rfl, b1⟩, h0⟩ := h2
     simp only [vNil, Option.bind_some]
     exact hK.pure h1 (h2'.congr (fun i => (h0 i).symm)) hs
    ·cases hv
   ·cases h1
 | binOp op t x y yt =>
   simp only [hop] at h ⊢
   rw [ht.tab]
   split at h
   ·rename_i ti hti
    simp only [hti]
    split at h
    ·rename_i hn
     obtain ⟨hk, rfl⟩ := isNilC_some hn
     obtain ⟨a, x', c, h1, h2, _, h4⟩ := va_sim ht hs h
     obtain ⟨v, hv, h1⟩ := bind_some' h1
     obtain ⟨z, k1, k2⟩ := nil_sim hk hv h2
     rw [h4]
     have e : ∀ (K2 : Value -> Option R'), vaK Y s' (.const (.slice none 0 0)) K2 = K2 (.slice none 0 0) := fun K2 => rfl
     rw [e, k1]
     exact hK.pure h1 k2 hs
    ·obtain ⟨a, x', c, h1, h2, _, h4⟩ := va_sim ht hs h
     obtain ⟨b, y', d, g1, g2, _, g4⟩ := va_sim ht hs h1
     obtain ⟨v, hv, g1⟩ := bind_some' g1
     obtain ⟨z, k1, k2⟩ := bin_sim hv h2 g2
     rw [h4, g4, k1]
     exact hK.pure g1 k2 hs
   ·cases h
 | unOp op t x =>
   simp only [hop] at h ⊢
   obtain ⟨a, x', c, h1, h2, _, h4⟩ := va_sim ht hs h
   obtain ⟨v, hv, h1⟩ := bind_some' h1
   obtain ⟨z, k1, k2⟩ := un_sim hv h2
   rw [h4, k1]
   exact hK.pure h1 k2 hs
 | convert src dst x =>
   simp only [hop] at h ⊢
   rw [ht.tab]
   split at h
   ·rename_i ts td hts htd
    simp only [hts, htd]
    obtain ⟨a, x', c, h1, h2, _, h4⟩ := va_sim ht hs h
    rw [h4]
    split at h1
    ·rename_i k k' hk hk'
     obtain ⟨v, hv, h1⟩ := bind_some' h1
     obtain ⟨z, k1, k2⟩ := conv_sim hv h2
     simp only [hk, hk', k1, Option.bind_some]
     exact hK.pure h1 k2 hs
    ·rename_i hk hk'
     obtain ⟨v, hv, h1⟩ := bind_some' h1
     obtain ⟨z, k1, k2⟩ := strv_sim hv h2
     simp only [hk, hk', k1, Option.bind_some]
     exact hK.pure h1 k2 hs
    ·rename_i e esz eb zz hk hk'
     split at h1
     ·rename_i ti4 hti4
      obtain ⟨v, hv, h1⟩ := bind_some' h1
      unfold s2bV at hv
      split at hv
      ·rename_i l
       cases hv
       simp only [RV] at h2
       obtain ⟨rfl, _⟩ := h2
       simp only [hk, hk', hti4, hhp]
       have hsz : (ByteArray.mk l.toArray).size = l.length := by simp [ByteArray.size]
       obtain ⟨ce, cl, ch, g⟩ := hs
       obtain ⟨w2, q1, q2, q3⟩ := alloc_sim g (bytes_RVs l) (by simp) 1 false (fun _ => rfl)
       have hb : bytesV ⟨l.toArray⟩ = l.map fun b => Value.int .u8 b.toNat := rfl
       rw [hb, <- q1, hsz]
       refine hK w2 _ _ _ _ _ (fun _ => 0) h1 ?_ q2.self
       have e : (l.map fun b => V.int .u8 (b.toNat : Int)).length = l.length := by simp
       simp only [RE]
       have := obs_new (m := l.length) (cc := l.length + 1) q1 q3 (by omega)
       rw [<- e] at this ⊢
       simpa using this
      ·cases hv
     ·cases h1
    ·rename_i e esz eb zz hk hk'
     split at h1
     ·rename_i ti4 hti4
      obtain ⟨v, hv, h1⟩ := bind_some' h1
      have hs0 := hs
      obtain ⟨ce, cl, ch, g⟩ := hs0
      obtain ⟨z, k1, k2⟩ := b2s_sim g.hw g.obj hv h2
      simp only [hk, hk', hti4, hhp, k1, Option.bind_some]
      rw [<- hhp]
      exact hK.pure h1 k2 hs
     ·cases h1
    ·cases h1
   ·cases h
 | makeFunc fn first captured =>
   simp only [hop] at h ⊢
   cases hz : first.size with
   | zero =>
     simp only [hz] at h ⊢
     split at h
     ·rename_i f
      obtain ⟨vs, xs, c, h1, h2, h4⟩ := vas_sim ht hs h
      simp only [h4]
      exact hK.pure h1 (by simp only [RV]; exact ⟨⟨xs, rfl, RVs.strip _ h2⟩, by simp⟩) hs
     ·cases h
   | succ n => simp only [hz] at h; cases h
 | slice t x lo hi mx =>
   simp only [hop] at h ⊢
   rw [ht.tab]
   split at h
   ·rename_i hti
    simp only [hti]
    obtain ⟨a, x', c, h1, h2, _, h4⟩ := va_sim ht hs h
    obtain ⟨l, l', g1, g2, g3⟩ := vo_sim ht hs h1
    obtain ⟨k, k', m1, m2, m3⟩ := vo_sim ht hs g1
    rw [h4, g3, m3]
    split at m1
    ·obtain ⟨v, hv, m1⟩ := bind_some' m1
     obtain ⟨z, k1, k2⟩ := sliceS_sim hv h2 g2 m2
     simp only [k1, Option.bind_some]
     exact hK.pure m1 k2 hs
    ·cases m1
   ·rename_i e esz eb zz ag n z2 hti
    simp only [hti]
    obtain ⟨a, x', c, h1, h2, _, h4⟩ := va_sim ht hs h
    rw [h4]
    split at h1
    ·obtain ⟨l, l', g1, g2, g3⟩ := vo_sim ht hs h1
     obtain ⟨k, k', m1, m2, m3⟩ := vo_sim ht hs g1
     obtain ⟨v, hv, m1⟩ := bind_some' m1
     obtain ⟨z, k1, k2⟩ := sliceV_sim hv h2 g2 m2
     rw [g3, m3]
     simp only [voK, hhp, k1, Option.bind_some]
     rw [<- hhp]
     exact hK.pure m1 k2 hs
    ·obtain ⟨l, l', cl', g1, g2, _, g3⟩ := va_sim ht hs h1
     obtain ⟨k, k', ck', m1, m2, _, m3⟩ := va_sim ht hs g1
     obtain ⟨u, u', cu', n1, n2, _, n3⟩ := va_sim ht hs m1
     obtain ⟨xs, hv, n1⟩ := bind_some' n1
     obtain ⟨z, k1, k2⟩ := sliceF_sim hv h2 g2 m2 n2
     simp only [voK, g3, m3, n3, hhp, k1, Option.bind_some]
     exact hK w _ _ _ _ _ (fun _ => 0) n1 k2 hs.self
    ·cases h1
   ·rename_i na ag n2 z2 hti
    simp only [hti]
    split at h
    ·obtain ⟨a, x', c, h1, h2, _, h4⟩ := va_sim ht hs h
     obtain ⟨v, hv, h1⟩ := bind_some' h1
     have hgl : GlobOk X w := by obtain ⟨_, _, _, g⟩ := hs; exact g.gl
     obtain ⟨z, k1, k2⟩ := sliceA_sim hgl hv h2
     rw [h4]
     simp only [hhp, k1, Option.bind_some]
     rw [<- hhp]
     exact hK.pure h1 k2 hs
    ·cases h
   ·cases h
 | fieldAddr t x f =>
   simp only [hop] at h ⊢
   rw [ht.tab]
   split at h
   ·rename_i fs ag n zz hti
    simp only [hti]
    split at h
    ·rename_i off m ag2 hf
     simp only [hf]
     obtain ⟨e, e', c, h1, h2, _, h4⟩ := ev_sim ht hs h
     rw [h4]
     split at h1
     ·cases e' <;> simp only [RE] at h2
      obtain ⟨rfl, rfl, _⟩ := h2
      rw [hhp]
      exact hK w _ _ _ _ _ (fun _ => 0) h1 (by simp [RE]) hs.self
     ·cases e' <;> simp only [RE] at h2
      obtain ⟨v, hv, h1⟩ := bind_some' h1
      obtain ⟨z, k1, k2⟩ := off_sim hv h2
      simp only [k1, Option.bind_some]
      exact hK.pure h1 k2 hs
     ·cases h1
    ·cases h
   ·cases h
 | field t x f =>
   simp only [hop] at h ⊢
   rw [ht.tab]
   split at h
   ·rename_i fs ag n zz hti
    simp only [hti]
    split at h
    ·rename_i off m ag2 hf
     simp only [hf]
     obtain ⟨a, x', c, h1, h2, _, h4⟩ := va_sim ht hs h
     obtain ⟨cs, hcs, h7⟩ := bind_some' h1
     clear h1
     rw [h4]
     unfold aggNV at hcs
     split at hcs
     ·split at hcs
      ·rename_i hn
       cases hcs
       simp only [RV] at h2
       obtain ⟨ws, rfl, h2⟩ := h2
       have hl := h2.len
       have hag : aggN n (.agg ⟨ws⟩) = some ws := by simp only [aggN]; rw [if_pos (by simp; omega)]
       simp only [hag, Option.bind_some]
       split at h7
       ·obtain ⟨m', hm, h8⟩ := bind_some' h7
        obtain ⟨ys, p, q, k1, k2, _, _⟩ := h2.cut hm
        have k1' : cut ws off m = some ys := k1
        simp only [k1', Option.bind_some]
        exact hK.pure h8 (by simp only [RV]; exact ⟨ys, rfl, RVs.strip _ k2⟩) hs
       ·obtain ⟨m', hm, h8⟩ := bind_some' h7
        obtain ⟨ys, p, q, k1, k2, _, _⟩ := h2.cut (get_cut hm)
        simp only [RVs] at k2
        obtain ⟨z, zs, p1, p2, rfl, h5, ⟨rfl, h6⟩, h9⟩ := k2
        simp only [cut_get k1, Option.bind_some]
        exact hK.pure h8 (RV.strip _ h5) hs
      ·cases hcs
     ·cases hcs
    ·cases h
   ·cases h
 | indexAddr t x i =>
   simp only [hop] at h ⊢
   rw [ht.tab]
   split at h
   ·rename_i e esz eb zz ag n z2 hti
    simp only [hti]
    obtain ⟨a, x', c, h1, h2, _, h4⟩ := va_sim ht hs h
    obtain ⟨b, y', d, g1, g2, _, g4⟩ := va_sim ht hs h1
    obtain ⟨v, hv, g1⟩ := bind_some' g1
    obtain ⟨z, k1, k2⟩ := idx_sim hv h2 g2
    rw [h4, g4, k1]
    exact hK.pure g1 k2 hs
   ·rename_i n esz ag n2 z2 hti
    simp only [hti]
    obtain ⟨a, x', c, h1, h2, _, h4⟩ := va_sim ht hs h
    obtain ⟨b, y', d, g1, g2, _, g4⟩ := va_sim ht hs h1
    obtain ⟨v, hv, g1⟩ := bind_some' g1
    obtain ⟨z, k1, k2⟩ := idxA_sim hv h2 g2
    rw [h4, g4, k1]
    exact hK.pure g1 k2 hs
   ·cases h
 | index t x i =>
   simp only [hop] at h ⊢
   rw [ht.tab]
   split at h
   ·rename_i hti
    simp only [hti]
    obtain ⟨a, x', c, h1, h2, _, h4⟩ := va_sim ht hs h
    obtain ⟨b, y', d, g1, g2, _, g4⟩ := va_sim ht hs h1
    obtain ⟨v, hv, g1⟩ := bind_some' g1
    obtain ⟨z, k1, k2⟩ := indexS_sim hv h2 g2
    rw [h4, g4, k1]
    exact hK.pure g1 k2 hs
   ·rename_i n esz ag n2 z2 hti
    simp only [hti]
    obtain ⟨a, x', c, h1, h2, _, h4⟩ := va_sim ht hs h
    obtain ⟨b, y', d, g1, g2, _, g4⟩ := va_sim ht hs h1
    obtain ⟨v, hv, g1⟩ := bind_some' g1
    obtain ⟨z, k1, k2⟩ := indexR_sim hv h2 g2
    rw [h4, g4, k1]
    exact hK.pure g1 k2 hs
   ·cases h
 | extract x i =>
   simp only [hop] at h ⊢
   split at h
   ·rename_i t
    obtain ⟨a, x', c, h1, h2, h3, h4⟩ := va_sim ht hs h
    obtain ⟨u, hu, h1⟩ := bind_some' h1
    obtain ⟨z, c1, c2, k1, k2, k3, k4⟩ := ext_sim hu h2
    rw [h4, k1]
    split at h1
    ·obtain ⟨ce, cl, ch, g⟩ := h3
     have hlook : ∃ xx, look s'.env t = some (.val xx) /\ xx = x' := by
      have := h4 (EV) (fun v => some (.val v))
      simp only [vaK, evK] at this
      cases e : look s'.env t with
      | none => rw [e] at this; cases this
      | some q =>
        rw [e] at this
        cases q <;> simp only at this <;> first | (cases this; done) | skip
        cases this; exact ⟨_, rfl, rfl⟩
     obtain ⟨xx, hl, rfl⟩ := hlook
     obtain ⟨c3, m1, m2⟩ := g.env.del' (d := t)
     have hdel : ∀ {l : List (Nat × VE)}, delE (stripE l t) t = delE l t := by
      intro l
      induction l with
      | nil => rfl
      | cons p l ih =>
        obtain ⟨q, v⟩ := p
        by_cases e : q = t
        ·subst e
         have hb : Nat.beq q q = true := Nat.beq_refl q
         simp only [stripE, delE, hb]
        ·simp only [stripE, delE, beq_ne e, ih]
     simp only [Option.bind_some]
     rw [hhp]
     refine hK w (.val u) (.val z) _ _ _ c1 h1 (by simpa only [RE] using k2) ?_
     have m1' : REnv w (delE s.env t) s'.env c3 := by rw [<- hdel]; exact m1
     refine ⟨fun i => c2 i + c3 i, cl, ch, rfl, g.hw, g.gl, g.fr, ?_, g.loc, g.locn, g.obj, fun i => ?_, fun i hi => ?_, fun i hi => ?_⟩
     ·simp only [REnv]
      exact ⟨_, c2, c3, hl, by simpa only [RE] using k3, m1', by simp⟩
     ·have := g.le1 i; have := k4 i; have := m2 i; omega
     ·have := g.le0 i hi; have := k4 i; have := m2 i; omega
     ·have := g.big i hi; have := k4 i; have := m2 i; omega
    ·exact hK.pure h1 (RV.strip _ k2) hs
   ·cases h
 | call c =>
   simp only [hop] at h ⊢
   rw [ht.tab, ht.kind, ht.ext]
   split at h
   ·-- len
    rename_i hcal
    simp only [hcal]
    split at h
    ·rename_i x t hargs htys
     simp only [hargs, htys]
     split at h
     ·rename_i hti
      simp only [hti]
      obtain ⟨a, x', c', h1, h2, _, h4⟩ := va_sim ht hs h
      obtain ⟨v, hv, h1⟩ := bind_some' h1
      obtain ⟨z, k1, k2⟩ := lenS_sim hv h2
      rw [h4, k1]
      exact hK.pure h1 k2 hs
     ·rename_i hti
      simp only [hti]
      obtain ⟨a, x', c', h1, h2, _, h4⟩ := va_sim ht hs h
      obtain ⟨v, hv, h1⟩ := bind_some' h1
      obtain ⟨z, k1, k2⟩ := lenV_sim hv h2
      rw [h4, k1]
      exact hK.pure h1 k2 hs
     ·cases h
    ·cases h
   ·-- min
    rename_i hcal
    simp only [hcal]
    split at h
    ·rename_i x y hargs
     simp only [hargs]
     obtain ⟨a, x', c', h1, h2, _, h4⟩ := va_sim ht hs h
     obtain ⟨b, y', d, g1, g2, _, g4⟩ := va_sim ht hs h1
     obtain ⟨v, hv, g1⟩ := bind_some' g1
     obtain ⟨z, k1, k2⟩ := min_sim hv h2 g2
     rw [h4, g4, k1]
     exact hK.pure g1 k2 hs
    ·cases h
   ·-- append
    rename_i hcal
    simp only [hcal]
    split at h
    ·rename_i x y t u d hargs htys hd
     simp only [hargs, htys, hd]
     split at h
     ·rename_i e esz eb z ag n zz ku ag2 n2 zz2 hti hui
      obtain ⟨_, _, h0⟩ := hT.sl _ _ _ _ _ _ _ _ hti
      simp only [hti, hui]
      split at h
      ·rename_i b hku
       have fin : ∀ {c1 c2 cx : Cnt} {s2 : VS} {xs : List (List V)} {x' y' : Value} {yv rv : V} {ce cl ch : Cnt} {full : Bool}, StC X E w s2 s' ce cl ch cx -> RV w (.sl true xs) x' c1 -> (full = true -> ∃ a, x' = .slice a xs.length xs.length) -> RV w yv y' c2 -> (∀ i, c1 i + c2 i <= cx i) →
        appV b esz eb xs yv = some rv -> K (.val rv) s2 (clsF full) = some r →
        ∃ w2 x2, hAppF full s'.hp esz eb x' y' = some (x2, w2) /\ vAny b y' = some y' /\ ∃ r', K' (.val x2) s'.loc w2 (clsF full) = some r' /\ Q r' := by
        intro c1 c2 cx s2 xs x' y' yv rv ce cl ch full g hx hf hy hc ha hk
        obtain ⟨w2, x2, c', k1, k2, k3, k4⟩ := app_sim g hx hf hy hc ha h0
        rw [hhp]
        exact ⟨w2.hp, x2, k1, k2, hK w2 (.val rv) (.val x2) s2 s'.loc _ c' hk (by simpa only [RE] using k4) ⟨ce, cl, ch, k3⟩⟩
       split at h
       ·rename_i hm
        simp only [hm]
        obtain ⟨e1, e1', c1, h1, h2, h3, h4⟩ := ev_sim ht hs h
        obtain ⟨yv, y', c2, g1, g2, g3, g4⟩ := vt_sim ht h3 h1
        split at g1
        ·rename_i xs
         cases e1' <;> simp only [RE] at h2
         rename_i x'
         obtain ⟨rv, ha, g1⟩ := bind_some' g1
         obtain ⟨ce, cl, ch, g⟩ := g3
         obtain ⟨w2, x2, k1, k2, r', k3, k4⟩ := fin (full := true) g h2.1 (fun _ => h2.2) g2 (by simp) ha g1
         have g4' : ∀ (R' : Type) (K' : Value -> Option R'), vaK Y s' y K' = K' y' := g4
         have h4' : ∀ (K' : Value -> Option R'), vaK Y s' x K' = K' x' := fun K' => by unfold vaK; rw [h4]
         cases ku <;> simp only at hku <;> first | (cases hku; done) | skip
         ·cases hku
          dsimp only
          rw [h4', g4']
          simp only [vAny] at k2
          simp only [hAppF] at k1
          simp only [k2, Option.bind_some, k1]
          exact ⟨r', k3, k4⟩
         ·cases hku
          dsimp only
          rw [h4', g4']
          simp only [vAny] at k2
          simp only [hAppF] at k1
          simp only [k2, Option.bind_some, k1]
          exact ⟨r', k3, k4⟩
        ·cases g1
       ·rename_i hm
        simp only [hm]
        split at h
        ·obtain ⟨sv, x', c1, h1, h2, h3, h4⟩ := vt_sim ht hs h
         obtain ⟨yv, y', c2, g1, g2, g3, g4⟩ := vt_sim ht h3 h1
         obtain ⟨⟨rv, H2⟩, ha, g6⟩ := bind_some' g1
         obtain ⟨ce, cl, ch, g⟩ := g3
         obtain ⟨w2, x2, c', k1, k2, k3, k4⟩ := appO_sim g h2 g2 (by simp) ha h0
         have hfin := hK w2 (.val rv) (.val x2) _ s'.loc _ c' g6 (by simpa only [RE] using k4) k3
         obtain ⟨r', q3, q4⟩ := hfin
         cases ku <;> simp only at hku <;> first | (cases hku; done) | skip
         ·cases hku
          dsimp only
          rw [h4, g4]
          simp only [vAny] at k2
          simp only [hAppF] at k1
          simp only [k2, Option.bind_some, hhp, k1]
          exact ⟨r', q3, q4⟩
         ·cases hku
          dsimp only
          rw [h4, g4]
          simp only [vAny] at k2
          simp only [hAppF] at k1
          simp only [k2, Option.bind_some, hhp, k1]
          exact ⟨r', q3, q4⟩
        obtain ⟨sv, x', c1, h1, h2, h3, h4⟩ := vt_sim ht hs h
        obtain ⟨yv, y', c2, g1, g2, g3, g4⟩ := vt_sim ht h3 h1
        obtain ⟨xs, hxs, g5⟩ := bind_some' g1
        obtain ⟨rv, ha, g6⟩ := bind_some' g5
        clear g5 g1
        have hsv : sv = .sl true xs := by
         unfold ownV at hxs
         split at hxs
         ·cases hxs; rfl
         ·cases hxs
        subst hsv
        obtain ⟨ce, cl, ch, g⟩ := g3
        obtain ⟨w2, x2, k1, k2, r', k3, k4⟩ := fin (full := false) g h2 (fun q => by cases q) g2 (by simp) ha g6
        cases ku <;> simp only at hku <;> first | (cases hku; done) | skip
        ·cases hku
         dsimp only
         rw [h4, g4]
         simp only [vAny] at k2
         simp only [hAppF] at k1
         simp only [k2, Option.bind_some, k1]
         exact ⟨r', k3, k4⟩
        ·cases hku
         dsimp only
         rw [h4, g4]
         simp only [vAny] at k2
         simp only [hAppF] at k1
         simp only [k2, Option.bind_some, k1]
         exact ⟨r', k3, k4⟩
      ·cases h
     ·cases h
    ·cases h
   ·-- a known function
    rename_i f hcal
    simp only [hcal]
    split at h
    ·rename_i hk
     simp only [hk]
     obtain ⟨vs, s2, xs, c1, h1, h2, h3, h4⟩ := args_sim ht hs h
     obtain ⟨⟨rv, H'⟩, hr, h1⟩ := bind_some' h1
     obtain ⟨x, w2, cr, q1, q2, q3⟩ := call_step hcall h3 h2 (by simp) hr
     rw [h4, hhp, q1]
     exact hK w2 _ _ _ _ _ cr h1 (by simp only [RE]; exact q2) q3
    ·rename_i hk
     simp only [hk]
     obtain ⟨vs, xs, c1, h1, h2, h4⟩ := vas_sim ht hs h
     split at h1
     ·split at h1
      ·obtain ⟨rv, hr, h1⟩ := bind_some' h1
       obtain ⟨x, q1, q2⟩ := qcallD_step hT hcall hs h2 hr
       rw [h4, q1]
       exact hK.pure h1 q2 hs
      ·obtain ⟨rv, hr, h1⟩ := bind_some' h1
       obtain ⟨x, q1, q2⟩ := qcallO_step hT hcall hs h2 hr
       rw [h4, q1]
       exact hK.pure h1 q2 hs
     ·obtain ⟨rv, hr, h1⟩ := bind_some' h1
      obtain ⟨x, q1, q2⟩ := qcall_step hT hcall hs h2 hr
      rw [h4, q1]
      exact hK.pure h1 q2 hs
    ·rename_i hk
     simp only [hk]
     obtain ⟨vs, xs, c1, h1, h2, h4⟩ := vas_sim ht hs h
     rw [h4]
     split at h1
     ·split at h1
      ·obtain ⟨rv, hr, h1⟩ := bind_some' h1
       exact graft_go hT hcall hK hs h2 hr h1
      obtain ⟨rv, hr, h1⟩ := bind_some' h1
      have came : Came Y w f xs rv := by
       unfold pcallX at hr
       split at hr
       ·exact pcallU_came hT hcall hs h2 hr
       ·exact pcallO_came hT hcall hs h2 hr
      obtain ⟨x, hp2, fb, fb2, rho2, cr, q1, q2, q3, q4, q5, q6, q7, q9, q10⟩ := came
      split at h1
      ·unfold promB at h1
       split at h1
       ·rename_i hown
        exact aprom_go hK hs hown h1 q1 q2 q3 q4 q5 q6 q7 q9 q10
       ·cases h1
      ·split at h1
       ·unfold promB at h1
        split at h1
        ·rename_i hown
         exact aprom_go hK hs hown h1 q1 q2 q3 q4 q5 q6 q7 q9 q10
        ·cases h1
       ·exact acall_go hK hs h1 q1 q2 q3 q4 q5 q6 q7 q9 q10
     ·obtain ⟨rv, hr, h1⟩ := bind_some' h1
      obtain ⟨x, hp2, fb, fb2, rho2, cr, q1, q2, q3, q4, q5, q6, q7, q9, q10⟩ := pcall_came hT hcall hs h2 hr
      exact acall_go hK hs h1 q1 q2 q3 q4 q5 q6 q7 q9 q10
    ·rename_i n hk
     simp only [hk]
     obtain ⟨vs, xs, c1, h1, h2, h4⟩ := vas_sim ht hs h
     obtain ⟨az, has, h5⟩ := bind_some' h1
     obtain ⟨y, hy, h6⟩ := bind_some' h5
     obtain ⟨v, hv, h7⟩ := bind_some' h6
     clear h1 h5 h6
     rw [h4]
     have : xs = az := by
      have : ∀ {vs : List V} {xs az : List Value} {c : Cnt}, RVs w vs xs c -> vs.mapM toA = some az -> xs = az := by
       intro vs
       induction vs with
       | nil => intro xs az c h h2; simp only [RVs] at h; simp at h2; rw [h.1, h2]
       | cons a vs ih =>
         intro xs az c h h2
         simp only [RVs] at h
         obtain ⟨x, ys, c1, c2, rfl, k1, k2, k3⟩ := h
         rw [List.mapM_cons] at h2
         obtain ⟨p, p1, h2⟩ := bind_some' h2
         obtain ⟨q, q1, h2⟩ := bind_some' h2
         cases h2
         rw [toA_RV k1 p1, ih k2 q1]
      exact this h2 has
     subst this
     rw [hy]
     exact hK.pure h7 (ofA_RV hv) hs
   ·-- a function value
    rename_i x hne hcal
    obtain ⟨fv, fv', cf, h1, h2, _, h4⟩ := va_sim ht hs h
    obtain ⟨vs, xs, c1, g1, g2, g4⟩ := vas_sim ht hs h1
    obtain ⟨⟨f, caps⟩, hf, g5⟩ := bind_some' g1
    have hfv : fv = .fn f caps := by
     unfold calleeV at hf
     split at hf
     ·cases hf; rfl
     ·cases hf
    clear g1 h1 h
    subst hfv
    simp only [RV] at h2
    obtain ⟨⟨ws, rfl, hcap⟩, _⟩ := h2
    have hcal' : callee (.func (.func f) #[] ⟨ws⟩) = some (f, ws) := rfl
    have key : ∃ r', (vaK Y s' x fun fv => vasK Y s' c.args.toList fun vs => (callee fv).bind fun p => match A.dynQ with
     | true => (qcall Y.call p.1 (vs ++ p.2) s'.hp).bind fun v => K' (.val v) s'.loc s'.hp .H
     | false => (Y.call p.1 (vs ++ p.2) s'.hp).bind fun r => K' (.val r.1) s'.loc r.2 .W) = some r' /\ Q r' := by
     rw [h4, g4]
     simp only [hcal', Option.bind_some]
     have hall := g2.app hcap
     split at g5
     ·rename_i hq
      obtain ⟨rv, hr, g6⟩ := bind_some' g5
      obtain ⟨x2, q1, q2⟩ := qcall_step hT hcall hs hall hr
      simp only [hq, q1, Option.bind_some]
      exact hK.pure g6 q2 hs
     ·rename_i hq
      obtain ⟨⟨rv, H'⟩, hr, g6⟩ := bind_some' g5
      obtain ⟨x2, w2, cr, q1, q2, q3⟩ := call_step hcall hs (RVs.strip _ hall) (by simp) hr
      try simp only [hq]
      rw [hhp, q1]
      exact hK w2 _ _ _ _ _ cr g6 (by simp only [RE]; exact q2) q3
    cases x with
    | func f => exact absurd rfl (hne f)
    | _ => simp only [hcal]; exact key
   ·cases h
 | makeSlice t l c =>
   simp only [hop] at h ⊢
   rw [ht.tab]
   split at h
   ·rename_i e esz eb z ag n zz hti
    simp only [hti]
    obtain ⟨q1, q2, q3⟩ := hT.sl _ _ _ _ _ _ _ _ hti
    obtain ⟨vl, xl, cl', h1, h2, _, h4⟩ := va_sim ht hs h
    obtain ⟨vc, xc, cc', g1, g2, _, g4⟩ := va_sim ht hs h1
    obtain ⟨m, hm, g5⟩ := bind_some' g1
    clear g1 h1 h
    rw [h4, g4]
    have hm' : mkLen eb xl xc = some m := by
     unfold mkLenV at hm
     split at hm
     ·simp only [RV] at h2 g2
      rw [h2.1, g2.1]
      exact hm
     ·cases hm
    simp only [hm', Option.bind_some]
    obtain ⟨ce, cl, ch, g⟩ := hs
    obtain ⟨w2, k1, k2, k3⟩ := alloc_sim g (rep_sim (pureVs_RVs (w := w) q1) m.2) (by simp) esz true (fun h => by cases h)
    rw [hhp, <- k1]
    exact hK w2 _ _ _ _ _ (fun _ => 0) g5 (by simp only [RE]; exact obs_new k1 k3 q3) k2.self
   ·cases h
 | _ => simp only [hop] at h; cases h
end
end Go.AM

/- Code: the machine of values and the abstract machine side by side. -/
namespace Go.AM
set_option linter.unusedSimpArgs false
set_option linter.unusedVariables false
def St0 (X : XV) (E : En) (s : VS) (s' : St) : Prop := ∃ w, StR X E w s s' (fun _ => 0)
def Saved (X : XV) (E : En) (vs : List V) (H : VH) (xs : List Value) (hp : Heap) : Prop :=
 ∃ (w : Wd) (cv ch : Cnt), hp = w.hp /\ HW w /\ GlobOk X w /\ Fr' E w /\ RVs w vs xs cv /\ ROs w H w.rho ch /\ (∀ i, cv i + ch i <= 1) /\ (∀ i, i < E.hp.length -> cv i + ch i <= E.c0 i) /\ (∀ i, w.hp.length <= i -> cv i + ch i = 0)
theorem put_sim {X : XV} {E : En} {w : Wd} {s : VS} {env : List (Nat × EV)} {loc : List (Nat × List Value)} {ce : Cnt} {e : VE} {e' : EV} (hs : StR X E w s ⟨env, loc, w.hp⟩ ce) (hr : RE w e e' ce) (d : Option Nat) :
 StR X E w { s with env := putV s.env d e } ⟨putE env d e', loc, w.hp⟩ (fun _ => 0) := by
 cases d with
 | none => exact hs.less (by simp)
 | some d =>
   obtain ⟨c1, cl, ch, g⟩ := hs
   obtain ⟨c2, h1, h2⟩ := g.env.del (d := d) (x := e')
   refine ⟨fun i => ce i + c2 i, cl, ch, rfl, g.hw, g.gl, g.fr, ?_, g.loc, g.locn, g.obj, fun i => ?_, fun i hi => ?_, fun i hi => ?_⟩
   ·simp only [putV, putE, REnv]
    exact ⟨e', ce, c2, by rw [look_cons, if_pos rfl], hr, h1, by simp⟩
   ·have := g.le1 i; have := h2 i; omega
   ·have := g.le0 i hi; have := h2 i; omega
   ·have := g.big i hi; have := h2 i; omega
theorem ifVV_some {S : Type} {v : V} {p q : Option S} {a : S} (hh : ifVV v p q = some a) : (v = .bool true /\ p = some a) ∨ (v = .bool false /\ q = some a) ∨ (v = .ub /\ p = some a /\ q = some a) := by
 unfold ifVV at hh
 split at hh
 ·exact .inl ⟨rfl, hh⟩
 ·exact .inr (.inl ⟨rfl, hh⟩)
 ·unfold bothR at hh
  split at hh
  ·rename_i e; exact .inr (.inr ⟨rfl, hh, by rw [<- e]; exact hh⟩)
  ·cases hh
 ·cases hh
theorem ifGV_some {S : Type} {v : V} {p q : Option S} {a : S} (hh : ifGV v p q = some a) : (v = .bool true /\ p = some a) ∨ (v = .bool false /\ q = some a) := by
 unfold ifGV at hh
 split at hh
 ·exact .inl ⟨rfl, hh⟩
 ·exact .inr ⟨rfl, hh⟩
 ·cases hh
section
variable {X : XV} {Y : Ctx} {A : Ann} {T : List Nat} {E : En}
theorem St0.bool {s : VS} {s' : St} (hs : St0 X E s s') (d : Nat) (b : Bool) : St0 X E { s with env := (d, .val (.bool b)) :: delE s.env d } { s' with env := (d, .val (.bool b)) :: s'.env } := by
 obtain ⟨w, h⟩ := hs
 have := put_sim (e := .val (.bool b)) (e' := .val (.bool b)) h.self (by simp [RE, RV]) (some d)
 refine ⟨w, ?_⟩
 have hh := h.hp
 obtain ⟨env, loc, hp⟩ := s'
 simp only at hh
 subst hh
 exact this
theorem guard_sim {R R' : Type} {r : R} {Q : R' -> Prop} {ops : Array Oper} {o : Oper} {s : VS} {s' : St} (hs : St0 X E s s') {run pass : List (Nat × VE) -> Option R} {run' pass' : List (Nat × EV) -> Option R'}
 (h : guardV ops o s.env run pass = some r) (h1 : ∀ e e', run e = some r -> St0 X E { s with env := e } { s' with env := e' } -> ∃ r', run' e' = some r' /\ Q r') (h2 : ∀ e e', pass e = some r -> St0 X E { s with env := e } { s' with env := e' } -> ∃ r', pass' e' = some r' /\ Q r') :
 ∃ r', guardK ops o s'.env run' pass' = some r' /\ Q r' := by
 unfold guardV at h
 unfold guardK
 split at h
 ·rename_i hg
  simp only [hg]
  exact h1 _ _ h hs
 ·rename_i j want hg
  simp only [hg]
  split at h
  ·cases h
  ·rename_i d hd
   simp only [hd]
   split at h
   ·rename_i v hl
    obtain ⟨w, ce, cl, ch, g⟩ := hs
    obtain ⟨x, c1, c2, k1, k2, _, _⟩ := g.env.look hl
    cases x <;> simp only [RE] at k2
    rename_i x
    have hs' : St0 X E s s' := ⟨w, ce, cl, ch, g⟩
    rw [k1]
    split at h
    ·rcases ifGV_some h with ⟨rfl, h⟩ | ⟨rfl, h⟩
     ·simp only [RV] at k2
      simp only [k2.1, ifV]
      exact h1 _ _ h (hs'.bool d true)
     ·simp only [RV] at k2
      simp only [k2.1, ifV]
      exact h2 _ _ h (hs'.bool d false)
    ·rcases ifGV_some h with ⟨rfl, h⟩ | ⟨rfl, h⟩
     ·simp only [RV] at k2
      simp only [k2.1, ifV]
      exact h2 _ _ h (hs'.bool d true)
     ·simp only [RV] at k2
      simp only [k2.1, ifV]
      exact h1 _ _ h (hs'.bool d false)
   ·rename_i hl
    obtain ⟨w, ce, cl, ch, g⟩ := hs
    obtain ⟨x, c1, c2, k1, k2, _, _⟩ := g.env.look hl
    cases x <;> simp only [RE] at k2
    rw [k1]
    exact h2 _ _ h ⟨w, ce, cl, ch, g⟩
   ·cases h
theorem reg_sim (ht : Twin X Y) (hT : TabOk X) (hcall : ∀ f args H r H', X.call f args H = some (r, H') -> CallSim X Y.call f args H r H') {R R' : Type} {r : R} {Q : R' -> Prop} {ops : Array Oper} :
 ∀ {os : List Oper} {cl : List Cls} {s : VS} {s' : St} {K : List Cls -> VS -> Option R} {K' : List Cls -> St -> Option R'}, St0 X E s s' -> regV X A T ops os cl s K = some r →
   (∀ cl s s', K cl s = some r -> St0 X E s s' -> ∃ r', K' cl s' = some r' /\ Q r') -> ∃ r', regK Y A ops os cl s' K' = some r' /\ Q r'
 | [], cl, s, s', K, K', hs, h, hK => hK _ _ _ h hs
 | o :: os, cl, s, s', K, K', hs, h, hK => by
   simp only [regV] at h
   simp only [regK]
   refine guard_sim hs h (fun e e' hr hs2 => ?_) (fun e e' hp hs2 => ?_)
   ·obtain ⟨w, hs2⟩ := hs2
    refine op_sim ht hT hcall hs2 hr ?_
    intro w2 ev ev' s2 loc c ce hk hre hst
    exact reg_sim ht hT hcall ⟨w2, put_sim hst hre o.dst⟩ hk hK
   ·refine reg_sim ht hT hcall ?_ hp hK
    obtain ⟨w, hs2⟩ := hs2
    have hh := hs2.hp
    simp only at hh
    have := put_sim (e := .skp) (e' := .skp) hs2.self (by simp [RE]) o.dst
    refine ⟨w, ?_⟩
    rw [<- hh] at this
    exact this
theorem look_strip {t u : Nat} (h : u ≠ t) : ∀ {l : List (Nat × VE)}, look (stripE l t) u = look l u
 | [] => rfl
 | (k, v) :: l => by
   by_cases e : k = t
   ·subst e
    have hb : Nat.beq k k = true := Nat.beq_refl k
    simp only [stripE, hb]
    rw [look_cons, look_cons, if_neg h, if_neg h]
   ·simp only [stripE, beq_ne e]
    rw [look_cons, look_cons]
    split
    ·rfl
    ·exact look_strip h
theorem vals_strip {R : Type} {t : Nat} {l : List (Nat × VE)} : ∀ {ss : List Nat} {K : List V -> Option R}, t ∉ ss -> valsV (stripE l t) ss K = valsV l ss K
 | [], K, h => rfl
 | s :: ss, K, h => by
   simp only [valsV]
   rw [look_strip (fun e => h (by simp [e]))]
   split
   ·exact vals_strip (fun hm => h (by simp [hm]))
   ·exact vals_strip (fun hm => h (by simp [hm]))
   ·rfl
theorem vals_sim {w : Wd} {ae : List (Nat × EV)} {R : Type} {r : R} : ∀ {ss : List Nat} {l : List (Nat × VE)} {ce : Cnt} {K : List V -> Option R}, ss.Nodup -> REnv w l ae ce -> valsV l ss K = some r →
 ∃ vs xs c, K vs = some r /\ RVs w vs xs c /\ (∀ i, c i <= ce i) /\ vs.length = ss.length /\ ∀ (R' : Type) (K' : List Value -> Option R'), valsK ae ss K' = K' xs
 | [], l, ce, K, nd, he, h => ⟨[], [], fun _ => 0, h, by simp [RVs], by simp, rfl, fun _ _ => rfl⟩
 | s :: ss, l, ce, K, nd, he, h => by
   simp only [valsV] at h
   simp at nd
   have key : ∀ {v : V} {x : Value} {e : VE} {c1 c2 : Cnt} {K2 : List V -> Option R}, look ae s = some (.val x) -> RV w v x c1 -> REnv w (stripE l s) ae c2 -> (∀ i, ce i = c1 i + c2 i) -> valsV l ss (fun vs => K (v :: vs)) = some r →
    ∃ vs xs c, K vs = some r /\ RVs w vs xs c /\ (∀ i, c i <= ce i) /\ vs.length = (s :: ss).length /\ ∀ (R' : Type) (K' : List Value -> Option R'), valsK ae (s :: ss) K' = K' xs := by
    intro v x e c1 c2 K2 h1 h2 h3 h4 h5
    rw [<- vals_strip (t := s) nd.1] at h5
    obtain ⟨vs, xs, c, g1, g2, g3, g4, g5⟩ := vals_sim nd.2 h3 h5
    refine ⟨v :: vs, x :: xs, fun i => c1 i + c i, g1, ⟨x, xs, c1, c, rfl, h2, g2, by simp⟩, fun i => by have := g3 i; have := h4 i; show c1 i + c i <= ce i; omega, by simp [g4], fun R' K' => by simp only [valsK, h1, g5]⟩
   split at h
   ·rename_i v hl
    obtain ⟨x, c1, c2, h1, h2, h3, h4⟩ := he.look hl
    cases x <;> simp only [RE] at h2
    exact key (e := .skp) (K2 := K) h1 h2 h3 h4 h
   ·rename_i ys hl
    obtain ⟨x, c1, c2, h1, h2, h3, h4⟩ := he.look hl
    cases x <;> simp only [RE] at h2
    exact key (e := .skp) (K2 := K) h1 h2.1 h3 h4 h
   ·cases h
theorem ls_sim {w : Wd} {ae : List (Nat × EV)} : ∀ {ls : List (Nat × Nat × Nat)} {l : List (Nat × VE)} {ce : Cnt}, REnv w l ae ce -> lsOkV l ls = true -> lsOk ae ls = true
 | [], l, ce, he, h => rfl
 | (s, k, o) :: ls, l, ce, he, h => by
   simp only [lsOkV] at h
   split at h
   ·rename_i k' o' hl
    obtain ⟨x, c1, c2, h1, h2, h3, h4⟩ := he.look hl
    cases x <;> simp only [RE] at h2
    obtain ⟨rfl, rfl, _⟩ := h2
    simp only [Bool.and_eq_true] at h
    simp only [lsOk, h1, Bool.and_eq_true]
    exact ⟨h.1, ls_sim he h.2⟩
   ·cases h
theorem look_setLV {k j : Nat} (h : j ≠ k) {cs : List V} : ∀ {l : List (Nat × List V)}, look (setLV l k cs) j = look l j
 | [] => rfl
 | (q, v) :: l => by
   by_cases e : q = k
   ·subst e
    have hb : Nat.beq q q = true := Nat.beq_refl q
    simp only [setLV, hb]
    rw [look_cons, look_cons, if_neg h, if_neg h]
   ·simp only [setLV, beq_ne e]
    rw [look_cons, look_cons]
    split
    ·rfl
    ·exact look_setLV h
theorem cs_set {R : Type} {k : Nat} {d : List V} {l : List (Nat × List V)} : ∀ {ks : List (Nat × Nat)} {K : List V -> Option R}, k ∉ ks.map (·.1) -> csV (setLV l k d) ks K = csV l ks K
 | [], K, h => rfl
 | (j, n) :: ks, K, h => by
   simp only [csV]
   rw [look_setLV (fun e => h (by simp [e]))]
   split
   ·split
    ·exact cs_set (fun hm => h (by simp at hm ⊢; exact .inr hm))
    ·rfl
   ·rfl
theorem setL_same {k : Nat} {ws : List Value} : ∀ {l : List (Nat × List Value)}, look l k = some ws -> setL l k ws = l
 | [], h => rfl
 | (q, v) :: l, h => by
   by_cases e : q = k
   ·subst e
    have hb : Nat.beq q q = true := Nat.beq_refl q
    simp only [look, hb] at h
    cases h; simp only [setL, hb]
   ·simp only [look, beq_ne e] at h
    simp only [setL, beq_ne e, setL_same h]
theorem cs_sim {w : Wd} {al : List (Nat × List Value)} {R : Type} {r : R} : ∀ {ks : List (Nat × Nat)} {l : List (Nat × List V)} {cl : Cnt} {K : List V -> Option R}, (ks.map (·.1)).Nodup -> RLoc w l al cl -> csV l ks K = some r →
 ∃ vs xs c, K vs = some r /\ RVs w vs xs c /\ (∀ i, c i <= cl i) /\ vs.length = total ks /\ ∀ (R' : Type) (K' : List Value -> Option R'), csK al ks K' = K' xs
 | [], l, cl, K, nd, he, h => ⟨[], [], fun _ => 0, h, by simp [RVs], by simp, rfl, fun _ _ => rfl⟩
 | (k, n) :: ks, l, cl, K, nd, he, h => by
   simp only [csV] at h
   simp only [List.map_cons, List.nodup_cons] at nd
   split at h
   ·rename_i cs hl
    split at h
    ·rename_i hb
     obtain ⟨ws, c1, c2, h1, h2, h3, h4⟩ := he.look hl
     have h5 := h4 _ _ _ (RVs.strip _ h2)
     rw [setL_same h1] at h5
     rw [<- cs_set (k := k) (d := stripL cs) nd.1] at h
     obtain ⟨vs, xs, c, g1, g2, g3, g4, g5⟩ := cs_sim nd.2 h5 h
     have hn := Nat.eq_of_beq_eq_true hb
     have hb' : Nat.beq ws.length n = true := by rw [<- h2.len]; exact hb
     exact ⟨cs ++ vs, ws ++ xs, _, g1, h2.app g2, fun i => by have := g3 i; have := h3 i; omega, by simp only [List.length_append, total, g4]; omega, fun R' K' => by simp only [csK, h1, hb', g5]⟩
    ·cases h
   ·cases h
theorem keepV_split {kp : Keep} (h : keepOkV kp = true) : keepOk kp = true /\ (kp.cs.map (·.1)).Nodup /\ kp.vs.Nodup /\ (kp.ls.map (·.1)).Nodup /\ ∀ x ∈ kp.ls, mem kp.vs x.1 = false := by
 unfold keepOkV at h
 simp only [Bool.and_eq_true, decide_eq_true_eq, List.all_eq_true] at h
 obtain ⟨⟨⟨⟨h1, h2⟩, h3⟩, h4⟩, h5⟩ := h
 refine ⟨?_, h2, h3, h4, fun x hx => by have := h5 x hx; simpa using this⟩
 unfold keepOk
 simp only [Bool.and_eq_true]
 exact ⟨h1, by simpa using h2⟩
theorem save_sim {R : Type} {r : R} {kp : Keep} {s : VS} {s' : St} (hs : St0 X E s s') {K : List V -> VH -> Option R} (h : saveV kp s K = some r) :
 ∃ vs xs, K vs s.H = some r /\ Saved X E vs s.H xs s'.hp /\ ∀ (R' : Type) (K' : List Value -> Heap -> Option R'), saveK kp s' K' = K' xs s'.hp := by
 unfold saveV at h
 split at h
 ·rename_i hk
  simp only [Bool.and_eq_true] at hk
  obtain ⟨k1, k2, k3, k4, k5⟩ := keepV_split hk.1
  obtain ⟨w, ce, cl, ch, g⟩ := hs
  obtain ⟨vs, xs, c, h1, h2, h3, h4, h5⟩ := vals_sim k3 g.env h
  obtain ⟨us, ys, d, g1, g2, g3, g4, g5⟩ := cs_sim k2 g.loc h1
  refine ⟨vs ++ us, xs ++ ys, g1, ⟨w, _, ch, g.hp, g.hw, g.gl, g.fr, h2.app g2, g.obj, fun i => ?_, fun i hi => ?_, fun i hi => ?_⟩, fun R' K' => ?_⟩
  ·have := g.le1 i; have := h3 i; have := g3 i; omega
  ·have := g.le0 i hi; have := h3 i; have := g3 i; omega
  ·have := g.big i hi; have := h3 i; have := g3 i; omega
  ·simp only [saveK, ls_sim g.env hk.2, h5, g5]
 ·cases h
theorem mem_false {a : Nat} : ∀ {l : List Nat}, mem l a = false -> a ∉ l
 | [], _ => by simp
 | b :: l, h => by
   simp only [mem] at h
   split at h
   ·cases h
   ·rename_i hb
    intro hm
    rcases List.mem_cons.1 hm with e | hm
    ·rw [e, Nat.beq_refl] at hb; cases hb
    ·exact mem_false h hm
theorem RVs.head {w : Wd} {vs : List V} {xs : List Value} {d : Cnt} {i : Nat} (hi : i < vs.length) (h : RVs w (vs.drop i) (xs.drop i) d) : ∃ a b, RV w (vs.getD i .nilp) (xs.getD i undef) a /\ RVs w (vs.drop (i + 1)) (xs.drop (i + 1)) b /\ ∀ j, d j = a j + b j := by
 rw [List.drop_eq_getElem_cons hi] at h
 simp only [RVs] at h
 obtain ⟨x, ys, a, b, h1, h2, h3, h4⟩ := h
 have hx : xs[i]? = some x := by
  have : (xs.drop i)[0]? = some x := by rw [h1]; rfl
  simpa using this
 have hy : xs.drop (i + 1) = ys := by rw [<- List.drop_drop, h1]; rfl
 refine ⟨a, b, ?_, by rw [hy]; exact h3, h4⟩
 rw [List.getD_eq_getElem?_getD, List.getD_eq_getElem?_getD, hx, List.getElem?_eq_getElem hi]; exact h2
theorem env_load {w : Wd} {vs : List V} {xs : List Value} {ae : List (Nat × EV)} : ∀ {ss : List Nat} {i : Nat} {d : Cnt}, RVs w (vs.drop i) (xs.drop i) d -> i + ss.length <= vs.length -> (∀ (j s : Nat), ss[j]? = some s -> look ae s = some (.val (xs.getD (i + j) undef))) →
 ∃ c1 c2, REnv w (envOfV i ss vs) ae c1 /\ RVs w (vs.drop (i + ss.length)) (xs.drop (i + ss.length)) c2 /\ ∀ j, c1 j + c2 j = d j
 | [], i, d, hd, hl, ha => ⟨fun _ => 0, d, by simp [envOfV, REnv], by simpa using hd, by simp⟩
 | s :: ss, i, d, hd, hl, ha => by
   simp at hl
   obtain ⟨a, b, h1, h2, h3⟩ := hd.head (i := i) (by omega)
   obtain ⟨c1, c2, g1, g2, g3⟩ := env_load (ss := ss) (i := i + 1) h2 (by omega) (fun j t ht => by have := ha (j + 1) t (by simpa using ht); rw [this]; congr 3; omega)
   refine ⟨fun j => a j + c1 j, c2, ?_, by rw [List.length_cons, show i + (ss.length + 1) = i + 1 + ss.length by omega]; exact g2, fun j => by have := g3 j; have := h3 j; show a j + c1 j + c2 j = d j; omega⟩
   simp only [envOfV, REnv]
   exact ⟨_, a, c1, ha 0 s (by simp), by simp only [RE]; exact h1, g1, by simp⟩
theorem loc_load {w : Wd} {vs : List V} {xs : List Value} : ∀ {ks : List (Nat × Nat)} {i : Nat} {d : Cnt} {al : List (Nat × List Value)}, (ks.map (·.1)).Nodup -> RVs w (vs.drop i) (xs.drop i) d -> i + total ks <= vs.length -> i + total ks <= xs.length -> (∀ k n, look (locOf i ks xs) k = some n -> look al k = some n) -> (∀ p ∈ ks, (look (locOf i ks xs) p.1).isSome = true) →
 ∃ c1, RLoc w (locOfV i ks vs) al c1 /\ ∀ j, c1 j <= d j
 | [], i, d, al, nd, hd, hl, hl2, ha, hm => ⟨fun _ => 0, by simp [locOfV, RLoc], by simp⟩
 | (k, n) :: ks, i, d, al, nd, hd, hl, hl2, ha, hm => by
   simp only [List.map_cons, List.nodup_cons] at nd
   simp only [total] at hl hl2
   have e1 : vs.drop i = (vs.drop i).take n ++ vs.drop (i + n) := by rw [<- List.drop_drop, List.take_append_drop]
   rw [e1] at hd
   obtain ⟨ys, zs, a, b, h1, h2, h3, h4⟩ := hd.split
   have hyl := h2.len
   rw [List.length_take, List.length_drop, Nat.min_eq_left (by omega)] at hyl
   have hys : ys = (xs.drop i).take n := by rw [h1, hyl, List.take_left]
   have hzs : zs = xs.drop (i + n) := by rw [<- List.drop_drop, h1, hyl, List.drop_left]
   subst hzs
   have hne : ∀ k' v, look (locOf (i + n) ks xs) k' = some v -> k' ≠ k := fun k' v h e => by
    subst e
    have : ∀ {ks : List (Nat × Nat)} {i : Nat}, k' ∉ ks.map (·.1) -> look (locOf i ks xs) k' = none := by
     intro ks
     induction ks with
     | nil => intro i _; rfl
     | cons p ks ih =>
       intro i hn
       obtain ⟨q, m⟩ := p
       simp only [List.map_cons, List.mem_cons, not_or] at hn
       simp only [locOf]
       rw [look_cons, if_neg hn.1]; exact ih hn.2
    rw [this nd.1] at h; cases h
   have memv : ∀ {ks : List (Nat × Nat)} {i : Nat}, k ∉ ks.map (·.1) -> look (locOfV i ks vs) k = none := by
    intro ks
    induction ks with
    | nil => intro i _; rfl
    | cons p ks ih =>
      intro i hn
      obtain ⟨q, m⟩ := p
      simp only [List.map_cons, List.mem_cons, not_or] at hn
      simp only [locOfV]
      rw [look_cons, if_neg hn.1]; exact ih hn.2
   have somev : ∀ {ks : List (Nat × Nat)} {i : Nat}, ∀ p ∈ ks, (look (locOf i ks xs) p.1).isSome = true := by
    intro ks
    induction ks with
    | nil => intro i p hp; cases hp
    | cons q ks ih =>
      intro i p hp
      obtain ⟨q, m⟩ := q
      simp only [locOf]
      rw [look_cons]
      split
      ·rfl
      ·rename_i hq
       rcases List.mem_cons.1 hp with rfl | hp
       ·exact absurd rfl hq
       ·exact ih p hp
   obtain ⟨c1, g1, g2⟩ := loc_load (ks := ks) (i := i + n) (al := al) nd.2 h3 (by omega) (by omega) (fun k' v h => ha k' v (by simp only [locOf]; rw [look_cons, if_neg (hne k' v h)]; exact h)) somev
   refine ⟨fun j => a j + c1 j, ?_, fun j => by have := g2 j; have := h4 j; show a j + c1 j <= d j; omega⟩
   simp only [locOfV, RLoc]
   refine ⟨tabl i n xs, a, c1, ha k _ (by simp only [locOf]; rw [look_cons, if_pos rfl]), ?_, memv nd.1, g1, by simp⟩
   rw [tablV_eq (by omega), tabl_take (by omega), <- hys]; exact h2
theorem load_sim' {R : Type} {r : R} {kp : Keep} {vs : List V} {H : VH} {xs : List Value} {hp : Heap} (hs : Saved X E vs H xs hp) {K : VS -> Option R} (h : loadV kp vs H K = some r) :
 ∃ s s', K s = some r /\ St0 X E s s' /\ ∀ (R' : Type) (K' : St -> Option R'), loadK kp xs hp K' = K' s' := by
 unfold loadV at h
 split at h
 ·rename_i hk
  obtain ⟨k1, k2, k3, k4, k5⟩ := keepV_split hk
  split at h
  ·rename_i hl
   obtain ⟨w, cv, ch, rfl, hw, hg, hf, hv, ho, l1, l0, lb⟩ := hs
   have hlen := hv.len
   have hlook : ∀ (j s : Nat), kp.vs[j]? = some s -> look (lsOf kp.ls ++ envOf 0 kp.vs xs) s = some (.val (xs.getD (0 + j) undef)) := by
    intro j s hj
    have hnl : ∀ {ls : List (Nat × Nat × Nat)} {m : List (Nat × EV)}, (∀ x ∈ ls, x.1 ≠ s) -> look (lsOf ls ++ m) s = look m s := by
     intro ls
     induction ls with
     | nil => intro m _; rfl
     | cons p ls ih =>
       intro m hn
       obtain ⟨q, k, o⟩ := p
       simp only [lsOf, List.cons_append]
       rw [look_cons, if_neg (fun e => hn (q, k, o) (by simp) e.symm)]
       exact ih (fun x hx => hn x (by simp [hx]))
    rw [hnl (fun x hx e => mem_false (k5 x hx) (by rw [e]; exact List.mem_of_getElem? hj))]
    have hev : ∀ {ss : List Nat} {i j : Nat}, ss.Nodup -> ss[j]? = some s -> look (envOf i ss xs) s = some (.val (xs.getD (i + j) undef)) := by
     intro ss
     induction ss with
     | nil => intro i j _ h; simp at h
     | cons t ss ih =>
       intro i j nd h
       simp at nd
       simp only [envOf]
       rw [look_cons]
       cases j with
       | zero => simp at h; subst h; rw [if_pos rfl]; rfl
       | succ j =>
         simp at h
         rw [if_neg (fun e => nd.1 (by subst e; exact List.mem_of_getElem? h)), ih nd.2 h]
         congr 3; omega
    exact hev k3 hj
   obtain ⟨c1, c2, e1, e2, e3⟩ := env_load (ss := kp.vs) (i := 0) (ae := lsOf kp.ls ++ envOf 0 kp.vs xs) (by simpa using hv) (by omega) hlook
   have hls : ∀ {ls : List (Nat × Nat × Nat)} {pre : List (Nat × EV)} {rest : List (Nat × VE)} {c : Cnt}, (ls.map (·.1)).Nodup -> REnv w rest (pre ++ (lsOf ls ++ envOf 0 kp.vs xs)) c -> (∀ x ∈ ls, look pre x.1 = none) -> REnv w (lsOfV ls ++ rest) (pre ++ (lsOf ls ++ envOf 0 kp.vs xs)) c := by
    intro ls
    induction ls with
    | nil => intro pre rest c _ h _; exact h
    | cons p ls ih =>
      intro pre rest c nd h hn
      obtain ⟨q, k, o⟩ := p
      simp only [List.map_cons, List.nodup_cons] at nd
      simp only [lsOfV, List.cons_append, REnv]
      have hpre : ∀ {m : List (Nat × EV)} {t : Nat}, look pre t = none -> look (pre ++ m) t = look m t := by
       intro m t
       have : ∀ {pre : List (Nat × EV)}, look pre t = none -> look (pre ++ m) t = look m t := by
        intro pre
        induction pre with
        | nil => intro _; rfl
        | cons a pre ih2 =>
          intro hh
          obtain ⟨a1, a2⟩ := a
          rw [look_cons] at hh
          split at hh
          ·cases hh
          ·rename_i hq
           simp only [List.cons_append]
           rw [look_cons, if_neg hq]; exact ih2 hh
       exact this
      refine ⟨.loc k o, fun _ => 0, c, ?_, by simp [RE], ?_, by simp⟩
      ·have hq : look pre q = none := hn (q, k, o) (by simp)
       rw [hpre hq]
       simp only [lsOf, List.cons_append]
       rw [look_cons, if_pos rfl]
      ·have e : pre ++ (lsOf ((q, k, o) :: ls) ++ envOf 0 kp.vs xs) = (pre ++ [(q, EV.loc k o)]) ++ (lsOf ls ++ envOf 0 kp.vs xs) := by simp [lsOf]
       rw [e] at h ⊢
       refine ih nd.2 h (fun x hx => ?_)
       have : look pre x.1 = none := hn x (by simp [hx])
       rw [hpre this, look_cons, if_neg (fun e => nd.1 (by rw [<- e]; exact List.mem_map_of_mem hx))]
       rfl
   have henv := hls (pre := []) k4 e1 (fun _ _ => rfl)
   simp only [List.nil_append] at henv
   obtain ⟨c3, f1, f2⟩ := loc_load (ks := kp.cs) (i := kp.vs.length) (al := locOf kp.vs.length kp.cs xs) k2 (by simpa using e2) (by omega) (by omega) (fun k n h => h) (by
    intro p hp
    have somev : ∀ {ks : List (Nat × Nat)} {i : Nat}, ∀ p ∈ ks, (look (locOf i ks xs) p.1).isSome = true := by
     intro ks
     induction ks with
     | nil => intro i p hp; cases hp
     | cons q ks ih =>
       intro i p hp
       obtain ⟨q, m⟩ := q
       simp only [locOf]
       rw [look_cons]
       split
       ·rfl
       ·rename_i hq
        rcases List.mem_cons.1 hp with rfl | hp
        ·exact absurd rfl hq
        ·exact ih p hp
    exact somev p hp)
   refine ⟨_, loadSt kp xs w.hp, h, ⟨w, c1, c3, ch, rfl, hw, hg, hf, henv, f1, fun k hk => ?_, ho, fun i => ?_, fun i hi => ?_, fun i hi => ?_⟩, fun R' K' => ?_⟩
   ·have : ∀ {ks : List (Nat × Nat)} {i : Nat}, look (locOfV i ks vs) k = none -> look (locOf i ks xs) k = none := by
     intro ks
     induction ks with
     | nil => intro i _; rfl
     | cons p ks ih =>
       intro i hh
       obtain ⟨q, m⟩ := p
       simp only [locOfV] at hh
       simp only [locOf]
       rw [look_cons] at hh ⊢
       split at hh
       ·cases hh
       ·rename_i hq; rw [if_neg hq]; exact ih hh
    exact this hk
   ·have := l1 i; have := e3 i; have := f2 i; omega
   ·have := l0 i hi; have := e3 i; have := f2 i; omega
   ·have := lb i hi; have := e3 i; have := f2 i; omega
   ·unfold loadK
    rw [k1]
    simp only
    rw [if_pos (by omega)]; rfl
  ·cases h
 ·cases h
theorem out_sim {R : Type} {r : R} {e : Exit} {s : VS} {s' : St} (hs : St0 X E s s') : ∀ {outs : List (Exit × Keep)} {K : Nat -> List V -> VH -> Option R}, outV outs e s K = some r →
 ∃ n vs xs, K n vs s.H = some r /\ Saved X E vs s.H xs s'.hp /\ ∀ (R' : Type) (K' : Nat -> List Value -> Heap -> Option R'), outK outs e s' K' = K' n xs s'.hp
 | [], K, h => by cases h
 | (x, kp) :: l, K, h => by
   simp only [outV] at h
   split at h
   ·rename_i hx
    obtain ⟨vs, xs, h1, h2, h3⟩ := save_sim hs h
    exact ⟨0, vs, xs, h1, h2, fun R' K' => by simp only [outK, hx, h3]⟩
   ·rename_i hx
    obtain ⟨n, vs, xs, h1, h2, h3⟩ := out_sim hs h
    exact ⟨n + 1, vs, xs, h1, h2, fun R' K' => by simp only [outK, hx, h3]⟩
theorem in_sim {R : Type} {r : R} {vs : List V} {H : VH} {xs : List Value} {hp : Heap} (hs : Saved X E vs H xs hp) {K : Exit -> VS -> Option R} : ∀ {outs : List (Exit × Keep)} {n : Nat}, inV outs n vs H K = some r →
 ∃ e s s', K e s = some r /\ St0 X E s s' /\ ∀ (R' : Type) (K' : Exit -> St -> Option R'), inK outs n xs hp K' = K' e s'
 | [], n, h => by cases h
 | (x, kp) :: l, 0, h => by
   simp only [inV] at h
   obtain ⟨s, s', h1, h2, h3⟩ := load_sim' hs h
   exact ⟨x, s, s', h1, h2, fun R' K' => by simp only [inK, h3]⟩
 | (x, kp) :: l, n + 1, h => by
   simp only [inV] at h
   obtain ⟨e, s, s', h1, h2, h3⟩ := in_sim hs h
   exact ⟨e, s, s', h1, h2, fun R' K' => by simp only [inK, h3]⟩
inductive LpV' (B : List V -> VH -> Option (Option Nat × List V × VH)) : Nat -> List V -> VH -> (Nat × List V × VH) -> Prop
 | stop {vs : List V} {hp : VH} {m : Nat} {vs' : List V} {hp' : VH} : B vs hp = some (some m, vs', hp') -> LpV' B 0 vs hp (m, vs', hp')
 | more {n : Nat} {vs : List V} {hp : VH} {vs1 : List V} {hp1 : VH} {res : Nat × List V × VH} : B vs hp = some (none, vs1, hp1) -> LpV' B n vs1 hp1 res -> LpV' B (n + 1) vs hp res
def LpVOk (lp : LpV) : Prop := ∀ B vs hp res, lp B vs hp = some res -> ∃ n, LpV' B n vs hp res
def LpEq (lp : LpT) : Prop := ∀ B vs hp, lp B vs hp = match B vs hp with | none => none | some (none, vs, hp) => lp B vs hp | some (some m, vs, hp) => some (m, vs, hp)
theorem code_sim (ht : Twin X Y) (hT : TabOk X) (hcall : ∀ f args H r H', X.call f args H = some (r, H') -> CallSim X Y.call f args H r H') (hlp : LpVOk X.lp) (hlq : LpEq Y.lp) :
 ∀ (x : Code) {R R' : Type} {r : R} {Q : R' -> Prop} {s : VS} {s' : St} {K : Exit -> VS -> Option R} {K' : Exit -> St -> Option R'}, St0 X E s s' -> codeV X A T x s K = some r →
   (∀ e s s', K e s = some r -> St0 X E s s' -> ∃ r', K' e s' = some r' /\ Q r') -> ∃ r', codeK Y A x s' K' = some r' /\ Q r'
 | .skip, R, R', r, Q, s, s', K, K', hs, h, hK => hK _ _ _ h hs
 | .exit id, R, R', r, Q, s, s', K, K', hs, h, hK => hK _ _ _ h hs
 | .ret, R, R', r, Q, s, s', K, K', hs, h, hK => hK _ _ _ h hs
 | .region id ops draw, R, R', r, Q, s, s', K, K', hs, h, hK => by
   cases draw with
   | false =>
     simp only [codeV] at h
     simp only [codeK]
     exact reg_sim ht hT hcall hs h fun cl s s' h hs => hK _ _ _ h hs
   | true =>
     simp only [codeV] at h
     simp only [codeK]
     refine reg_sim ht hT hcall hs h fun cl s s' h hs => ?_
     split at h
     ·rename_i ho; simp only [ho]; exact hK _ _ _ h hs
     ·cases h
 | .cond y a b, R, R', r, Q, s, s', K, K', hs, h, hK => by
   simp only [codeV] at h
   simp only [codeK]
   obtain ⟨w, hs⟩ := hs
   obtain ⟨v, x', c, h1, h2, _, h4⟩ := va_sim ht hs h
   rw [h4]
   rcases ifVV_some h1 with ⟨rfl, h⟩ | ⟨rfl, h⟩ | ⟨rfl, h, h'⟩
   ·simp only [RV] at h2
    simp only [h2.1, ifV]
    exact code_sim ht hT hcall hlp hlq a ⟨w, hs⟩ h hK
   ·simp only [RV] at h2
    simp only [h2.1, ifV]
    exact code_sim ht hT hcall hlp hlq b ⟨w, hs⟩ h hK
   ·simp only [RV] at h2
    obtain ⟨⟨bb, hb⟩, _⟩ := h2
    subst hb
    cases bb with
    | true => exact code_sim ht hT hcall hlp hlq a ⟨w, hs⟩ h hK
    | false => exact code_sim ht hT hcall hlp hlq b ⟨w, hs⟩ h' hK
 | .block id a, R, R', r, Q, s, s', K, K', hs, h, hK => by
   simp only [codeV] at h
   simp only [codeK]
   refine code_sim ht hT hcall hlp hlq a hs h fun e s s' h hs => ?_
   cases e with
   | exit i =>
     simp only at h ⊢
     split at h
     ·rename_i hb; simp only [hb]; exact hK _ _ _ h hs
     ·rename_i hb; simp only [hb]; exact hK _ _ _ h hs
   | _ => exact hK _ _ _ h hs
 | .seq a b, R, R', r, Q, s, s', K, K', hs, h, hK => by
   simp only [codeV] at h
   simp only [codeK]
   have behind : ∀ (e : Exit) (s : VS) (s' : St), (match e with | .normal => codeV X A T b s K | e => K e s) = some r -> St0 X E s s' -> ∃ r', (fun (e : Exit) (st : St) => match e with | .normal => codeK Y A b st K' | e => K' e st) e s' = some r' /\ Q r' := by
    intro e s s' h hs
    cases e with
    | normal => exact code_sim ht hT hcall hlp hlq b hs h hK
    | _ => exact hK _ _ _ h hs
   split at h
   ·rename_i hj
    split
    ·exact code_sim ht hT hcall hlp hlq a (K' := fun e st => match e with | .normal => codeK Y A b st K' | e => K' e st) hs h behind
    ·rename_i hj2
     have := hj.symm.trans hj2
     cases this
   ·rename_i outs hj
    split
    ·rename_i hj2
     have := hj.symm.trans hj2
     cases this
    rename_i outs' hj2
    have := hj.symm.trans hj2
    cases this
    obtain ⟨⟨n, vs, H⟩, h1, h2⟩ := bind_some' h
    obtain ⟨⟨n', xs, hp⟩, g1, g2⟩ := code_sim ht hT hcall hlp hlq a (K' := fun e st => outK outs e st fun n vs hp => some (n, vs, hp)) (Q := fun q => q.1 = n /\ Saved X E vs H q.2.1 q.2.2) hs h1 (fun e s s' h hs => by
     obtain ⟨m, us, xs, k1, k2, k3⟩ := out_sim hs h
     cases k1
     exact ⟨_, k3 _ _, rfl, k2⟩)
    simp only at g2
    obtain ⟨rfl, g2⟩ := g2
    rw [g1]
    simp only [Option.bind_some]
    obtain ⟨e, s2, s2', k1, k2, k3⟩ := in_sim g2 h2
    rw [k3]
    exact behind e s2 s2' k1 k2
 | .loop a, R, R', r, Q, s, s', K, K', hs, h, hK => by
   simp only [codeV] at h
   simp only [codeK]
   split at h
   ·cases h
   ·rename_i li hli
    obtain ⟨vs, xs, h1, h2, h3⟩ := save_sim hs h
    obtain ⟨⟨n, us, H⟩, h4, h5⟩ := bind_some' h1
    simp only [hli]
    rw [h3]
    obtain ⟨m, hm⟩ := hlp _ _ _ _ h4
    have loop : ∀ {m : Nat} {vs : List V} {H : VH} {res : Nat × List V × VH} {xs : List Value} {hp : Heap}, LpV' (fun vs hp => loadV li.ks vs hp fun st => codeV X A T a st fun e st => match e with
     | .normal => saveV li.ks st fun vs hp => some (none, vs, hp)
     | e => outV li.outs e st fun n vs hp => some (some n, vs, hp)) m vs H res -> Saved X E vs H xs hp →
     ∃ ys hp', Y.lp (fun vs hp => loadK li.ks vs hp fun st => codeK Y A a st fun e st => match e with
       | .normal => saveK li.ks st fun vs hp => some (none, vs, hp)
       | e => outK li.outs e st fun n vs hp => some (some n, vs, hp)) xs hp = some (res.1, ys, hp') /\ Saved X E res.2.1 res.2.2 ys hp' := by
     intro m vs H res xs hp hl
     induction hl generalizing xs hp with
     | @stop vs0 H0 m0 vs1 H1 hB =>
       intro hsv
       obtain ⟨s, s', k1, k2, k3⟩ := load_sim' hsv hB
       obtain ⟨⟨o, ys, hp'⟩, k4, k5⟩ := code_sim ht hT hcall hlp hlq a (K' := fun e st => match e with
        | .normal => saveK li.ks st fun vs hp => some (none, vs, hp)
        | e => outK li.outs e st fun n vs hp => some (some n, vs, hp)) (Q := fun q => q.1 = some m0 /\ Saved X E vs1 H1 q.2.1 q.2.2) k2 k1 (fun e s s' h hs => by
          cases e with
          | normal =>
            obtain ⟨us, xs, a1, a2, a3⟩ := save_sim hs h
            cases a1
          | _ =>
            obtain ⟨m, us, xs, a1, a2, a3⟩ := out_sim hs h
            cases a1
            exact ⟨_, a3 _ _, rfl, a2⟩)
       simp only at k5
       obtain ⟨rfl, k5⟩ := k5
       refine ⟨ys, hp', ?_, k5⟩
       rw [hlq, k3, k4]
     | @more n0 vs0 H0 vs1 H1 res0 hB _ ih =>
       intro hsv
       obtain ⟨s, s', k1, k2, k3⟩ := load_sim' hsv hB
       obtain ⟨⟨o, ys, hp'⟩, k4, k5⟩ := code_sim ht hT hcall hlp hlq a (K' := fun e st => match e with
        | .normal => saveK li.ks st fun vs hp => some (none, vs, hp)
        | e => outK li.outs e st fun n vs hp => some (some n, vs, hp)) (Q := fun q => q.1 = none /\ Saved X E vs1 H1 q.2.1 q.2.2) k2 k1 (fun e s s' h hs => by
          cases e with
          | normal =>
            obtain ⟨us, xs, a1, a2, a3⟩ := save_sim hs h
            cases a1
            exact ⟨_, a3 _ _, rfl, a2⟩
          | _ =>
            obtain ⟨m, us, xs, a1, a2, a3⟩ := out_sim hs h
            cases a1)
       simp only at k5
       obtain ⟨rfl, k5⟩ := k5
       obtain ⟨zs, hp2, k6, k7⟩ := ih k5
       refine ⟨zs, hp2, ?_, k7⟩
       rw [hlq, k3, k4]
       exact k6
    obtain ⟨ys, hp', k1, k2⟩ := loop hm h2
    obtain ⟨e, s2, s2', k3, k4, k5⟩ := in_sim k2 h5
    obtain ⟨r', q1, q2⟩ := hK _ _ _ k3 k4
    exact ⟨r', (congrArg (fun (o : Option (Nat × List Value × Heap)) => o.bind fun q => inK li.outs q.1 q.2.1 q.2.2 K') k1).trans ((k5 R' K').trans q1), q2⟩
 | .rangeFunc .., R, R', r, Q, s, s', K, K', hs, h, hK => by cases h
 | .scope .., R, R', r, Q, s, s', K, K', hs, h, hK => by cases h
 | .label .., R, R', r, Q, s, s', K, K', hs, h, hK => by cases h
 | .goto .., R, R', r, Q, s, s', K, K', hs, h, hK => by cases h
 | .refuse .., R, R', r, Q, s, s', K, K', hs, h, hK => by cases h
theorem res_sim (ht : Twin X Y) (hT : TabOk X) {w : Wd} {R R' : Type} {r : R} {Q : R' -> Prop} {s' : St} : ∀ {rs : List ResultVar} {s : VS} {cx : Cnt} {K : List V -> VS -> Option R} {K' : List Value -> Option R'}, StR X E w s s' cx -> resV X rs s K = some r →
 (∀ vs s2 xs c, K vs s2 = some r -> RVs w vs xs c -> StR X E w s2 s' (fun i => cx i + c i) -> ∃ r', K' xs = some r' /\ Q r') -> ∃ r', resK Y rs s' K' = some r' /\ Q r'
 | [], s, cx, K, K', hs, h, hK => hK [] s [] (fun _ => 0) h (by simp [RVs]) (hs.less (by simp))
 | .tmp t :: l, s, cx, K, K', hs, h, hK => by
   simp only [resV] at h
   simp only [resK]
   obtain ⟨v, x, c, h1, h2, h3, h4⟩ := vt_sim ht hs h
   have hl : look s'.env t = some (.val x) := by
    have := h4 Value (fun v => some v)
    simp only [vaK, evK] at this
    cases e : look s'.env t with
    | none => rw [e] at this; cases this
    | some q =>
      rw [e] at this
      cases q <;> simp only at this <;> first | (cases this; done) | skip
      cases this; rfl
   simp only [hl]
   exact res_sim ht hT h3 h1 fun vs s2 xs d k1 k2 k3 => hK (v :: vs) s2 (x :: xs) (fun i => c i + d i) k1 ⟨x, xs, c, d, rfl, h2, k2, by simp⟩ (k3.less (fun i => by omega))
 | .cell a t :: l, s, cx, K, K', hs, h, hK => by
   simp only [resV] at h
   simp only [resK]
   rw [ht.tab]
   split at h
   ·rename_i ti hti
    simp only [hti]
    obtain ⟨ce, cl, ch, g⟩ := hs
    split at h
    ·rename_i k hl
     obtain ⟨x, c1, c2, h1, h2, _, _⟩ := g.env.look hl
     cases x <;> simp only [RE] at h2
     obtain ⟨rfl, rfl, _⟩ := h2
     simp only [h1]
     split at h
     ·rename_i cs hcs
      obtain ⟨ws, d1, d2, k1, k2, k3, k4⟩ := g.loc.look hcs
      simp only [k1]
      split at h
      ·rename_i hb
       have hb' : Nat.beq ws.length ti.size = true := by rw [<- k2.len]; exact hb
       simp only [hb']
       have hset := k4 _ _ _ (RVs.strip _ k2)
       rw [setL_same k1] at hset
       have hst : StR X E w { s with loc := setLV s.loc k (stripL cs) } s' (fun i => cx i + d1 i) := by
        refine ⟨ce, fun i => 0 + d2 i, ch, g.hp, g.hw, g.gl, g.fr, g.env, hset, fun j hj => g.locn j (setLV_none hj), g.obj, fun i => ?_, fun i hi => ?_, fun i hi => ?_⟩
        ·have := g.le1 i; have := k3 i; omega
        ·have := g.le0 i hi; have := k3 i; omega
        ·have := g.big i hi; have := k3 i; omega
       split at h
       ·rename_i hag
        simp only [hag]
        exact res_sim ht hT hst h fun vs s2 xs d q1 q2 q3 => hK (.agg cs :: vs) s2 (.agg ws.toArray :: xs) (fun i => d1 i + d i) q1 ⟨_, xs, d1, d, rfl, by simp only [RV]; exact ⟨ws, rfl, k2⟩, q2, by simp⟩ (q3.less (fun i => by omega))
       ·rename_i hag
        simp only [hag]
        split at h
        ·rename_i v
         simp only [RVs] at k2
         obtain ⟨x, ys, e1, e2, rfl, m1, ⟨rfl, m2⟩, m3⟩ := k2
         simp only
         exact res_sim ht hT hst h fun vs s2 xs d q1 q2 q3 => hK (v :: vs) s2 (x :: xs) (fun i => d1 i + d i) q1 ⟨x, xs, d1, d, rfl, m1.congr (fun i => by rw [m3, m2]; rfl), q2, by simp⟩ (q3.less (fun i => by omega))
        ·cases h
      ·cases h
     ·cases h
    ·rename_i k off hl
     obtain ⟨x, c1, c2, h1, h2, _, _⟩ := g.env.look hl
     cases x <;> simp only [RE] at h2
     simp only [RV] at h2
     obtain ⟨⟨b, hb1, rfl⟩, _⟩ := h2
     simp only [h1]
     split at h
     ·rename_i cs hcs
      obtain ⟨⟨v, cs2⟩, hld, h⟩ := bind_some' h
      obtain ⟨b', kb, d1, d2, g1, g2, g3, g4, g5, o2⟩ := g.obj.get hcs (loadC_ne hld (hT.pos _ _ hti))
      rw [hb1] at g1; cases g1
      obtain ⟨z, e1, e2, k1, k2, k3, k4⟩ := load_sim hld g3
      have hload : hLoad s'.hp ti.agg ti.size (.pointer (some ⟨b, off, none⟩)) = some z := by
       simp only [hLoad, g.hp, blkAt_mk g2 (by rw [o2]; simp), Option.bind_some]; exact k1
      simp only [hload, Option.bind_some]
      have hst : StR X E w { s with H := s.H.set k cs2 } s' (fun i => cx i + e1 i) := by
       refine ⟨ce, cl, fun i => e2 i + d2 i, g.hp, g.hw, g.gl, g.fr, g.env, g.loc, g.locn, g5 cs2 e2 k3, fun i => ?_, fun i hi => ?_, fun i hi => ?_⟩
       ·have := g.le1 i; have := g4 i; have := k4 i; omega
       ·have := g.le0 i hi; have := g4 i; have := k4 i; omega
       ·have := g.big i hi; have := g4 i; have := k4 i; omega
      exact res_sim ht hT hst h fun vs s2 xs d q1 q2 q3 => hK (v :: vs) s2 (z :: xs) (fun i => e1 i + d i) q1 ⟨z, xs, e1, d, rfl, k2, q2, by simp⟩ (q3.less (fun i => by omega))
     ·cases h
    ·cases h
   ·cases h
theorem args_env {w : Wd} : ∀ {args : List V} {xs : List Value} {i : Nat} {pre : List (Nat × EV)} {c : Cnt}, RVs w args xs c -> (∀ j, i <= j -> look pre j = none) -> REnv w (argsEV i args) (pre ++ argsE i xs) c
 | [], xs, i, pre, c, h, hp => by simp only [RVs] at h; simp only [argsEV, REnv]; exact h.2
 | v :: args, xs, i, pre, c, h, hp => by
   simp only [RVs] at h
   obtain ⟨x, ys, c1, c2, rfl, h1, h2, h3⟩ := h
   have hpre : ∀ {m : List (Nat × EV)} {t : Nat} {pre : List (Nat × EV)}, look pre t = none -> look (pre ++ m) t = look m t := by
    intro m t pre
    induction pre with
    | nil => intro _; rfl
    | cons a pre ih2 =>
      intro hh
      obtain ⟨a1, a2⟩ := a
      rw [look_cons] at hh
      split at hh
      ·cases hh
      ·rename_i hq
       simp only [List.cons_append]
       rw [look_cons, if_neg hq]; exact ih2 hh
   simp only [argsEV, REnv]
   refine ⟨.val x, c1, c2, ?_, by simp only [RE]; exact h1, ?_, h3⟩
   ·rw [hpre (hp i (Nat.le_refl _))]
    simp only [argsE]
    rw [look_cons, if_pos rfl]
   ·have e : pre ++ argsE i (x :: ys) = (pre ++ [(i, EV.val x)]) ++ argsE (i + 1) ys := by simp [argsE]
    rw [e]
    refine args_env h2 fun j hj => ?_
    rw [hpre (hp j (by omega)), look_cons, if_neg (by omega)]; rfl
def RetSim (X : XV) (E : En) (r : V) (H' : VH) (q : Value × Heap) : Prop :=
 ∃ (w2 : Wd) (cr ch' : Cnt), q.2 = w2.hp /\ HW w2 /\ GlobOk X w2 /\ Fr' E w2 /\ RV w2 r q.1 cr /\ ROs w2 H' w2.rho ch' /\ (∀ i, cr i + ch' i <= 1) /\ (∀ i, i < E.hp.length -> cr i + ch' i <= E.c0 i) /\ (∀ i, w2.hp.length <= i -> cr i + ch' i = 0)
theorem body_sim (ht : Twin X Y) (hT : TabOk X) (hcall : ∀ f args H r H', X.call f args H = some (r, H') -> CallSim X Y.call f args H r H') (hlp : LpVOk X.lp) (hlq : LpEq Y.lp)
 {f : FuncId} {args : List V} {H H' : VH} {r : V} (h : bodyV X f args H = some (r, H')) : CallSim X (bodyK Y) f args H r H' := by
 intro w args' ca ch hw hg hv ho hle hbig
 unfold bodyV at h
 unfold bodyK
 rw [ht.fn, ht.ann]
 split at h
 ·cases h
 ·rename_i fn hfn
  simp only [hfn]
  split at h
  ·cases h
  ·rename_i c hc
   simp only [hc]
   split at h
   ·rename_i hd
    simp only [hd]
    have hfr : Fr' ⟨w.hp, w.rho, w.fb, fun i => ca i + ch i⟩ w := by
     refine ⟨Nat.le_refl _, fun _ _ h _ _ => h, fun b k hk _ => ⟨k, hk, rfl, rfl, rfl, .inl rfl⟩, fun c k hc hk => ?_, ⟨[], by simp, by simp⟩, ⟨[], by simp, by simp⟩, fun b k hb hk => ?_, fun b kb hk => ⟨kb, hk, rfl, rfl⟩, hw.rlt, hw.fam⟩
     ·have := (List.getElem?_eq_some_iff.1 hk).1; simp only at hc; omega
     ·simp only at hb
      by_cases q : 1 <= ca b
      ·obtain ⟨_, _, kb, a1, _, a3⟩ := RVs.owned _ hv b q
       have a1' := (blkAt_some a1).1
       rw [hk] at a1'; cases a1'; exact a3
      ·obtain ⟨kb, a1, a3⟩ := ROs.owned' ho b (by omega)
       rw [hk] at a1; cases a1; exact a3
    have henv : REnv w (argsEV 0 args) (argsE 0 args') ca := by
     have := args_env (pre := []) (i := 0) hv (fun _ _ => rfl)
     simpa using this
    have hst : St0 X ⟨w.hp, w.rho, w.fb, fun i => ca i + ch i⟩ ⟨argsEV 0 args, [], H⟩ ⟨argsE 0 args', [], w.hp⟩ :=
     ⟨w, ca, fun _ => 0, ch, rfl, hw, hg, hfr, henv, by simp [RLoc], fun _ _ => rfl, ho, fun i => by have := hle i; omega, fun i hi => by simp, fun i hi => by have := hbig i hi; omega⟩
    obtain ⟨⟨x, hp2⟩, h1, w2, cr, ch', q2, p2, q3, q4, q5, q6, q7, q8, q9⟩ := code_sim ht hT hcall hlp hlq c (Y := Y) (K' := fun e st => match e with
     | .normal | .ret => resK Y fn.results.toList st fun vs => some (one vs, st.hp)
     | _ => none) (Q := RetSim X ⟨w.hp, w.rho, w.fb, fun i => ca i + ch i⟩ r H') hst h (fun e s s' h hs => by
       have fin : resV X fn.results.toList s (fun vs st => some (oneV vs, st.H)) = some (r, H') -> ∃ r', (resK Y fn.results.toList s' fun vs => some (one vs, s'.hp)) = some r' /\ RetSim X ⟨w.hp, w.rho, w.fb, fun i => ca i + ch i⟩ r H' r' := by
        intro h
        obtain ⟨w2, hs⟩ := hs
        refine res_sim ht hT hs h fun vs s2 xs c k1 k2 k3 => ?_
        cases k1
        obtain ⟨ce, cl, ch2, g⟩ := k3
        refine ⟨_, rfl, w2, c, ch2, g.hp, g.hw, g.gl, g.fr, ?_, g.obj, fun i => by have := g.le1 i; omega, fun i hi => by have := g.le0 i hi; show c i + ch2 i <= ca i + ch i; simp only at this; omega, fun i hi => by have := g.big i hi; omega⟩
        have hl := k2.len
        match vs, xs, k2, hl with
        | [], [], k2, _ => simp only [oneV, one, RV]; exact ⟨[], rfl, k2⟩
        | [v], [x], k2, _ =>
          simp only [RVs] at k2
          obtain ⟨x', ys, e1, e2, h1, m1, ⟨rfl, m2⟩, m3⟩ := k2
          cases h1
          exact m1.congr (fun i => by rw [m3, m2]; rfl)
        | a :: b :: l, x :: y :: m, k2, _ => simp only [oneV, one, RV]; exact ⟨_, rfl, k2⟩
       cases e <;> simp only at h ⊢ <;> first | exact fin h | cases h)
    simp only at q2
    subst q2
    exact ⟨x, w2, cr, ch', h1, p2, q3, q4, q5, q6, q7, q8, q9⟩
   ·cases h
end
end Go.AM

/- What an operation of the machine of values asks of the calls behind it. -/
namespace Go.AM
set_option linter.unusedSimpArgs false
set_option linter.unusedVariables false
def XV.over (X : XV) (call : CallV) (lp : LpV) : XV := { X with call := call, lp := lp }
section
variable {R : Type} {X : XV} {st : VS} {r : R}
theorem ev_eq {x : Operand} {K : VE -> Option R} (h : evV X st x K = some r) : ∃ e, K e = some r /\ ∀ (c : CallV) (l : LpV) (R' : Type) (K' : VE -> Option R'), evV (X.over c l) st x K' = K' e := by
 cases x with
 | tmp t =>
   simp only [evV] at h
   cases e : look st.env t with
   | none => rw [e] at h; cases h
   | some e' => rw [e] at h; exact ⟨e', h, fun c l R' K' => by simp only [evV, e]⟩
 | const v =>
   simp only [evV] at h
   split at h
   ·exact ⟨_, h, fun c l R' K' => rfl⟩
   ·rename_i hv
    split at h
    ·rename_i hp
     refine ⟨_, h, fun c l R' K' => ?_⟩
     simp only [evV, hp]
    ·cases h
 | global g =>
   simp only [evV] at h
   cases e : Nat.blt g X.ng with
   | true => rw [e] at h; exact ⟨_, h, fun c l R' K' => by show evV _ _ _ _ = _; simp only [evV, XV.over, e]⟩
   | false => rw [e] at h; cases h
 | func f => exact ⟨_, h, fun c l R' K' => rfl⟩
theorem va_eq {x : Operand} {K : V -> Option R} (h : vaV X st x K = some r) : ∃ v, K v = some r /\ ∀ (c : CallV) (l : LpV) (R' : Type) (K' : V -> Option R'), vaV (X.over c l) st x K' = K' v := by
 obtain ⟨e, hk, he⟩ := ev_eq h
 cases e with
 | val v => exact ⟨v, hk, fun c l R' K' => by unfold vaV; rw [he]⟩
 | fl xs => exact ⟨_, hk, fun c l R' K' => by unfold vaV; rw [he]⟩
 | loc k o => cases hk
 | skp => cases hk
theorem vt_eq {x : Operand} {K : V -> VS -> Option R} (h : vtV X st x K = some r) : ∃ v, K v (used st x) = some r /\ ∀ (c : CallV) (l : LpV) (R' : Type) (K' : V -> VS -> Option R'), vtV (X.over c l) st x K' = K' v (used st x) := by
 obtain ⟨v, h1, h2⟩ := va_eq (K := fun v => K v (used st x)) h
 exact ⟨v, h1, fun c l R' K' => h2 c l R' fun v => K' v (used st x)⟩
theorem vas_eq : ∀ {xs : List Operand} {K : List V -> Option R}, vasV X st xs K = some r -> ∃ vs, K vs = some r /\ ∀ (c : CallV) (l : LpV) (R' : Type) (K' : List V -> Option R'), vasV (X.over c l) st xs K' = K' vs
 | [], K, h => ⟨[], h, fun _ _ _ _ => rfl⟩
 | x :: xs, K, h => by
   obtain ⟨v, h, hv⟩ := va_eq h
   obtain ⟨vs, h, hvs⟩ := vas_eq h
   exact ⟨v :: vs, h, fun c l R' K' => by simp only [vasV, hv, hvs]⟩
theorem vo_eq {x : Option Operand} {K : Option V -> Option R} (h : voV X st x K = some r) : ∃ v, K v = some r /\ ∀ (c : CallV) (l : LpV) (R' : Type) (K' : Option V -> Option R'), voV (X.over c l) st x K' = K' v := by
 cases x with
 | none => exact ⟨none, h, fun _ _ _ _ => rfl⟩
 | some x =>
   obtain ⟨v, h, hv⟩ := va_eq h
   exact ⟨some v, h, fun c l R' K' => by simp only [voV, hv]⟩
theorem args_eq {mv : List Nat} : ∀ {xs : List Operand} {i : Nat} {st : VS} {K : List V -> VS -> Option R}, argsV X mv i xs st K = some r -> ∃ vs s2, K vs s2 = some r /\ ∀ (c : CallV) (l : LpV) (R' : Type) (K' : List V -> VS -> Option R'), argsV (X.over c l) mv i xs st K' = K' vs s2
 | [], i, st, K, h => ⟨[], st, h, fun _ _ _ _ => rfl⟩
 | x :: xs, i, st, K, h => by
   simp only [argsV] at h
   obtain ⟨v, h, hv⟩ := va_eq h
   split at h
   ·rename_i hm
    obtain ⟨vs, s2, h, hvs⟩ := args_eq h
    exact ⟨v :: vs, s2, h, fun c l R' K' => by simp only [argsV, hv, hm, hvs]⟩
   ·rename_i hm
    obtain ⟨vs, s2, h, hvs⟩ := args_eq h
    exact ⟨strip v :: vs, s2, h, fun c l R' K' => by simp only [argsV, hv, hm, hvs]⟩
theorem cellsV_eq {agg : Bool} {n : Nat} {v : V} {K : List V -> Option R} (h : cellsV agg n v K = some r) : ∃ cs, K cs = some r /\ ∀ (R' : Type) (K' : List V -> Option R'), cellsV agg n v K' = K' cs := by
 cases agg with
 | true =>
   simp only [cellsV] at h
   obtain ⟨cs, h1, h⟩ := bind_some' h
   exact ⟨_, h, fun R' K' => by simp only [cellsV, h1, Option.bind_some]⟩
 | false =>
   simp only [cellsV] at h
   obtain ⟨u, h1, h⟩ := bind_some' h
   exact ⟨_, h, fun R' K' => by simp only [cellsV, h1, Option.bind_some]⟩
theorem partsV_eq {place : Nat -> Option (Nat × Nat × Bool)} : ∀ {ps : List (Nat × Operand)} {cells : List V} {st : VS} {K : List V -> VS -> Option R}, partsV X place ps cells st K = some r →
 ∃ cs s2, K cs s2 = some r /\ ∀ (c : CallV) (l : LpV) (R' : Type) (K' : List V -> VS -> Option R'), partsV (X.over c l) place ps cells st K' = K' cs s2
 | [], cells, st, K, h => ⟨cells, st, h, fun _ _ _ _ => rfl⟩
 | (i, x) :: rest, cells, st, K, h => by
   simp only [partsV] at h
   cases e : place i with
   | none => rw [e] at h; cases h
   | some p =>
     obtain ⟨off, n, agg⟩ := p
     rw [e] at h
     simp only at h
     cases hb : Nat.ble (off + n) cells.length with
     | false => rw [hb] at h; cases h
     | true =>
       rw [hb] at h
       obtain ⟨v, h, hv⟩ := vt_eq h
       obtain ⟨cs, h, hcs⟩ := cellsV_eq h
       cases hb2 : Nat.ble (off + cs.length) cells.length with
       | false => rw [hb2] at h; cases h
       | true =>
         rw [hb2] at h
         obtain ⟨cells', s2, h, hp⟩ := partsV_eq h
         exact ⟨cells', s2, h, fun c l R' K' => by simp only [partsV, e, hb, hv, hcs, hb2, hp]⟩
end
def OpContV (X : XV) (A : Ann) (T : List Nat) (o : Oper) (st : VS) {R : Type} (K : VE -> VS -> Cls -> Option R) (r : R) : Prop :=
 (∃ e s2 c, K e s2 c = some r /\ ∀ (cl : CallV) (l : LpV) (R' : Type) (K' : VE -> VS -> Cls -> Option R'), opV (X.over cl l) A T o st K' = K' e s2 c) ∨
 (∃ (f : FuncId) (vs : List V) (s2 : VS) (res : V × VH), X.call f vs s2.H = some res /\ K (.val res.1) { s2 with H := res.2 } .W = some r /\ ∀ (cl : CallV) (l : LpV) (R' : Type) (K' : VE -> VS -> Cls -> Option R'), opV (X.over cl l) A T o st K' = (cl f vs s2.H).bind fun r => K' (.val r.1) { s2 with H := r.2 } .W) ∨
 (∃ (f : FuncId) (vs : List V) (res : V × VH) (e : VE) (s2 : VS) (c : Cls), X.call f vs [] = some res /\ K e s2 c = some r /\ ∀ (cl : CallV) (l : LpV) (R' : Type) (K' : VE -> VS -> Cls -> Option R'), cl f vs [] = some res -> opV (X.over cl l) A T o st K' = K' e s2 c)
theorem qpcall_eq {c : CallV} {f : FuncId} {vs : List V} {v : V} (h : qpcall c f vs = some v) : ∃ res, c f vs [] = some res /\ ∀ c' : CallV, c' f vs [] = some res -> qpcall c' f vs = some v := by
 unfold qpcall at h ⊢
 split at h
 ·rename_i hn
  obtain ⟨res, h1, h2⟩ := bind_some' h
  exact ⟨res, h1, fun c' h3 => by rw [h3]; exact h2⟩
 ·cases h
theorem pcall_eq {c : CallV} {f : FuncId} {vs : List V} {v : V} (h : pcall c f vs = some v) : ∃ res, c f vs [] = some res /\ ∀ c' : CallV, c' f vs [] = some res -> pcall c' f vs = some v := by
 unfold pcall at h ⊢
 split at h
 ·rename_i hn
  obtain ⟨res, h1, h2⟩ := bind_some' h
  exact ⟨res, h1, fun c' h3 => by rw [h3]; exact h2⟩
 ·cases h
theorem qpcallO_eq {c : CallV} {f : FuncId} {H : VH} {vs : List V} {v : V} (h : qpcallO c f H vs = some v) : ∃ az res, c f az [] = some res /\ ∀ c' : CallV, c' f az [] = some res -> qpcallO c' f H vs = some v := by
 unfold qpcallO at h
 split at h
 ·rename_i hn
  obtain ⟨res, h1, h2⟩ := qpcall_eq h
  exact ⟨_, res, h1, fun c' h3 => by unfold qpcallO; rw [hn]; exact h2 c' h3⟩
 ·rename_i hn
  obtain ⟨res, h1, h2⟩ := qpcall_eq h
  exact ⟨_, res, h1, fun c' h3 => by unfold qpcallO; rw [hn]; exact h2 c' h3⟩
theorem qpcallD_eq {c : CallV} {f : FuncId} {H : VH} {vs : List V} {v : V} (h : qpcallD c f H vs = some v) : ∃ az res, c f az [] = some res /\ ∀ c' : CallV, c' f az [] = some res -> qpcallD c' f H vs = some v := by
 unfold qpcallD at h
 obtain ⟨res, h1, h2⟩ := qpcall_eq h
 exact ⟨_, res, h1, fun c' h3 => by unfold qpcallD; exact h2 c' h3⟩
theorem pcallO_eq {c : CallV} {f : FuncId} {H : VH} {vs : List V} {v : V} (h : pcallO c f H vs = some v) : ∃ az res, c f az [] = some res /\ ∀ c' : CallV, c' f az [] = some res -> pcallO c' f H vs = some v := by
 unfold pcallO at h
 split at h
 ·rename_i hn
  obtain ⟨res, h1, h2⟩ := pcall_eq h
  exact ⟨_, res, h1, fun c' h3 => by unfold pcallO; rw [hn]; exact h2 c' h3⟩
 ·rename_i hn
  obtain ⟨u, hu, h⟩ := bind_some' h
  obtain ⟨res, h1, h2⟩ := pcall_eq hu
  exact ⟨_, res, h1, fun c' h3 => by unfold pcallO; rw [hn]; simp only [h2 c' h3, Option.bind_some]; exact h⟩
theorem pcallX_eq {u : Bool} {c : CallV} {f : FuncId} {H : VH} {vs : List V} {v : V} (h : pcallX u c f H vs = some v) : ∃ az res, c f az [] = some res /\ ∀ c' : CallV, c' f az [] = some res -> pcallX u c' f H vs = some v := by
 cases u with
 | false => exact pcallO_eq h
 | true =>
   simp only [pcallX, pcallU] at h ⊢
   split at h
   ·rename_i hn
    obtain ⟨res, h1, h2⟩ := bind_some' h
    exact ⟨_, res, h1, fun c' h3 => by rw [h3]; exact h2⟩
   ·cases h
theorem pcallG_eq {c : CallV} {f : FuncId} {H : VH} {vs : List V} {v : V × VH} (h : pcallG c f H vs = some v) : ∃ az res, c f az [] = some res /\ ∀ c' : CallV, c' f az [] = some res -> pcallG c' f H vs = some v := by
 unfold pcallG at h ⊢
 split at h
 ·obtain ⟨res, h1, h2⟩ := bind_some' h
  exact ⟨_, res, h1, fun c' h3 => by rw [h3]; exact h2⟩
 ·cases h
theorem promB_eq {R : Type} {d : Nat} {v : V} {H : VH} {K : V -> VH -> Option R} {r : R} (h : promB d v H K = some r) : K (prom d H v).1 (prom d H v).2 = some r /\ ∀ (R' : Type) (K' : V -> VH -> Option R'), promB d v H K' = K' (prom d H v).1 (prom d H v).2 := by
 unfold promB at h ⊢
 split at h
 ·rename_i ho
  exact ⟨h, fun R' K' => rfl⟩
 ·cases h
section
variable {X : XV} {A : Ann} {T : List Nat} {R : Type} {K : VE -> VS -> Cls -> Option R} {r : R} {o : Oper} {st : VS}
theorem overV_tab (X : XV) (c : CallV) (l : LpV) : (X.over c l).tab = X.tab := rfl
theorem overV_kind (X : XV) (c : CallV) (l : LpV) : (X.over c l).kind = X.kind := rfl
theorem overV_ext (X : XV) (c : CallV) (l : LpV) : (X.over c l).ext = X.ext := rfl
theorem overV_mv (X : XV) (c : CallV) (l : LpV) : (X.over c l).mv = X.mv := rfl
theorem overV_glob (X : XV) (c : CallV) (l : LpV) : (X.over c l).glob = X.glob := rfl
theorem overV_call (X : XV) (c : CallV) (l : LpV) : (X.over c l).call = c := rfl
set_option maxHeartbeats 4000000 in
theorem opV_cont (h : opV X A T o st K = some r) : OpContV X A T o st K r := by
 unfold opV at h
 cases hop : o.op with
 | move x =>
   simp only [hop] at h
   split at h
   ·rename_i ht
    obtain ⟨e, h, he⟩ := ev_eq h
    exact .inl ⟨_, _, _, h, fun cl l R' K' => by unfold opV; simp only [hop, ht, he]⟩
   ·rename_i ht
    obtain ⟨e, h, he⟩ := ev_eq h
    exact .inl ⟨_, _, _, h, fun cl l R' K' => by unfold opV; simp only [hop, ht, he]⟩
 | assign x =>
   simp only [hop] at h
   split at h
   ·rename_i ht
    obtain ⟨e, h, he⟩ := ev_eq h
    exact .inl ⟨_, _, _, h, fun cl l R' K' => by unfold opV; simp only [hop, ht, he]⟩
   ·rename_i ht
    obtain ⟨e, h, he⟩ := ev_eq h
    exact .inl ⟨_, _, _, h, fun cl l R' K' => by unfold opV; simp only [hop, ht, he]⟩
 | pick c x y =>
   simp only [hop] at h
   obtain ⟨vc, h, hc⟩ := va_eq h
   obtain ⟨ex, h, hx⟩ := ev_eq h
   obtain ⟨ey, h, hy⟩ := ev_eq h
   split at h
   ·rcases ifGV_some h with ⟨rfl, h⟩ | ⟨rfl, h⟩
    ·cases h
    ·exact .inl ⟨_, _, _, h, fun cl l R' K' => by unfold opV; simp only [hop, hc, hx, hy, ifGV]⟩
   ·rcases ifGV_some h with ⟨rfl, h⟩ | ⟨rfl, h⟩
    ·exact .inl ⟨_, _, _, h, fun cl l R' K' => by unfold opV; simp only [hop, hc, hx, hy, ifGV]⟩
    ·cases h
   ·obtain ⟨v, hv, h⟩ := bind_some' h
    exact .inl ⟨_, _, _, h, fun cl l R' K' => by unfold opV; simp only [hop, hc, hx, hy, hv, Option.bind_some]⟩
   ·cases h
 | alloc elem =>
   simp only [hop] at h
   split at h
   ·rename_i ti d ht hd
    split at h
    ·rename_i hm
     split at h
     ·rename_i hl
      exact .inl ⟨_, _, _, h, fun cl l R' K' => by unfold opV; simp only [hop, overV_tab, ht, hd, hm, hl]⟩
     ·cases h
    ·rename_i hm
     exact .inl ⟨_, _, _, h, fun cl l R' K' => by unfold opV; simp only [hop, overV_tab, ht, hd, hm]⟩
   ·cases h
 | box elem x =>
   simp only [hop] at h
   split at h
   ·rename_i ti d ht hd
    obtain ⟨v, h, hv⟩ := vt_eq h
    obtain ⟨cs, h, hcs⟩ := cellsV_eq h
    split at h
    ·rename_i hm
     split at h
     ·rename_i hl
      exact .inl ⟨_, _, _, h, fun cl l R' K' => by unfold opV; simp only [hop, overV_tab, ht, hd, hm, hl, hv, hcs]⟩
     ·cases h
    ·rename_i hm
     exact .inl ⟨_, _, _, h, fun cl l R' K' => by unfold opV; simp only [hop, overV_tab, ht, hd, hm, hv, hcs]⟩
   ·cases h
 | build t parts =>
   simp only [hop] at h
   split at h
   ·rename_i ht
    obtain ⟨cells', s2, h, hp⟩ := partsV_eq h
    exact .inl ⟨_, _, _, h, fun cl l R' K' => by unfold opV; simp only [hop, overV_tab, ht, hp]⟩
   ·rename_i ht
    obtain ⟨cells', s2, h, hp⟩ := partsV_eq h
    exact .inl ⟨_, _, _, h, fun cl l R' K' => by unfold opV; simp only [hop, overV_tab, ht, hp]⟩
   ·cases h
 | buildSlice t len parts =>
   simp only [hop] at h
   split at h
   ·rename_i ht
    split at h
    ·rename_i te hte
     split at h
     ·rename_i hb
      obtain ⟨cells', s2, h, hp⟩ := partsV_eq h
      exact .inl ⟨_, _, _, h, fun cl l R' K' => by unfold opV; simp only [hop, overV_tab, ht, hte, hb, hp]⟩
     ·cases h
    ·cases h
   ·cases h
 | load t x =>
   simp only [hop] at h
   split at h
   ·rename_i ti ht
    obtain ⟨e, h, he⟩ := ev_eq h
    split at h
    ·split at h
     ·rename_i cs hk
      obtain ⟨c, hc, h⟩ := bind_some' h
      exact .inl ⟨_, _, _, h, fun cl l R' K' => by unfold opV; simp only [hop, overV_tab, ht, he, hk, hc, Option.bind_some]⟩
     ·cases h
    ·obtain ⟨c, hc, h⟩ := bind_some' h
     exact .inl ⟨_, _, _, h, fun cl l R' K' => by unfold opV; simp only [hop, overV_tab, overV_glob, ht, he, hc, Option.bind_some]⟩
    ·cases h
   ·cases h
 | store t x y =>
   simp only [hop] at h
   split at h
   ·rename_i ti ht
    obtain ⟨e, h, he⟩ := ev_eq h
    obtain ⟨v, h, hv⟩ := vt_eq h
    obtain ⟨cs, h, hcs⟩ := cellsV_eq h
    split at h
    ·split at h
     ·rename_i old hk
      split at h
      ·rename_i hb
       exact .inl ⟨_, _, _, h, fun cl l R' K' => by unfold opV; simp only [hop, overV_tab, ht, he, hv, hcs, hk, hb]⟩
      ·cases h
     ·cases h
    ·obtain ⟨H2, hh, h⟩ := bind_some' h
     exact .inl ⟨_, _, _, h, fun cl l R' K' => by unfold opV; simp only [hop, overV_tab, ht, he, hv, hcs, hh, Option.bind_some]⟩
    ·cases h
   ·cases h
 | nilCheck x =>
   simp only [hop] at h
   obtain ⟨e, h, he⟩ := ev_eq h
   split at h
   ·exact .inl ⟨_, _, _, h, fun cl l R' K' => by unfold opV; simp only [hop, he]⟩
   ·obtain ⟨v, hv, h⟩ := bind_some' h
    exact .inl ⟨_, _, _, h, fun cl l R' K' => by unfold opV; simp only [hop, he, hv, Option.bind_some]⟩
   ·cases h
 | binOp op t x y yt =>
   simp only [hop] at h
   split at h
   ·rename_i ti ht
    split at h
    ·rename_i hn
     obtain ⟨a, h, ha⟩ := va_eq h
     obtain ⟨v, hv, h⟩ := bind_some' h
     exact .inl ⟨_, _, _, h, fun cl l R' K' => by unfold opV; simp only [hop, overV_tab, ht, hn, ha, hv, Option.bind_some]⟩
    ·rename_i hn
     obtain ⟨a, h, ha⟩ := va_eq h
     obtain ⟨b, h, hb⟩ := va_eq h
     obtain ⟨v, hv, h⟩ := bind_some' h
     exact .inl ⟨_, _, _, h, fun cl l R' K' => by unfold opV; simp only [hop, overV_tab, ht, hn, ha, hb, hv, Option.bind_some]⟩
   ·cases h
 | unOp op t x =>
   simp only [hop] at h
   obtain ⟨a, h, ha⟩ := va_eq h
   obtain ⟨v, hv, h⟩ := bind_some' h
   exact .inl ⟨_, _, _, h, fun cl l R' K' => by unfold opV; simp only [hop, ha, hv, Option.bind_some]⟩
 | convert src dst x =>
   simp only [hop] at h
   split at h
   ·rename_i ts td hts htd
    obtain ⟨va, h, ha⟩ := va_eq h
    split at h
    ·rename_i k k' hk hk'
     obtain ⟨v, hv, h⟩ := bind_some' h
     exact .inl ⟨_, _, _, h, fun cl l R' K' => by unfold opV; simp only [hop, overV_tab, hts, htd, ha, hk, hk', hv, Option.bind_some]⟩
    ·rename_i hk hk'
     obtain ⟨v, hv, h⟩ := bind_some' h
     exact .inl ⟨_, _, _, h, fun cl l R' K' => by unfold opV; simp only [hop, overV_tab, hts, htd, ha, hk, hk', hv, Option.bind_some]⟩
    ·rename_i hk hk'
     split at h
     ·rename_i hte
      obtain ⟨v, hv, h⟩ := bind_some' h
      exact .inl ⟨_, _, _, h, fun cl l R' K' => by unfold opV; simp only [hop, overV_tab, hts, htd, ha, hk, hk', hte, hv, Option.bind_some]⟩
     ·cases h
    ·rename_i hk hk'
     split at h
     ·rename_i hte
      obtain ⟨v, hv, h⟩ := bind_some' h
      exact .inl ⟨_, _, _, h, fun cl l R' K' => by unfold opV; simp only [hop, overV_tab, hts, htd, ha, hk, hk', hte, hv, Option.bind_some]⟩
     ·cases h
    ·cases h
   ·cases h
 | makeFunc fn first captured =>
   simp only [hop] at h
   cases hz : first.size with
   | zero =>
     simp only [hz] at h
     split at h
     ·obtain ⟨vs, h, hvs⟩ := vas_eq h
      exact .inl ⟨_, _, _, h, fun cl l R' K' => by unfold opV; simp only [hop, hz, hvs]⟩
     ·cases h
   | succ n => simp only [hz] at h; cases h
 | makeSlice t l c =>
   simp only [hop] at h
   split at h
   ·rename_i ht
    obtain ⟨vl, h, hl⟩ := va_eq h
    obtain ⟨vc, h, hc⟩ := va_eq h
    obtain ⟨n, hn, h⟩ := bind_some' h
    exact .inl ⟨_, _, _, h, fun cl l R' K' => by unfold opV; simp only [hop, overV_tab, ht, hl, hc, hn, Option.bind_some]⟩
   ·cases h
 | slice t x lo hi mx =>
   simp only [hop] at h
   split at h
   ·rename_i ht
    obtain ⟨v, h, hv⟩ := va_eq h
    obtain ⟨l, h, hl⟩ := vo_eq h
    obtain ⟨k, h, hk⟩ := vo_eq h
    split at h
    ·obtain ⟨u, hu, h⟩ := bind_some' h
     exact .inl ⟨_, _, _, h, fun cl l R' K' => by unfold opV; simp only [hop, overV_tab, ht, hv, hl, hk, hu, Option.bind_some]⟩
    ·cases h
   ·rename_i ht
    obtain ⟨v, h, hv⟩ := va_eq h
    split at h
    ·obtain ⟨l, h, hl⟩ := vo_eq h
     obtain ⟨k, h, hk⟩ := vo_eq h
     obtain ⟨u, hu, h⟩ := bind_some' h
     exact .inl ⟨_, _, _, h, fun cl l R' K' => by unfold opV; simp only [hop, overV_tab, ht, hv, hl, hk, hu, Option.bind_some]⟩
    ·obtain ⟨l, h, hl⟩ := va_eq h
     obtain ⟨k, h, hk⟩ := va_eq h
     obtain ⟨m, h, hm⟩ := va_eq h
     obtain ⟨u, hu, h⟩ := bind_some' h
     exact .inl ⟨_, _, _, h, fun cl l R' K' => by unfold opV; simp only [hop, overV_tab, ht, hv, hl, hk, hm, hu, Option.bind_some]⟩
    ·cases h
   ·rename_i ht
    split at h
    ·obtain ⟨v, h, hv⟩ := va_eq h
     obtain ⟨u, hu, h⟩ := bind_some' h
     exact .inl ⟨_, _, _, h, fun cl l R' K' => by unfold opV; simp only [hop, overV_tab, overV_glob, ht, hv, hu, Option.bind_some]⟩
    ·cases h
   ·cases h
 | fieldAddr t x f =>
   simp only [hop] at h
   split at h
   ·rename_i ht
    split at h
    ·rename_i off n agg hf
     obtain ⟨e, h, he⟩ := ev_eq h
     split at h
     ·exact .inl ⟨_, _, _, h, fun cl l R' K' => by unfold opV; simp only [hop, overV_tab, ht, hf, he]⟩
     ·obtain ⟨v, hv, h⟩ := bind_some' h
      exact .inl ⟨_, _, _, h, fun cl l R' K' => by unfold opV; simp only [hop, overV_tab, ht, hf, he, hv, Option.bind_some]⟩
     ·cases h
    ·cases h
   ·cases h
 | field t x f =>
   simp only [hop] at h
   split at h
   ·rename_i ht
    split at h
    ·rename_i off m agg hf
     obtain ⟨v, h, hv⟩ := va_eq h
     obtain ⟨cs, hcs, h⟩ := bind_some' h
     split at h
     ·obtain ⟨c, hc, h⟩ := bind_some' h
      exact .inl ⟨_, _, _, h, fun cl l R' K' => by unfold opV; simp only [hop, overV_tab, ht, hf, hv, hcs, hc, Option.bind_some]⟩
     ·obtain ⟨c, hc, h⟩ := bind_some' h
      exact .inl ⟨_, _, _, h, fun cl l R' K' => by unfold opV; simp only [hop, overV_tab, ht, hf, hv, hcs, hc, Option.bind_some]⟩
    ·cases h
   ·cases h
 | indexAddr t x i =>
   simp only [hop] at h
   split at h
   ·rename_i ht
    obtain ⟨v, h, hv⟩ := va_eq h
    obtain ⟨j, h, hj⟩ := va_eq h
    obtain ⟨u, hu, h⟩ := bind_some' h
    exact .inl ⟨_, _, _, h, fun cl l R' K' => by unfold opV; simp only [hop, overV_tab, ht, hv, hj, hu, Option.bind_some]⟩
   ·rename_i ht
    obtain ⟨v, h, hv⟩ := va_eq h
    obtain ⟨j, h, hj⟩ := va_eq h
    obtain ⟨u, hu, h⟩ := bind_some' h
    exact .inl ⟨_, _, _, h, fun cl l R' K' => by unfold opV; simp only [hop, overV_tab, ht, hv, hj, hu, Option.bind_some]⟩
   ·cases h
 | index t x i =>
   simp only [hop] at h
   split at h
   ·rename_i ht
    obtain ⟨v, h, hv⟩ := va_eq h
    obtain ⟨j, h, hj⟩ := va_eq h
    obtain ⟨u, hu, h⟩ := bind_some' h
    exact .inl ⟨_, _, _, h, fun cl l R' K' => by unfold opV; simp only [hop, overV_tab, ht, hv, hj, hu, Option.bind_some]⟩
   ·rename_i ht
    obtain ⟨v, h, hv⟩ := va_eq h
    obtain ⟨j, h, hj⟩ := va_eq h
    obtain ⟨u, hu, h⟩ := bind_some' h
    exact .inl ⟨_, _, _, h, fun cl l R' K' => by unfold opV; simp only [hop, overV_tab, ht, hv, hj, hu, Option.bind_some]⟩
   ·cases h
 | extract x i =>
   simp only [hop] at h
   split at h
   ·rename_i t
    obtain ⟨v, h, hv⟩ := va_eq h
    obtain ⟨u, hu, h⟩ := bind_some' h
    split at h
    ·rename_i hm
     exact .inl ⟨_, _, _, h, fun cl l R' K' => by unfold opV; simp only [hop, hv, hu, hm, Option.bind_some]⟩
    ·rename_i hm
     exact .inl ⟨_, _, _, h, fun cl l R' K' => by unfold opV; simp only [hop, hv, hu, hm, Option.bind_some]⟩
   ·cases h
 | call c =>
   simp only [hop] at h
   split at h
   ·rename_i hcal
    split at h
    ·rename_i x t hargs htys
     split at h
     ·rename_i ht
      obtain ⟨v, h, hv⟩ := va_eq h
      obtain ⟨u, hu, h⟩ := bind_some' h
      exact .inl ⟨_, _, _, h, fun cl l R' K' => by unfold opV; simp only [hop, overV_tab, hcal, hargs, htys, ht, hv, hu, Option.bind_some]⟩
     ·rename_i ht
      obtain ⟨v, h, hv⟩ := va_eq h
      obtain ⟨u, hu, h⟩ := bind_some' h
      exact .inl ⟨_, _, _, h, fun cl l R' K' => by unfold opV; simp only [hop, overV_tab, hcal, hargs, htys, ht, hv, hu, Option.bind_some]⟩
     ·cases h
    ·cases h
   ·rename_i hcal
    split at h
    ·rename_i x y hargs
     obtain ⟨v, h, hv⟩ := va_eq h
     obtain ⟨u, h, hu⟩ := va_eq h
     obtain ⟨m, hm, h⟩ := bind_some' h
     exact .inl ⟨_, _, _, h, fun cl l R' K' => by unfold opV; simp only [hop, overV_tab, hcal, hargs, hv, hu, hm, Option.bind_some]⟩
    ·cases h
   ·rename_i hcal
    split at h
    ·rename_i x y t u d hargs htys hdst
     split at h
     ·rename_i ht hu
      split at h
      ·rename_i b hku
       split at h
       ·rename_i hm
        obtain ⟨e, h, he⟩ := ev_eq h
        obtain ⟨v, h, hv⟩ := vt_eq h
        split at h
        ·obtain ⟨q, hq, h⟩ := bind_some' h
         exact .inl ⟨_, _, _, h, fun cl l R' K' => by unfold opV; simp only [hop, overV_tab, hcal, hargs, htys, hdst, ht, hu, hku, he, hv, hm, hq, Option.bind_some]⟩
        ·cases h
       ·rename_i hm
        split at h
        ·rename_i hfl
         obtain ⟨s, h, hs⟩ := vt_eq h
         obtain ⟨v, h, hv⟩ := vt_eq h
         obtain ⟨q, hq, h⟩ := bind_some' h
         rw [hdst] at hfl hq
         exact .inl ⟨_, _, _, h, fun cl l R' K' => by unfold opV; simp only [hop, overV_tab, hcal, hargs, htys, hdst, ht, hu, hku, hs, hv, hm, hfl, hq, Option.bind_some]⟩
        ·rename_i hfl
         obtain ⟨s, h, hs⟩ := vt_eq h
         obtain ⟨v, h, hv⟩ := vt_eq h
         obtain ⟨xs, hxs, h⟩ := bind_some' h
         obtain ⟨q, hq, h⟩ := bind_some' h
         rw [hdst] at hfl
         exact .inl ⟨_, _, _, h, fun cl l R' K' => by unfold opV; simp only [hop, overV_tab, hcal, hargs, htys, hdst, ht, hu, hku, hs, hv, hxs, hm, hfl, hq, Option.bind_some]⟩
      ·cases h
     ·cases h
    ·cases h
   ·rename_i f hcal
    split at h
    ·rename_i hk
     obtain ⟨vs, s2, h, hvs⟩ := args_eq h
     obtain ⟨q, hq, h⟩ := bind_some' h
     exact .inr (.inl ⟨_, _, _, _, hq, h, fun cl l R' K' => by unfold opV; simp only [hop, hcal, overV_mv, hvs, overV_kind, hk, overV_call]⟩)
    ·rename_i hk
     obtain ⟨vs, h, hvs⟩ := vas_eq h
     split at h
     ·rename_i hfl
      split at h
      ·rename_i hf7
       obtain ⟨q, hq, h⟩ := bind_some' h
       obtain ⟨az, res, h1, h2⟩ := qpcallD_eq hq
       exact .inr (.inr ⟨_, _, _, _, _, _, h1, h, fun cl l R' K' h3 => by unfold opV; simp only [hop, hcal, hvs, overV_kind, hk, overV_call, hfl, hf7, h2 cl h3, Option.bind_some]⟩)
      ·rename_i hf7
       obtain ⟨q, hq, h⟩ := bind_some' h
       obtain ⟨az, res, h1, h2⟩ := qpcallO_eq hq
       exact .inr (.inr ⟨_, _, _, _, _, _, h1, h, fun cl l R' K' h3 => by unfold opV; simp only [hop, hcal, hvs, overV_kind, hk, overV_call, hfl, hf7, h2 cl h3, Option.bind_some]⟩)
     ·rename_i hfl
      obtain ⟨q, hq, h⟩ := bind_some' h
      obtain ⟨res, h1, h2⟩ := qpcall_eq hq
      exact .inr (.inr ⟨_, _, _, _, _, _, h1, h, fun cl l R' K' h3 => by unfold opV; simp only [hop, hcal, hvs, overV_kind, hk, overV_call, hfl, h2 cl h3, Option.bind_some]⟩)
    ·rename_i hk
     obtain ⟨vs, h, hvs⟩ := vas_eq h
     split at h
     ·rename_i hfl
      split at h
      ·rename_i hf6
       obtain ⟨q, hq, h⟩ := bind_some' h
       obtain ⟨az, res, h1, h2⟩ := pcallG_eq hq
       exact .inr (.inr ⟨_, _, _, _, _, _, h1, h, fun cl l R' K' h3 => by unfold opV; simp only [hop, hcal, hvs, overV_kind, hk, overV_call, hfl, hf6, h2 cl h3, Option.bind_some]⟩)
      rename_i hf6
      obtain ⟨q, hq, h⟩ := bind_some' h
      obtain ⟨az, res, h1, h2⟩ := pcallX_eq hq
      split at h
      ·rename_i hf1
       obtain ⟨h, hp⟩ := promB_eq h
       exact .inr (.inr ⟨_, _, _, _, _, _, h1, h, fun cl l R' K' h3 => by unfold opV; simp only [hop, hcal, hvs, overV_kind, hk, overV_call, hfl, hf6, hf1, h2 cl h3, Option.bind_some, hp]⟩)
      ·rename_i hf1
       split at h
       ·rename_i hf3
        obtain ⟨h, hp⟩ := promB_eq h
        exact .inr (.inr ⟨_, _, _, _, _, _, h1, h, fun cl l R' K' h3 => by unfold opV; simp only [hop, hcal, hvs, overV_kind, hk, overV_call, hfl, hf6, hf1, hf3, h2 cl h3, Option.bind_some, hp]⟩)
       ·rename_i hf3
        exact .inr (.inr ⟨_, _, _, _, _, _, h1, h, fun cl l R' K' h3 => by unfold opV; simp only [hop, hcal, hvs, overV_kind, hk, overV_call, hfl, hf6, hf1, hf3, h2 cl h3, Option.bind_some]⟩)
     ·rename_i hfl
      obtain ⟨q, hq, h⟩ := bind_some' h
      obtain ⟨res, h1, h2⟩ := pcall_eq hq
      exact .inr (.inr ⟨_, _, _, _, _, _, h1, h, fun cl l R' K' h3 => by unfold opV; simp only [hop, hcal, hvs, overV_kind, hk, overV_call, hfl, h2 cl h3, Option.bind_some]⟩)
    ·rename_i n hk
     obtain ⟨vs, h, hvs⟩ := vas_eq h
     obtain ⟨az, has, h⟩ := bind_some' h
     obtain ⟨q, hq, h⟩ := bind_some' h
     obtain ⟨u, hu, h⟩ := bind_some' h
     exact .inl ⟨_, _, _, h, fun cl l R' K' => by unfold opV; simp only [hop, hcal, hvs, overV_kind, hk, overV_ext, has, hq, hu, Option.bind_some]⟩
   ·rename_i fv hne hcal
    obtain ⟨f, h, hf⟩ := va_eq h
    obtain ⟨vs, h, hvs⟩ := vas_eq h
    obtain ⟨p, hp, h⟩ := bind_some' h
    split at h
    ·rename_i hq'
     obtain ⟨q, hq, h⟩ := bind_some' h
     obtain ⟨res, h1, h2⟩ := qpcall_eq hq
     refine .inr (.inr ⟨_, _, _, _, _, _, h1, h, fun cl l R' K' h3 => ?_⟩)
     unfold opV
     cases fv with
     | func f => exact absurd rfl (hne f)
     | _ => simp only [hop, hcal, hf, hvs, hp, hq', overV_call, h2 cl h3, Option.bind_some]
    ·rename_i hq'
     obtain ⟨q, hq, h⟩ := bind_some' h
     refine .inr (.inl ⟨_, _, _, _, hq, h, fun cl l R' K' => ?_⟩)
     unfold opV
     cases fv with
     | func f => exact absurd rfl (hne f)
     | _ => simp only [hop, hcal, hf, hvs, hp, hq', overV_call, Option.bind_some]
   ·cases h
 | _ => simp only [hop] at h; cases h
end
end Go.AM

/- Calls of the machine of values without a count of steps; they stand for calls of the abstract machine. -/
namespace Go.AM
open Go.RowKit
set_option linter.unusedSimpArgs false
set_option linter.unusedVariables false
theorem saveV_eq {R : Type} {kp : Keep} {st : VS} {K : List V -> VH -> Option R} {r : R} (h : saveV kp st K = some r) : ∃ vs, K vs st.H = some r /\ ∀ (R' : Type) (K' : List V -> VH -> Option R'), saveV kp st K' = K' vs st.H := by
 have hv : ∀ {ss : List Nat} {R : Type} {K : List V -> Option R} {r : R}, valsV st.env ss K = some r -> ∃ vs, K vs = some r /\ ∀ (R' : Type) (K' : List V -> Option R'), valsV st.env ss K' = K' vs := by
  intro ss
  induction ss with
  | nil => intro R K r h; exact ⟨[], h, fun _ _ => rfl⟩
  | cons s ss ih =>
    intro R K r h
    simp only [valsV] at h
    split at h
    ·rename_i v hl
     obtain ⟨vs, h1, h2⟩ := ih h
     exact ⟨v :: vs, h1, fun R' K' => by simp only [valsV, hl, h2]⟩
    ·rename_i v hl
     obtain ⟨vs, h1, h2⟩ := ih h
     exact ⟨_, h1, fun R' K' => by simp only [valsV, hl, h2]⟩
    ·cases h
 have hc : ∀ {ks : List (Nat × Nat)} {R : Type} {K : List V -> Option R} {r : R}, csV st.loc ks K = some r -> ∃ vs, K vs = some r /\ ∀ (R' : Type) (K' : List V -> Option R'), csV st.loc ks K' = K' vs := by
  intro ks
  induction ks with
  | nil => intro R K r h; exact ⟨[], h, fun _ _ => rfl⟩
  | cons s ks ih =>
    intro R K r h
    obtain ⟨k, n⟩ := s
    simp only [csV] at h
    split at h
    ·rename_i cs hl
     split at h
     ·rename_i hb
      obtain ⟨vs, h1, h2⟩ := ih h
      exact ⟨cs ++ vs, h1, fun R' K' => by simp only [csV, hl, hb, h2]⟩
     ·cases h
    ·cases h
 unfold saveV at h
 split at h
 ·rename_i hl
  obtain ⟨vs, h, h1⟩ := hv h
  obtain ⟨cs, h, h2⟩ := hc h
  exact ⟨_, h, fun R' K' => by simp only [saveV, hl, h1, h2]⟩
 ·cases h
theorem loadV_eq {R : Type} {kp : Keep} {vs : List V} {H : VH} {K : VS -> Option R} {r : R} (h : loadV kp vs H K = some r) : ∃ s, K s = some r /\ ∀ (R' : Type) (K' : VS -> Option R'), loadV kp vs H K' = K' s := by
 unfold loadV at h
 split at h
 ·rename_i hk
  split at h
  ·rename_i hl
   exact ⟨_, h, fun R' K' => by unfold loadV; simp only [hk]; rw [if_pos hl]⟩
  ·cases h
 ·cases h
theorem inV_eq {R : Type} {vs : List V} {H : VH} {K : Exit -> VS -> Option R} {r : R} : ∀ {outs : List (Exit × Keep)} {n : Nat}, inV outs n vs H K = some r -> ∃ e st, K e st = some r /\ ∀ (R' : Type) (K' : Exit -> VS -> Option R'), inV outs n vs H K' = K' e st
 | [], _, h => by cases h
 | (x, kp) :: l, 0, h => by
   simp only [inV] at h
   obtain ⟨s, h1, h2⟩ := loadV_eq h
   exact ⟨x, s, h1, fun R' K' => by simp only [inV, h2]⟩
 | (x, kp) :: l, n + 1, h => by
   simp only [inV] at h
   obtain ⟨e, st, h1, h2⟩ := inV_eq h
   exact ⟨e, st, h1, fun R' K' => by simp only [inV, h2]⟩
theorem guardV_eq {R : Type} {ops : Array Oper} {o : Oper} {env : List (Nat × VE)} {run pass : List (Nat × VE) -> Option R} {r : R} (h : guardV ops o env run pass = some r) :
 ∃ env', (run env' = some r /\ ∀ (R' : Type) (run' pass' : List (Nat × VE) -> Option R'), guardV ops o env run' pass' = run' env') ∨ (pass env' = some r /\ ∀ (R' : Type) (run' pass' : List (Nat × VE) -> Option R'), guardV ops o env run' pass' = pass' env') := by
 unfold guardV at h
 split at h
 ·rename_i hg
  exact ⟨_, .inl ⟨h, fun R' run' pass' => by simp only [guardV, hg]⟩⟩
 ·rename_i j want hg
  split at h
  ·cases h
  ·rename_i d hd
   split at h
   ·rename_i v hl
    split at h
    ·rcases ifGV_some h with ⟨rfl, h⟩ | ⟨rfl, h⟩
     ·exact ⟨_, .inl ⟨h, fun R' run' pass' => by simp only [guardV, hg, hd, hl, ifGV]⟩⟩
     ·exact ⟨_, .inr ⟨h, fun R' run' pass' => by simp only [guardV, hg, hd, hl, ifGV]⟩⟩
    ·rcases ifGV_some h with ⟨rfl, h⟩ | ⟨rfl, h⟩
     ·exact ⟨_, .inr ⟨h, fun R' run' pass' => by simp only [guardV, hg, hd, hl, ifGV]⟩⟩
     ·exact ⟨_, .inl ⟨h, fun R' run' pass' => by simp only [guardV, hg, hd, hl, ifGV]⟩⟩
   ·rename_i hl
    exact ⟨_, .inr ⟨h, fun R' run' pass' => by simp only [guardV, hg, hd, hl]⟩⟩
   ·cases h
structure NearV (X : XV) (c : Nat -> CallV) (l : Nat -> LpV) : Prop where
 call : ∀ f vs hp res, X.call f vs hp = some res -> Evt fun m => c m f vs hp = some res
 lp : ∀ (B : List V -> VH -> Option (Option Nat × List V × VH)) (Bm : Nat -> List V -> VH -> Option (Option Nat × List V × VH)), (∀ vs hp res, B vs hp = some res -> Evt fun m => Bm m vs hp = some res) →
  ∀ vs hp res, X.lp B vs hp = some res -> Evt fun m => l m (Bm m) vs hp = some res
section
variable {X : XV} {c : Nat -> CallV} {l : Nat -> LpV} {A : Ann} {T : List Nat}
theorem opV_app (hN : NearV X c l) {R : Type} {r : R} {o : Oper} {st : VS} {K : VE -> VS -> Cls -> Option R} {Km : Nat -> VE -> VS -> Cls -> Option R}
 (h : opV X A T o st K = some r) (hK : ∀ e s cl, K e s cl = some r -> Evt fun m => Km m e s cl = some r) : Evt fun m => opV (X.over (c m) (l m)) A T o st (Km m) = some r := by
 rcases opV_cont h with ⟨e, s, cl, h1, h2⟩ | ⟨f, vs, s, res, h1, h2, h3⟩ | ⟨f, vs, res, e, s, cl, h1, h2, h3⟩
 ·exact (hK _ _ _ h1).imp fun m hm => by rw [h2]; exact hm
 ·exact ((hN.call _ _ _ _ h1).and (hK _ _ _ h2)).imp fun m ⟨a, b⟩ => by rw [h3, a]; exact b
 ·exact ((hN.call _ _ _ _ h1).and (hK _ _ _ h2)).imp fun m ⟨a, b⟩ => by rw [h3 _ _ _ _ a]; exact b
theorem regV_app (hN : NearV X c l) {R : Type} {r : R} {ops : Array Oper} : ∀ {os : List Oper} {cl : List Cls} {st : VS} {K : List Cls -> VS -> Option R} {Km : Nat -> List Cls -> VS -> Option R},
 regV X A T ops os cl st K = some r -> (∀ cl st, K cl st = some r -> Evt fun m => Km m cl st = some r) -> Evt fun m => regV (X.over (c m) (l m)) A T ops os cl st (Km m) = some r
 | [], cl, st, K, Km, h, hK => hK _ _ h
 | o :: os, cl, st, K, Km, h, hK => by
   simp only [regV] at h ⊢
   obtain ⟨env', ⟨h1, h2⟩ | ⟨h1, h2⟩⟩ := guardV_eq h
   ·refine (opV_app hN h1 (Km := fun m e st c' => regV (X.over (c m) (l m)) A T ops os (c' :: cl) { st with env := putV st.env o.dst e } (Km m)) fun e s cl' h3 => regV_app hN h3 hK).imp fun m hm => ?_
    rw [h2]; exact hm
   ·exact (regV_app hN h1 hK).imp fun m hm => by rw [h2]; exact hm
theorem codeV_app (hN : NearV X c l) : ∀ (x : Code) {R : Type} {r : R} {st : VS} {K : Exit -> VS -> Option R} {Km : Nat -> Exit -> VS -> Option R},
 codeV X A T x st K = some r -> (∀ e st, K e st = some r -> Evt fun m => Km m e st = some r) -> Evt fun m => codeV (X.over (c m) (l m)) A T x st (Km m) = some r
 | .skip, R, r, st, K, Km, h, hK => hK _ _ h
 | .exit id, R, r, st, K, Km, h, hK => hK _ _ h
 | .ret, R, r, st, K, Km, h, hK => hK _ _ h
 | .region id ops draw, R, r, st, K, Km, h, hK => by
   cases draw with
   | false =>
     simp only [codeV] at h ⊢
     exact regV_app hN h fun cl st h => hK _ _ h
   | true =>
     simp only [codeV] at h ⊢
     refine regV_app hN h fun cl st h => ?_
     split at h
     ·exact hK _ _ h
     ·cases h
 | .cond y a b, R, r, st, K, Km, h, hK => by
   simp only [codeV] at h ⊢
   obtain ⟨v, h, hv⟩ := va_eq h
   rcases ifVV_some h with ⟨rfl, h⟩ | ⟨rfl, h⟩ | ⟨rfl, h, h'⟩
   ·exact (codeV_app hN a h hK).imp fun m hm => by rw [hv]; exact hm
   ·exact (codeV_app hN b h hK).imp fun m hm => by rw [hv]; exact hm
   ·exact ((codeV_app hN a h hK).and (codeV_app hN b h' hK)).imp fun m hm => by rw [hv]; show bothR _ _ = _; unfold bothR; rw [hm.1, hm.2, if_pos rfl]
 | .block id a, R, r, st, K, Km, h, hK => by
   simp only [codeV] at h ⊢
   refine codeV_app hN a h fun e st h => ?_
   cases e with
   | exit i =>
     simp only at h ⊢
     split at h
     ·rename_i hb; exact (hK _ _ h).imp fun m hm => by first | exact hm | (rw [hb]; exact hm)
     ·rename_i hb; exact (hK _ _ h).imp fun m hm => by first | exact hm | (rw [hb]; exact hm)
   | _ => exact hK _ _ h
 | .seq a b, R, r, st, K, Km, h, hK => by
   simp only [codeV] at h ⊢
   have behind : ∀ (e : Exit) (st : VS), (match e with | .normal => codeV X A T b st K | e => K e st) = some r -> Evt fun m => (match e with | .normal => codeV (X.over (c m) (l m)) A T b st (Km m) | e => Km m e st) = some r := by
    intro e st h
    cases e with
    | normal => exact codeV_app hN b h hK
    | _ => exact hK _ _ h
   split at h
   ·rename_i hj
    exact (codeV_app hN a h (Km := fun m e st => match e with | .normal => codeV (X.over (c m) (l m)) A T b st (Km m) | e => Km m e st) behind).imp fun m hm => hm
   ·rename_i outs hj
    obtain ⟨s, hs, h⟩ := bind_some' h
    obtain ⟨e, st', h1, h2⟩ := inV_eq h
    refine ((codeV_app hN a hs (Km := fun _ e st => outV outs e st fun n vs hp => some (n, vs, hp)) fun e st h => Evt.of fun _ => h).and (behind e st' h1)).imp fun m ⟨g1, g2⟩ => ?_
    show (Option.bind _ _) = some r
    rw [g1]
    simp only [Option.bind_some]
    rw [h2]; exact g2
 | .loop a, R, r, st, K, Km, h, hK => by
   simp only [codeV] at h ⊢
   split at h
   ·cases h
   ·rename_i li hli
    obtain ⟨vs, h, h0⟩ := saveV_eq h
    obtain ⟨res, hres, h⟩ := bind_some' h
    obtain ⟨e, st', h1, h2⟩ := inV_eq h
    have hB := hN.lp _ (fun m vs hp => loadV li.ks vs hp fun st => codeV (X.over (c m) (l m)) A T a st fun e st => match e with
     | .normal => saveV li.ks st fun vs hp => some (none, vs, hp)
     | e => outV li.outs e st fun n vs hp => some (some n, vs, hp)) (fun vs hp res hr => by
     obtain ⟨s, g1, g2⟩ := loadV_eq hr
     exact (codeV_app hN a g1 (Km := fun _ e st => match e with
      | .normal => saveV li.ks st fun vs hp => some (none, vs, hp)
      | e => outV li.outs e st fun n vs hp => some (some n, vs, hp)) fun e st h => Evt.of fun _ => h).imp fun m hm => by rw [g2]; exact hm) _ _ _ hres
    refine (hB.and (hK e st' h1)).imp fun m ⟨g1, g2⟩ => ?_
    rw [h0]
    exact (congrArg (fun (o : Option (Nat × List V × VH)) => o.bind fun q => inV li.outs q.1 q.2.1 q.2.2 (Km m)) g1).trans ((h2 R (Km m)).trans g2)
 | .rangeFunc .., R, r, st, K, Km, h, hK => by cases h
 | .scope .., R, r, st, K, Km, h, hK => by cases h
 | .label .., R, r, st, K, Km, h, hK => by cases h
 | .goto .., R, r, st, K, Km, h, hK => by cases h
 | .refuse .., R, r, st, K, Km, h, hK => by cases h
theorem vtV_over {R : Type} (X : XV) (c : CallV) (l : LpV) (st : VS) (t : Nat) (K : V -> VS -> Option R) : vtV (X.over c l) st (.tmp t) K = vtV X st (.tmp t) K := rfl
theorem resV_over {R : Type} (X : XV) (c : CallV) (l : LpV) : ∀ (rs : List ResultVar) (st : VS) (K : List V -> VS -> Option R), resV (X.over c l) rs st K = resV X rs st K
 | [], st, K => rfl
 | .tmp t :: rs, st, K => by
   simp only [resV, vtV_over]
   congr 1; funext v st
   exact resV_over X c l rs st _
 | .cell a t :: rs, st, K => by
   simp only [resV, overV_tab, resV_over X c l rs]
theorem bodyV_app (hN : NearV X c l) {f : FuncId} {args : List V} {H : VH} {r : V × VH} (h : bodyV X f args H = some r) : Evt fun m => bodyV (X.over (c m) (l m)) f args H = some r := by
 unfold bodyV at h ⊢
 have e1 : ∀ m, (X.over (c m) (l m)).fn f = X.fn f := fun _ => rfl
 have e2 : ∀ m, (X.over (c m) (l m)).ann f = X.ann f := fun _ => rfl
 have e3 : ∀ m, (X.over (c m) (l m)).takes f = X.takes f := fun _ => rfl
 simp only [e1, e2, e3]
 split at h
 ·cases h
 ·rename_i fn hf
  split at h
  ·cases h
  ·rename_i x hx
   split at h
   ·rename_i hd
    try simp only [hf, hx, hd]
    refine (codeV_app hN x h (Km := fun m e st => match e with
     | .normal | .ret => resV (X.over (c m) (l m)) fn.results.toList st fun vs st => some (oneV vs, st.H)
     | _ => none) fun e st h => Evt.of fun m => ?_).imp fun m hm => hm
    cases e <;> first | (simp only [resV_over]; exact h) | exact h
   ·cases h
end
noncomputable def roundV (X : XV) (A : Ann) (T : List Nat) (li : LInfo) (a : Code) (vs : List V) (H : VH) : Option (Option Nat × List V × VH) :=
 loadV li.ks vs H fun st => codeV X A T a st fun e st => match e with
  | .normal => saveV li.ks st fun vs hp => some (none, vs, hp)
  | e => outV li.outs e st fun n vs hp => some (some n, vs, hp)
structure BaseV where
 b : Base
 glob : Nat -> Option (List V)
 takes : FuncId -> List Nat
 mv : FuncId -> List Nat
 prim : FuncId -> Option (List V -> VH -> Option (V × VH))
def BaseV.ctx (b : BaseV) (call : CallV) (lp : LpV) : XV := ⟨b.b.ng, b.b.tab, b.b.fn, b.b.ann, b.b.kind, b.b.ext, b.glob, b.takes, b.mv, call, lp⟩
def lpVN : Nat -> LpV
 | 0, _, _, _ => none
 | n + 1, B, vs, hp => match B vs hp with
   | none => none
   | some (none, vs, hp) => lpVN n B vs hp
   | some (some m, vs, hp) => some (m, vs, hp)
noncomputable def callVN (b : BaseV) : Nat -> CallV
 | 0, _, _, _ => none
 | n + 1, f, args, H => match b.prim f with
   | some g => g args H
   | none => bodyV (b.ctx (callVN b n) (lpVN n)) f args H
noncomputable def lpW' : LpV := fun B vs hp => limO fun n => lpVN n B vs hp
noncomputable def callV (b : BaseV) : CallV := fun f args H => limO fun n => callVN b n f args H
theorem lpVN_Lp {B : List V -> VH -> Option (Option Nat × List V × VH)} : ∀ {n : Nat} {vs : List V} {hp : VH} {res : Nat × List V × VH}, lpVN n B vs hp = some res -> ∃ m, LpV' B m vs hp res
 | 0, _, _, _, h => by cases h
 | n + 1, vs, hp, res, h => by
   simp only [lpVN] at h
   split at h
   ·cases h
   ·rename_i hb
    obtain ⟨m, hm⟩ := lpVN_Lp h
    exact ⟨m + 1, .more hb hm⟩
   ·rename_i hb
    cases h
    exact ⟨0, .stop hb⟩
theorem Lp_lpVN {B : List V -> VH -> Option (Option Nat × List V × VH)} {Bm : Nat -> List V -> VH -> Option (Option Nat × List V × VH)} (hB : ∀ vs hp res, B vs hp = some res -> Evt fun m => Bm m vs hp = some res)
 {n : Nat} {vs : List V} {hp : VH} {res : Nat × List V × VH} (h : LpV' B n vs hp res) : Evt fun m => ∀ k, n < k -> lpVN k (Bm m) vs hp = some res := by
 induction h with
 | stop h =>
   refine (hB _ _ _ h).imp fun m hm k hk => ?_
   obtain ⟨k, rfl⟩ : ∃ j, k = j + 1 := ⟨k - 1, by omega⟩
   simp only [lpVN, hm]
 | more h _ ih =>
   refine ((hB _ _ _ h).and ih).imp fun m ⟨g1, g2⟩ k hk => ?_
   obtain ⟨k, rfl⟩ : ∃ j, k = j + 1 := ⟨k - 1, by omega⟩
   simp only [lpVN, g1]
   exact g2 k (by omega)
theorem lpVOk_N (n : Nat) : LpVOk (lpVN n) := fun _ _ _ _ h => lpVN_Lp h
theorem callVN_mono (b : BaseV) : ∀ (n : Nat) (f : FuncId) (args : List V) (H : VH) (r : V × VH), callVN b n f args H = some r -> ∀ m, n <= m -> callVN b m f args H = some r := by
 intro n
 induction n with
 | zero => intro f args H r h; cases h
 | succ n ih =>
   intro f args H r h m hm
   obtain ⟨m, rfl⟩ : ∃ j, m = j + 1 := ⟨m - 1, by omega⟩
   simp only [callVN] at h ⊢
   split at h
   ·rename_i g hg; first | exact h | (simp only [hg]; exact h)
   ·rename_i hg
    try simp only [hg]
    have hN : NearV (b.ctx (callVN b n) (lpVN n)) (fun _ => callVN b m) (fun _ => lpVN m) := by
     refine ⟨fun f vs hp res h => Evt.of fun _ => ih f vs hp res h m (by omega), fun B Bm hB vs hp res h => ?_⟩
     have h' : lpVN n B vs hp = some res := h
     clear h
     have : ∀ (n m : Nat) (vs : List V) (hp : VH), n <= m -> lpVN n B vs hp = some res -> Evt fun k => lpVN m (Bm k) vs hp = some res := by
      intro n
      induction n with
      | zero => intro m vs hp _ h; cases h
      | succ n ihn =>
        intro m vs hp hm h
        obtain ⟨m, rfl⟩ : ∃ j, m = j + 1 := ⟨m - 1, by omega⟩
        simp only [lpVN] at h
        split at h
        ·cases h
        ·rename_i hb
         exact ((hB _ _ _ hb).and (ihn m _ _ (by omega) h)).imp fun k ⟨g1, g2⟩ => by simp only [lpVN, g1]; exact g2
        ·rename_i hb
         cases h
         exact (hB _ _ _ hb).imp fun k g1 => by simp only [lpVN, g1]
     exact this n m vs hp (by omega) h'
    exact (bodyV_app hN h).const
theorem callV_of {b : BaseV} {n : Nat} {f : FuncId} {args : List V} {H : VH} {r : V × VH} (h : callVN b n f args H = some r) : callV b f args H = some r :=
 limO_some.2 ⟨n, fun m hm => callVN_mono b n f args H r h m hm⟩
theorem lpW'_of {n : Nat} {B : List V -> VH -> Option (Option Nat × List V × VH)} {vs : List V} {hp : VH} {r : Nat × List V × VH} (h : lpVN n B vs hp = some r) : lpW' B vs hp = some r := by
 obtain ⟨m, hm⟩ := lpVN_Lp h
 obtain ⟨n1, h1⟩ := Lp_lpVN (Bm := fun _ => B) (fun _ _ _ h => Evt.of fun _ => h) hm
 exact limO_some.2 ⟨m + 1, fun k hk => h1 n1 (Nat.le_refl _) k (by omega)⟩
theorem callV_eq (b : BaseV) (f : FuncId) (args : List V) (H : VH) (hp' : b.prim f = none) : callV b f args H = bodyV (b.ctx (callV b) lpW') f args H := by
 have to : ∀ r, callV b f args H = some r -> bodyV (b.ctx (callV b) lpW') f args H = some r := by
  intro r h
  obtain ⟨n, hn⟩ := limO_some.1 h
  have := hn (n + 1) (by omega)
  simp only [callVN, hp'] at this
  have hN : NearV (b.ctx (callVN b n) (lpVN n)) (fun _ => callV b) (fun _ => lpW') := by
   refine ⟨fun f vs hp res h => Evt.of fun _ => callV_of h, fun B Bm hB vs hp res h => ?_⟩
   obtain ⟨m, hm⟩ := lpVN_Lp (n := n) h
   exact (Lp_lpVN hB hm).imp fun k hk => lpW'_of (hk (m + 1) (by omega))
  exact (bodyV_app hN this).const
 have back : ∀ r, bodyV (b.ctx (callV b) lpW') f args H = some r -> callV b f args H = some r := by
  intro r h
  have hN : NearV (b.ctx (callV b) lpW') (callVN b) lpVN := by
   refine ⟨fun f vs hp res h => limO_some.1 h, fun B Bm hB vs hp res h => ?_⟩
   obtain ⟨n, hn⟩ := limO_some.1 h
   obtain ⟨m, hm⟩ := lpVN_Lp (hn n (Nat.le_refl _))
   obtain ⟨n1, h1⟩ := Lp_lpVN hB hm
   exact ⟨max n1 (m + 1), fun k hk => h1 k (by omega) k (by omega)⟩
  obtain ⟨n, hn⟩ := bodyV_app hN h
  have h1 : callVN b (n + 1) f args H = some r := by
   simp only [callVN, hp']
   exact hn n (Nat.le_refl _)
  exact callV_of h1
 cases h1 : callV b f args H with
 | some r => exact (to r h1).symm
 | none =>
   cases h2 : bodyV (b.ctx (callV b) lpW') f args H with
   | none => rfl
   | some r => rw [back r h2] at h1; cases h1
theorem callV_prim (b : BaseV) (f : FuncId) (args : List V) (H : VH) {g : List V -> VH -> Option (V × VH)} (hp' : b.prim f = some g) : callV b f args H = g args H := by
 cases h : g args H with
 | some r => exact callV_of (n := 1) (by simp only [callVN, hp']; exact h)
 | none =>
   cases h2 : callV b f args H with
   | none => rfl
   | some r =>
     obtain ⟨n, hn⟩ := limO_some.1 h2
     have := hn (n + 1) (by omega)
     simp only [callVN, hp', h] at this
     cases this
theorem lpW'_eq (B : List V -> VH -> Option (Option Nat × List V × VH)) (vs : List V) (hp : VH) :
 lpW' B vs hp = match B vs hp with | none => none | some (none, vs, hp) => lpW' B vs hp | some (some m, vs, hp) => some (m, vs, hp) := by
 cases hb : B vs hp with
 | none =>
   simp only
   cases h : lpW' B vs hp with
   | none => rfl
   | some r =>
     obtain ⟨n, hn⟩ := limO_some.1 h
     have := hn (n + 1) (by omega)
     simp only [lpVN, hb] at this; cases this
 | some x =>
   obtain ⟨o, vs1, hp1⟩ := x
   cases o with
   | some m => exact lpW'_of (n := 1) (by simp only [lpVN, hb])
   | none =>
     simp only
     cases h : lpW' B vs1 hp1 with
     | some r =>
       obtain ⟨n, hn⟩ := limO_some.1 h
       exact lpW'_of (n := n + 1) (by simp only [lpVN, hb]; exact hn n (Nat.le_refl _))
     | none =>
       cases h2 : lpW' B vs hp with
       | none => rfl
       | some r =>
         obtain ⟨n, hn⟩ := limO_some.1 h2
         have := hn (n + 1) (by omega)
         simp only [lpVN, hb] at this
         rw [lpW'_of this] at h; cases h
structure BaseVOk (b : BaseV) : Prop where
 zero : ∀ t ti, look b.b.tab t = some ti -> ∀ u ∈ ti.zero, pureV1 u = true
 sl : ∀ t e esz eb z ag n zz, look b.b.tab t = some ⟨.slice e esz eb z, ag, n, zz⟩ -> (∀ u ∈ z, pureV1 u = true) /\ z.length = esz /\ 0 < esz
 gd : ∀ g cs, b.glob g = some cs -> dataL cs = true
 pos : ∀ t ti, look b.b.tab t = some ti -> 0 < ti.size
 noprim : ∀ f, b.prim f = none -> b.b.prim f = none
 prim : ∀ f g args r H H', b.prim f = some g -> g args H = some (r, H') -> CallSim (b.ctx (callV b) lpW') (callW b.b) f args H r H'
theorem GlobOk.ctx {b : BaseV} {c c' : CallV} {l l' : LpV} {w : Wd} (h : GlobOk (b.ctx c l) w) : GlobOk (b.ctx c' l') w := h
theorem CallSim.ctx {b : BaseV} {c c' : CallV} {l l' : LpV} {call : CallT} {f : FuncId} {args : List V} {H H' : VH} {r : V} (h : CallSim (b.ctx c l) call f args H r H') : CallSim (b.ctx c' l') call f args H r H' := h
theorem callVN_sim {b : BaseV} (hb : BaseVOk b) : ∀ (n : Nat) (f : FuncId) (args : List V) (H : VH) (r : V) (H' : VH), callVN b n f args H = some (r, H') -> CallSim (b.ctx (callV b) lpW') (callW b.b) f args H r H'
 | 0, f, args, H, r, H', h => by cases h
 | n + 1, f, args, H, r, H', h => by
   simp only [callVN] at h
   split at h
   ·rename_i g hg
    exact hb.prim f g args _ _ _ hg h
   ·rename_i hg
    have hs := body_sim (X := b.ctx (callVN b n) (lpVN n)) (Y := b.b.ctx (callW b.b) lpW) ⟨rfl, rfl, rfl, rfl, rfl, rfl⟩ ⟨hb.zero, hb.sl, hb.gd, hb.pos⟩ (fun f args H r H' h => callVN_sim hb n f args H r H' h) (lpVOk_N n) (fun B vs hp => lpW_eq B vs hp) h
    intro w args' ca ch h1 h2 h3 h4 h5 h6
    obtain ⟨x, w2, cr, ch', q1, q2⟩ := hs w args' ca ch h1 h2 h3 h4 h5 h6
    exact ⟨x, w2, cr, ch', by rw [callW_eq b.b f args' w.hp (hb.noprim f hg)]; exact q1, q2⟩
theorem callV_sim {b : BaseV} (hb : BaseVOk b) {f : FuncId} {args : List V} {H : VH} {r : V} {H' : VH} (h : callV b f args H = some (r, H')) : CallSim (b.ctx (callV b) lpW') (callW b.b) f args H r H' := by
 obtain ⟨n, hn⟩ := limO_some.1 h
 exact callVN_sim hb n f args H r H' (hn n (Nat.le_refl _))
theorem callV_true {P : Program} {b : BaseV} (hb : BaseVOk b) (hP : BaseOk P b.b) {f : FuncId} {args : List V} {H' : VH} (h : callV b f args [] = some (.bool true, H')) {hp : Heap} {vs : List Value}
 (hw : HW ⟨hp, [], []⟩) (hg : GlobOk (b.ctx (callV b) lpW') ⟨hp, [], []⟩) (hv : RVs ⟨hp, [], []⟩ args vs (fun _ => 0)) {ι : Inj} {w : World} {args' : Array Value}
 (hR : Rel b.b.ng ι hp w w.heap.size) (ha : VRs ι vs args'.toList) (hro : ∀ b k, blkAt hp b = some k -> k.md ≠ .rw) :
 Calls P f args' w fun e w' => e = .returned (.bool true) /\ Below w.heap.size w w' := by
 obtain ⟨x, w2, cr, ch', q1, q2, q3, q4, q5, q6⟩ := callV_sim hb h ⟨hp, [], []⟩ vs (fun _ => 0) (fun _ => 0) hw hg hv (by simp [ROs]) (by simp) (by simp)
 simp only [RV] at q5
 rw [q5.1] at q1
 exact callW_true hP q1 hR ha hro
end Go.AM

/- Words for printed runs of the machine of values, and what the tables owe. -/
namespace Go.AM
set_option linter.unusedSimpArgs false
set_option linter.unusedVariables false
def gotV {R : Type} (n : Nat) (vs : List V) (K : (Nat -> V) -> Option R) : Option R := if vs.length = n then K (fun i => vs.getD i .nilp) else none
def listOf (l : List (Nat × List Nat)) (f : FuncId) : List Nat := (look l f).getD []
theorem tab_zero {P : Program} {l : List (Nat × TI)} (h : ∀ t ti, look l t = some ti -> TIok P t ti) : ∀ t ti, look l t = some ti -> ∀ u ∈ ti.zero, pureV1 u = true := fun t ti e => by
 obtain ⟨i, v, _, _, _, _, _, h7⟩ := (h t ti e).info
 exact h7
theorem tab_sl {P : Program} {l : List (Nat × TI)} (h : ∀ t ti, look l t = some ti -> TIok P t ti) : ∀ t e esz eb z ag n zz, look l t = some ⟨.slice e esz eb z, ag, n, zz⟩ -> (∀ u ∈ z, pureV1 u = true) /\ z.length = esz /\ 0 < esz := fun t e esz eb z ag n zz hl => by
 obtain ⟨d, _, _, h3⟩ := (h t _ hl).und
 simp only [TKok] at h3
 obtain ⟨_, i, v, _, _, _, _, _, h4, h5, _, h6⟩ := h3
 exact ⟨h6, h4, h5⟩
def posB : List (Nat × TI) -> Bool
 | [] => true
 | (_, x) :: l => Nat.blt 0 x.size && posB l
theorem tab_pos : ∀ {l : List (Nat × TI)}, posB l = true -> ∀ t ti, look l t = some ti -> 0 < ti.size
 | [], _, t, ti, h => by simp [look] at h
 | (k, x) :: l, hp, t, ti, h => by
   simp only [posB, Bool.and_eq_true] at hp
   simp only [look] at h
   split at h
   ·cases h
    exact Nat.le_of_ble_eq_true hp.1
   ·exact tab_pos hp.2 t ti h
end Go.AM

/- What the words of a printed run come to at values that are known. -/
namespace Go.AM
set_option linter.unusedSimpArgs false
set_option linter.unusedVariables false
theorem st_bool (b : Bool) : strip (.bool b) = .bool b := by exact id rfl
theorem st_int (k : IntKind) (n : Int) : strip (.int k n) = .int k n := by exact id rfl
theorem st_str (s : List UInt8) : strip (.str s) = .str s := by exact id rfl
theorem st_nilp : strip .nilp = .nilp := by exact id rfl
theorem st_ptr (k o : Nat) : strip (.ptr k o) = .ptr k o := by exact id rfl
theorem st_elt (c : List V) (o : Nat) : strip (.elt c o) = .elt c o := by exact id rfl
theorem st_fn (f : FuncId) (c : List V) : strip (.fn f c) = .fn f c := by exact id rfl
theorem st_sl (o : Bool) (xs : List (List V)) : strip (.sl o xs) = .sl false (stripLL xs) := by exact id rfl
theorem st_agg (cs : List V) : strip (.agg cs) = .agg (stripL cs) := by exact id rfl
theorem st_tup (cs : List V) : strip (.tup cs) = .tup (stripL cs) := by exact id rfl
theorem stL_nil : stripL [] = [] := by exact id rfl
theorem stL_cons (v : V) (l : List V) : stripL (v :: l) = strip v :: stripL l := by exact id rfl
theorem stLL_nil : stripLL [] = [] := by exact id rfl
theorem stLL_cons (v : List V) (l : List (List V)) : stripLL (v :: l) = stripL v :: stripLL l := by exact id rfl
theorem fz_bool (H : VH) (b : Bool) : frz H (.bool b) = .bool b := by exact id rfl
theorem fz_int (H : VH) (k : IntKind) (n : Int) : frz H (.int k n) = .int k n := by exact id rfl
theorem fz_str (H : VH) (s : List UInt8) : frz H (.str s) = .str s := by exact id rfl
theorem fz_sl (H : VH) (o : Bool) (xs : List (List V)) : frz H (.sl o xs) = .sl false (stripLL xs) := by exact id rfl
theorem fz_agg (H : VH) (cs : List V) : frz H (.agg cs) = .agg (stripL cs) := by exact id rfl
theorem fz_fn (H : VH) (f : FuncId) (cs : List V) : frz H (.fn f cs) = .fn f (cs.map (frz1 H)) := by exact id rfl
theorem fz_fn0 (H : VH) (f : FuncId) : frz H (.fn f []) = .fn f [] := by exact id rfl
theorem fz_ptr (H : VH) (k o : Nat) : frz H (.ptr k o) = frzP (H.getD k []) k o := by exact id rfl
theorem fzP_cons (c : V) (cs : List V) (k o : Nat) : frzP (c :: cs) k o = .elt (stripL (c :: cs)) o := by exact id rfl
theorem fz_elt (H : VH) (c : List V) (o : Nat) : frz H (.elt c o) = .elt c o := by exact id rfl
theorem fz1_ptr (H : VH) (k o : Nat) : frz1 H (.ptr k o) = frzP (H.getD k []) k o := by exact id rfl
theorem map_nil' {α β : Type} (f : α -> β) : ([] : List α).map f = [] := by exact id rfl
theorem map_cons' {α β : Type} (f : α -> β) (a : α) (l : List α) : (a :: l).map f = f a :: l.map f := by exact id rfl
theorem app_nil' {α : Type} (l : List α) : [] ++ l = l := by exact id rfl
theorem app_cons' {α : Type} (a : α) (l m : List α) : (a :: l) ++ m = a :: (l ++ m) := by exact id rfl
theorem np_bool (b : Bool) : noPtr (.bool b) = true := by exact id rfl
theorem np_int (k : IntKind) (n : Int) : noPtr (.int k n) = true := by exact id rfl
theorem np_str (s : List UInt8) : noPtr (.str s) = true := by exact id rfl
theorem np_sl (o : Bool) (xs : List (List V)) : noPtr (.sl o xs) = noPtrLL xs := by exact id rfl
theorem np_agg (cs : List V) : noPtr (.agg cs) = noPtrL cs := by exact id rfl
theorem np_elt (cs : List V) (o : Nat) : noPtr (.elt cs o) = noPtrL cs := by exact id rfl
theorem np_fn (f : FuncId) (cs : List V) : noPtr (.fn f cs) = noPtrL cs := by exact id rfl
theorem npL_nil : noPtrL [] = true := by exact id rfl
theorem npL_cons (v : V) (l : List V) : noPtrL (v :: l) = (noPtr v && noPtrL l) := by exact id rfl
theorem npLL_nil : noPtrLL [] = true := by exact id rfl
theorem npLL_cons (v : List V) (l : List (List V)) : noPtrLL (v :: l) = (noPtrL v && noPtrLL l) := by exact id rfl
theorem d_bool (b : Bool) : data (.bool b) = true := by exact id rfl
theorem d_int (k : IntKind) (n : Int) : data (.int k n) = true := by exact id rfl
theorem d_str (s : List UInt8) : data (.str s) = true := by exact id rfl
theorem d_sl (o : Bool) (xs : List (List V)) : data (.sl o xs) = dataLL xs := by exact id rfl
theorem d_agg (cs : List V) : data (.agg cs) = dataL cs := by exact id rfl
theorem d_tup (cs : List V) : data (.tup cs) = dataL cs := by exact id rfl
theorem dL_nil : dataL [] = true := by exact id rfl
theorem dL_cons (v : V) (l : List V) : dataL (v :: l) = (data v && dataL l) := by exact id rfl
theorem dLL_nil : dataLL [] = true := by exact id rfl
theorem dLL_cons (v : List V) (l : List (List V)) : dataLL (v :: l) = (dataL v && dataLL l) := by exact id rfl
theorem sc_bool (b : Bool) : scalV (.bool b) = true := by exact id rfl
theorem sc_int (k : IntKind) (n : Int) : scalV (.int k n) = true := by exact id rfl
theorem sc_str (s : List UInt8) : scalV (.str s) = true := by exact id rfl
theorem sc_tup (l : List V) : scalV (.tup l) = l.all scal1 := by exact id rfl
theorem s1_bool (b : Bool) : scal1 (.bool b) = true := by exact id rfl
theorem s1_int (k : IntKind) (n : Int) : scal1 (.int k n) = true := by exact id rfl
theorem s1_str (s : List UInt8) : scal1 (.str s) = true := by exact id rfl
theorem al_nil {α : Type} (p : α -> Bool) : ([] : List α).all p = true := by exact id rfl
theorem al_cons {α : Type} (p : α -> Bool) (a : α) (l : List α) : (a :: l).all p = (p a && l.all p) := by exact id rfl
theorem an_tt : (true && true) = true := by exact id rfl
theorem bind_s {α β : Type} (a : α) (f : α -> Option β) : (some a).bind f = f a := by exact id rfl
theorem id_s {α : Type} (a : α) : id a = a := by exact id rfl
theorem if_bool {R : Type} (b : Bool) (x y : Option R) : ifVV (.bool b) x y = if b = true then x else y := by cases b <;> rfl
theorem if_ub {R : Type} (x : Option R) : ifVV .ub x x = x := by show bothR x x = x; unfold bothR; rw [if_pos rfl]
theorem ig_bool {R : Type} (b : Bool) (x y : Option R) : ifGV (.bool b) x y = if b = true then x else y := by cases b <;> rfl
theorem ig_t {R : Type} (x y : Option R) : ifGV (.bool true) x y = x := by exact id rfl
theorem ig_f {R : Type} (x y : Option R) : ifGV (.bool false) x y = y := by exact id rfl
theorem st_ub : strip .ub = .ub := by exact id rfl
theorem if_t {R : Type} (x y : Option R) : ifVV (.bool true) x y = x := by exact id rfl
theorem if_f {R : Type} (x y : Option R) : ifVV (.bool false) x y = y := by exact id rfl
theorem in_0 {R : Type} (a : Option R) (l : List (Option R)) : inN 0 (a :: l) = a := by exact id rfl
theorem in_1 {R : Type} (a b : Option R) (l : List (Option R)) : inN 1 (a :: b :: l) = b := by exact id rfl
theorem in_2 {R : Type} (a b c : Option R) (l : List (Option R)) : inN 2 (a :: b :: c :: l) = c := by exact id rfl
theorem in_3 {R : Type} (a b c d : Option R) (l : List (Option R)) : inN 3 (a :: b :: c :: d :: l) = d := by exact id rfl
theorem in_4 {R : Type} (a b c d e : Option R) (l : List (Option R)) : inN 4 (a :: b :: c :: d :: e :: l) = e := by exact id rfl
theorem gt_0 {R : Type} (K : (Nat -> V) -> Option R) : gotV 0 [] K = K fun i => ([] : List V).getD i .nilp := by exact id rfl
theorem gt_1 {R : Type} (a : V) (K : (Nat -> V) -> Option R) : gotV 1 [a] K = K fun i => [a].getD i .nilp := by exact id rfl
theorem gt_2 {R : Type} (a b : V) (K : (Nat -> V) -> Option R) : gotV 2 [a, b] K = K fun i => [a, b].getD i .nilp := by exact id rfl
theorem gt_3 {R : Type} (a b c : V) (K : (Nat -> V) -> Option R) : gotV 3 [a, b, c] K = K fun i => [a, b, c].getD i .nilp := by exact id rfl
theorem gt_4 {R : Type} (a b c d : V) (K : (Nat -> V) -> Option R) : gotV 4 [a, b, c, d] K = K fun i => [a, b, c, d].getD i .nilp := by exact id rfl
theorem gt_5 {R : Type} (a b c d e : V) (K : (Nat -> V) -> Option R) : gotV 5 [a, b, c, d, e] K = K fun i => [a, b, c, d, e].getD i .nilp := by exact id rfl
theorem gt_6 {R : Type} (a b c d e f : V) (K : (Nat -> V) -> Option R) : gotV 6 [a, b, c, d, e, f] K = K fun i => [a, b, c, d, e, f].getD i .nilp := by exact id rfl
theorem gt_7 {R : Type} (a b c d e f g : V) (K : (Nat -> V) -> Option R) : gotV 7 [a, b, c, d, e, f, g] K = K fun i => [a, b, c, d, e, f, g].getD i .nilp := by exact id rfl
theorem gt_8 {R : Type} (a b c d e f g h : V) (K : (Nat -> V) -> Option R) : gotV 8 [a, b, c, d, e, f, g, h] K = K fun i => [a, b, c, d, e, f, g, h].getD i .nilp := by exact id rfl
theorem gt_9 {R : Type} (a b c d e f g h j : V) (K : (Nat -> V) -> Option R) : gotV 9 [a, b, c, d, e, f, g, h, j] K = K fun i => [a, b, c, d, e, f, g, h, j].getD i .nilp := by exact id rfl
theorem gt_10 {R : Type} (a b c d e f g h j k : V) (K : (Nat -> V) -> Option R) : gotV 10 [a, b, c, d, e, f, g, h, j, k] K = K fun i => [a, b, c, d, e, f, g, h, j, k].getD i .nilp := by exact id rfl
theorem gd_z {α : Type} (a d : α) (l : List α) : (a :: l).getD 0 d = a := by exact id rfl
theorem gd_1 {α : Type} (a b d : α) (l : List α) : (a :: b :: l).getD 1 d = b := by exact id rfl
theorem gd_2 {α : Type} (a b c d : α) (l : List α) : (a :: b :: c :: l).getD 2 d = c := by exact id rfl
theorem gd_3 {α : Type} (a b c e d : α) (l : List α) : (a :: b :: c :: e :: l).getD 3 d = e := by exact id rfl
theorem gd_4 {α : Type} (a b c e f d : α) (l : List α) : (a :: b :: c :: e :: f :: l).getD 4 d = f := by exact id rfl
theorem gd_5 {α : Type} (a b c e f g d : α) (l : List α) : (a :: b :: c :: e :: f :: g :: l).getD 5 d = g := by exact id rfl
theorem gd_6 {α : Type} (a b c e f g h d : α) (l : List α) : (a :: b :: c :: e :: f :: g :: h :: l).getD 6 d = h := by exact id rfl
theorem gd_7 {α : Type} (a b c e f g h j d : α) (l : List α) : (a :: b :: c :: e :: f :: g :: h :: j :: l).getD 7 d = j := by exact id rfl
theorem gd_8 {α : Type} (a b c e f g h j k d : α) (l : List α) : (a :: b :: c :: e :: f :: g :: h :: j :: k :: l).getD 8 d = k := by exact id rfl
theorem gd_9 {α : Type} (a b c e f g h j k m d : α) (l : List α) : (a :: b :: c :: e :: f :: g :: h :: j :: k :: m :: l).getD 9 d = m := by exact id rfl
theorem gt_11 {R : Type} (a b c d e f g h j k m : V) (K : (Nat -> V) -> Option R) : gotV 11 [a, b, c, d, e, f, g, h, j, k, m] K = K fun i => [a, b, c, d, e, f, g, h, j, k, m].getD i .nilp := by exact id rfl
theorem gt_12 {R : Type} (a b c d e f g h j k m n : V) (K : (Nat -> V) -> Option R) : gotV 12 [a, b, c, d, e, f, g, h, j, k, m, n] K = K fun i => [a, b, c, d, e, f, g, h, j, k, m, n].getD i .nilp := by exact id rfl
theorem gt_13 {R : Type} (a b c d e f g h j k m n o : V) (K : (Nat -> V) -> Option R) : gotV 13 [a, b, c, d, e, f, g, h, j, k, m, n, o] K = K fun i => [a, b, c, d, e, f, g, h, j, k, m, n, o].getD i .nilp := by exact id rfl
theorem gt_14 {R : Type} (a b c d e f g h j k m n o p : V) (K : (Nat -> V) -> Option R) : gotV 14 [a, b, c, d, e, f, g, h, j, k, m, n, o, p] K = K fun i => [a, b, c, d, e, f, g, h, j, k, m, n, o, p].getD i .nilp := by exact id rfl
theorem gt_15 {R : Type} (a b c d e f g h j k m n o p q : V) (K : (Nat -> V) -> Option R) : gotV 15 [a, b, c, d, e, f, g, h, j, k, m, n, o, p, q] K = K fun i => [a, b, c, d, e, f, g, h, j, k, m, n, o, p, q].getD i .nilp := by exact id rfl
theorem gd_10 {α : Type} (x0 x1 x2 x3 x4 x5 x6 x7 x8 x9 x10 d : α) (l : List α) : (x0 :: x1 :: x2 :: x3 :: x4 :: x5 :: x6 :: x7 :: x8 :: x9 :: x10 :: l).getD 10 d = x10 := by exact id rfl
theorem gd_11 {α : Type} (x0 x1 x2 x3 x4 x5 x6 x7 x8 x9 x10 x11 d : α) (l : List α) : (x0 :: x1 :: x2 :: x3 :: x4 :: x5 :: x6 :: x7 :: x8 :: x9 :: x10 :: x11 :: l).getD 11 d = x11 := by exact id rfl
theorem gd_12 {α : Type} (x0 x1 x2 x3 x4 x5 x6 x7 x8 x9 x10 x11 x12 d : α) (l : List α) : (x0 :: x1 :: x2 :: x3 :: x4 :: x5 :: x6 :: x7 :: x8 :: x9 :: x10 :: x11 :: x12 :: l).getD 12 d = x12 := by exact id rfl
theorem gd_13 {α : Type} (x0 x1 x2 x3 x4 x5 x6 x7 x8 x9 x10 x11 x12 x13 d : α) (l : List α) : (x0 :: x1 :: x2 :: x3 :: x4 :: x5 :: x6 :: x7 :: x8 :: x9 :: x10 :: x11 :: x12 :: x13 :: l).getD 13 d = x13 := by exact id rfl
theorem gd_14 {α : Type} (x0 x1 x2 x3 x4 x5 x6 x7 x8 x9 x10 x11 x12 x13 x14 d : α) (l : List α) : (x0 :: x1 :: x2 :: x3 :: x4 :: x5 :: x6 :: x7 :: x8 :: x9 :: x10 :: x11 :: x12 :: x13 :: x14 :: l).getD 14 d = x14 := by exact id rfl
theorem gd_15 {α : Type} (x0 x1 x2 x3 x4 x5 x6 x7 x8 x9 x10 x11 x12 x13 x14 x15 d : α) (l : List α) : (x0 :: x1 :: x2 :: x3 :: x4 :: x5 :: x6 :: x7 :: x8 :: x9 :: x10 :: x11 :: x12 :: x13 :: x14 :: x15 :: l).getD 15 d = x15 := by exact id rfl
section
variable {B : List V -> VH -> Option (Option Nat × List V × VH)} {vs vs' : List V} {hp hp' : VH} {n : Nat}
theorem lv_more (h : B vs hp = some (none, vs', hp')) : lpW' B vs hp = lpW' B vs' hp' := by rw [lpW'_eq, h]
theorem lv_stop (h : B vs hp = some (some n, vs', hp')) : lpW' B vs hp = some (n, vs', hp') := by rw [lpW'_eq, h]
end
section
variable (tk : TK) (a b : Int) (k : IntKind)
theorem n_lss : vBinV tk .lss (.int k a) (.int k b) = some (.bool (decide (a < b))) := by simp [vBinV, toA, vBin, vIntOp, ofA]
theorem n_leq : vBinV tk .leq (.int k a) (.int k b) = some (.bool (decide (a <= b))) := by simp [vBinV, toA, vBin, vIntOp, ofA]
theorem n_gtr : vBinV tk .gtr (.int k a) (.int k b) = some (.bool (decide (a > b))) := by simp [vBinV, toA, vBin, vIntOp, ofA]
theorem n_geq : vBinV tk .geq (.int k a) (.int k b) = some (.bool (decide (a ≥ b))) := by simp [vBinV, toA, vBin, vIntOp, ofA]
theorem n_eql : vBinV tk .eql (.int k a) (.int k b) = some (.bool (decide (a = b))) := by
 simp only [vBinV, toA, vBin, vIntOp, ofA, Option.bind_some, if_true]
 congr 2
theorem n_neq : vBinV tk .neq (.int k a) (.int k b) = some (.bool (!decide (a = b))) := by
 simp only [vBinV, toA, vBin, vIntOp, ofA, Option.bind_some, if_true]
 congr 2
theorem n_add (h1 : -9223372036854775808 <= a + b) (h2 : a + b <= 9223372036854775807) : vBinV tk .add (.int .i64 a) (.int .i64 b) = some (.int .i64 (a + b)) := by simp [vBinV, toA, vBin, vIntOp, ofA, IntWalk.i64_in _ ⟨h1, h2⟩]
theorem n_sub (h1 : -9223372036854775808 <= a - b) (h2 : a - b <= 9223372036854775807) : vBinV tk .sub (.int .i64 a) (.int .i64 b) = some (.int .i64 (a - b)) := by simp [vBinV, toA, vBin, vIntOp, ofA, IntWalk.i64_in _ ⟨h1, h2⟩]
theorem n_mul (h1 : -9223372036854775808 <= a * b) (h2 : a * b <= 9223372036854775807) : vBinV tk .mul (.int .i64 a) (.int .i64 b) = some (.int .i64 (a * b)) := by simp [vBinV, toA, vBin, vIntOp, ofA, IntWalk.i64_in _ ⟨h1, h2⟩]
theorem n_rem (h : b ≠ 0) : vBinV tk .rem (.int k a) (.int k b) = some (.int k (a.tmod b)) := by simp [vBinV, toA, vBin, vIntOp, ofA, h]
theorem n_quo (h : 0 < b) (h1 : 0 <= a) (h2 : a <= 9223372036854775807) : vBinV tk .quo (.int .i64 a) (.int .i64 b) = some (.int .i64 (a.tdiv b)) := by
 have h3 : 0 <= a.tdiv b := Int.tdiv_nonneg h1 (by omega)
 have h4 : a.tdiv b <= a := Int.tdiv_le_self b h1
 have h5 := IntWalk.i64_in (a.tdiv b) ⟨by omega, by omega⟩
 simp [vBinV, toA, ofA, vBin, vIntOp, show b ≠ 0 by omega, h5]
theorem n_neg (h1 : -9223372036854775807 <= a) (h2 : a <= 9223372036854775807) : vUnV .neg (.int .i64 a) = some (.int .i64 (-a)) := by
 have h5 := IntWalk.i64_in (0 - a) ⟨by omega, by omega⟩
 simp [vUnV, toA, vUn, ofA]
 have : 0 - a = -a := by omega
 rw [this] at h5; exact h5
theorem n_not (b : Bool) : vUnV .not (.bool b) = some (.bool !b) := by exact id rfl
theorem b_eql (a b : Bool) : vBinV .bool .eql (.bool a) (.bool b) = some (.bool (decide (a = b))) := by cases a <;> cases b <;> rfl
theorem b_neq (a b : Bool) : vBinV .bool .neq (.bool a) (.bool b) = some (.bool (!decide (a = b))) := by cases a <;> cases b <;> rfl
end
theorem n_xor (tk : TK) (a b : Nat) (h1 : a < 2 ^ 62) (h2 : b < 2 ^ 62) : vBinV tk .xor (.int .i64 a) (.int .i64 b) = some (.int .i64 ((a ^^^ b : Nat) : Int)) /\ a ^^^ b < 2 ^ 62 := by
 have hlt : a ^^^ b < 2 ^ 62 := Nat.xor_lt_two_pow h1 h2
 refine ⟨?_, hlt⟩
 have e1 : BitVec.ofInt 64 (a : Int) = BitVec.ofNat 64 a := by simp
 have e2 : BitVec.ofInt 64 (b : Int) = BitVec.ofNat 64 b := by simp
 have e3 : (BitVec.ofNat 64 a ^^^ BitVec.ofNat 64 b).toNat = a ^^^ b := by
  rw [BitVec.toNat_xor, BitVec.toNat_ofNat, BitVec.toNat_ofNat, Nat.mod_eq_of_lt (by omega), Nat.mod_eq_of_lt (by omega)]
 have e4 := IntWalk.i64_in ((a ^^^ b : Nat) : Int) ⟨by omega, by omega⟩
 show some (V.int .i64 (IntKind.i64.wrap (((BitVec.ofInt 64 (a : Int) ^^^ BitVec.ofInt 64 (b : Int)).toNat : Nat) : Int))) = _
 rw [e1, e2, e3, e4]
theorem nat_tmod (a b : Nat) : (a : Int).tmod (b : Int) = ((a % b : Nat) : Int) := by rw [Int.tmod_eq_emod_of_nonneg (by omega)]; simp
theorem nat_tdiv (a b : Nat) : (a : Int).tdiv (b : Int) = ((a / b : Nat) : Int) := by simp [Int.ofNat_tdiv]
theorem c_u8i64 (n : Nat) (h : n <= 255) : vConvV .i64 (.int .u8 (n : Int)) = some (.int .i64 (n : Int)) := by simp [vConvV, IntWalk.i64_in (n : Int) ⟨by omega, by omega⟩]
theorem n_mulN (tk : TK) (a b : Nat) (h : a * b <= 9223372036854775807) : vBinV tk .mul (.int .i64 (a : Int)) (.int .i64 (b : Int)) = some (.int .i64 ((a * b : Nat) : Int)) := by
 have e : (a : Int) * (b : Int) = ((a * b : Nat) : Int) := by simp
 rw [n_mul _ _ _ (by rw [e]; omega) (by rw [e]; omega), e]
theorem n_addN (tk : TK) (a b : Nat) (h : a + b <= 9223372036854775807) : vBinV tk .add (.int .i64 (a : Int)) (.int .i64 (b : Int)) = some (.int .i64 ((a + b : Nat) : Int)) := by
 have e : (a : Int) + (b : Int) = ((a + b : Nat) : Int) := by simp
 rw [n_add _ _ _ (by rw [e]; omega) (by rw [e]; omega), e]
theorem n_subN (tk : TK) (a b : Nat) (h : b <= a) (h2 : a <= 9223372036854775807) : vBinV tk .sub (.int .i64 (a : Int)) (.int .i64 (b : Int)) = some (.int .i64 ((a - b : Nat) : Int)) := by
 have e : (a : Int) - (b : Int) = ((a - b : Nat) : Int) := by omega
 rw [n_sub _ _ _ (by rw [e]; omega) (by rw [e]; omega), e]
theorem n_remN (tk : TK) (a b : Nat) (h : 0 < b) : vBinV tk .rem (.int .i64 (a : Int)) (.int .i64 (b : Int)) = some (.int .i64 ((a % b : Nat) : Int)) := by
 rw [n_rem _ _ _ _ (by omega), nat_tmod]
theorem n_quoN (tk : TK) (a b : Nat) (h : 0 < b) (h2 : a <= 9223372036854775807) : vBinV tk .quo (.int .i64 (a : Int)) (.int .i64 (b : Int)) = some (.int .i64 ((a / b : Nat) : Int)) := by
 rw [n_quo _ _ _ (by omega) (by omega) (by omega), nat_tdiv]
theorem ba_eq (s t : List UInt8) : ((ByteArray.mk s.toArray).toList == (ByteArray.mk t.toArray).toList) = decide (s = t) := by
 rw [ByteArray.toList_eq, ByteArray.toList_eq]
 show (s == t) = _
 rw [Bool.eq_iff_iff, beq_iff_eq, decide_eq_true_iff]
theorem t_eql (tk : TK) (s t : List UInt8) : vBinV tk .eql (.str s) (.str t) = some (.bool (decide (s = t))) := by
 simp only [vBinV, toA, vBin, vStrOp, ofA, Option.bind_some, ba_eq]
theorem t_neq (tk : TK) (s t : List UInt8) : vBinV tk .neq (.str s) (.str t) = some (.bool (!decide (s = t))) := by
 simp only [vBinV, toA, vBin, vStrOp, ofA, Option.bind_some, ba_eq]
theorem t_add (tk : TK) (s t : List UInt8) (h : s.length + t.length <= 9223372036854775807) : vBinV tk .add (.str s) (.str t) = some (.str (s ++ t)) := by
 simp only [vBinV, toA, vBin, vStrOp, ofA, Option.bind_some]
 rw [if_pos (by simpa [ByteArray.size] using h)]
 simp [ofA]
theorem t_idx (s : List UInt8) (k : IntKind) (i : Nat) (h : i < s.length) : vIndexSV (.str s) (.int k (i : Int)) = some (.int .u8 ((s[i]'h).toNat : Int)) := by
 simp [vIndexSV, List.getElem?_eq_getElem h]
theorem t_len (s : List UInt8) : vLenSV (.str s) = some (.int .i64 s.length) := by exact id rfl
theorem v_len (o : Bool) (xs : List (List V)) : vLenVV (.sl o xs) = some (.int .i64 xs.length) := by exact id rfl
theorem t_sub (s : List UInt8) (k k' : IntKind) (l h : Nat) (h1 : l <= h) (h2 : h <= s.length) : vSliceSV (.str s) (some (.int k (l : Int))) (some (.int k' (h : Int))) = some (.str ((s.drop l).take (h - l))) := by
 simp only [vSliceSV, bndV, Option.bind_some]
 rw [if_pos (by omega)]; simp
theorem t_pre (s : List UInt8) (k : IntKind) (h : Nat) (h2 : h <= s.length) : vSliceSV (.str s) none (some (.int k (h : Int))) = some (.str (s.take h)) := by
 simp only [vSliceSV, bndV, Option.bind_some]
 rw [if_pos (by omega)]; simp
theorem t_suf (s : List UInt8) (k : IntKind) (l : Nat) (h2 : l <= s.length) : vSliceSV (.str s) (some (.int k (l : Int))) none = some (.str (s.drop l)) := by
 simp only [vSliceSV, bndV, Option.bind_some]
 rw [if_pos (by omega)]
 simp
 rw [List.take_of_length_le (by simp)]
theorem t_str (s : List UInt8) : vStrV (.str s) = some (.str s) := by exact id rfl
theorem v_idx (esz : Nat) (o : Bool) (xs : List (List V)) (k : IntKind) (i : Nat) (c : List V) (h : xs[i]? = some c) (hc : c.length = esz) : vIdxV esz (.sl o xs) (.int k (i : Int)) = some (.elt (stripL c) 0) := by
 simp [vIdxV, h, hc]
theorem ld_elt (g : Nat -> Option (List V)) (t : Bool) (n : Nat) (v : V) (H : VH) : ldO g t false n (.elt [v] 0) H = some (v, H) := by exact id rfl
theorem v_nilf (f : FuncId) (c : List V) : vNilV (.fn f c) = some (.fn f c) := by exact id rfl
theorem v_nilp (k o : Nat) : vNilV (.ptr k o) = some (.ptr k o) := by exact id rfl
theorem v_nile (c : List V) (o : Nat) : vNilV (.elt c o) = some (.elt c o) := by exact id rfl
theorem v_offp (k o n : Nat) : vOffV (.ptr k o) n = some (.ptr k (o + n)) := by exact id rfl
theorem v_offe (c : List V) (o n : Nat) : vOffV (.elt c o) n = some (.elt c (o + n)) := by exact id rfl
theorem o_int (k : IntKind) (n : Int) : vOneV (.int k n) = some (.int k n) := by exact id rfl
theorem o_bool (b : Bool) : vOneV (.bool b) = some (.bool b) := by exact id rfl
theorem o_str (s : List UInt8) : vOneV (.str s) = some (.str s) := by exact id rfl
theorem o_sl (o : Bool) (xs : List (List V)) : vOneV (.sl o xs) = some (.sl o xs) := by exact id rfl
theorem o_ptr (k o : Nat) : vOneV (.ptr k o) = some (.ptr k o) := by exact id rfl
theorem o_fn (f : FuncId) (c : List V) : vOneV (.fn f c) = some (.fn f c) := by exact id rfl
theorem ow_t (xs : List (List V)) : ownV (.sl true xs) = some xs := by exact id rfl
theorem cl_fn (f : FuncId) (c : List V) : calleeV (.fn f c) = some (f, c) := by exact id rfl
theorem ex_0 (a : V) (l : List V) : vExtV (.tup (a :: l)) 0 = some a := by exact id rfl
theorem ex_1 (a b : V) (l : List V) : vExtV (.tup (a :: b :: l)) 1 = some b := by exact id rfl
theorem ex_2 (a b c : V) (l : List V) : vExtV (.tup (a :: b :: c :: l)) 2 = some c := by exact id rfl
theorem sa_0 (a : V) (l : List V) : stripAt 0 (.tup (a :: l)) = .tup (strip a :: l) := by exact id rfl
theorem sa_1 (a b : V) (l : List V) : stripAt 1 (.tup (a :: b :: l)) = .tup (a :: strip b :: l) := by exact id rfl
theorem sa_2 (a b c : V) (l : List V) : stripAt 2 (.tup (a :: b :: c :: l)) = .tup (a :: b :: strip c :: l) := by exact id rfl
theorem v_pre (esz : Nat) (o : Bool) (xs : List (List V)) (k : IntKind) (h : Nat) (he : eszOk esz xs = true) (h2 : h <= xs.length) : vSliceVV esz (.sl o xs) none (some (.int k (h : Int))) = some (.sl false (stripLL (xs.take h))) := by
 simp only [vSliceVV, bndV, Option.bind_some]
 rw [if_pos ⟨he, by omega⟩]; simp
theorem pc_of {call : CallV} {f : FuncId} {args : List V} {r : V} {H : VH} (h : call f args [] = some (r, H)) (h1 : noPtrL args = true) (h2 : data r = true) : pcall call f args = some r := by
 simp only [pcall, h1, h, Option.bind_some, h2]
theorem qc_of {call : CallV} {f : FuncId} {args : List V} {r : V} {H : VH} (h : call f args [] = some (r, H)) (h1 : noPtrL args = true) (h2 : scalV r = true) : qpcall call f args = some r := by
 simp only [qpcall, h1, h, Option.bind_some, h2]
def vT (l : List (List UInt8)) : List (List V) := l.map fun s => [.str s]
def vI (k : IntKind) (l : List Int) : List (List V) := l.map fun n => [.int k n]
def vB (l : List UInt8) : List (List V) := l.map fun b => [.int .u8 b.toNat]
theorem vT_len (l : List (List UInt8)) : (vT l).length = l.length := by simp [vT]
theorem vB_len (l : List UInt8) : (vB l).length = l.length := by simp [vB]
theorem vI_len (k : IntKind) (l : List Int) : (vI k l).length = l.length := by simp [vI]
theorem vT_strip (l : List (List UInt8)) : stripLL (vT l) = vT l := by
 induction l with
 | nil => rfl
 | cons a l ih => simp only [vT, List.map_cons, stripLL, stripL, strip] at ih ⊢; rw [ih]
theorem vB_strip (l : List UInt8) : stripLL (vB l) = vB l := by
 induction l with
 | nil => rfl
 | cons a l ih => simp only [vB, List.map_cons, stripLL, stripL, strip] at ih ⊢; rw [ih]
theorem vI_strip (k : IntKind) (l : List Int) : stripLL (vI k l) = vI k l := by
 induction l with
 | nil => rfl
 | cons a l ih => simp only [vI, List.map_cons, stripLL, stripL, strip] at ih ⊢; rw [ih]
theorem vT_np (l : List (List UInt8)) : noPtrLL (vT l) = true := by
 induction l with
 | nil => rfl
 | cons a l ih => simp only [vT, List.map_cons, noPtrLL, noPtrL, noPtr, Bool.and_self, Bool.true_and] at ih ⊢; exact ih
theorem vB_np (l : List UInt8) : noPtrLL (vB l) = true := by
 induction l with
 | nil => rfl
 | cons a l ih => simp only [vB, List.map_cons, noPtrLL, noPtrL, noPtr, Bool.and_self, Bool.true_and] at ih ⊢; exact ih
theorem vI_np (k : IntKind) (l : List Int) : noPtrLL (vI k l) = true := by
 induction l with
 | nil => rfl
 | cons a l ih => simp only [vI, List.map_cons, noPtrLL, noPtrL, noPtr, Bool.and_self, Bool.true_and] at ih ⊢; exact ih
theorem vT_data (l : List (List UInt8)) : dataLL (vT l) = true := by
 induction l with
 | nil => rfl
 | cons a l ih => simp only [vT, List.map_cons, dataLL, dataL, data, Bool.and_self, Bool.true_and] at ih ⊢; exact ih
theorem vB_data (l : List UInt8) : dataLL (vB l) = true := by
 induction l with
 | nil => rfl
 | cons a l ih => simp only [vB, List.map_cons, dataLL, dataL, data, Bool.and_self, Bool.true_and] at ih ⊢; exact ih
theorem vI_data (k : IntKind) (l : List Int) : dataLL (vI k l) = true := by
 induction l with
 | nil => rfl
 | cons a l ih => simp only [vI, List.map_cons, dataLL, dataL, data, Bool.and_self, Bool.true_and] at ih ⊢; exact ih
theorem vT_esz (l : List (List UInt8)) : eszOk 1 (vT l) = true := by simp [eszOk, vT]
theorem vB_esz (l : List UInt8) : eszOk 1 (vB l) = true := by simp [eszOk, vB]
theorem vI_esz (k : IntKind) (l : List Int) : eszOk 1 (vI k l) = true := by simp [eszOk, vI]
theorem vT_get (l : List (List UInt8)) (i : Nat) (h : i < l.length) : (vT l)[i]? = some [.str l[i]] := by simp [vT, List.getElem?_eq_getElem h]
theorem vB_get (l : List UInt8) (i : Nat) (h : i < l.length) : (vB l)[i]? = some [.int .u8 (l[i].toNat : Int)] := by simp [vB, List.getElem?_eq_getElem h]
theorem vI_get (k : IntKind) (l : List Int) (i : Nat) (h : i < l.length) : (vI k l)[i]? = some [.int k l[i]] := by simp [vI, List.getElem?_eq_getElem h]
theorem vB_take (l : List UInt8) (n : Nat) : (vB l).take n = vB (l.take n) := by simp [vB]
theorem vT_idx (o : Bool) (l : List (List UInt8)) (k : IntKind) (i : Nat) (h : i < l.length) : vIdxV 1 (.sl o (vT l)) (.int k (i : Int)) = some (.elt [.str l[i]] 0) := by
 rw [v_idx 1 o (vT l) k i _ (vT_get l i h) rfl]; rfl
theorem vB_idx (o : Bool) (l : List UInt8) (k : IntKind) (i : Nat) (h : i < l.length) : vIdxV 1 (.sl o (vB l)) (.int k (i : Int)) = some (.elt [.int .u8 (l[i].toNat : Int)] 0) := by
 rw [v_idx 1 o (vB l) k i _ (vB_get l i h) rfl]; rfl
theorem vI_idx (o : Bool) (k' : IntKind) (l : List Int) (k : IntKind) (i : Nat) (h : i < l.length) : vIdxV 1 (.sl o (vI k' l)) (.int k (i : Int)) = some (.elt [.int k' l[i]] 0) := by
 rw [v_idx 1 o (vI k' l) k i _ (vI_get k' l i h) rfl]; rfl
end Go.AM

/- What Go's assembly functions hand back in the machine of values: the place of a byte in a text, the count of a byte in a text. No condition. -/
namespace Go.AM
set_option linter.unusedSimpArgs false
set_option linter.unusedVariables false
def extA : Nat -> List Value -> Option Value
 | 0, [.string s, .int .u8 c] => some (.int .i64 (Go.Lib.indexByte s.data.toList c.toNat.toUInt8))
 | 1, [.string s, .int .u8 c] => some (.int .i64 (Go.Lib.countByte s.data.toList c.toNat.toUInt8))
 | _, _ => none
def extB {R : Type} (n : Nat) (vs : List V) (K : V -> Option R) : Option R :=
 (vs.mapM toA).bind fun az => (extA n az).bind fun r => (ofA r).bind fun v => K v
theorem extB_index {R : Type} (s : List UInt8) (c : Int) (K : V -> Option R) : extB 0 [.str s, .int .u8 c] K = K (.int .i64 (Go.Lib.indexByte s c.toNat.toUInt8)) := by
 simp [extB, toA, extA, ofA]
theorem extB_count {R : Type} (s : List UInt8) (c : Int) (K : V -> Option R) : extB 1 [.str s, .int .u8 c] K = K (.int .i64 (Go.Lib.countByte s c.toNat.toUInt8)) := by
 simp [extB, toA, extA, ofA]
def kindX (l m : List Nat) (e : List (Nat × Nat)) (f : FuncId) : Nat := match look e f with | some n => n + 3 | none => kindOf l m f
def ExtFn (P : Program) (f n : Nat) : Prop := match n with
 | 0 => ∀ args w, (callFunc f args).run P w = ((Extern.BytealgIndexByte.indexByte args).run P w).andThen fun v w' => .ok (.value v) w'
 | 1 => ∀ args w, (callFunc f args).run P w = ((Extern.BytealgCount.count args).run P w).andThen fun v w' => .ok (.value v) w'
 | _ => True
def ExtFns (P : Program) : List (Nat × Nat) -> Prop
 | [] => True
 | (f, n) :: l => ExtFn P f n /\ ExtFns P l
theorem ExtFns.at {P : Program} : ∀ {l : List (Nat × Nat)} {f n : Nat}, ExtFns P l -> look l f = some n -> ExtFn P f n
 | [], f, n, _, h => by cases h
 | (g, m) :: l, f, n, h, hl => by
   unfold look at hl
   split at hl
   ·rename_i e
    have : g = f := by simpa using e
    cases hl
    subst this
    exact h.1
   ·exact h.2.at hl
theorem kindOf_le (l m : List Nat) (f : FuncId) : kindOf l m f <= 2 := by
 unfold kindOf; split
 ·omega
 ·split <;> omega
theorem ext_ok {P : Program} {l m : List Nat} {e : List (Nat × Nat)} (h : ExtFns P e) : ExtOk P (kindX l m e) extA := by
 intro f n vs v hk hx ι vs' w hv
 have hf : look e f = some n := by
  unfold kindX at hk
  split at hk
  ·rename_i k hk'; rw [hk']; congr 1; omega
  ·have := kindOf_le l m f; omega
 have hF := h.at hf
 match n, vs, hx with
 | 0, [.string s, .int .u8 c], hx =>
   cases hx
   obtain ⟨x, y, h1, h2⟩ : ∃ x y, vs' = #[x, y] /\ VR ι (.string s) x /\ VR ι (.int .u8 c) y := by
    rcases vs' with ⟨l⟩
    cases hv with
    | cons a hv => cases hv with
      | cons b hv => cases hv; exact ⟨_, _, rfl, a, b⟩
   obtain ⟨h2, h3⟩ := h2
   cases h2; cases h3
   subst h1
   refine ⟨_, ?_, .int _ _⟩
   rw [hF, Go.Lib.run_indexByteString]; rfl
 | 1, [.string s, .int .u8 c], hx =>
   cases hx
   obtain ⟨x, y, h1, h2⟩ : ∃ x y, vs' = #[x, y] /\ VR ι (.string s) x /\ VR ι (.int .u8 c) y := by
    rcases vs' with ⟨l⟩
    cases hv with
    | cons a hv => cases hv with
      | cons b hv => cases hv; exact ⟨_, _, rfl, a, b⟩
   obtain ⟨h2, h3⟩ := h2
   cases h2; cases h3
   subst h1
   refine ⟨_, ?_, .int _ _⟩
   rw [hF, Go.Lib.run_countString]; rfl
end Go.AM

/- slices.Insert and slices.Delete in the machine of values: on rows that lie in objects. -/
namespace Go.AM
set_option linter.unusedSimpArgs false
set_option linter.unusedVariables false
set_option linter.unusedSectionVars false
theorem callW_prim' (b : Base) {f : FuncId} {args : List Value} {hp : Heap} {g : List Value -> Heap -> Option (Value × Heap)} (hg : b.prim f = some g) {r : Value × Heap} (h : g args hp = some r) : callW b f args hp = some r :=
 callW_of (n := 1) (by simp only [callN, hg]; exact h)
theorem Ext.trans {a b c : Wd} (h : Ext a b (fun _ => True)) (g : Ext b c (fun _ => True)) : Ext a c (fun _ => True) where
 blk := fun i k hk hn => by
  obtain ⟨k1, a1, a2, a3, a4, a5, a6⟩ := h.blk i k hk hn
  obtain ⟨k2, b1, b2, b3, b4, b5, b6⟩ := g.blk i k1 a1 a2
  exact ⟨k2, b1, b2, fun q => b3 (a3 q), by rw [b4, a4], by rw [b5, a5], fun _ => ⟨by rw [(b6 trivial).1, (a6 trivial).1], by rw [(b6 trivial).2, (a6 trivial).2]⟩⟩
 rho := fun k i hk => g.rho k i (h.rho k i hk)
 osz := fun k i kb hk hb => by
  obtain ⟨k1, a1, a2⟩ := h.osz k i kb hk hb
  obtain ⟨k2, b1, b2⟩ := g.osz k i k1 (h.rho k i hk) a1
  exact ⟨k2, b1, by rw [b2, a2]⟩
def goneO (w : Wd) (kb k : Blk) : Wd := ⟨killFam w.hp kb.fam ++ [k], w.rho ++ [w.hp.length], w.hp.length :: w.fb⟩
theorem goneO_eq {w : Wd} {b : Nat} {kb k : Blk} (hk : w.hp[b]? = some kb) : goneO w kb k = ⟨(setW w b { kb with md := .gone }).hp ++ [k], (setW w b { kb with md := .gone }).rho ++ [(setW w b { kb with md := .gone }).hp.length], (setW w b { kb with md := .gone }).hp.length :: (setW w b { kb with md := .gone }).fb⟩ := by
 have e : (setW w b { kb with md := .gone }).hp = killFam w.hp kb.fam := by
  show (killFam w.hp kb.fam).set b { kb with md := .gone } = _
  apply List.ext_getElem?
  intro i
  rw [List.getElem?_set]
  split
  ·rename_i e; subst e
   have hb := (List.getElem?_eq_some_iff.1 hk).1
   rw [if_pos (by rw [killFam_len]; exact hb)]
   simp only [killFam, List.getElem?_map, hk, Option.map_some, if_true]
  ·rfl
 rw [e, killFam_len]
 rfl
section
variable {w : Wd} {b : Nat} {kb k : Blk} (hw : HW w) (hb : b ∈ w.rho) (hk : w.hp[b]? = some kb) (hf : k.fam = w.hp.length)
include hw hb hk hf
theorem ext_goneO : Ext w (goneO w kb k) (fun _ => True) := by
 rw [goneO_eq (b := b) hk]
 exact (ext_set (k := { kb with md := .gone }) hw hb hk rfl rfl _).trans (ext_obj (hw.set (k := { kb with md := .gone }) hb hk rfl rfl rfl) (by rw [setW_len]; exact hf) _)
theorem HW.goneO (hpl : k.pl = false -> k.sz = 1) : HW (goneO w kb k) := by
 rw [goneO_eq (b := b) hk]
 exact (hw.set (k := { kb with md := .gone }) hb hk rfl rfl rfl).pushObj (by rw [setW_len]; exact hf) hpl
theorem Fr'.goneO {E : En} (h : Fr' E w) : Fr' E (goneO w kb k) := by
 rw [goneO_eq (b := b) hk]
 exact (h.set (k := { kb with md := .gone }) hw hb hk rfl rfl).pushObj (hw.set (k := { kb with md := .gone }) hb hk rfl rfl rfl) (by rw [setW_len]; exact hf)
theorem goneO_keeps (hrw : kb.md = .rw) : ∀ c ∈ w.rho, c ≠ b -> Keeps w (Go.AM.goneO w kb k) c := fun c hc hne ke hke => by
 have hcl := (List.getElem?_eq_some_iff.1 hke).1
 have e : (Go.AM.goneO w kb k).hp[c]? = (killFam w.hp kb.fam)[c]? := by
  show (killFam w.hp kb.fam ++ [k])[c]? = _
  rw [List.getElem?_append_left (by rw [killFam_len]; exact hcl)]
 refine ⟨if ke.fam = kb.fam then { ke with md := .gone } else ke, ?_, fun hm => ?_⟩
 ·rw [e]; simp only [killFam, List.getElem?_map, hke, Option.map_some]
 ·rw [if_neg (hw.ofam hke hk hm hrw hne)]
end
theorem goneO_at {w : Wd} {kb k : Blk} : (goneO w kb k).hp[w.hp.length]? = some k := by
 show (killFam w.hp kb.fam ++ [k])[w.hp.length]? = _
 rw [List.getElem?_append_right (by rw [killFam_len]; exact Nat.le_refl _), killFam_len]; simp
theorem goneO_old {w : Wd} {b : Nat} {kb k q : Blk} (hk : w.hp[b]? = some q) : ∃ q', (goneO w kb k).hp[b]? = some q' := by
 refine ⟨if q.fam = kb.fam then { q with md := .gone } else q, ?_⟩
 show (killFam w.hp kb.fam ++ [k])[b]? = _
 rw [List.getElem?_append_left (by rw [killFam_len]; exact (List.getElem?_eq_some_iff.1 hk).1)]
 simp only [killFam, List.getElem?_map, hk, Option.map_some]
theorem goneO_len {w : Wd} {kb k : Blk} : (goneO w kb k).hp.length = w.hp.length + 1 := by simp [goneO, killFam_len]
def insV (esz eb : Nat) : List V -> VH -> Option (V × VH)
 | [.obs k 0 n e, .int .i64 i, .sl true (y :: l)], H => (H[k]?).bind fun cs =>
   if e = esz /\ 0 < n /\ cs.length = n * e /\ 0 <= i /\ i <= n /\ eszOk esz (y :: l) = true /\ (n + (l.length + 1)) * eb <= 140737488355328 then
    some (.obs H.length 0 (n + (l.length + 1)) e, H.set k [] ++ [cs.take (i.toNat * e) ++ (y :: l).flatten ++ cs.drop (i.toNat * e)]) else none
 | [.sl true [], .int .i64 i, .sl true (y :: l)], H =>
   if i = 0 /\ eszOk esz (y :: l) = true /\ (0 + (l.length + 1)) * eb <= 140737488355328 then some (.obs H.length 0 (l.length + 1) esz, H ++ [(y :: l).flatten]) else none
 | _, _ => none
theorem RVs.take_drop {w : Wd} {cs : List V} {xs : List Value} {c : Cnt} (h : RVs w cs xs c) {n : Nat} (hn : n <= cs.length) : ∃ a b, RVs w (cs.take n) (xs.take n) a /\ RVs w (cs.drop n) (xs.drop n) b /\ ∀ i, c i = a i + b i := by
 rw [<- List.take_append_drop n cs] at h
 obtain ⟨ys, zs, a, b, rfl, g1, g2, g3⟩ := RVs.split h
 have hl : ys.length = n := by rw [<- g1.len]; simp; omega
 refine ⟨a, b, ?_, ?_, g3⟩
 ·rw [List.take_append_drop] at *; rw [List.take_left' hl]; exact g1
 ·rw [List.drop_left' hl]; exact g2
theorem RV.built {w : Wd} {y : List V} {l : List (List V)} {x : Value} {c : Cnt} (h : RV w (.sl true (y :: l)) x c) {esz : Nat} (hesz : eszOk esz (y :: l) = true) :
 ∃ b kv cc d, blkAt w.hp b = some kv /\ b ∉ w.fb /\ x = .slice (some ⟨b, 0, none⟩) (l.length + 1) cc /\ kv.sz = esz /\ kv.md = .rw /\ kv.pl = true /\ 0 < esz /\ kv.cells.length = (l.length + 1) * esz /\ RVss w (y :: l) kv.cells esz d /\ ∀ i, d i <= c i := by
 simp only [RV] at h
 rcases h with ⟨h, _⟩ | ⟨h0, b, o, kb, ws, cc, d, h1, h2, h3, h4, h5, h6, h7, h8⟩
 ·cases h
 ·rcases h8 with ⟨h8, _⟩ | ⟨_, ⟨h9, h9'⟩, rfl, h11, h12⟩
  ·cases h8
  ·have hsz := h7.esz hesz h0
   have hws : ws = kb.cells := by
    have := (gcut_some h6).2.1
    rw [this, List.drop_zero, List.take_of_length_le (by omega)]
   subst hws
   rw [hsz] at h7 h11 h5
   exact ⟨b, kb, cc, d, h1, h2, h4, hsz, h9, h9', h5, h11.symm, h7, fun i => by rw [h12]; omega⟩
theorem Fr'.start {w : Wd} (hw : HW w) {args : List V} {args' : List Value} {H : VH} {ca ch : Cnt} (hv : RVs w args args' ca) (ho : ROs w H w.rho ch) : Fr' ⟨w.hp, w.rho, w.fb, fun i => ca i + ch i⟩ w := by
 refine ⟨Nat.le_refl _, fun _ _ h _ _ => h, fun b k hk _ => ⟨k, hk, rfl, rfl, rfl, .inl rfl⟩, fun c k hc hk => ?_, ⟨[], by simp, by simp⟩, ⟨[], by simp, by simp⟩, fun b k hb hk => ?_, fun b kb hk => ⟨kb, hk, rfl, rfl⟩, hw.rlt, hw.fam⟩
 ·have := (List.getElem?_eq_some_iff.1 hk).1; simp only at hc; omega
 ·simp only at hb
  by_cases q : 1 <= ca b
  ·obtain ⟨_, _, kb, a1, _, a3⟩ := RVs.owned _ hv b q
   have a1' := (blkAt_some a1).1
   rw [hk] at a1'; cases a1'; exact a3
  ·obtain ⟨kb, a1, a3⟩ := ROs.owned' ho b (by omega)
   rw [hk] at a1; cases a1; exact a3
theorem insV_sim {X : XV} {b : Base} {f : FuncId} {esz eb : Nat} (hg : b.prim f = some (hIns esz eb)) {args : List V} {H H' : VH} {r : V} (h : insV esz eb args H = some (r, H')) : CallSim X (callW b) f args H r H' := by
 intro w args' ca ch hw hgl ha ho hle hbig
 unfold insV at h
 split at h
 ·rename_i k n e i y l
  obtain ⟨cs, hcs, hq⟩ := bind_some' h
  clear h
  have h := hq
  clear hq
  split at h
  ·rename_i hc
   obtain ⟨rfl, hn, hcl, hi0, hin, hesz, hbt⟩ := hc
   cases h
   obtain ⟨i, rfl⟩ := Int.eq_ofNat_of_zero_le hi0
   simp only [Int.toNat_natCast]
   have hv := ha
   simp only [RVs] at ha
   obtain ⟨x1, _, c1, c2, rfl, h1, ⟨x2, _, c3, c4, rfl, h2, ⟨x3, _, c5, c6, rfl, h3, ⟨rfl, h0⟩, q3⟩, q2⟩, q1⟩ := ha
   simp only [RV] at h2
   obtain ⟨rfl, h20⟩ := h2
   obtain ⟨vb, kv, vcc, d, v1, v2, rfl, v4, v5, v6, he0, v7, v8, v9⟩ := h3.built hesz
   simp only [RV] at h1
   obtain ⟨⟨bk, cc, kb, hr, hkb, hsz, _, rfl⟩, hx0⟩ := h1
   have hne : cs ≠ [] := fun q => by subst q; simp only [List.length_nil] at hcl; have := Nat.mul_pos hn he0; omega
   obtain ⟨kb', d1, d2, g2, g3, g4, hrw, g5⟩ := ho.store hw.nd hcs hne hr
   rw [hkb] at g2; cases g2
   have hbm := List.mem_of_getElem? hr
   have hcells : kb.cells.length = n * e := by rw [<- g3.len]; exact hcl
   have hbv : bk ≠ vb := fun q => by subst q; exact v2 (hw.sub _ hbm)
   have hin' : i * e <= n * e := Nat.mul_le_mul_right _ (by omega)
   obtain ⟨n, rfl⟩ : ∃ m, n = m + 1 := ⟨n - 1, by omega⟩
   have hkl : (y :: l).flatten.length = (l.length + 1) * e := by rw [v8.flat.len, v7]
   have hres : hIns e eb [.slice (some ⟨bk, 0, none⟩) (n + 1) cc, .int .i64 i, .slice (some ⟨vb, 0, none⟩) (l.length + 1) vcc] w.hp =
    some (newSl w.hp (n + 1 + (l.length + 1)) (n + 1 + (l.length + 1) + 1), killFam w.hp kb.fam ++ [⟨kb.cells.take (i * e) ++ kv.cells ++ kb.cells.drop (i * e), e, .rw, w.hp.length, kb.pl⟩]) := by
    simp only [hIns, v1, Option.bind_some]
    rw [if_pos ⟨v4, by omega, by omega, hbt⟩]
    simp only [blkAt_mk hkb (by rw [hrw]; simp), Option.bind_some]
    rw [if_pos ⟨hrw, v5, hbv, hsz, hcells, by omega, by omega, .inr v6⟩]
    simp only [Int.toNat_natCast]
    rw [List.take_of_length_le (l := kv.cells) (by omega)]
   have hE := ext_goneO (k := ⟨kb.cells.take (i * e) ++ kv.cells ++ kb.cells.drop (i * e), e, .rw, w.hp.length, kb.pl⟩) hw hbm hkb rfl
   obtain ⟨a1, a2, t1, t2, t3⟩ := g3.take_drop (n := i * e) (by omega)
   have hnew : RVs w (cs.take (i * e) ++ (y :: l).flatten ++ cs.drop (i * e)) (kb.cells.take (i * e) ++ kv.cells ++ kb.cells.drop (i * e)) (fun j => a1 j + d j + a2 j) := (t1.app v8.flat).app t2
   obtain ⟨kb2, hkb2⟩ := goneO_old (kb := kb) (k := ⟨kb.cells.take (i * e) ++ kv.cells ++ kb.cells.drop (i * e), e, .rw, w.hp.length, kb.pl⟩) hkb
   have hos := g5 (goneO w kb ⟨kb.cells.take (i * e) ++ kv.cells ++ kb.cells.drop (i * e), e, .rw, w.hp.length, kb.pl⟩) [] kb2 (fun _ => 0) hE (goneO_keeps hw hbm hkb rfl hrw) hkb2 (.inl ⟨rfl, by simp⟩)
   refine ⟨_, goneO w kb ⟨kb.cells.take (i * e) ++ kv.cells ++ kb.cells.drop (i * e), e, .rw, w.hp.length, kb.pl⟩, fun _ => 0, fun j => (0 + d2 j) + (a1 j + d j + a2 j), callW_prim' b hg hres, hw.goneO hbm hkb rfl (fun q => have t : kb.sz = 1 := hw.mrk bk kb hkb q; by first | exact t | (rw [hsz] at t; exact t)), hgl.mono hE, ?_, ?_, ?_, fun j => ?_, fun j hj => ?_, fun j hj => ?_⟩
   ·exact Fr'.goneO hw hbm hkb rfl (Fr'.start hw (args := [.obs k 0 (n + 1) e, .int .i64 i, .sl true (y :: l)]) hv ho)
   ·simp only [RV, newSl]
    refine ⟨⟨w.hp.length, _, _, ?_, goneO_at, rfl, he0, rfl⟩, by simp⟩
    show (w.rho ++ [w.hp.length])[H.length]? = _
    rw [<- ho.len]; simp
   ·exact ROs.snoc goneO_at rfl (RVs.mono hE _ hnew (fun _ _ => trivial)) hos
   ·show 0 + ((0 + d2 j) + (a1 j + d j + a2 j)) <= 1
    have := hle j; have := g4 j; have := t3 j; have := v9 j; have := q1 j; have := q2 j; have := q3 j; omega
   ·show 0 + ((0 + d2 j) + (a1 j + d j + a2 j)) <= ca j + ch j
    have := g4 j; have := t3 j; have := v9 j; have := q1 j; have := q2 j; have := q3 j; omega
   ·rw [goneO_len] at hj
    show 0 + ((0 + d2 j) + (a1 j + d j + a2 j)) = 0
    have := hbig j (by omega); have := g4 j; have := t3 j; have := v9 j; have := q1 j; have := q2 j; have := q3 j; omega
  ·cases h
 ·rename_i i y l
  split at h
  ·rename_i hc
   obtain ⟨rfl, hesz, hbt⟩ := hc
   cases h
   have hv := ha
   simp only [RVs] at ha
   obtain ⟨x1, _, c1, c2, rfl, h1, ⟨x2, _, c3, c4, rfl, h2, ⟨x3, _, c5, c6, rfl, h3, ⟨rfl, h0⟩, q3⟩, q2⟩, q1⟩ := ha
   simp only [RV] at h2
   obtain ⟨rfl, h20⟩ := h2
   obtain ⟨vb, kv, vcc, d, v1, v2, rfl, v4, v5, v6, he0, v7, v8, v9⟩ := h3.built hesz
   simp only [RV] at h1
   rcases h1 with ⟨_, ⟨a, cc, rfl, hcc⟩, hx0⟩ | ⟨h', _⟩
   ·have hcc := hcc trivial
    subst hcc
    have hres : hIns esz eb [.slice a 0 0, .int .i64 0, .slice (some ⟨vb, 0, none⟩) (l.length + 1) vcc] w.hp = some (newSl w.hp (l.length + 1) (l.length + 1 + 1), w.hp ++ [⟨kv.cells, esz, .rw, w.hp.length, true⟩]) := by
     simp only [hIns, v1, Option.bind_some]
     rw [if_pos ⟨v4, by omega, by omega, by simpa using hbt⟩]
     simp only [and_self, if_true]
     rw [List.take_of_length_le (l := kv.cells) (by omega)]
    have hE := ext_obj (k := ⟨kv.cells, esz, .rw, w.hp.length, true⟩) hw rfl (fun _ => True)
    have hat : (w.hp ++ [(⟨kv.cells, esz, .rw, w.hp.length, true⟩ : Blk)])[w.hp.length]? = some ⟨kv.cells, esz, .rw, w.hp.length, true⟩ := by simp
    have hos : ROs ⟨w.hp ++ [⟨kv.cells, esz, .rw, w.hp.length, true⟩], w.rho ++ [w.hp.length], w.hp.length :: w.fb⟩ (H ++ [(y :: l).flatten]) (w.rho ++ [w.hp.length]) (fun j => ch j + d j) :=
     ROs.snoc (kb := ⟨kv.cells, esz, .rw, w.hp.length, true⟩) hat rfl (RVs.mono hE _ v8.flat (fun _ _ => trivial)) (ho.mono hE (fun b hb => .eq (by
      show (w.hp ++ _)[b]? = _
      rw [List.getElem?_append_left (hw.fbl _ (hw.sub _ hb))])) (fun _ _ => trivial))
    refine ⟨_, ⟨w.hp ++ [⟨kv.cells, esz, .rw, w.hp.length, true⟩], w.rho ++ [w.hp.length], w.hp.length :: w.fb⟩, fun _ => 0, fun j => ch j + d j, callW_prim' b hg hres, hw.pushObj rfl (fun q => by cases q), hgl.mono hE, (Fr'.start hw (args := [.sl true [], .int .i64 0, .sl true (y :: l)]) hv ho).pushObj hw rfl, ?_, hos, fun j => ?_, fun j hj => ?_, fun j hj => ?_⟩
    ·simp only [RV, newSl]
     refine ⟨⟨w.hp.length, _, _, ?_, hat, rfl, he0, rfl⟩, by simp⟩
     show (w.rho ++ [w.hp.length])[H.length]? = _
     rw [<- ho.len]; simp
    ·show 0 + (ch j + d j) <= 1
     have := hle j; have := v9 j; have := q1 j; have := q2 j; have := q3 j; omega
    ·show 0 + (ch j + d j) <= ca j + ch j
     have := v9 j; have := q1 j; have := q2 j; have := q3 j; omega
    ·simp only [List.length_append, List.length_cons, List.length_nil] at hj
     show 0 + (ch j + d j) = 0
     have := hbig j (by omega); have := v9 j; have := q1 j; have := q2 j; have := q3 j; omega
   ·exact absurd rfl h'
  ·cases h
 ·cases h
def delV (esz : Nat) : List V -> VH -> Option (V × VH)
 | [.obs k 0 n e, .int .i64 i, .int .i64 j], H => (H[k]?).bind fun cs =>
   if e = esz /\ cs.length = n * e /\ 0 <= i /\ i < j /\ j <= n then
    some (.obs H.length 0 (n - (j.toNat - i.toNat)) e, H.set k [] ++ [cs.take (i.toNat * e) ++ cs.drop (j.toNat * e)]) else none
 | _, _ => none
def PrimsOk (P : Program) (ng : Nat) : List (Nat × (List Value -> Heap -> Option (Value × Heap))) -> Prop
 | [] => True
 | (f, g) :: l => (∀ args hp r hp', g args hp = some (r, hp') -> Owes P ng f args hp r hp') /\ PrimsOk P ng l
theorem prims_ok {P : Program} {ng : Nat} : ∀ {l : List (Nat × (List Value -> Heap -> Option (Value × Heap)))}, PrimsOk P ng l -> ∀ f g args hp r hp', look l f = some g -> g args hp = some (r, hp') -> Owes P ng f args hp r hp'
 | [], _, f, g, args, hp, r, hp', h, _ => by cases h
 | (k, q) :: l, ⟨h1, h2⟩, f, g, args, hp, r, hp', h, e => by
   rw [look_cons] at h
   split at h
   ·rename_i hk; cases h; rw [hk]; exact h1 args hp r hp' e
   ·exact prims_ok h2 f g args hp r hp' h e
def PrimsSim (b : BaseV) : List (Nat × (List V -> VH -> Option (V × VH))) -> Prop
 | [] => True
 | (f, g) :: l => (∀ args H r H', g args H = some (r, H') -> CallSim (b.ctx (callV b) lpW') (callW b.b) f args H r H') /\ PrimsSim b l
theorem prims_sim {b : BaseV} : ∀ {l : List (Nat × (List V -> VH -> Option (V × VH)))}, PrimsSim b l -> ∀ f g args r H H', look l f = some g -> g args H = some (r, H') -> CallSim (b.ctx (callV b) lpW') (callW b.b) f args H r H'
 | [], _, f, g, args, r, H, H', h, _ => by cases h
 | (k, q) :: l, ⟨h1, h2⟩, f, g, args, r, H, H', h, e => by
   rw [look_cons] at h
   split at h
   ·rename_i hk; cases h; rw [hk]; exact h1 args H r H' e
   ·exact prims_sim h2 f g args r H H' h e
theorem look_keys {α β : Type} : ∀ {l : List (Nat × α)} {l' : List (Nat × β)}, l.map (·.1) = l'.map (·.1) -> ∀ {f : Nat}, look l f = none -> look l' f = none
 | [], [], _, f, _ => rfl
 | [], _ :: _, h, _, _ => by simp at h
 | _ :: _, [], h, _, _ => by simp at h
 | (k, a) :: l, (k', a') :: l', h, f, hn => by
   simp only [List.map_cons, List.cons.injEq] at h
   obtain ⟨rfl, h⟩ := h
   rw [look_cons] at hn ⊢
   split at hn
   ·cases hn
   ·rename_i hk; rw [if_neg hk]; exact look_keys h hn
end Go.AM

/- slices.DeleteFunc in the machine of values: of a row of texts in an object, those that are empty are struck. -/
namespace Go.AM
set_option linter.unusedSimpArgs false
set_option linter.unusedVariables false
set_option linter.unusedSectionVars false
def strsV : List V -> Option (List (List UInt8))
 | [] => some []
 | .str s :: l => (strsV l).map fun t => s :: t
 | _ => none
theorem strsV_eq : ∀ {l : List V} {ss : List (List UInt8)}, strsV l = some ss -> l = ss.map .str
 | [], ss, h => by cases h; rfl
 | v :: l, ss, h => by
   cases v with
   | str s =>
     simp only [strsV] at h
     cases hs : strsV l with
     | none => rw [hs] at h; cases h
     | some t => rw [hs] at h; cases h; rw [strsV_eq hs]; rfl
   | _ => cases h
theorem strsV_mk : ∀ (ss : List (List UInt8)), strsV (ss.map .str) = some ss
 | [] => rfl
 | s :: ss => by
   show ((strsV (ss.map .str)).map fun t => s :: t) = _
   rw [strsV_mk ss]; rfl
def delfV (g : Nat) : List V -> VH -> Option (V × VH)
 | [.obs k 0 n e, .fn g' []], H => (H[k]?).bind fun cs => (strsV cs).bind fun ss =>
   if g' = g /\ e = 1 /\ ss.length = n /\ 0 < n /\ n <= 9223372036854775807 then
    some (.obs H.length 0 (ss.filter fun s => !s.isEmpty).length 1, H.set k [] ++ [(ss.filter fun s => !s.isEmpty).map .str]) else none
 | _, _ => none
abbrev bsA (s : List UInt8) : ByteArray := ⟨s.toArray⟩
theorem rvs_strs {w : Wd} : ∀ {ss : List (List UInt8)} {xs : List Value} {c : Cnt}, RVs w (ss.map .str) xs c -> xs = ss.map (fun s => .string (bsA s)) /\ ∀ i, c i = 0
 | [], xs, c, h => by simp only [List.map_nil, RVs] at h; exact h
 | s :: ss, xs, c, h => by
   simp only [List.map_cons, RVs] at h
   obtain ⟨x, ys, c1, c2, rfl, h1, h2, h3⟩ := h
   simp only [RV] at h1
   obtain ⟨rfl, h1⟩ := h1
   obtain ⟨rfl, h4⟩ := rvs_strs h2
   exact ⟨rfl, fun i => by rw [h3, h1, h4]⟩
theorem rvs_strs' {w : Wd} : ∀ (ss : List (List UInt8)), RVs w (ss.map .str) (ss.map fun s => .string (bsA s)) (fun _ => 0)
 | [] => by simp only [List.map_nil, RVs]; exact ⟨trivial, fun _ => trivial⟩
 | s :: ss => by
   simp only [List.map_cons, RVs]
   exact ⟨_, _, fun _ => 0, fun _ => 0, rfl, by simp [RV], rvs_strs' ss, fun _ => rfl⟩
theorem strsL_mk : ∀ (ss : List (List UInt8)), strsL (ss.map fun s => .string (bsA s)) = some (ss.map bsA)
 | [] => rfl
 | s :: ss => by
   show ((strsL (ss.map fun s => .string (bsA s))).map fun t => bsA s :: t) = _
   rw [strsL_mk ss]; rfl
theorem filt_bs : ∀ (ss : List (List UInt8)), (ss.map bsA).filter (fun s => !(s.size == 0)) = (ss.filter fun s => !s.isEmpty).map bsA
 | [] => rfl
 | s :: ss => by
   have ih := filt_bs ss
   cases s with
   | nil => exact ih
   | cons a l =>
     show bsA (a :: l) :: (ss.map bsA).filter _ = _
     rw [ih]; rfl
theorem delfV_sim {X : XV} {b : Base} {f : FuncId} {g : Nat} (hg : b.prim f = some (hDelF g)) {args : List V} {H H' : VH} {r : V} (h : delfV g args H = some (r, H')) : CallSim X (callW b) f args H r H' := by
 intro w args' ca ch hw hgl ha ho hle hbig
 unfold delfV at h
 split at h
 ·rename_i k n e g'
  obtain ⟨cs, hcs, hq⟩ := bind_some' h
  clear h
  obtain ⟨ss, hss, h⟩ := bind_some' hq
  clear hq
  have hce := strsV_eq hss
  split at h
  ·rename_i hc
   obtain ⟨rfl, rfl, hsl, hn, hn63⟩ := hc
   cases h
   have hv := ha
   simp only [RVs] at ha
   obtain ⟨x1, _, c1, c2, rfl, h1, ⟨x2, _, c3, c4, rfl, h2, ⟨rfl, h0⟩, q2⟩, q1⟩ := ha
   simp only [RV, RVs] at h2
   obtain ⟨⟨_, rfl, rfl, _⟩, h20⟩ := h2
   simp only [RV] at h1
   obtain ⟨⟨bk, cc, kb, hr, hkb, hsz, he0, rfl⟩, hx0⟩ := h1
   have hne : cs ≠ [] := fun q => by rw [q] at hce; have : ss = [] := by simpa using hce.symm
                                     rw [this] at hsl; simp at hsl; omega
   obtain ⟨kb', d1, d2, g2, g3, g4, hrw, g5⟩ := ho.store hw.nd hcs hne hr
   rw [hkb] at g2; cases g2
   have hbm := List.mem_of_getElem? hr
   rw [hce] at g3
   obtain ⟨hkc, hd1⟩ := rvs_strs g3
   have hcells : kb.cells.length = n := by rw [hkc]; simpa using hsl
   have hres : hDelF g' [.slice (some ⟨bk, 0, none⟩) n cc, .func (.func g') #[] ⟨[]⟩] w.hp =
    some (newSl w.hp (ss.filter fun s => !s.isEmpty).length ((ss.filter fun s => !s.isEmpty).length + 1), killFam w.hp kb.fam ++ [⟨(ss.filter fun s => !s.isEmpty).map (fun s => .string (bsA s)), 1, .rw, w.hp.length, kb.pl⟩]) := by
    have hs1 : strsL kb.cells = some (ss.map bsA) := by rw [hkc]; exact strsL_mk ss
    simp only [hDelF, blkAt_mk hkb (by rw [hrw]; simp), Option.bind_some, hs1, filt_bs, List.length_map, List.map_map]
    rw [if_pos ⟨trivial, rfl, rfl, hrw, hsz, hcells, hn, hn63⟩]
    rfl
   generalize hF : (ss.filter fun s => !s.isEmpty) = F at *
   have hE := ext_goneO (k := ⟨F.map (fun s => .string (bsA s)), 1, .rw, w.hp.length, kb.pl⟩) hw hbm hkb rfl
   have hnew : RVs w (F.map .str) (F.map fun s => .string (bsA s)) (fun _ => 0) := rvs_strs' F
   obtain ⟨kb2, hkb2⟩ := goneO_old (kb := kb) (k := ⟨F.map (fun s => .string (bsA s)), 1, .rw, w.hp.length, kb.pl⟩) hkb
   have hos := g5 (goneO w kb ⟨F.map (fun s => .string (bsA s)), 1, .rw, w.hp.length, kb.pl⟩) [] kb2 (fun _ => 0) hE (goneO_keeps hw hbm hkb rfl hrw) hkb2 (.inl ⟨rfl, by simp⟩)
   refine ⟨_, goneO w kb ⟨F.map (fun s => .string (bsA s)), 1, .rw, w.hp.length, kb.pl⟩, fun _ => 0, fun m => (0 + d2 m) + 0, callW_prim' b hg hres, hw.goneO hbm hkb rfl (fun _ => rfl), hgl.mono hE, ?_, ?_, ?_, fun m => ?_, fun m hm => ?_, fun m hm => ?_⟩
   ·exact Fr'.goneO hw hbm hkb rfl (Fr'.start hw (args := [.obs k 0 n 1, .fn g' []]) hv ho)
   ·simp only [RV, newSl]
    refine ⟨⟨w.hp.length, _, _, ?_, goneO_at, rfl, by omega, rfl⟩, by simp⟩
    show (w.rho ++ [w.hp.length])[H.length]? = _
    rw [<- ho.len]; simp
   ·exact ROs.snoc goneO_at rfl (RVs.mono hE _ hnew (fun _ _ => trivial)) hos
   ·show 0 + ((0 + d2 m) + 0) <= 1
    have := hle m; have := g4 m; omega
   ·show 0 + ((0 + d2 m) + 0) <= ca m + ch m
    have := g4 m; omega
   ·rw [goneO_len] at hm
    show 0 + ((0 + d2 m) + 0) = 0
    have := hbig m (by omega); have := g4 m; omega
  ·cases h
 ·cases h
end Go.AM

/- What comes in: arguments read az data, az values of the machines. -/
namespace Go.AM
set_option linter.unusedSimpArgs false
set_option linter.unusedVariables false
inductive Ty where
 | bool
 | int (k : IntKind)
 | str
 | sl (e : Ty)
 | st (fs : List Ty)
mutual
def tySz : Ty -> Nat
 | .st fs => tySzs fs
 | _ => 1
termination_by structural t => t
def tySzs : List Ty -> Nat
 | [] => 0
 | t :: ts => tySz t + tySzs ts
termination_by structural l => l
end
mutual
def tyIs (P : Program) : Ty -> TypeId -> Bool
 | .bool, t => (match P.underlying t with | some .bool => true | _ => false)
 | .int k, t => (match P.underlying t with | some (.int k') => decide (k' = k) | _ => false)
 | .str, t => (match P.underlying t with | some .string => true | _ => false)
 | .sl e, t => (match P.underlying t with | some (.slice e') => tyIs P e e' && decide (P.cellsOf e' = tySz e) && decide (0 < tySz e) | _ => false)
 | .st fs, t => (match P.underlying t with | some (.struct fields) => tysIs P fs fields.toList 0 && decide (P.cellsOf t = tySzs fs) | _ => false)
termination_by structural t => t
def tysIs (P : Program) : List Ty -> List Field -> Nat -> Bool
 | [], fs, _ => (match fs with | [] => true | _ => false)
 | t :: ts, fs, off => (match fs with | f :: fs => tyIs P t f.type && decide (f.offset = off) && decide (P.cellsOf f.type = tySz t) && tysIs P ts fs (off + tySz t) | [] => false)
termination_by structural l => l
end
mutual
def HasTy : Ty -> List V -> Prop
 | .bool, vs => ∃ b, vs = [.bool b]
 | .int k, vs => ∃ n, vs = [.int k n] /\ (Lit.int k n).wf = true
 | .str, vs => ∃ s : List UInt8, vs = [.str s] /\ s.length <= maxLen
 | .sl e, vs => ∃ xs : List (List V), vs = [.sl false xs] /\ xs.length <= maxLen /\ ∀ x ∈ xs, HasTy e x
 | .st fs, vs => HasTys fs vs
termination_by structural t => t
def HasTys : List Ty -> List V -> Prop
 | [], vs => vs = []
 | t :: ts, vs => ∃ a b, vs = a ++ b /\ HasTy t a /\ HasTys ts b
termination_by structural l => l
end
structure InOk (ι : Inj) (hp : Heap) (w : World) : Prop where
 ro : ∀ (b : Nat) (k : Blk), hp[b]? = some k -> (k.md = .ro ∨ k.md = .gone) /\ k.fam = b /\ k.pl = true
 dom : ∀ b x, ι b = some x -> b < hp.length
 ok : ∀ b x k, ι b = some x -> hp[b]? = some k -> (k.md ≠ .gone -> BlkR ι x k w w.heap.size) /\ k.sz = x.sz
theorem GOk.zero (ι : Inj) : GOk 0 ι := fun g hg => by omega
theorem GOk.mono {n : Nat} {ι ι' : Inj} (h : GOk n ι) (s : Sub ι ι') : GOk n ι' := fun g hg => by
 obtain ⟨x, h1, h2⟩ := h g hg
 exact ⟨x, s _ _ h1, h2⟩
theorem InOk.rel {ι : Inj} {hp : Heap} {w : World} (h : InOk ι hp w) {n : Nat} (hg : GOk n ι) : Rel n ι hp w w.heap.size where
 glob := hg
 szs := fun b x k hx hk => (h.ok b x k hx hk).2
 dom := h.dom
 base := Nat.le_refl _
 ok := fun b x k hx hk => (h.ok b x k hx (blkAt_some hk).1).1 (blkAt_some hk).2.1
 sep := fun b x k b' x' k' hx hk hm => by
  rcases (h.ro b k (blkAt_some hk).1).1 with q | q <;> (rw [q] at hm; cases hm)
theorem InOk.hw {ι : Inj} {hp : Heap} {w : World} (h : InOk ι hp w) : HW ⟨hp, [], []⟩ where
 obj := fun b hb => by cases hb
 one := fun b c kb kc hb hc m1 m2 _ => by rcases (h.ro b kb hb).1 with q | q <;> (rw [q] at m1; cases m1)
 fam := fun c k hk => by
  rw [(h.ro c k hk).2.1]; exact (List.getElem?_eq_some_iff.1 hk).1
 fbl := fun b hb => by cases hb
 sub := fun b hb => by cases hb
 nd := List.nodup_nil
 fbf := fun _ _ _ _ hb => by cases hb
 mrk := fun c k hk e => by rw [(h.ro c k hk).2.2] at e; cases e
theorem InOk.noRw {ι : Inj} {hp : Heap} {w : World} (h : InOk ι hp w) : ∀ b k, blkAt hp b = some k -> k.md ≠ .rw := fun b k hk e => by
 rcases (h.ro b k (blkAt_some hk).1).1 with q | q <;> (rw [q] at e; cases e)
theorem InOk.nil (w : World) : InOk (fun _ => none) [] w where
 ro := fun b k h => by simp at h
 dom := fun b x h => by cases h
 ok := fun b x k h => by cases h
theorem BlkR.sub {ι ι' : Inj} (hs : Sub ι ι') {x : Img} {k : Blk} {w : World} {B : Nat} (h : BlkR ι x k w B) : BlkR ι' x k w B := by
 obtain ⟨cs, el, fr, h1, h2, h3, h4, h5⟩ := h
 exact ⟨cs, el, fr, h1, h2, h3, h4.mono hs, h5⟩
theorem InOk.push {ι : Inj} {hp : Heap} {w : World} (h : InOk ι hp w) {x : Img} {cells : List Value} {sz : Nat} (hb : BlkR ι x ⟨cells, sz, .ro, hp.length, true⟩ w w.heap.size) (hsz : sz = x.sz) :
 ∃ ι', InOk ι' (hp ++ [⟨cells, sz, .ro, hp.length, true⟩]) w /\ Sub ι ι' /\ ι' hp.length = some x := by
 have hsub : Sub ι (fun b => if b = hp.length then some x else ι b) := fun b y hy => by
  have := h.dom b y hy
  show (if b = hp.length then some x else ι b) = some y
  rw [if_neg (by omega)]; exact hy
 refine ⟨fun b => if b = hp.length then some x else ι b, ⟨fun b k hk => ?_, fun b y hy => ?_, fun b y k hy hk => ?_⟩, hsub, by simp⟩
 ·rcases get_push hk with ⟨_, hk⟩ | ⟨rfl, rfl⟩
  ·exact h.ro b k hk
  ·exact ⟨.inl rfl, rfl, rfl⟩
 ·have hy' : (if b = hp.length then some x else ι b) = some y := hy
  simp only [List.length_append, List.length_cons, List.length_nil]
  split at hy'
  ·omega
  ·have := h.dom b y hy'; omega
 ·have hy' : (if b = hp.length then some x else ι b) = some y := hy
  rcases get_push hk with ⟨hl, hk⟩ | ⟨rfl, rfl⟩
  ·rw [if_neg (by omega)] at hy'
   obtain ⟨a, b'⟩ := h.ok b y k hy' hk
   exact ⟨fun q => (a q).sub hsub, b'⟩
  ·rw [if_pos rfl] at hy'
   cases hy'
   exact ⟨fun _ => hb.sub hsub, hsz⟩
theorem VRs.len' {ι : Inj} {xs ys : List Value} (h : VRs ι xs ys) : xs.length = ys.length := by
 induction h with
 | nil => rfl
 | cons _ _ ih => simp [ih]
theorem VRs.get' {ι : Inj} {xs ys : List Value} (h : VRs ι xs ys) : ∀ (i : Nat) (x : Value), xs[i]? = some x -> ∃ y, ys[i]? = some y /\ VR ι x y := by
 induction h with
 | nil => intro i x h; simp at h
 | cons h1 _ ih =>
   intro i z hz
   cases i with
   | zero => simp at hz; subst hz; exact ⟨_, by simp, h1⟩
   | succ i => simp at hz; simpa using ih i z hz
theorem ext_new (hp new : Heap) : Ext ⟨hp, [], []⟩ ⟨hp ++ new, [], []⟩ (fun _ => True) := by
 refine ⟨fun b kb hb hn => ⟨kb, ?_, Fre.nil, by simp, rfl, rfl, fun _ => ⟨rfl, rfl⟩⟩, fun k b h => h, fun k b kb h => by simp at h⟩
 show blkAt (hp ++ new) b = _
 have hb' : blkAt hp b = some kb := hb
 rw [blkAt_append _ (blkAt_some hb').2.2]; exact hb'
theorem RVs.push {hp new : Heap} {vs : List V} {xs : List Value} (h : RVs ⟨hp, [], []⟩ vs xs (fun _ => 0)) : RVs ⟨hp ++ new, [], []⟩ vs xs (fun _ => 0) :=
 RVs.mono (ext_new hp new) vs h (fun _ _ => trivial)
theorem RVss.push {hp new : Heap} {vs : List (List V)} {xs : List Value} {sz : Nat} (h : RVss ⟨hp, [], []⟩ vs xs sz (fun _ => 0)) : RVss ⟨hp ++ new, [], []⟩ vs xs sz (fun _ => 0) :=
 RVss.mono (ext_new hp new) vs h (fun _ _ => trivial)
mutual
theorem HasTy.len : ∀ (τ : Ty) {vs : List V}, HasTy τ vs -> vs.length = tySz τ
 | .bool, vs, h => by simp only [HasTy] at h; obtain ⟨_, rfl⟩ := h; rfl
 | .int k, vs, h => by simp only [HasTy] at h; obtain ⟨_, rfl, _⟩ := h; rfl
 | .str, vs, h => by simp only [HasTy] at h; obtain ⟨_, rfl, _⟩ := h; rfl
 | .sl e, vs, h => by simp only [HasTy] at h; obtain ⟨_, rfl, _⟩ := h; rfl
 | .st fs, vs, h => by simp only [HasTy] at h; simp only [tySz]; exact HasTys.len fs h
theorem HasTys.len : ∀ (τ : List Ty) {vs : List V}, HasTys τ vs -> vs.length = tySzs τ
 | [], vs, h => by simp only [HasTys] at h; rw [h]; rfl
 | t :: ts, vs, h => by
   simp only [HasTys] at h
   obtain ⟨a, b, rfl, h1, h2⟩ := h
   simp only [List.length_append, tySzs, HasTy.len t h1, HasTys.len ts h2]
end
section
variable {H : Type} {enc : TypeId × Value -> H} {P : Program} {w : World}
theorem cell_block {a : Addr} {v : Value} (h : w.cell? a = some v) : ∃ cs el fr, w.heap[a.block]? = some (.cells cs el fr) /\ a.spot = none /\ cs[a.off]? = some v := by
 unfold World.cell? at h
 split at h
 ·rename_i c el fr hc
  split at h
  ·cases h
  ·rename_i hs
   refine ⟨c, el, fr, hc, ?_, h⟩
   cases e : a.spot with
   | none => rfl
   | some _ => rw [e] at hs; simp at hs
 ·cases h
theorem add_block (a : Addr) (n : Nat) : (a.add n).block = a.block := by unfold Addr.add; split <;> rfl
theorem add_off (a : Addr) (n : Nat) : (a.add n).off = a.off + n := by
 unfold Addr.add; split
 ·rename_i h; subst h; simp
 ·rfl
theorem add_add (a : Addr) (m n : Nat) : (a.add m).add n = a.add (m + n) ∨ (a.add m).add n = a.add (m + n) := by
 left
 unfold Addr.add
 by_cases hm : m = 0
 ·subst hm; simp
 ·by_cases hn : n = 0
  ·subst hn; simp
  ·simp only [hm, hn, if_false, Nat.add_eq_zero_iff, and_self, Nat.add_assoc]
mutual
theorem conv : ∀ (τ : Ty) {t : TypeId} {n : Nat} {cs : List Value} {x : DataW H × List MemPlace} {hp : Heap} {ι : Inj}, tyIs P τ t = true -> DataW.trod enc P w 0 (fun _ => true) true n t cs = some x -> InOk ι hp w →
 ∃ new ι' xs vs, InOk ι' (hp ++ new) w /\ Sub ι ι' /\ VRs ι' xs cs /\ (∀ u ∈ xs, u.oneCell' = true) /\ RVs ⟨hp ++ new, [], []⟩ vs xs (fun _ => 0) /\ HasTy τ vs
 | .bool, t, n, cs, x, hp, ι, ht, h, hi => by
   simp only [tyIs] at ht
   split at ht
   ·rename_i hu
    obtain ⟨b, rfl, rfl⟩ := DataW.trod_bool hu h
    exact ⟨[], ι, [.bool b], [.bool b], by simpa using hi, Sub.refl ι, .cons (.bool b) .nil, by simp [Value.oneCell'], RVs.one (by simp [RV]), by simp [HasTy]⟩
   ·cases ht
 | .int k, t, n, cs, x, hp, ι, ht, h, hi => by
   simp only [tyIs] at ht
   split at ht
   ·rename_i k' hu
    have := of_decide_eq_true ht
    subst this
    obtain ⟨b, rfl, rfl, hw⟩ := DataW.trod_int hu h
    exact ⟨[], ι, [.int k' b], [.int k' b], by simpa using hi, Sub.refl ι, .cons (.int k' b) .nil, by simp [Value.oneCell'], RVs.one (by simp [RV]), by simp only [HasTy]; exact ⟨b, rfl, hw⟩⟩
   ·cases ht
 | .str, t, n, cs, x, hp, ι, ht, h, hi => by
   simp only [tyIs] at ht
   split at ht
   ·rename_i hu
    obtain ⟨b, rfl, rfl, hw⟩ := DataW.trod_string hu h
    exact ⟨[], ι, [.string b], [.str b.data.toList], by simpa using hi, Sub.refl ι, .cons (.str b) .nil, by simp [Value.oneCell'], RVs.one (by simp [RV]), by simp only [HasTy]; exact ⟨_, rfl, by have e : b.data.toList.length = b.size := rfl; rw [e]; exact hw⟩⟩
   ·cases ht
 | .sl e, t, n, cs, x, hp, ι, ht, h, hi => by
   simp only [tyIs] at ht
   split at ht
   ·rename_i e' hu
    simp only [Bool.and_eq_true, decide_eq_true_eq] at ht
    obtain ⟨⟨hte, hsz⟩, hpos⟩ := ht
    rcases DataW.trod_slice hu h with ⟨rfl, rfl⟩ | ⟨a, len, cap, elems, rest, m, rfl, rfl, rfl, _, hlc, hcap, hel, hget, hsp, _⟩
    ·refine ⟨[], ι, [.slice none 0 0], [.sl false []], by simpa using hi, Sub.refl ι, .cons .nils .nil, by simp [Value.oneCell'], RVs.one (by simp only [RV]; exact .inl ⟨trivial, ⟨none, 0, rfl, by simp⟩, by simp⟩), ?_⟩
     simp only [HasTy]
     exact ⟨[], rfl, by simp, by simp⟩
    ·by_cases h0 : len = 0
     ·subst h0
      refine ⟨[], ι, [.slice (some ⟨0, 0, none⟩) 0 1], [.sl false []], by simpa using hi, Sub.refl ι, .cons (.slz _ _ _ _ (by omega)) .nil, by simp [Value.oneCell'], RVs.one (by simp only [RV]; exact .inl ⟨trivial, ⟨_, 1, rfl, by simp⟩, by simp⟩), ?_⟩
      simp only [HasTy]
      exact ⟨[], rfl, by simp, by simp⟩
     ·-- the elements, one after the other
      have elem : ∀ (j : Nat) {hp : Heap} {ι : Inj}, j <= len -> InOk ι hp w -> ∃ new ι' xs vs, InOk ι' (hp ++ new) w /\ Sub ι ι' /\ xs.length = j * tySz e /\ (∀ (i : Nat) (v : Value), xs[i]? = some v -> v.oneCell' = true /\ ∃ v', w.cell? (a.add i) = some v' /\ VR ι' v v') ∧
       RVss ⟨hp ++ new, [], []⟩ vs xs (tySz e) (fun _ => 0) /\ vs.length = j /\ ∀ y ∈ vs, HasTy e y := by
       intro j
       induction j with
       | zero => intro hp ι _ hi; exact ⟨[], ι, [], [], by simpa using hi, Sub.refl ι, by simp, by simp, by simp [RVss], rfl, by simp⟩
       | succ j ih =>
         intro hp ι hj hi
         obtain ⟨new1, ι1, xs1, vs1, i1, s1, l1, r1, q1, n1, t1⟩ := ih (by omega) hi
         have hg := hget j (by omega)
         have hej : ∃ y, elems[j]? = some y := ⟨elems[j]'(by omega), List.getElem?_eq_getElem (by omega)⟩
         obtain ⟨y, hy⟩ := hej
         rw [hy, Option.bind_eq_some_iff] at hg
         obtain ⟨ecs, hec, hey⟩ := hg
         obtain ⟨new2, ι2, xs2, vs2, i2, s2, r2, o2, q2, t2⟩ := conv e hte hey i1
         obtain ⟨_, hlen2, hcell⟩ := World.cells?_some hec
         have hx2 : xs2.length = tySz e := by rw [r2.len', hlen2, hsz]
         refine ⟨new1 ++ new2, ι2, xs1 ++ xs2, vs1 ++ [vs2], by rw [<- List.append_assoc]; exact i2, s1.trans s2, by simp [l1, hx2, Nat.succ_mul], fun i v hv => ?_, ?_, by simp [n1], fun z hz => ?_⟩
         ·by_cases hlt : i < xs1.length
          ·rw [List.getElem?_append_left hlt] at hv
           obtain ⟨g1, v', g2, g3⟩ := r1 i v hv
           exact ⟨g1, v', g2, g3.mono s2⟩
          ·rw [List.getElem?_append_right (by omega)] at hv
           obtain ⟨v', g2, g3⟩ := r2.get' _ _ hv
           refine ⟨o2 v (List.mem_of_getElem? hv), v', ?_, g3⟩
           have hi2 : i - xs1.length < P.cellsOf e' := by
            have := (List.getElem?_eq_some_iff.1 g2).1; omega
           have := hcell (i - xs1.length) hi2
           rw [g2] at this
           rw [<- this]
           have e1 : (a.add (j * P.cellsOf e')).add (i - xs1.length) = a.add (j * P.cellsOf e' + (i - xs1.length)) := (add_add a _ _).elim id id
           have e2 : j * P.cellsOf e' + (i - xs1.length) = i := by rw [hsz, <- l1]; omega
           rw [e1, e2]
         ·rw [<- List.append_assoc]
          refine (RVss.app (RVss.push q1) (b := fun _ => 0) ?_).congr (by simp)
          simp only [RVss]
          exact ⟨xs2, [], fun _ => 0, fun _ => 0, by simp, HasTy.len e t2, q2, ⟨rfl, by simp⟩, by simp⟩
         ·rcases List.mem_append.1 hz with hz | hz
          ·exact t1 z hz
          ·simp at hz; subst hz; exact t2
      obtain ⟨new, ι1, xs, vs, i1, s1, l1, r1, q1, n1, t1⟩ := elem len (Nat.le_refl _) hi
      have hxl : 0 < xs.length := by rw [l1]; exact Nat.mul_pos (by omega) hpos
      obtain ⟨_, v0, hv0, _⟩ := r1 0 xs[0] (List.getElem?_eq_getElem hxl)
      have ha0 : a.add 0 = a := by simp [Addr.add]
      rw [ha0] at hv0
      obtain ⟨c, el, fr, hc, hspot, _⟩ := cell_block hv0
      have inb : ∀ i v, w.cell? (a.add i) = some v -> a.off + i < c.size /\ c[a.off + i]? = some v := fun i v hv => by
       obtain ⟨c', el', fr', hc', _, hx⟩ := cell_block hv
       rw [add_block] at hc'
       rw [hc] at hc'
       cases hc'
       rw [add_off] at hx
       exact ⟨(Array.getElem?_eq_some_iff.1 hx).1, hx⟩
      have hroom : a.off + cap * tySz e <= c.size := by
       have hlast : ∃ ecs, w.cells? 0 (a.add ((cap - 1) * P.cellsOf e')) (P.cellsOf e') = some ecs := by
        by_cases hcl : cap = len
        ·have hg := hget (cap - 1) (by omega)
         have : ∃ y, elems[cap - 1]? = some y := ⟨elems[cap - 1]'(by omega), List.getElem?_eq_getElem (by omega)⟩
         obtain ⟨y, hy⟩ := this
         rw [hy, Option.bind_eq_some_iff] at hg
         exact ⟨_, hg.choose_spec.1⟩
        ·obtain ⟨hrl, hr⟩ := hsp rfl
         have hg := hr (cap - 1 - len) (by omega)
         have : ∃ y, rest[cap - 1 - len]? = some y := ⟨rest[cap - 1 - len]'(by omega), List.getElem?_eq_getElem (by omega)⟩
         obtain ⟨y, hy⟩ := this
         rw [show len + (cap - 1 - len) = cap - 1 by omega, hy, Option.bind_eq_some_iff] at hg
         exact ⟨_, hg.choose_spec.1⟩
       obtain ⟨ecs, hec⟩ := hlast
       obtain ⟨_, hl2, hcell⟩ := World.cells?_some hec
       rw [hsz] at *
       have hlt : tySz e - 1 < ecs.length := by omega
       have := hcell (tySz e - 1) (by omega)
       rw [List.getElem?_eq_getElem hlt, (add_add a _ _).elim id id] at this
       have := (inb _ _ this).1
       have hm : (cap - 1) * tySz e + tySz e = cap * tySz e := by
        rw [<- Nat.succ_mul]; congr 1; omega
       omega
      have hblk : BlkR ι1 ⟨a.block, a.off, c.size - a.off, tySz e⟩ ⟨xs, tySz e, .ro, (hp ++ new).length, true⟩ w w.heap.size := by
       refine ⟨c, el, fr, hc, by simp only; omega, ?_, fun i v hv => ?_, fun h => by cases h⟩
       ·simp only; rw [l1]
        have := Nat.mul_le_mul_right (tySz e) hlc
        omega
       ·obtain ⟨g1, v', g2, g3⟩ := r1 i v hv
        exact ⟨g1, v', (inb i v' g2).2, g3⟩
      obtain ⟨ι2, i2, s2, hat⟩ := i1.push hblk rfl
      refine ⟨new ++ [⟨xs, tySz e, .ro, (hp ++ new).length, true⟩], ι2, [.slice (some ⟨(hp ++ new).length, 0, none⟩) len (len + 1)], [.sl false vs], by rw [<- List.append_assoc]; exact i2, s1.trans s2, ?_, by simp [Value.oneCell'], ?_, ?_⟩
      ·refine .cons ?_ .nil
       have := VR.slc (ι := ι2) (o := 0) (n := len) (c := len + 1) (c' := cap) hat (by omega) hlc (by omega) (by simp only; omega)
       have ea : (⟨a.block, a.off + 0, none⟩ : Addr) = a := by
        obtain ⟨b, o, s⟩ := a
        simp only at hspot
        subst hspot; rfl
       simp only at this
       rw [ea] at this; exact this
      ·refine RVs.one ?_
       rw [<- List.append_assoc]
       have hne : vs ≠ [] := fun e => by rw [e] at n1; simp at n1; omega
       simp only [RV]
       refine .inr ⟨hne, (hp ++ new).length, 0, ⟨xs, tySz e, .ro, (hp ++ new).length, true⟩, xs, len + 1, fun _ => 0, newBlkV (by simp), by simp, Fre.nil, by rw [n1], hpos, ?_, RVss.push q1, .inl ⟨trivial, by simp, by simp⟩⟩
       show gcut xs 0 (vs.length * tySz e) = some xs
       rw [gcut_mk (by rw [n1, l1]; omega), List.drop_zero, List.take_of_length_le (by rw [n1, l1]; omega)]
      ·simp only [HasTy]
       exact ⟨vs, rfl, by rw [n1]; omega, t1⟩
   ·cases ht
 | .st fs, t, n, cs, x, hp, ι, ht, h, hi => by
   simp only [tyIs] at ht
   split at ht
   ·rename_i fields hu
    simp only [Bool.and_eq_true, decide_eq_true_eq] at ht
    obtain ⟨ht1, ht2⟩ := ht
    obtain ⟨xs, m, rfl, rfl, hlen, hxl, hget⟩ := DataW.trod_struct hu h
    obtain ⟨new, ι', ys, vs, g1, g2, g3, g4, g5, g6⟩ := convs fs (fields := fields.toList) (off := 0) (cs := cs) (m := m) ht1 (by rw [hlen, ht2]; omega) (fun i f hf => by
     have := hget i f (by simpa using hf)
     have hi : i < xs.length := by rw [hxl]; have := (List.getElem?_eq_some_iff.1 hf).1; simpa using this
     exact ⟨xs[i], by rw [this, List.getElem?_eq_getElem hi]⟩) hi
    refine ⟨new, ι', ys, vs, g1, g2, ?_, g4, g5, by simp only [HasTy]; exact g6⟩
    have : (cs.drop 0).take (tySzs fs) = cs := by rw [List.drop_zero, List.take_of_length_le (by omega)]
    rw [this] at g3; exact g3
   ·cases ht
theorem convs : ∀ (fs : List Ty) {fields : List Field} {off m : Nat} {cs : List Value} {hp : Heap} {ι : Inj}, tysIs P fs fields off = true -> off + tySzs fs <= cs.length →
 (∀ (i : Nat) (f : Field), fields[i]? = some f -> ∃ y, DataW.trod enc P w 0 (fun _ => true) true m f.type ((cs.drop f.offset).take (P.cellsOf f.type)) = some y) -> InOk ι hp w →
 ∃ new ι' xs vs, InOk ι' (hp ++ new) w /\ Sub ι ι' /\ VRs ι' xs ((cs.drop off).take (tySzs fs)) /\ (∀ u ∈ xs, u.oneCell' = true) /\ RVs ⟨hp ++ new, [], []⟩ vs xs (fun _ => 0) /\ HasTys fs vs
 | [], fields, off, m, cs, hp, ι, ht, hl, hg, hi => ⟨[], ι, [], [], by simpa using hi, Sub.refl ι, by simp [tySzs]; exact .nil, by simp, by simp [RVs], by simp [HasTys]⟩
 | t :: ts, fields, off, m, cs, hp, ι, ht, hl, hg, hi => by
   cases fields with
   | nil => simp only [tysIs] at ht; cases ht
   | cons f fields =>
     simp only [tysIs, Bool.and_eq_true, decide_eq_true_eq] at ht
     obtain ⟨⟨⟨h1, h2⟩, h3⟩, h4⟩ := ht
     simp only [tySzs] at hl
     obtain ⟨y, hy⟩ := hg 0 f (by simp)
     rw [h2, h3] at hy
     obtain ⟨new1, ι1, xs1, vs1, i1, s1, r1, o1, q1, t1⟩ := conv t h1 hy hi
     obtain ⟨new2, ι2, xs2, vs2, i2, s2, r2, o2, q2, t2⟩ := convs ts (fields := fields) (off := off + tySz t) (cs := cs) (m := m) h4 (by omega) (fun i g hgi => hg (i + 1) g (by simpa using hgi)) i1
     refine ⟨new1 ++ new2, ι2, xs1 ++ xs2, vs1 ++ vs2, by rw [<- List.append_assoc]; exact i2, s1.trans s2, ?_, fun u hu => ?_, ?_, by simp only [HasTys]; exact ⟨vs1, vs2, rfl, t1, t2⟩⟩
     ·have e : (cs.drop off).take (tySzs (t :: ts)) = (cs.drop off).take (tySz t) ++ (cs.drop (off + tySz t)).take (tySzs ts) := by
       simp only [tySzs]
       rw [<- List.drop_drop, List.take_add]
      rw [e]
      exact (r1.mono s2).append r2
     ·rcases List.mem_append.1 hu with hu | hu
      ·exact o1 u hu
      ·exact o2 u hu
     ·rw [<- List.append_assoc]
      exact ((RVs.push q1).app q2).congr (by simp)
end
end
end Go.AM

/- Package variables that are listed az laid: rows of texts. -/
namespace Go.AM
set_option linter.unusedSimpArgs false
set_option linter.unusedVariables false
def globHp (g : Nat) (cells : List Value) : Heap := (List.range g).map (fun b => ⟨[], 1, .gone, b, true⟩) ++ [⟨cells, 1, .ro, g, true⟩]
theorem globHp_len (g : Nat) (cells : List Value) : (globHp g cells).length = g + 1 := by simp [globHp]
theorem globHp_at (g : Nat) (cells : List Value) : (globHp g cells)[g]? = some ⟨cells, 1, .ro, g, true⟩ := by
 unfold globHp
 rw [List.getElem?_append_right (by simp)]; simp
theorem globHp_get {g b : Nat} {cells : List Value} {k : Blk} (h : (globHp g cells)[b]? = some k) : (b < g /\ k = ⟨[], 1, .gone, b, true⟩) ∨ (b = g /\ k = ⟨cells, 1, .ro, g, true⟩) := by
 have hl := (List.getElem?_eq_some_iff.1 h).1
 rw [globHp_len] at hl
 by_cases hb : b < g
 ·left
  unfold globHp at h
  rw [List.getElem?_append_left (by simpa using hb)] at h
  simp [hb] at h
  exact ⟨hb, h.symm⟩
 ·obtain rfl : b = g := by omega
  rw [globHp_at] at h; cases h
  exact .inr ⟨rfl, rfl⟩
def globI (g room : Nat) : Inj := fun b => if b <= g then some ⟨b, 0, if b = g then room else 0, 1⟩ else none
def strVs (ss : List (List UInt8)) : List Value := ss.map fun s => .string ⟨s.toArray⟩
theorem InOk.globs {w : World} {g : Nat} {cs : Array Value} {el : TypeId} {fr : Nat × Nat} (hb : w.heap[g]? = some (.cells cs el fr)) {ss : List (List UInt8)} (hc : cs.toList = strVs ss) :
 InOk (globI g cs.size) (globHp g (strVs ss)) w /\ GOk (g + 1) (globI g cs.size) := by
 refine ⟨⟨fun b k h => ?_, fun b x h => ?_, fun b x k hx hk => ?_⟩, fun b hb' => ?_⟩
 ·rcases globHp_get h with ⟨_, rfl⟩ | ⟨rfl, rfl⟩
  ·exact ⟨.inr rfl, rfl, rfl⟩
  ·exact ⟨.inl rfl, rfl, rfl⟩
 ·unfold globI at h
  rw [globHp_len]
  split at h
  ·omega
  ·cases h
 ·unfold globI at hx
  split at hx
  ·cases hx
   rcases globHp_get hk with ⟨hlt, rfl⟩ | ⟨rfl, rfl⟩
   ·exact ⟨fun q => absurd rfl q, rfl⟩
   ·refine ⟨fun _ => ⟨cs, el, fr, hb, by simp, ?_, fun i v hv => ?_, fun q => by cases q⟩, rfl⟩
    ·simp only [if_true]
     have := congrArg List.length hc
     simp at this; simp [this]
    ·simp only at hv ⊢
     rw [<- hc] at hv
     have hv' : cs[i]? = some v := by simpa using hv
     have hm : v ∈ strVs ss := by rw [<- hc]; exact List.mem_of_getElem? hv
     unfold strVs at hm
     obtain ⟨s, _, rfl⟩ := List.mem_map.1 hm
     exact ⟨rfl, _, by rw [Nat.zero_add]; exact hv', .str _⟩
  ·cases hx
 ·exact ⟨⟨b, 0, if b = g then cs.size else 0, 1⟩, by unfold globI; rw [if_pos (by omega)], rfl, rfl⟩
def globT (g : Nat) (ss : List (List UInt8)) : Nat -> Option (List V) := fun k => match Nat.beq k g with | true => some (ss.map .str) | false => none
theorem strs_RVs {w : Wd} : ∀ ss : List (List UInt8), RVs w (ss.map .str) (strVs ss) (fun _ => 0)
 | [] => by simp [RVs, strVs]
 | s :: ss => ⟨_, _, fun _ => 0, fun _ => 0, rfl, by simp [RV], strs_RVs ss, by simp⟩
theorem globT_data {g : Nat} {ss : List (List UInt8)} {k : Nat} {cs : List V} (h : globT g ss k = some cs) : dataL cs = true := by
 unfold globT at h
 split at h
 ·cases h
  induction ss with
  | nil => rfl
  | cons s ss ih => simp only [List.map_cons, dataL, data, Bool.true_and]; exact ih
 ·cases h
theorem GlobOk.start {X : XV} {g : Nat} {ss : List (List UInt8)} (hx : X.glob = globT g ss) (new : Heap) : GlobOk X ⟨globHp g (strVs ss) ++ new, [], []⟩ := fun k cs h => by
 rw [hx] at h
 unfold globT at h
 split at h
 ·rename_i hk
  cases h
  obtain rfl := Nat.eq_of_beq_eq_true hk
  refine ⟨⟨strVs ss, 1, .ro, k, true⟩, ?_, Fre.nil, strs_RVs ss, by simp, rfl⟩
  show blkAt (globHp k (strVs ss) ++ new) k = _
  unfold blkAt
  rw [List.getElem?_append_left (by rw [globHp_len]; omega), globHp_at]
  rfl
 ·cases h
theorem laid_strs {P : Program} {w : World} {n : String} {d : DataW Unit} {g : Nat} {t e : TypeId} {k : Nat} {ss : List (List UInt8)} :
 ∀ {laid : List (String × DataW Unit)}, laidMetH P laid w -> (n, d) ∈ laid -> d.handleName?.isNone = true -> P.globalNamed n = some g -> (P.globals[g]?).map (·.type) = some t -> P.underlying t = some (.array k e) -> P.underlying e = some .string →
 P.cellsOf e = 1 -> P.cellsOf t = k -> d = .agg (ss.map fun s => .lit (.string s)) -> ∃ cs el fr, w.heap[g]? = some (.cells cs el fr) /\ cs.toList = strVs ss := by
 intro laid h hm hh hg ht hu he h1 hk hd
 obtain ⟨h2, _⟩ := laidMetH_iff.1 h
 obtain ⟨ps, hv, -⟩ := h2
 have hm' : (n, d) ∈ laid.filter fun x => x.2.handleName?.isNone := List.mem_filter.2 ⟨hm, hh⟩
 clear h hm hh
 generalize (laid.filter fun x => x.2.handleName?.isNone) = l at hv hm'
 induction l generalizing ps with
 | nil => cases hm'
 | cons y l ih =>
   obtain ⟨n', d'⟩ := y
   obtain ⟨g', t', cs, fuel, p, q, a1, a2, a3, a4, a5, a6⟩ := hv
   rcases List.mem_cons.1 hm' with e' | e'
   ·cases e'
    rw [hg] at a1; cases a1
    rw [ht] at a2; cases a2
    obtain ⟨cs', el, fr, b1, b2⟩ : ∃ cs' el fr, w.heap[g]? = some (.cells cs' el fr) /\ cs' = cs := by
     unfold World.var? at a3
     rw [hg] at a3
     simp only [Option.bind_some] at a3
     split at a3
     ·rename_i c el fr hc
      cases a3
      exact ⟨_, el, fr, hc, rfl⟩
     ·cases a3
    subst b2
    refine ⟨cs', el, fr, b1, ?_⟩
    subst hd
    obtain ⟨xs, m, _, hx, hl, hxl, hf⟩ := DataW.trod_array hu a4
    simp only [Prod.mk.injEq, DataW.agg.injEq] at hx
    have hxs := hx.1
    have hsl : ss.length = xs.length := by simpa using congrArg List.length hxs
    rw [h1] at hf
    apply List.ext_getElem?
    intro i
    by_cases hi : i < k
    ·have hfi := hf i hi
     have hxi : xs[i]? = some (xs[i]'(by omega)) := List.getElem?_eq_getElem (by omega)
     rw [hxi] at hfi
     obtain ⟨s, e1, e2, _⟩ := DataW.trod_string he hfi
     have e3 : (ss.map fun s => (DataW.lit (.string s) : DataW Unit))[i]? = some (.lit (.string s.data.toList)) := by
      rw [hxs, List.getElem?_map, hxi, Option.map_some, e2]
     rw [List.getElem?_map] at e3
     have hsi : ss[i]? = some (ss[i]'(by omega)) := List.getElem?_eq_getElem (by omega)
     rw [hsi] at e3
     simp only [Option.map_some, Option.some.injEq, DataW.lit.injEq, Lit.string.injEq] at e3
     have e4 : cs'.toList[i]? = some (.string s) := by
      rw [Nat.mul_one] at e1
      have : ((cs'.toList.drop i).take 1)[0]? = some (.string s) := by rw [e1]; rfl
      rw [List.getElem?_take] at this
      simpa using this
     rw [e4]
     unfold strVs
     rw [List.getElem?_map, hsi, Option.map_some, e3]
    ·rw [List.getElem?_eq_none (by omega), List.getElem?_eq_none (by unfold strVs; simp; omega)]
   ·exact ih q a5 e'
end Go.AM

/- Objects: loading and storing through known pointers; the block that draws. -/
namespace Go.AM
set_option linter.unusedSimpArgs false
set_option linter.unusedVariables false
theorem set_same {α : Type} {l : List α} {k : Nat} {a : α} (h : l[k]? = some a) : l.set k a = l := by
 apply List.ext_getElem?
 intro i
 rw [List.getElem?_set]
 split
 ·rename_i e
  subst e
  rw [h, if_pos (List.getElem?_eq_some_iff.1 h).1]
 ·rfl
theorem lp_cell {g : Nat -> Option (List V)} {n k off : Nat} {H : VH} {cs : List V} {v u : V} (h : H[k]? = some cs) (hv : cs[off]? = some v) (hu : strip v = u) : ldO g false false n (.ptr k off) H = some (u, H) := by
 rw [<- hu]
 simp only [ldO, h, loadC, hv, Option.bind_some, Option.map_some, set_same h]
theorem sp_cell {k off : Nat} {H : VH} {cs : List V} {v : V} (h : H[k]? = some cs) (ho : off < cs.length) : stO (.ptr k off) [v] H = some (H.set k (cs.set off v)) := by
 have hb : Nat.ble (off + [v].length) cs.length = true := Nat.ble_eq_true_of_le (by simp; omega)
 simp only [stO, h, hb]
 have : gseg cs off [v] = cs.set off v := by
  simp only [gseg]
  rw [List.set_eq_take_append_cons_drop, if_pos ho]; simp
 rw [this]
def pickN (xs : List UInt8) (p n : Nat) : Nat :=
 if xs.length = 0 then 0
 else if p < xs.length then (xs.getD p 0).toNat % n
 else
  let x := (xs.getD (p % xs.length) 0).toNat * 131 + (xs.getD ((p * 7 + 3) % xs.length) 0).toNat * 1117 + p * 29 + p / xs.length * 53
  (x ^^^ x / 64) % n
theorem pickN_lt (xs : List UInt8) (p n : Nat) (h : 1 <= n) : pickN xs p n < n := by
 unfold pickN
 split
 ·omega
 ·split
  ·exact Nat.mod_lt _ (by omega)
  ·exact Nat.mod_lt _ (by omega)
def rdr (o : Bool) (xs : List UInt8) (p : Nat) : List V := [.sl o (vB xs), .int .i64 (p : Int)]
end Go.AM

/- Arguments: each az a value of the machines. -/
namespace Go.AM
open Go.WideShapes
set_option linter.unusedSimpArgs false
set_option linter.unusedVariables false
def HasArg : Ty -> V -> Prop
 | .st fs, u => ∃ vs, u = .agg vs /\ HasTys fs vs
 | τ, u => HasTy τ [u]
theorem arg_in {H : Type} {enc : TypeId × Value -> H} {P : Program} {w : World} {τ : Ty} {t : TypeId} {v : Value} {d : DataW H} {ps : List MemPlace} {base : Nat} {r : Reach} {hp : Heap} {ι : Inj} (ht : tyIs P τ t = true)
 (h : DataW.Trod enc P w 0 (fun _ => true) true t v d ps) (hv : Value.okWide P w r base t v) (hi : InOk ι hp w) :
 ∃ new ι' x u, InOk ι' (hp ++ new) w /\ Sub ι ι' /\ VR ι' x v /\ RV ⟨hp ++ new, [], []⟩ u x (fun _ => 0) /\ HasArg τ u := by
 obtain ⟨fuel, hf⟩ := h
 obtain ⟨new, ι', xs, vs, h1, h2, h3, h4, h5, h6⟩ := conv τ ht hf hi
 have single : ∀ {c : Value}, v.cells.toList = [c] -> c = v -> (∀ u, HasTy τ [u] -> HasArg τ u) -> ∃ new ι' x u, InOk ι' (hp ++ new) w /\ Sub ι ι' /\ VR ι' x v /\ RV ⟨hp ++ new, [], []⟩ u x (fun _ => 0) /\ HasArg τ u := by
  intro c hc hcv hA
  rw [hc] at h3
  cases h3 with
  | cons g1 g2 =>
    cases g2
    rename_i x
    match vs, h5 with
    | [u], h5 =>
      simp only [RVs] at h5
      obtain ⟨x', ys, c1, c2, e1, k1, ⟨e2, k2⟩, k3⟩ := h5
      cases e1
      exact ⟨new, ι', x, u, h1, h2, by rw [<- hcv]; exact g1, k1.congr (fun i => by have := k3 i; omega), hA u h6⟩
    | [], h5 => simp only [RVs] at h5; exact absurd h5.1 (by simp)
    | u :: u2 :: l, h5 =>
      simp only [RVs] at h5
      obtain ⟨x', ys, c1, c2, e1, k1, ⟨x2, ys2, d1, d2, e2, _⟩, k3⟩ := h5
      cases e1; cases e2
 cases τ with
 | bool =>
   simp only [tyIs] at ht
   split at ht
   ·rename_i hu
    obtain ⟨b, rfl⟩ := okWide_bool hu hv
    exact single rfl rfl (fun _ h => h)
   ·cases ht
 | int k =>
   simp only [tyIs] at ht
   split at ht
   ·rename_i hu
    obtain ⟨b, rfl⟩ := okWide_int hu hv
    exact single rfl rfl (fun _ h => h)
   ·cases ht
 | str =>
   simp only [tyIs] at ht
   split at ht
   ·rename_i hu
    obtain ⟨b, rfl⟩ := okWide_string hu hv
    exact single rfl rfl (fun _ h => h)
   ·cases ht
 | sl e =>
   simp only [tyIs] at ht
   split at ht
   ·rename_i hu
    obtain ⟨a, l, c, rfl⟩ := okWide_slice hu hv
    exact single rfl rfl (fun _ h => h)
   ·cases ht
 | st fs =>
   simp only [tyIs] at ht
   split at ht
   ·rename_i hu
    obtain ⟨⟨cs⟩, rfl, hsz⟩ := okWide_struct hu hv
    have h3' : VRs ι' xs cs := h3
    refine ⟨new, ι', .agg ⟨xs⟩, .agg vs, h1, h2, ?_, ?_, ?_⟩
    ·refine .agg (by simp [h3'.len']) (fun i a b ha hb => ?_) (fun i a ha => h4 a (List.mem_of_getElem? (by simpa using ha)))
     obtain ⟨y, g1, g2⟩ := h3'.get' i a (by simpa using ha)
     have : cs[i]? = some b := by simpa using hb
     rw [this] at g1; cases g1; exact g2
    ·simp only [RV]; exact ⟨xs, rfl, h5⟩
    ·simp only [HasTy] at h6; exact ⟨vs, rfl, h6⟩
   ·cases ht
theorem arg_bytes {u : V} (h : HasArg (.sl (.int .u8)) u) : ∃ xs : List UInt8, u = .sl false (vB xs) /\ xs.length <= maxLen := by
 simp only [HasArg, HasTy] at h
 obtain ⟨ys, h1, h2, h3⟩ := h
 cases h1
 have : ∀ {l : List (List V)}, (∀ x ∈ l, ∃ n, x = [.int .u8 n] /\ (Lit.int .u8 n).wf = true) -> ∃ xs : List UInt8, l = vB xs := by
  intro l
  induction l with
  | nil => intro _; exact ⟨[], rfl⟩
  | cons a l ih =>
    intro hl
    obtain ⟨n, rfl, hn⟩ := hl a (by simp)
    obtain ⟨xs, rfl⟩ := ih (fun x hx => hl x (by simp [hx]))
    have hn' : 0 <= n /\ n <= 255 := by
     simp [Lit.wf, IntKind.min, IntKind.max, IntKind.signed, IntKind.bits] at hn
     omega
    refine ⟨UInt8.ofNat n.toNat :: xs, ?_⟩
    simp only [vB, List.map_cons]
    congr 2
    have e : (UInt8.ofNat n.toNat).toNat = n.toNat := by rw [UInt8.toNat_ofNat']; omega
    rw [e, Int.toNat_of_nonneg hn'.1]
 obtain ⟨xs, rfl⟩ := this h3
 exact ⟨xs, rfl, by rw [vB_len] at h2; exact h2⟩
theorem RV.more {hp new : Heap} {u : V} {x : Value} (h : RV ⟨hp, [], []⟩ u x (fun _ => 0)) : RV ⟨hp ++ new, [], []⟩ u x (fun _ => 0) :=
 RV.mono (ext_new hp new) u h (fun _ _ => trivial)
end Go.AM

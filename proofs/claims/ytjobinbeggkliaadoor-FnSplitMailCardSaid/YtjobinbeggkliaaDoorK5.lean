/- Part 5 of the machines: what is proved is told at each theorem; no condition. -/
import Derived.Test.YtjobinbeggkliaaDoorK4
import Derived.ChangeArms
import Derived.DataReads
import Derived.WideShapes
/- What comes in: arguments read as data, as values of the machines. -/
namespace Go.AM
set_option linter.unusedSimpArgs false
set_option linter.unusedVariables false

/-- Kinds of plain data. -/
inductive Ty where
  | bool
  | int (k : IntKind)
  | str
  | sl (e : Ty)
  | st (fs : List Ty)

mutual
def tySz : Ty → Nat
  | .st fs => tySzs fs
  | _ => 1
termination_by structural t => t
def tySzs : List Ty → Nat
  | [] => 0
  | t :: ts => tySz t + tySzs ts
termination_by structural l => l
end

mutual
/-- The program's type t is of this kind. -/
def tyIs (P : Program) : Ty → TypeId → Bool
  | .bool, t => (match P.underlying t with | some .bool => true | _ => false)
  | .int k, t => (match P.underlying t with | some (.int k') => decide (k' = k) | _ => false)
  | .str, t => (match P.underlying t with | some .string => true | _ => false)
  | .sl e, t => (match P.underlying t with | some (.slice e') => tyIs P e e' && decide (P.cellsOf e' = tySz e) && decide (0 < tySz e) | _ => false)
  | .st fs, t => (match P.underlying t with | some (.struct fields) => tysIs P fs fields.toList 0 && decide (P.cellsOf t = tySzs fs) | _ => false)
termination_by structural t => t
def tysIs (P : Program) : List Ty → List Field → Nat → Bool
  | [], fs, _ => (match fs with | [] => true | _ => false)
  | t :: ts, fs, off => (match fs with | f :: fs => tyIs P t f.type && decide (f.offset = off) && decide (P.cellsOf f.type = tySz t) && tysIs P ts fs (off + tySz t) | [] => false)
termination_by structural l => l
end

mutual
/-- Cells of a value of this kind. -/
def HasTy : Ty → List V → Prop
  | .bool, vs => ∃ b, vs = [.bool b]
  | .int k, vs => ∃ n, vs = [.int k n] ∧ (Lit.int k n).wf = true
  | .str, vs => ∃ s : List UInt8, vs = [.str s] ∧ s.length ≤ maxLen
  | .sl e, vs => ∃ xs : List (List V), vs = [.sl false xs] ∧ xs.length ≤ maxLen ∧ ∀ x ∈ xs, HasTy e x
  | .st fs, vs => HasTys fs vs
termination_by structural t => t
def HasTys : List Ty → List V → Prop
  | [], vs => vs = []
  | t :: ts, vs => ∃ a b, vs = a ++ b ∧ HasTy t a ∧ HasTys ts b
termination_by structural l => l
end

/-- A heap of blocks that are only read, and what stands for them in the world. -/
structure InOk (ι : Inj) (hp : Heap) (w : World) : Prop where
  ro : ∀ (b : Nat) (k : Blk), hp[b]? = some k → k.md = .ro ∧ k.fam = b
  dom : ∀ b x, ι b = some x → b < hp.length
  ok : ∀ b x k, ι b = some x → hp[b]? = some k → BlkR ι x k w w.heap.size ∧ k.sz = x.sz

theorem InOk.rel {ι : Inj} {hp : Heap} {w : World} (h : InOk ι hp w) : Rel 0 ι hp w w.heap.size where
  glob := fun g hg => by omega
  szs := fun b x k hx hk => (h.ok b x k hx hk).2
  dom := h.dom
  base := Nat.le_refl _
  ok := fun b x k hx hk => (h.ok b x k hx (blkAt_some hk).1).1
  sep := fun b x k b' x' k' hx hk hm => by
    have := (h.ro b k (blkAt_some hk).1).1
    rw [this] at hm; cases hm

theorem InOk.hw {ι : Inj} {hp : Heap} {w : World} (h : InOk ι hp w) : HW ⟨hp, [], []⟩ where
  obj := fun b hb => by cases hb
  one := fun b c kb kc hb hc m1 m2 _ => by rw [(h.ro b kb hb).1] at m1; cases m1
  fam := fun c k hk => by
    rw [(h.ro c k hk).2]; exact (List.getElem?_eq_some_iff.1 hk).1
  fbl := fun b hb => by cases hb
  sub := fun b hb => by cases hb
  nd := List.nodup_nil
  fbf := fun _ _ _ _ hb => by cases hb

theorem InOk.noRw {ι : Inj} {hp : Heap} {w : World} (h : InOk ι hp w) : ∀ b k, blkAt hp b = some k → k.md ≠ .rw := fun b k hk e => by
  rw [(h.ro b k (blkAt_some hk).1).1] at e; cases e

theorem InOk.nil (w : World) : InOk (fun _ => none) [] w where
  ro := fun b k h => by simp at h
  dom := fun b x h => by cases h
  ok := fun b x k h => by cases h

theorem BlkR.sub {ι ι' : Inj} (hs : Sub ι ι') {x : Img} {k : Blk} {w : World} {B : Nat} (h : BlkR ι x k w B) : BlkR ι' x k w B := by
  obtain ⟨cs, el, fr, h1, h2, h3, h4, h5⟩ := h
  exact ⟨cs, el, fr, h1, h2, h3, h4.mono hs, h5⟩

/-- One more block. -/
theorem InOk.push {ι : Inj} {hp : Heap} {w : World} (h : InOk ι hp w) {x : Img} {cells : List Value} {sz : Nat} (hb : BlkR ι x ⟨cells, sz, .ro, hp.length⟩ w w.heap.size) (hsz : sz = x.sz) :
    ∃ ι', InOk ι' (hp ++ [⟨cells, sz, .ro, hp.length⟩]) w ∧ Sub ι ι' ∧ ι' hp.length = some x := by
  have hsub : Sub ι (fun b => if b = hp.length then some x else ι b) := fun b y hy => by
    have := h.dom b y hy
    show (if b = hp.length then some x else ι b) = some y
    rw [if_neg (by omega)]; exact hy
  refine ⟨fun b => if b = hp.length then some x else ι b, ⟨fun b k hk => ?_, fun b y hy => ?_, fun b y k hy hk => ?_⟩, hsub, by simp⟩
  · rcases get_push hk with ⟨_, hk⟩ | ⟨rfl, rfl⟩
    · exact h.ro b k hk
    · exact ⟨rfl, rfl⟩
  · have hy' : (if b = hp.length then some x else ι b) = some y := hy
    simp only [List.length_append, List.length_cons, List.length_nil]
    split at hy'
    · omega
    · have := h.dom b y hy'; omega
  · have hy' : (if b = hp.length then some x else ι b) = some y := hy
    rcases get_push hk with ⟨hl, hk⟩ | ⟨rfl, rfl⟩
    · rw [if_neg (by omega)] at hy'
      obtain ⟨a, b'⟩ := h.ok b y k hy' hk
      exact ⟨a.sub hsub, b'⟩
    · rw [if_pos rfl] at hy'
      cases hy'
      exact ⟨hb.sub hsub, hsz⟩

theorem VRs.len' {ι : Inj} {xs ys : List Value} (h : VRs ι xs ys) : xs.length = ys.length := by
  induction h with
  | nil => rfl
  | cons _ _ ih => simp [ih]

theorem VRs.get' {ι : Inj} {xs ys : List Value} (h : VRs ι xs ys) : ∀ (i : Nat) (x : Value), xs[i]? = some x → ∃ y, ys[i]? = some y ∧ VR ι x y := by
  induction h with
  | nil => intro i x h; simp at h
  | cons h1 _ ih =>
    intro i z hz
    cases i with
    | zero => simp at hz; subst hz; exact ⟨_, by simp, h1⟩
    | succ i => simp at hz; simpa using ih i z hz

theorem ext_new (hp new : Heap) : Ext ⟨hp, [], []⟩ ⟨hp ++ new, [], []⟩ (fun _ => True) := by
  refine ⟨fun b kb hb hn => ⟨kb, ?_, Fre.nil, by simp, rfl, rfl, fun _ => rfl⟩, fun k b h => h, fun k b kb h => by simp at h⟩
  show blkAt (hp ++ new) b = _
  have hb' : blkAt hp b = some kb := hb
  rw [blkAt_append _ (blkAt_some hb').2.2]; exact hb'

theorem RVs.push {hp new : Heap} {vs : List V} {xs : List Value} (h : RVs ⟨hp, [], []⟩ vs xs (fun _ => 0)) : RVs ⟨hp ++ new, [], []⟩ vs xs (fun _ => 0) :=
  RVs.mono (ext_new hp new) vs h (fun _ _ => trivial)

theorem RVss.push {hp new : Heap} {vs : List (List V)} {xs : List Value} {sz : Nat} (h : RVss ⟨hp, [], []⟩ vs xs sz (fun _ => 0)) : RVss ⟨hp ++ new, [], []⟩ vs xs sz (fun _ => 0) :=
  RVss.mono (ext_new hp new) vs h (fun _ _ => trivial)

mutual
theorem HasTy.len : ∀ (τ : Ty) {vs : List V}, HasTy τ vs → vs.length = tySz τ
  | .bool, vs, h => by simp only [HasTy] at h; obtain ⟨_, rfl⟩ := h; rfl
  | .int k, vs, h => by simp only [HasTy] at h; obtain ⟨_, rfl, _⟩ := h; rfl
  | .str, vs, h => by simp only [HasTy] at h; obtain ⟨_, rfl, _⟩ := h; rfl
  | .sl e, vs, h => by simp only [HasTy] at h; obtain ⟨_, rfl, _⟩ := h; rfl
  | .st fs, vs, h => by simp only [HasTy] at h; simp only [tySz]; exact HasTys.len fs h
theorem HasTys.len : ∀ (τ : List Ty) {vs : List V}, HasTys τ vs → vs.length = tySzs τ
  | [], vs, h => by simp only [HasTys] at h; rw [h]; rfl
  | t :: ts, vs, h => by
    simp only [HasTys] at h
    obtain ⟨a, b, rfl, h1, h2⟩ := h
    simp only [List.length_append, tySzs, HasTy.len t h1, HasTys.len ts h2]
end

section
variable {H : Type} {enc : TypeId × Value → H} {P : Program} {w : World}

/-- A place that is read lies in a block of cells, at no byte within a cell. -/
theorem cell_block {a : Addr} {v : Value} (h : w.cell? a = some v) : ∃ cs el fr, w.heap[a.block]? = some (.cells cs el fr) ∧ a.spot = none ∧ cs[a.off]? = some v := by
  unfold World.cell? at h
  split at h
  · rename_i c el fr hc
    split at h
    · cases h
    · rename_i hs
      refine ⟨c, el, fr, hc, ?_, h⟩
      cases e : a.spot with
      | none => rfl
      | some _ => rw [e] at hs; simp at hs
  · cases h

theorem add_block (a : Addr) (n : Nat) : (a.add n).block = a.block := by unfold Addr.add; split <;> rfl
theorem add_off (a : Addr) (n : Nat) : (a.add n).off = a.off + n := by
  unfold Addr.add; split
  · rename_i h; subst h; simp
  · rfl
theorem add_add (a : Addr) (m n : Nat) : (a.add m).add n = a.add (m + n) ∨ (a.add m).add n = a.add (m + n) := by
  left
  unfold Addr.add
  by_cases hm : m = 0
  · subst hm; simp
  · by_cases hn : n = 0
    · subst hn; simp
    · simp only [hm, hn, if_false, Nat.add_eq_zero_iff, and_self, Nat.add_assoc]

mutual
theorem conv : ∀ (τ : Ty) {t : TypeId} {n : Nat} {cs : List Value} {x : DataW H × List MemPlace} {hp : Heap} {ι : Inj}, tyIs P τ t = true → DataW.trod enc P w 0 (fun _ => true) true n t cs = some x → InOk ι hp w →
    ∃ new ι' xs vs, InOk ι' (hp ++ new) w ∧ Sub ι ι' ∧ VRs ι' xs cs ∧ (∀ u ∈ xs, u.oneCell' = true) ∧ RVs ⟨hp ++ new, [], []⟩ vs xs (fun _ => 0) ∧ HasTy τ vs
  | .bool, t, n, cs, x, hp, ι, ht, h, hi => by
    simp only [tyIs] at ht
    split at ht
    · rename_i hu
      obtain ⟨b, rfl, rfl⟩ := DataW.trod_bool hu h
      exact ⟨[], ι, [.bool b], [.bool b], by simpa using hi, Sub.refl ι, .cons (.bool b) .nil, by simp [Value.oneCell'], RVs.one (by simp [RV]), by simp [HasTy]⟩
    · cases ht
  | .int k, t, n, cs, x, hp, ι, ht, h, hi => by
    simp only [tyIs] at ht
    split at ht
    · rename_i k' hu
      have := of_decide_eq_true ht
      subst this
      obtain ⟨b, rfl, rfl, hw⟩ := DataW.trod_int hu h
      exact ⟨[], ι, [.int k' b], [.int k' b], by simpa using hi, Sub.refl ι, .cons (.int k' b) .nil, by simp [Value.oneCell'], RVs.one (by simp [RV]), by simp only [HasTy]; exact ⟨b, rfl, hw⟩⟩
    · cases ht
  | .str, t, n, cs, x, hp, ι, ht, h, hi => by
    simp only [tyIs] at ht
    split at ht
    · rename_i hu
      obtain ⟨b, rfl, rfl, hw⟩ := DataW.trod_string hu h
      exact ⟨[], ι, [.string b], [.str b.data.toList], by simpa using hi, Sub.refl ι, .cons (.str b) .nil, by simp [Value.oneCell'], RVs.one (by simp [RV]), by simp only [HasTy]; exact ⟨_, rfl, by have e : b.data.toList.length = b.size := rfl; rw [e]; exact hw⟩⟩
    · cases ht
  | .sl e, t, n, cs, x, hp, ι, ht, h, hi => by
    simp only [tyIs] at ht
    split at ht
    · rename_i e' hu
      simp only [Bool.and_eq_true, decide_eq_true_eq] at ht
      obtain ⟨⟨hte, hsz⟩, hpos⟩ := ht
      rcases DataW.trod_slice hu h with ⟨rfl, rfl⟩ | ⟨a, len, cap, elems, rest, m, rfl, rfl, rfl, _, hlc, hcap, hel, hget, hsp, _⟩
      · refine ⟨[], ι, [.slice none 0 0], [.sl false []], by simpa using hi, Sub.refl ι, .cons .nils .nil, by simp [Value.oneCell'], RVs.one (by simp only [RV]; exact .inl ⟨trivial, ⟨none, 0, rfl, by simp⟩, by simp⟩), ?_⟩
        simp only [HasTy]
        exact ⟨[], rfl, by simp, by simp⟩
      · by_cases h0 : len = 0
        · subst h0
          refine ⟨[], ι, [.slice (some ⟨0, 0, none⟩) 0 1], [.sl false []], by simpa using hi, Sub.refl ι, .cons (.slz _ _ _ _ (by omega)) .nil, by simp [Value.oneCell'], RVs.one (by simp only [RV]; exact .inl ⟨trivial, ⟨_, 1, rfl, by simp⟩, by simp⟩), ?_⟩
          simp only [HasTy]
          exact ⟨[], rfl, by simp, by simp⟩
        · -- the elements, one after the other
          have elem : ∀ (j : Nat) {hp : Heap} {ι : Inj}, j ≤ len → InOk ι hp w → ∃ new ι' xs vs, InOk ι' (hp ++ new) w ∧ Sub ι ι' ∧ xs.length = j * tySz e ∧ (∀ (i : Nat) (v : Value), xs[i]? = some v → v.oneCell' = true ∧ ∃ v', w.cell? (a.add i) = some v' ∧ VR ι' v v') ∧
              RVss ⟨hp ++ new, [], []⟩ vs xs (tySz e) (fun _ => 0) ∧ vs.length = j ∧ ∀ y ∈ vs, HasTy e y := by
            intro j
            induction j with
            | zero => intro hp ι _ hi; exact ⟨[], ι, [], [], by simpa using hi, Sub.refl ι, by simp, by simp, by simp [RVss], rfl, by simp⟩
            | succ j ih =>
              intro hp ι hj hi
              obtain ⟨new1, ι1, xs1, vs1, i1, s1, l1, r1, q1, n1, t1⟩ := ih (by omega) hi
              have hg := hget j (by omega)
              have hej : ∃ y, elems[j]? = some y := ⟨elems[j]'(by omega), List.getElem?_eq_getElem (by omega)⟩
              obtain ⟨y, hy⟩ := hej
              rw [hy, Option.bind_eq_some_iff] at hg
              obtain ⟨ecs, hec, hey⟩ := hg
              obtain ⟨new2, ι2, xs2, vs2, i2, s2, r2, o2, q2, t2⟩ := conv e hte hey i1
              obtain ⟨_, hlen2, hcell⟩ := World.cells?_some hec
              have hx2 : xs2.length = tySz e := by rw [r2.len', hlen2, hsz]
              refine ⟨new1 ++ new2, ι2, xs1 ++ xs2, vs1 ++ [vs2], by rw [← List.append_assoc]; exact i2, s1.trans s2, by simp [l1, hx2, Nat.succ_mul], fun i v hv => ?_, ?_, by simp [n1], fun z hz => ?_⟩
              · by_cases hlt : i < xs1.length
                · rw [List.getElem?_append_left hlt] at hv
                  obtain ⟨g1, v', g2, g3⟩ := r1 i v hv
                  exact ⟨g1, v', g2, g3.mono s2⟩
                · rw [List.getElem?_append_right (by omega)] at hv
                  obtain ⟨v', g2, g3⟩ := r2.get' _ _ hv
                  refine ⟨o2 v (List.mem_of_getElem? hv), v', ?_, g3⟩
                  have hi2 : i - xs1.length < P.cellsOf e' := by
                    have := (List.getElem?_eq_some_iff.1 g2).1; omega
                  have := hcell (i - xs1.length) hi2
                  rw [g2] at this
                  rw [← this]
                  have e1 : (a.add (j * P.cellsOf e')).add (i - xs1.length) = a.add (j * P.cellsOf e' + (i - xs1.length)) := (add_add a _ _).elim id id
                  have e2 : j * P.cellsOf e' + (i - xs1.length) = i := by rw [hsz, ← l1]; omega
                  rw [e1, e2]
              · rw [← List.append_assoc]
                refine (RVss.app (RVss.push q1) (b := fun _ => 0) ?_).congr (by simp)
                simp only [RVss]
                exact ⟨xs2, [], fun _ => 0, fun _ => 0, by simp, HasTy.len e t2, q2, ⟨rfl, by simp⟩, by simp⟩
              · rcases List.mem_append.1 hz with hz | hz
                · exact t1 z hz
                · simp at hz; subst hz; exact t2
          obtain ⟨new, ι1, xs, vs, i1, s1, l1, r1, q1, n1, t1⟩ := elem len (Nat.le_refl _) hi
          -- the block in the world
          have hxl : 0 < xs.length := by rw [l1]; exact Nat.mul_pos (by omega) hpos
          obtain ⟨_, v0, hv0, _⟩ := r1 0 xs[0] (List.getElem?_eq_getElem hxl)
          have ha0 : a.add 0 = a := by simp [Addr.add]
          rw [ha0] at hv0
          obtain ⟨c, el, fr, hc, hspot, _⟩ := cell_block hv0
          have inb : ∀ i v, w.cell? (a.add i) = some v → a.off + i < c.size ∧ c[a.off + i]? = some v := fun i v hv => by
            obtain ⟨c', el', fr', hc', _, hx⟩ := cell_block hv
            rw [add_block] at hc'
            rw [hc] at hc'
            cases hc'
            rw [add_off] at hx
            exact ⟨(Array.getElem?_eq_some_iff.1 hx).1, hx⟩
          have hroom : a.off + cap * tySz e ≤ c.size := by
            -- the last element up to the capacity
            have hlast : ∃ ecs, w.cells? 0 (a.add ((cap - 1) * P.cellsOf e')) (P.cellsOf e') = some ecs := by
              by_cases hcl : cap = len
              · have hg := hget (cap - 1) (by omega)
                have : ∃ y, elems[cap - 1]? = some y := ⟨elems[cap - 1]'(by omega), List.getElem?_eq_getElem (by omega)⟩
                obtain ⟨y, hy⟩ := this
                rw [hy, Option.bind_eq_some_iff] at hg
                exact ⟨_, hg.choose_spec.1⟩
              · obtain ⟨hrl, hr⟩ := hsp rfl
                have hg := hr (cap - 1 - len) (by omega)
                have : ∃ y, rest[cap - 1 - len]? = some y := ⟨rest[cap - 1 - len]'(by omega), List.getElem?_eq_getElem (by omega)⟩
                obtain ⟨y, hy⟩ := this
                rw [show len + (cap - 1 - len) = cap - 1 by omega, hy, Option.bind_eq_some_iff] at hg
                exact ⟨_, hg.choose_spec.1⟩
            obtain ⟨ecs, hec⟩ := hlast
            obtain ⟨_, hl2, hcell⟩ := World.cells?_some hec
            rw [hsz] at *
            have hlt : tySz e - 1 < ecs.length := by omega
            have := hcell (tySz e - 1) (by omega)
            rw [List.getElem?_eq_getElem hlt, (add_add a _ _).elim id id] at this
            have := (inb _ _ this).1
            have hm : (cap - 1) * tySz e + tySz e = cap * tySz e := by
              rw [← Nat.succ_mul]; congr 1; omega
            omega
          have hblk : BlkR ι1 ⟨a.block, a.off, c.size - a.off, tySz e⟩ ⟨xs, tySz e, .ro, (hp ++ new).length⟩ w w.heap.size := by
            refine ⟨c, el, fr, hc, by simp only; omega, ?_, fun i v hv => ?_, fun h => by cases h⟩
            · simp only; rw [l1]
              have := Nat.mul_le_mul_right (tySz e) hlc
              omega
            · obtain ⟨g1, v', g2, g3⟩ := r1 i v hv
              exact ⟨g1, v', (inb i v' g2).2, g3⟩
          obtain ⟨ι2, i2, s2, hat⟩ := i1.push hblk rfl
          refine ⟨new ++ [⟨xs, tySz e, .ro, (hp ++ new).length⟩], ι2, [.slice (some ⟨(hp ++ new).length, 0, none⟩) len (len + 1)], [.sl false vs], by rw [← List.append_assoc]; exact i2, s1.trans s2, ?_, by simp [Value.oneCell'], ?_, ?_⟩
          · refine .cons ?_ .nil
            have := VR.slc (ι := ι2) (o := 0) (n := len) (c := len + 1) (c' := cap) hat (by omega) hlc (by omega) (by simp only; omega)
            have ea : (⟨a.block, a.off + 0, none⟩ : Addr) = a := by
              obtain ⟨b, o, s⟩ := a
              simp only at hspot
              subst hspot; rfl
            simp only at this
            rw [ea] at this; exact this
          · refine RVs.one ?_
            rw [← List.append_assoc]
            have hne : vs ≠ [] := fun e => by rw [e] at n1; simp at n1; omega
            simp only [RV]
            refine .inr ⟨hne, (hp ++ new).length, 0, ⟨xs, tySz e, .ro, (hp ++ new).length⟩, xs, len + 1, fun _ => 0, newBlkV (by simp), by simp, Fre.nil, by rw [n1], hpos, ?_, RVss.push q1, .inl ⟨trivial, by simp, by simp⟩⟩
            show gcut xs 0 (vs.length * tySz e) = some xs
            rw [gcut_mk (by rw [n1, l1]; omega), List.drop_zero, List.take_of_length_le (by rw [n1, l1]; omega)]
          · simp only [HasTy]
            exact ⟨vs, rfl, by rw [n1]; omega, t1⟩
    · cases ht
  | .st fs, t, n, cs, x, hp, ι, ht, h, hi => by
    simp only [tyIs] at ht
    split at ht
    · rename_i fields hu
      simp only [Bool.and_eq_true, decide_eq_true_eq] at ht
      obtain ⟨ht1, ht2⟩ := ht
      obtain ⟨xs, m, rfl, rfl, hlen, hxl, hget⟩ := DataW.trod_struct hu h
      obtain ⟨new, ι', ys, vs, g1, g2, g3, g4, g5, g6⟩ := convs fs (fields := fields.toList) (off := 0) (cs := cs) (m := m) ht1 (by rw [hlen, ht2]; omega) (fun i f hf => by
        have := hget i f (by simpa using hf)
        have hi : i < xs.length := by rw [hxl]; have := (List.getElem?_eq_some_iff.1 hf).1; simpa using this
        exact ⟨xs[i], by rw [this, List.getElem?_eq_getElem hi]⟩) hi
      refine ⟨new, ι', ys, vs, g1, g2, ?_, g4, g5, by simp only [HasTy]; exact g6⟩
      have : (cs.drop 0).take (tySzs fs) = cs := by rw [List.drop_zero, List.take_of_length_le (by omega)]
      rw [this] at g3; exact g3
    · cases ht
theorem convs : ∀ (fs : List Ty) {fields : List Field} {off m : Nat} {cs : List Value} {hp : Heap} {ι : Inj}, tysIs P fs fields off = true → off + tySzs fs ≤ cs.length →
    (∀ (i : Nat) (f : Field), fields[i]? = some f → ∃ y, DataW.trod enc P w 0 (fun _ => true) true m f.type ((cs.drop f.offset).take (P.cellsOf f.type)) = some y) → InOk ι hp w →
    ∃ new ι' xs vs, InOk ι' (hp ++ new) w ∧ Sub ι ι' ∧ VRs ι' xs ((cs.drop off).take (tySzs fs)) ∧ (∀ u ∈ xs, u.oneCell' = true) ∧ RVs ⟨hp ++ new, [], []⟩ vs xs (fun _ => 0) ∧ HasTys fs vs
  | [], fields, off, m, cs, hp, ι, ht, hl, hg, hi => ⟨[], ι, [], [], by simpa using hi, Sub.refl ι, by simp [tySzs]; exact .nil, by simp, by simp [RVs], by simp [HasTys]⟩
  | t :: ts, fields, off, m, cs, hp, ι, ht, hl, hg, hi => by
    cases fields with
    | nil => simp only [tysIs] at ht; cases ht
    | cons f fields =>
      simp only [tysIs, Bool.and_eq_true, decide_eq_true_eq] at ht
      obtain ⟨⟨⟨h1, h2⟩, h3⟩, h4⟩ := ht
      simp only [tySzs] at hl
      obtain ⟨y, hy⟩ := hg 0 f (by simp)
      rw [h2, h3] at hy
      obtain ⟨new1, ι1, xs1, vs1, i1, s1, r1, o1, q1, t1⟩ := conv t h1 hy hi
      obtain ⟨new2, ι2, xs2, vs2, i2, s2, r2, o2, q2, t2⟩ := convs ts (fields := fields) (off := off + tySz t) (cs := cs) (m := m) h4 (by omega) (fun i g hgi => hg (i + 1) g (by simpa using hgi)) i1
      refine ⟨new1 ++ new2, ι2, xs1 ++ xs2, vs1 ++ vs2, by rw [← List.append_assoc]; exact i2, s1.trans s2, ?_, fun u hu => ?_, ?_, by simp only [HasTys]; exact ⟨vs1, vs2, rfl, t1, t2⟩⟩
      · have e : (cs.drop off).take (tySzs (t :: ts)) = (cs.drop off).take (tySz t) ++ (cs.drop (off + tySz t)).take (tySzs ts) := by
          simp only [tySzs]
          rw [← List.drop_drop, List.take_add]
        rw [e]
        exact (r1.mono s2).append r2
      · rcases List.mem_append.1 hu with hu | hu
        · exact o1 u hu
        · exact o2 u hu
      · rw [← List.append_assoc]
        exact ((RVs.push q1).app q2).congr (by simp)
end
end

end Go.AM

/- Arguments: each as a value of the machines. -/
namespace Go.AM
open Go.WideShapes
set_option linter.unusedSimpArgs false
set_option linter.unusedVariables false

/-- An argument of this kind. -/
def HasArg : Ty → V → Prop
  | .st fs, u => ∃ vs, u = .agg vs ∧ HasTys fs vs
  | τ, u => HasTy τ [u]

theorem arg_in {H : Type} {enc : TypeId × Value → H} {P : Program} {w : World} {τ : Ty} {t : TypeId} {v : Value} {d : DataW H} {ps : List MemPlace} {base : Nat} {r : Reach} {hp : Heap} {ι : Inj} (ht : tyIs P τ t = true)
    (h : DataW.Trod enc P w 0 (fun _ => true) true t v d ps) (hv : Value.okWide P w r base t v) (hi : InOk ι hp w) :
    ∃ new ι' x u, InOk ι' (hp ++ new) w ∧ Sub ι ι' ∧ VR ι' x v ∧ RV ⟨hp ++ new, [], []⟩ u x (fun _ => 0) ∧ HasArg τ u := by
  obtain ⟨fuel, hf⟩ := h
  obtain ⟨new, ι', xs, vs, h1, h2, h3, h4, h5, h6⟩ := conv τ ht hf hi
  have single : ∀ {c : Value}, v.cells.toList = [c] → c = v → (∀ u, HasTy τ [u] → HasArg τ u) → ∃ new ι' x u, InOk ι' (hp ++ new) w ∧ Sub ι ι' ∧ VR ι' x v ∧ RV ⟨hp ++ new, [], []⟩ u x (fun _ => 0) ∧ HasArg τ u := by
    intro c hc hcv hA
    rw [hc] at h3
    cases h3 with
    | cons g1 g2 =>
      cases g2
      rename_i x
      match vs, h5 with
      | [u], h5 =>
        simp only [RVs] at h5
        obtain ⟨x', ys, c1, c2, e1, k1, ⟨e2, k2⟩, k3⟩ := h5
        cases e1
        exact ⟨new, ι', x, u, h1, h2, by rw [← hcv]; exact g1, k1.congr (fun i => by have := k3 i; omega), hA u h6⟩
      | [], h5 => simp only [RVs] at h5; exact absurd h5.1 (by simp)
      | u :: u2 :: l, h5 =>
        simp only [RVs] at h5
        obtain ⟨x', ys, c1, c2, e1, k1, ⟨x2, ys2, d1, d2, e2, _⟩, k3⟩ := h5
        cases e1; cases e2
  cases τ with
  | bool =>
    simp only [tyIs] at ht
    split at ht
    · rename_i hu
      obtain ⟨b, rfl⟩ := okWide_bool hu hv
      exact single rfl rfl (fun _ h => h)
    · cases ht
  | int k =>
    simp only [tyIs] at ht
    split at ht
    · rename_i hu
      obtain ⟨b, rfl⟩ := okWide_int hu hv
      exact single rfl rfl (fun _ h => h)
    · cases ht
  | str =>
    simp only [tyIs] at ht
    split at ht
    · rename_i hu
      obtain ⟨b, rfl⟩ := okWide_string hu hv
      exact single rfl rfl (fun _ h => h)
    · cases ht
  | sl e =>
    simp only [tyIs] at ht
    split at ht
    · rename_i hu
      obtain ⟨a, l, c, rfl⟩ := okWide_slice hu hv
      exact single rfl rfl (fun _ h => h)
    · cases ht
  | st fs =>
    simp only [tyIs] at ht
    split at ht
    · rename_i hu
      obtain ⟨⟨cs⟩, rfl, hsz⟩ := okWide_struct hu hv
      have h3' : VRs ι' xs cs := h3
      refine ⟨new, ι', .agg ⟨xs⟩, .agg vs, h1, h2, ?_, ?_, ?_⟩
      · refine .agg (by simp [h3'.len']) (fun i a b ha hb => ?_) (fun i a ha => h4 a (List.mem_of_getElem? (by simpa using ha)))
        obtain ⟨y, g1, g2⟩ := h3'.get' i a (by simpa using ha)
        have : cs[i]? = some b := by simpa using hb
        rw [this] at g1; cases g1; exact g2
      · simp only [RV]; exact ⟨xs, rfl, h5⟩
      · simp only [HasTy] at h6; exact ⟨vs, rfl, h6⟩
    · cases ht

/-- An argument that is a row of bytes. -/
theorem arg_bytes {u : V} (h : HasArg (.sl (.int .u8)) u) : ∃ xs : List UInt8, u = .sl false (vB xs) ∧ xs.length ≤ maxLen := by
  simp only [HasArg, HasTy] at h
  obtain ⟨ys, h1, h2, h3⟩ := h
  cases h1
  have : ∀ {l : List (List V)}, (∀ x ∈ l, ∃ n, x = [.int .u8 n] ∧ (Lit.int .u8 n).wf = true) → ∃ xs : List UInt8, l = vB xs := by
    intro l
    induction l with
    | nil => intro _; exact ⟨[], rfl⟩
    | cons a l ih =>
      intro hl
      obtain ⟨n, rfl, hn⟩ := hl a (by simp)
      obtain ⟨xs, rfl⟩ := ih (fun x hx => hl x (by simp [hx]))
      have hn' : 0 ≤ n ∧ n ≤ 255 := by
        simp [Lit.wf, IntKind.min, IntKind.max, IntKind.signed, IntKind.bits] at hn
        omega
      refine ⟨UInt8.ofNat n.toNat :: xs, ?_⟩
      simp only [vB, List.map_cons]
      congr 2
      have e : (UInt8.ofNat n.toNat).toNat = n.toNat := by rw [UInt8.toNat_ofNat']; omega
      rw [e, Int.toNat_of_nonneg hn'.1]
  obtain ⟨xs, rfl⟩ := this h3
  exact ⟨xs, rfl, by rw [vB_len] at h2; exact h2⟩

theorem RV.more {hp new : Heap} {u : V} {x : Value} (h : RV ⟨hp, [], []⟩ u x (fun _ => 0)) : RV ⟨hp ++ new, [], []⟩ u x (fun _ => 0) :=
  RV.mono (ext_new hp new) u h (fun _ _ => trivial)

end Go.AM

/- Rows of values of a kind; mails, sessions, mailboxes as values. -/
namespace Go.AM
set_option linter.unusedSimpArgs false
set_option linter.unusedVariables false

abbrev Bs := List UInt8

/-- How values of a kind lie in cells. -/
structure Ec (α : Type) where
  e : α → List V
  n : Nat
  len : ∀ a, (e a).length = n
  st : ∀ a, stripL (e a) = e a
  np : ∀ a, noPtrL (e a) = true
  dt : ∀ a, dataL (e a) = true

/-- A row of them. -/
def vR {α : Type} (E : Ec α) (l : List α) : List (List V) := l.map E.e

section
variable {α : Type} (E : Ec α) (l m : List α)
theorem vR_len : (vR E l).length = l.length := by simp [vR]
theorem vR_strip : stripLL (vR E l) = vR E l := by
  induction l with
  | nil => rfl
  | cons a l ih => simp only [vR, List.map_cons, stripLL, E.st] at ih ⊢; rw [ih]
theorem vR_np : noPtrLL (vR E l) = true := by
  induction l with
  | nil => rfl
  | cons a l ih => simp only [vR, List.map_cons, noPtrLL, E.np, Bool.true_and] at ih ⊢; exact ih
theorem vR_data : dataLL (vR E l) = true := by
  induction l with
  | nil => rfl
  | cons a l ih => simp only [vR, List.map_cons, dataLL, E.dt, Bool.true_and] at ih ⊢; exact ih
theorem vR_esz : eszOk E.n (vR E l) = true := by simp [eszOk, vR, E.len]
theorem vR_app : vR E l ++ vR E m = vR E (l ++ m) := by simp [vR]
theorem vR_nil : vR E [] = [] := rfl
theorem vR_get (i : Nat) (h : i < l.length) : (vR E l)[i]? = some (E.e l[i]) := by simp [vR, List.getElem?_eq_getElem h]
theorem vR_idx (o : Bool) (k : IntKind) (i : Nat) (h : i < l.length) : vIdxV E.n (.sl o (vR E l)) (.int k (i : Int)) = some (.elt (E.e l[i]) 0) := by
  rw [v_idx E.n o (vR E l) k i _ (vR_get E l i h) (E.len _), E.st]
end

def eT : Ec Bs := ⟨fun s => [.str s], 1, fun _ => rfl, fun _ => rfl, fun _ => rfl, fun _ => rfl⟩
theorem vR_T (l : List Bs) : vR eT l = vT l := rfl

structure Mail where
  from_ : Bs
  to : List Bs
  lines : List Bs
  deriving DecidableEq

structure Session where
  state : Int
  host : Bs
  draft : Mail
  done : List Mail
  deriving DecidableEq

structure Box where
  path : Bs
  mails : List Mail
  deriving DecidableEq

/-- A mail's cells. -/
def cM (m : Mail) : List V := [.str m.from_, .sl false (vT m.to), .sl false (vT m.lines)]
def eM : Ec Mail where
  e := cM
  n := 3
  len := fun _ => rfl
  st := fun m => by simp only [cM, stripL, strip, vT_strip]
  np := fun m => by simp only [cM, noPtrL, noPtr, vT_np, Bool.and_self]
  dt := fun m => by simp only [cM, dataL, data, vT_data, Bool.and_self]
def cS (s : Session) : List V := [.int .i64 s.state, .str s.host, .str s.draft.from_, .sl false (vT s.draft.to), .sl false (vT s.draft.lines), .sl false (vR eM s.done)]
def eS : Ec Session where
  e := cS
  n := 6
  len := fun _ => rfl
  st := fun m => by simp only [cS, stripL, strip, vT_strip, vR_strip]
  np := fun m => by simp only [cS, noPtrL, noPtr, vT_np, vR_np, Bool.and_self]
  dt := fun m => by simp only [cS, dataL, data, vT_data, vR_data, Bool.and_self]
def cX (b : Box) : List V := [.str b.path, .sl false (vR eM b.mails)]
def eX : Ec Box where
  e := cX
  n := 2
  len := fun _ => rfl
  st := fun m => by simp only [cX, stripL, strip, vR_strip]
  np := fun m => by simp only [cX, noPtrL, noPtr, vR_np, Bool.and_self]
  dt := fun m => by simp only [cX, dataL, data, vR_data, Bool.and_self]

/-! ### Words of structs -/
theorem ag_2 (a b : V) : aggNV 2 (.agg [a, b]) = some [a, b] := by exact id rfl
theorem ag_3 (a b c : V) : aggNV 3 (.agg [a, b, c]) = some [a, b, c] := by exact id rfl
theorem ag_6 (a b c d e f : V) : aggNV 6 (.agg [a, b, c, d, e, f]) = some [a, b, c, d, e, f] := by exact id rfl
theorem ag_7 (a b c d e f g : V) : aggNV 7 (.agg [a, b, c, d, e, f, g]) = some [a, b, c, d, e, f, g] := by exact id rfl
theorem le_2 (g : Nat → Option (List V)) (t : Bool) (a b : V) (H : VH) : ldO g t true 2 (.elt [a, b] 0) H = some (.agg [a, b], H) := by exact id rfl
theorem le_3 (g : Nat → Option (List V)) (t : Bool) (a b c : V) (H : VH) : ldO g t true 3 (.elt [a, b, c] 0) H = some (.agg [a, b, c], H) := by exact id rfl
theorem le_6 (g : Nat → Option (List V)) (t : Bool) (a b c d e f : V) (H : VH) : ldO g t true 6 (.elt [a, b, c, d, e, f] 0) H = some (.agg [a, b, c, d, e, f], H) := by exact id rfl
theorem le_at0 (g : Nat → Option (List V)) (t : Bool) (n : Nat) (a : V) (l : List V) (H : VH) : ldO g t false n (.elt (a :: l) 0) H = some (a, H) := by exact id rfl
theorem le_at1 (g : Nat → Option (List V)) (t : Bool) (n : Nat) (a b : V) (l : List V) (H : VH) : ldO g t false n (.elt (a :: b :: l) 1) H = some (b, H) := by exact id rfl
theorem le_at2 (g : Nat → Option (List V)) (t : Bool) (n : Nat) (a b c : V) (l : List V) (H : VH) : ldO g t false n (.elt (a :: b :: c :: l) 2) H = some (c, H) := by exact id rfl
theorem em_e (m : Mail) : eM.e m = [.str m.from_, .sl false (vT m.to), .sl false (vT m.lines)] := by exact id rfl
theorem es_e (s : Session) : eS.e s = [.int .i64 s.state, .str s.host, .str s.draft.from_, .sl false (vT s.draft.to), .sl false (vT s.draft.lines), .sl false (vR eM s.done)] := by exact id rfl
theorem ex_e (b : Box) : eX.e b = [.str b.path, .sl false (vR eM b.mails)] := by exact id rfl
theorem cM_e (m : Mail) : cM m = [.str m.from_, .sl false (vT m.to), .sl false (vT m.lines)] := by exact id rfl
theorem cS_e (s : Session) : cS s = [.int .i64 s.state, .str s.host, .str s.draft.from_, .sl false (vT s.draft.to), .sl false (vT s.draft.lines), .sl false (vR eM s.done)] := by exact id rfl
theorem cX_e (b : Box) : cX b = [.str b.path, .sl false (vR eM b.mails)] := by exact id rfl
theorem em_n : eM.n = 3 := by exact id rfl
theorem es_n : eS.n = 6 := by exact id rfl
theorem ex_n : eX.n = 2 := by exact id rfl
theorem vR_esz3 (l : List Mail) : eszOk 3 (vR eM l) = true := vR_esz eM l
theorem vR_esz2 (l : List Box) : eszOk 2 (vR eX l) = true := vR_esz eX l
theorem vM_idx (o : Bool) (l : List Mail) (k : IntKind) (i : Nat) (h : i < l.length) : vIdxV 3 (.sl o (vR eM l)) (.int k (i : Int)) = some (.elt (eM.e l[i]) 0) := vR_idx eM l o k i h
theorem vX_idx (o : Bool) (l : List Box) (k : IntKind) (i : Nat) (h : i < l.length) : vIdxV 2 (.sl o (vR eX l)) (.int k (i : Int)) = some (.elt (eX.e l[i]) 0) := vR_idx eX l o k i h

/-! ### Filling a slice in an object -/

/-- The object's cells when i of the n elements are laid. -/
def fillC {α : Type} (E : Ec α) (l : List α) (z : List V) (i : Nat) : List V := (vR E (l.take i)).flatten ++ repV (l.length - i) z

theorem flat_len {α : Type} (E : Ec α) : ∀ l : List α, (vR E l).flatten.length = l.length * E.n
  | [] => by simp [vR]
  | a :: l => by
    have := flat_len E l
    simp only [vR, List.map_cons, List.flatten_cons, List.length_append, E.len, List.length_cons, Nat.succ_mul] at this ⊢
    omega

theorem fill_step {α : Type} (E : Ec α) {l : List α} {z : List V} (hz : z.length = E.n) {i : Nat} (h : i < l.length) : gseg (fillC E l z i) (i * E.n) (E.e l[i]) = fillC E l z (i + 1) ∧ i * E.n + E.n ≤ (fillC E l z i).length := by
  have h1 : (vR E (l.take i)).flatten.length = i * E.n := by rw [flat_len, List.length_take, Nat.min_eq_left (by omega)]
  obtain ⟨k, hk⟩ : ∃ k, l.length - i = k + 1 := ⟨l.length - i - 1, by omega⟩
  have hk2 : l.length - (i + 1) = k := by omega
  have e1 : fillC E l z i = (vR E (l.take i)).flatten ++ z ++ repV k z := by simp only [fillC, hk, repV, List.append_assoc]
  have e2 : fillC E l z (i + 1) = (vR E (l.take i)).flatten ++ E.e l[i] ++ repV k z := by
    simp only [fillC, hk2]
    rw [List.take_succ_eq_append_getElem h]
    simp only [vR, List.map_append, List.map_cons, List.map_nil, List.flatten_append, List.flatten_cons, List.flatten_nil, List.append_nil]
  constructor
  · rw [e1, e2, ← h1]
    exact gseg_app _ _ _ _ (by rw [hz, E.len])
  · rw [e1]; simp only [List.length_append, h1, hz]; omega

theorem fill_end {α : Type} (E : Ec α) (l : List α) (z : List V) : fillC E l z l.length = (vR E l).flatten := by simp [fillC, repV]

theorem chunk_flat {α : Type} (E : Ec α) : ∀ l : List α, chunkV E.n l.length (vR E l).flatten = vR E l
  | [] => rfl
  | a :: l => by
    have := chunk_flat E l
    simp only [vR, List.map_cons, List.flatten_cons, List.length_cons, chunkV] at this ⊢
    have h := E.len a
    rw [← h, List.take_left, List.drop_left, h, this]

/-- The slice in a filled object, as a row. -/
theorem unobs_fill {α : Type} (E : Ec α) {H : VH} {k : Nat} {l : List α} (h : H[k]? = some (vR E l).flatten) : unobs H (.obs k 0 l.length E.n) = some (.sl false (vR E l)) := by
  simp only [unobs, unobs1, h, Option.bind_some]
  rw [gcut_mk (by rw [flat_len]; omega), List.drop_zero, List.take_of_length_le (by rw [flat_len]; omega)]
  simp only [Option.map_some, chunk_flat, vR_strip]

theorem ob_len (k o n e : Nat) : vLenVV (.obs k o n e) = some (.int .i64 n) := by exact id rfl
theorem ob_idx (k off n e : Nat) (q : IntKind) (i : Nat) (h : i < n) : vIdxV e (.obs k off n e) (.int q (i : Int)) = some (.ptr k (off + i * e)) := by
  have hc : (0 : Int) ≤ (i : Int) ∧ (i : Int) < (n : Int) ∧ e = e := ⟨by omega, by omega, rfl⟩
  simp only [vIdxV]
  rw [if_pos (by simpa using hc)]; simp
theorem st_obs (k o n e : Nat) : strip (.obs k o n e) = .obs k o n e := by exact id rfl
theorem np_obs (k o n e : Nat) : noPtr (.obs k o n e) = false := by exact id rfl
theorem mk_len (b : Nat) (n : Nat) (h : n * b ≤ 140737488355328) (h2 : n ≤ 9223372036854775807) : mkLenV b (.int .i64 (n : Int)) (.int .i64 (n : Int)) = some (n, n) := by
  simp only [mkLenV]
  rw [if_pos ⟨by omega, by omega, by simpa using h, by omega⟩]; simp

theorem so_seg {k off : Nat} {H : VH} {cs c : List V} (h : H[k]? = some cs) (ho : off + c.length ≤ cs.length) : stO (.ptr k off) c H = some (H.set k (gseg cs off c)) := by
  have hb : Nat.ble (off + c.length) cs.length = true := Nat.ble_eq_true_of_le ho
  simp only [stO, h, hb]

/-- One round of a loop that fills. -/
theorem fill_store {α : Type} (E : Ec α) {H : VH} {k : Nat} {l : List α} {z : List V} (hz : z.length = E.n) {i : Nat} (hi : i < l.length) (h : H[k]? = some (fillC E l z i)) : stO (.ptr k (0 + i * E.n)) (E.e l[i]) H = some (H.set k (fillC E l z (i + 1))) := by
  obtain ⟨h1, h2⟩ := fill_step E hz hi
  rw [Nat.zero_add, so_seg h (by rw [E.len]; exact h2), h1]

theorem pc_obs {α : Type} (E : Ec α) {call : CallV} {f : FuncId} {args : List V} {H : VH} {k : Nat} {l : List α} (h : call f args [] = some (.obs k 0 l.length E.n, H)) (h1 : noPtrL args = true) (hk : H[k]? = some (vR E l).flatten) : pcall call f args = some (.sl false (vR E l)) := by
  simp only [pcall, h1, h, Option.bind_some, data, unobs_fill E hk, vR_data]

end Go.AM

/- Loops of common kinds. -/
namespace Go.AM
set_option linter.unusedSimpArgs false
set_option linter.unusedVariables false

abbrev LB := List V → VH → Option (Option Nat × List V × VH)

section
variable {B : LB} {S : Nat → List V} {H : VH}

/-- Two rows, element by element: equal or not. -/
theorem lv_eq {α : Type} [DecidableEq α] {m0 m1 : Nat} {vs0 vs1 : List V} (xs ys : List α) (hl : xs.length = ys.length) (hr : ∀ (i : Nat) (h : i < xs.length), B (S i) H = if xs[i] = ys[i]'(by omega) then some (none, S (i + 1), H) else some (some m1, vs1, H))
    (he : B (S xs.length) H = some (some m0, vs0, H)) : lpW' B (S 0) H = if xs = ys then some (m0, vs0, H) else some (m1, vs1, H) := by
  have key : ∀ (n i : Nat), xs.length - i = n → i ≤ xs.length → lpW' B (S i) H = if xs.drop i = ys.drop i then some (m0, vs0, H) else some (m1, vs1, H) := by
    intro n
    induction n with
    | zero =>
      intro i hn hi
      have : i = xs.length := by omega
      subst this
      rw [lv_stop he, if_pos (by rw [List.drop_eq_nil_of_le (Nat.le_refl _), List.drop_eq_nil_of_le (by omega)])]
    | succ n ih =>
      intro i hn hi
      have h1 : i < xs.length := by omega
      have h2 : i < ys.length := by omega
      have hb := hr i h1
      have key : (xs.drop i = ys.drop i) = (xs[i] = ys[i] ∧ xs.drop (i + 1) = ys.drop (i + 1)) := by
        rw [List.drop_eq_getElem_cons h1, List.drop_eq_getElem_cons h2, List.cons.injEq]
      by_cases e : xs[i] = ys[i]
      · rw [if_pos e] at hb
        rw [lv_more hb, ih (i + 1) (by omega) (by omega)]
        simp only [key, e, true_and]
      · rw [if_neg e] at hb
        rw [lv_stop hb, if_neg (by rw [key]; exact fun h => e h.1)]
  have := key xs.length 0 (by omega) (by omega)
  simpa using this

/-- The first element that does something ends the loop. -/
theorem lv_any {α : Type} {m0 m1 : Nat} {vs0 vs1 : List V} (xs : List α) (p : α → Bool) (hr : ∀ (i : Nat) (h : i < xs.length), B (S i) H = if p xs[i] = true then some (some m1, vs1, H) else some (none, S (i + 1), H))
    (he : B (S xs.length) H = some (some m0, vs0, H)) : lpW' B (S 0) H = if xs.any p = true then some (m1, vs1, H) else some (m0, vs0, H) := by
  have key : ∀ (n i : Nat), xs.length - i = n → i ≤ xs.length → lpW' B (S i) H = if (xs.drop i).any p = true then some (m1, vs1, H) else some (m0, vs0, H) := by
    intro n
    induction n with
    | zero =>
      intro i hn hi
      have : i = xs.length := by omega
      subst this
      rw [lv_stop he, List.drop_eq_nil_of_le (Nat.le_refl _)]; rfl
    | succ n ih =>
      intro i hn hi
      have h1 : i < xs.length := by omega
      have hb := hr i h1
      rw [List.drop_eq_getElem_cons h1, List.any_cons]
      by_cases e : p xs[i] = true
      · rw [if_pos e] at hb
        rw [lv_stop hb, e]; rfl
      · rw [if_neg e] at hb
        rw [lv_more hb, ih (i + 1) (by omega) (by omega)]
        have : p xs[i] = false := by simpa using e
        rw [this, Bool.false_or]
  have := key xs.length 0 (by omega) (by omega)
  simpa using this

/-- A slice in an object is filled. -/
theorem lv_fill {α : Type} (E : Ec α) {l : List α} {k : Nat} {z : List V} {H0 : VH} {m : Nat} {vs : List V} (h0 : H0[k]? = some (fillC E l z 0)) (hr : ∀ (i : Nat) (h : i < l.length) (H : VH), H[k]? = some (fillC E l z i) → B (S i) H = some (none, S (i + 1), H.set k (fillC E l z (i + 1))))
    (he : ∀ H, B (S l.length) H = some (some m, vs, H)) : ∃ H1, lpW' B (S 0) H0 = some (m, vs, H1) ∧ H1[k]? = some (vR E l).flatten := by
  have key : ∀ (n i : Nat) (H : VH), l.length - i = n → i ≤ l.length → H[k]? = some (fillC E l z i) → ∃ H1, lpW' B (S i) H = some (m, vs, H1) ∧ H1[k]? = some (vR E l).flatten := by
    intro n
    induction n with
    | zero =>
      intro i H hn hi hk
      have : i = l.length := by omega
      subst this
      exact ⟨H, lv_stop (he H), by rw [hk, fill_end]⟩
    | succ n ih =>
      intro i H hn hi hk
      have h1 : i < l.length := by omega
      rw [lv_more (hr i h1 H hk)]
      exact ih (i + 1) _ (by omega) (by omega) (by rw [List.getElem?_set, if_pos rfl, if_pos (List.getElem?_eq_some_iff.1 hk).1])
  exact key l.length 0 H0 (by omega) (by omega) h0

/-- A number that goes down with each element, and ends the loop when it would be below 0. -/
def szGo {α : Type} (f : α → Int → Int) : List α → Int → Int
  | [], n => n
  | a :: l, n => if f a n < 0 then -1 else szGo f l (f a n)

theorem lv_sz {α : Type} {f : α → Int → Int} {m0 m1 : Nat} (S : Int → Nat → List V) (l : List α) (hf : ∀ a ∈ l, ∀ n, 0 ≤ n → f a n ≤ n)
    (hr : ∀ (i : Nat) (h : i < l.length) (n : Int), 0 ≤ n → n ≤ 1048576 → B (S n i) H = if f l[i] n < 0 then some (some m1, [.int .i64 (-1)], H) else some (none, S (f l[i] n) (i + 1), H))
    (he : ∀ n, B (S n l.length) H = some (some m0, [.int .i64 n], H)) (n : Int) (hn : 0 ≤ n) (hn2 : n ≤ 1048576) : ∃ m, lpW' B (S n 0) H = some (m, [.int .i64 (szGo f l n)], H) ∧ (m = m0 ∨ m = m1) := by
  have key : ∀ (k i : Nat) (n : Int), l.length - i = k → i ≤ l.length → 0 ≤ n → n ≤ 1048576 → ∃ m, lpW' B (S n i) H = some (m, [.int .i64 (szGo f (l.drop i) n)], H) ∧ (m = m0 ∨ m = m1) := by
    intro k
    induction k with
    | zero =>
      intro i n hk hi h1 h2
      have : i = l.length := by omega
      subst this
      rw [List.drop_eq_nil_of_le (Nat.le_refl _)]
      exact ⟨m0, lv_stop (he n), .inl rfl⟩
    | succ k ih =>
      intro i n hk hi h1 h2
      have hi' : i < l.length := by omega
      have hb := hr i hi' n h1 h2
      rw [List.drop_eq_getElem_cons hi']
      simp only [szGo]
      by_cases e : f l[i] n < 0
      · rw [if_pos e] at hb ⊢
        exact ⟨m1, lv_stop hb, .inr rfl⟩
      · rw [if_neg e] at hb ⊢
        rw [lv_more hb]
        have := hf l[i] (List.getElem_mem hi') n h1
        exact ih (i + 1) _ (by omega) (by omega) (by omega) (by omega)
  have := key l.length 0 n (by omega) (by omega) hn hn2
  simpa using this

theorem szGo_le {α : Type} {f : α → Int → Int} {l : List α} (hf : ∀ a ∈ l, ∀ n, 0 ≤ n → f a n ≤ n) : ∀ {n : Int}, 0 ≤ n → szGo f l n ≤ n := by
  induction l with
  | nil => intro n _; exact Int.le_refl _
  | cons a l ih =>
    intro n hn
    simp only [szGo]
    have := hf a (by simp) n hn
    split
    · omega
    · have := ih (fun b hb => hf b (by simp [hb])) (n := f a n) (by omega)
      omega

/-- What is left at the end tells of each element. -/
theorem szGo_mem {α : Type} {f : α → Int → Int} {l : List α} (hf : ∀ a ∈ l, ∀ n, 0 ≤ n → f a n ≤ n) : ∀ {n : Int}, 0 ≤ n → 0 ≤ szGo f l n → ∀ a ∈ l, ∃ k, 0 ≤ k ∧ k ≤ n ∧ 0 ≤ f a k := by
  induction l with
  | nil => intro n _ _ a ha; cases ha
  | cons b l ih =>
    intro n hn h a ha
    simp only [szGo] at h
    split at h
    · omega
    · rename_i hb
      rcases List.mem_cons.1 ha with rfl | ha
      · exact ⟨n, hn, Int.le_refl _, by omega⟩
      · have := hf b (by simp) n hn
        obtain ⟨k, h1, h2, h3⟩ := ih (fun b hb => hf b (by simp [hb])) (n := f b n) (by omega) h a ha
        exact ⟨k, h1, by omega, h3⟩
end
end Go.AM

/- More loops of common kinds, texts cut at a byte, and runs of which a part is known. -/
namespace Go.AM
set_option linter.unusedSimpArgs false
set_option linter.unusedVariables false
set_option maxRecDepth 10000

/-- A case in a term. -/
theorem ite_case {α : Type} {c : Prop} [Decidable c] {x y z : α} (h1 : c → x = z) (h2 : ¬ c → y = z) : (if c then x else y) = z := by
  by_cases h : c
  · rw [if_pos h]; exact h1 h
  · rw [if_neg h]; exact h2 h

/-! ### Loops -/
section
variable {B : LB} {S : Nat → List V} {H : VH}

/-- The first element that does something ends the loop, with its place. -/
theorem lv_first {α : Type} {m0 m1 : Nat} {vs0 : List V} (xs : List α) (p : α → Bool) (hr : ∀ (i : Nat) (h : i < xs.length), B (S i) H = if p xs[i] = true then some (some m1, [.int .i64 (i : Nat)], H) else some (none, S (i + 1), H))
    (he : B (S xs.length) H = some (some m0, vs0, H)) : lpW' B (S 0) H = if xs.any p = true then some (m1, [.int .i64 (xs.findIdx p : Nat)], H) else some (m0, vs0, H) := by
  have key : ∀ (n i : Nat), xs.length - i = n → i ≤ xs.length → lpW' B (S i) H = if (xs.drop i).any p = true then some (m1, [.int .i64 (i + (xs.drop i).findIdx p : Nat)], H) else some (m0, vs0, H) := by
    intro n
    induction n with
    | zero =>
      intro i hn hi
      have : i = xs.length := by omega
      subst this
      rw [lv_stop he, List.drop_eq_nil_of_le (Nat.le_refl _)]; rfl
    | succ n ih =>
      intro i hn hi
      have h1 : i < xs.length := by omega
      have hb := hr i h1
      rw [List.drop_eq_getElem_cons h1, List.any_cons, List.findIdx_cons]
      by_cases e : p xs[i] = true
      · rw [if_pos e] at hb
        rw [lv_stop hb, e]; rfl
      · rw [if_neg e] at hb
        rw [lv_more hb, ih (i + 1) (by omega) (by omega)]
        have : p xs[i] = false := by simpa using e
        rw [this, Bool.false_or]
        simp only [cond_false, Nat.add_assoc, Nat.add_comm 1]
  have := key xs.length 0 (by omega) (by omega)
  simpa using this

/-- A slice in an object is filled, up to a place. -/
theorem lv_fillTo {α : Type} (E : Ec α) {l : List α} {k t : Nat} {z : List V} {H0 : VH} {m : Nat} {vs : List V} (ht : t ≤ l.length) (h0 : H0[k]? = some (fillC E l z 0)) (hr : ∀ (i : Nat) (h : i < t) (H : VH), H[k]? = some (fillC E l z i) → B (S i) H = some (none, S (i + 1), H.set k (fillC E l z (i + 1))))
    (he : ∀ H, H[k]? = some (fillC E l z t) → B (S t) H = some (some m, vs, H)) : ∃ H1, lpW' B (S 0) H0 = some (m, vs, H1) ∧ H1[k]? = some (fillC E l z t) := by
  have key : ∀ (n i : Nat) (H : VH), t - i = n → i ≤ t → H[k]? = some (fillC E l z i) → ∃ H1, lpW' B (S i) H = some (m, vs, H1) ∧ H1[k]? = some (fillC E l z t) := by
    intro n
    induction n with
    | zero =>
      intro i H hn hi hk
      have : i = t := by omega
      subst this
      exact ⟨H, lv_stop (he H hk), hk⟩
    | succ n ih =>
      intro i H hn hi hk
      have h1 : i < t := by omega
      rw [lv_more (hr i h1 H hk)]
      exact ih (i + 1) _ (by omega) (by omega) (by rw [List.getElem?_set, if_pos rfl, if_pos (List.getElem?_eq_some_iff.1 hk).1])
  exact key t 0 H0 (by omega) (by omega) h0
end

theorem ob_pre (esz k o n h : Nat) (q : IntKind) (hh : h ≤ n) : vSliceVV esz (.obs k o n esz) none (some (.int q (h : Int))) = some (.obs k o h esz) := by
  simp only [vSliceVV, bndV, Option.bind_some]
  rw [if_pos ⟨trivial, by omega, by omega, by omega⟩]
  simp
theorem n_min (k : IntKind) (a b : Int) (h : a ≤ b) : vMinV (.int k a) (.int k b) = some (.int k a) := by
  simp only [vMinV, if_true]
  rw [if_neg (by omega)]

/-! ### Bytes in an object -/
def cB (s : Bs) : List V := s.map fun b => .int .u8 (b.toNat : Int)
theorem s2b_c (s : Bs) : s2bV (.str s) = some (cB s) := rfl
theorem cB_len (s : Bs) : (cB s).length = s.length := by simp [cB]
theorem b2sL_vB : ∀ s : Bs, b2sL (vB s) = some s
  | [] => rfl
  | b :: l => by
    have ih := b2sL_vB l
    show (b2sL (vB l)).map _ = _
    rw [ih]; simp
theorem chunk_cB : ∀ s : Bs, chunkV 1 s.length (cB s) = vB s
  | [] => rfl
  | b :: l => by
    have ih := chunk_cB l
    show [V.int .u8 (b.toNat : Int)] :: chunkV 1 l.length (cB l) = _
    rw [ih]; rfl
theorem b2s_c {H : VH} {k : Nat} {t : Bs} (h : H[k]? = some (cB t)) : b2sV (.obs k 0 t.length 1) H = some (.str t) := by
  simp only [b2sV, if_true, h, Option.bind_some]
  rw [gcut_mk (by rw [cB_len]; omega), List.drop_zero, List.take_of_length_le (by rw [cB_len]; omega)]
  simp only [Option.bind_some, chunk_cB, b2sL_vB, Option.map_some]
theorem ld_c {g : Nat → Option (List V)} {H : VH} {k i : Nat} {t : Bs} (h : H[k]? = some (cB t)) (hi : i < t.length) : ldO g false false 1 (.ptr k i) H = some (.int .u8 (t[i].toNat : Int), H) :=
  lp_cell (v := .int .u8 (t[i].toNat : Int)) h (by simp [cB, List.getElem?_eq_getElem hi]) rfl
theorem st_c {H : VH} {k i : Nat} {t : Bs} (b : UInt8) (h : H[k]? = some (cB t)) (hi : i < t.length) : stO (.ptr k i) [.int .u8 (b.toNat : Int)] H = some (H.set k (cB (t.set i b))) := by
  rw [sp_cell h (by rw [cB_len]; exact hi)]
  simp [cB, List.map_set]
theorem n_add8 (tk : TK) (a b : Int) (h1 : 0 ≤ a + b) (h2 : a + b ≤ 255) : vBinV tk .add (.int .u8 a) (.int .u8 b) = some (.int .u8 (a + b)) := by
  simp [vBinV, toA, vBin, vIntOp, ofA, IntWalk.u8_in _ ⟨h1, h2⟩]

/-! ### Runs of which a part is known -/

def Gets {R : Type} (e : Option R) (Q : R → Prop) : Prop := ∃ r, e = some r ∧ Q r
theorem Gets.here {R : Type} {Q : R → Prop} {r : R} (h : Q r) : Gets (some r) Q := ⟨r, rfl, h⟩
theorem Gets.bind {R T : Type} {e : Option R} {P : R → Prop} {K : R → Option T} {Q : T → Prop} (h : Gets e P) (k : ∀ r, P r → Gets (K r) Q) : Gets (e.bind K) Q := by
  obtain ⟨r, rfl, hr⟩ := h
  exact k r hr
theorem Gets.mono {R : Type} {e : Option R} {P Q : R → Prop} (h : Gets e P) (k : ∀ r, P r → Q r) : Gets e Q := by
  obtain ⟨r, e, hr⟩ := h
  exact ⟨r, e, k r hr⟩
theorem Gets.ite {R : Type} {c : Prop} [Decidable c] {x y : Option R} {Q : R → Prop} (h1 : c → Gets x Q) (h2 : ¬ c → Gets y Q) : Gets (if c then x else y) Q := by
  split
  · exact h1 ‹_›
  · exact h2 ‹_›
/-- A loop with something that holds in each round; n: how many rounds at most are left. -/
theorem Gets.loop {B : LB} {I : Nat → List V → VH → Prop} {Q : Nat × List V × VH → Prop}
    (hr : ∀ n s H, I n s H → Gets (B s H) fun r => match r.1 with | some m => Q (m, r.2) | none => ∃ n', n' < n ∧ I n' r.2.1 r.2.2) :
    ∀ (n : Nat) (s : List V) (H : VH), I n s H → Gets (lpW' B s H) Q := by
  intro n
  induction n using Nat.strongRecOn with
  | _ n ih =>
    intro s H hI
    obtain ⟨⟨m, vs, H'⟩, e, hq⟩ := hr n s H hI
    cases m with
    | some m => exact ⟨_, lv_stop e, hq⟩
    | none =>
      obtain ⟨n', hn, hI'⟩ := hq
      rw [lv_more e]
      exact ih n' hn _ _ hI'

/-- A call of which a part is known. -/
def Gets2 (e : Option (V × VH)) (P : V → VH → Prop) : Prop := ∃ v H, e = some (v, H) ∧ P v H
theorem Gets2.bind {T : Type} {e : Option (V × VH)} {P : V → VH → Prop} {K : V × VH → Option T} {Q : T → Prop} (h : Gets2 e P) (k : ∀ v H, P v H → Gets (K (v, H)) Q) : Gets (e.bind K) Q := by
  obtain ⟨v, H, rfl, hr⟩ := h
  exact k v H hr
theorem Gets2.of {e : Option (V × VH)} {P : V → VH → Prop} (h : Gets e fun r => P r.1 r.2) : Gets2 e P := by
  obtain ⟨⟨v, H⟩, h1, h2⟩ := h
  exact ⟨v, H, h1, h2⟩
theorem Gets.loop2 {B : LB} {T : Type} {I : Nat → List V → VH → Prop} {P : Nat → List V → VH → Prop} {n : Nat} {s : List V} {H : VH} {K : Nat × List V × VH → Option T} {Q : T → Prop}
    (hr : ∀ n s H, I n s H → Gets (B s H) fun r => (∃ m, r.1 = some m ∧ P m r.2.1 r.2.2) ∨ (r.1 = none ∧ ∃ n', n' < n ∧ I n' r.2.1 r.2.2))
    (h0 : I n s H) (k : ∀ m vs H', P m vs H' → Gets (K (m, vs, H')) Q) : Gets ((lpW' B s H).bind K) Q := by
  refine (Gets.loop (I := I) (Q := fun r => P r.1 r.2.1 r.2.2) (fun n s H hI => (hr n s H hI).mono fun r h => ?_) n s H h0).bind fun r h => k r.1 r.2.1 r.2.2 h
  obtain ⟨r1, r2⟩ := r
  rcases h with ⟨m, h1, h2⟩ | ⟨h1, h2⟩
  · cases h1; exact h2
  · cases h1; exact h2

/-- The object at k draws; at most b bytes were drawn. -/
def Rd (k b : Nat) (H : VH) : Prop := ∃ o xs p, H[k]? = some (rdr o xs p) ∧ p ≤ b ∧ xs.length ≤ 2000
theorem Rd.le {k b b' : Nat} {H : VH} (h : Rd k b H) (hb : b ≤ b') : Rd k b' H := by
  obtain ⟨o, xs, p, h1, h2, h3⟩ := h
  exact ⟨o, xs, p, h1, by omega, h3⟩

/-- Rows of texts written in the program: at least one, each short. -/
def unT : List (List V) → List Bs
  | [.str s] :: l => s :: unT l
  | _ => []
def okT (xs : List (List V)) : Bool := (unT xs).length == xs.length && (unT xs).all (fun s => decide (s.length ≤ 200)) && decide (1 ≤ xs.length) && decide (xs.length ≤ 1000)
theorem unT_eq : ∀ {xs : List (List V)}, (unT xs).length = xs.length → vT (unT xs) = xs
  | [], _ => rfl
  | x :: l, h => by
    unfold unT at h ⊢
    split at h
    · rename_i s l' e
      cases e
      have := unT_eq (xs := l) (by simpa using h)
      show [V.str s] :: vT (unT l) = _
      rw [this]
    · simp at h
def unI : List (List V) → List Int
  | [.int .i64 s] :: l => s :: unI l
  | _ => []
def okI (xs : List (List V)) : Bool := (unI xs).length == xs.length && decide (1 ≤ xs.length) && decide (xs.length ≤ 1000)
theorem unI_eq : ∀ {xs : List (List V)}, (unI xs).length = xs.length → vI .i64 (unI xs) = xs
  | [], _ => rfl
  | x :: l, h => by
    unfold unI at h ⊢
    split at h
    · rename_i s l' e
      cases e
      have := unI_eq (xs := l) (by simpa using h)
      show [V.int .i64 s] :: vI .i64 (unI l) = _
      rw [this]
    · simp at h

/-! ### Texts cut at a byte -/
theorem ix_eq (s : Bs) (c : UInt8) : Go.Lib.indexByte s c = if c ∈ s then ((s.idxOf c : Nat) : Int) else -1 := by
  induction s with
  | nil => rfl
  | cons b l ih =>
    unfold Go.Lib.indexByte
    rw [ih, List.idxOf_cons]
    by_cases h : b = c
    · subst h; simp
    · have h' : ¬ c = b := fun e => h e.symm
      by_cases hm : c ∈ l
      · have : (b == c) = false := by simpa using h
        simp only [this, hm, if_true, List.mem_cons, or_true, cond_false]
        have hn : ((l.idxOf c : Nat) : Int) ≠ -1 := by omega
        simp [hn]
      · have : (b == c) = false := by simpa using h
        simp [this, hm, h', h]

def cutA (c : UInt8) (s : Bs) : Bs := if c ∈ s then s.take (s.idxOf c) else s
def cutZ (c : UInt8) (s : Bs) : Bs := if c ∈ s then s.drop (s.idxOf c + 1) else []
def splitB (c : UInt8) : Bs → List Bs
  | [] => [[]]
  | b :: l => if b = c then [] :: splitB c l else match splitB c l with | [] => [[b]] | x :: r => (b :: x) :: r
theorem splitB_ne (c : UInt8) (s : Bs) : splitB c s ≠ [] := by
  cases s with
  | nil => simp [splitB]
  | cons b l =>
    unfold splitB
    split
    · simp
    · split <;> simp
theorem splitB_len (c : UInt8) (s : Bs) : (splitB c s).length = s.count c + 1 := by
  induction s with
  | nil => rfl
  | cons b l ih =>
    unfold splitB
    rw [List.count_cons]
    by_cases h : b = c
    · simp [h, ih]
    · have : (b == c) = false := by simpa using h
      rw [if_neg h, this]
      split
      · rename_i e; exact absurd e (splitB_ne c l)
      · rename_i x r e; rw [e] at ih; simpa using ih
theorem splitB_no (c : UInt8) (s : Bs) (h : c ∉ s) : splitB c s = [s] := by
  induction s with
  | nil => rfl
  | cons b l ih =>
    unfold splitB
    have h1 : ¬ b = c := fun e => h (by simp [e])
    rw [if_neg h1, ih (fun e => h (by simp [e]))]
theorem splitB_cut (c : UInt8) (s : Bs) (h : c ∈ s) : splitB c s = s.take (s.idxOf c) :: splitB c (s.drop (s.idxOf c + 1)) := by
  induction s with
  | nil => cases h
  | cons b l ih =>
    rw [List.idxOf_cons]
    conv => lhs; unfold splitB
    by_cases h1 : b = c
    · subst h1; simp
    · have h2 : c ∈ l := by rcases List.mem_cons.1 h with e | e; exact absurd e.symm h1; exact e
      have : (b == c) = false := by simpa using h1
      rw [if_neg h1, ih h2, this]
      simp
theorem splitB_small (c : UInt8) (s : Bs) : ∀ t ∈ splitB c s, t.length ≤ s.length := by
  induction s with
  | nil => intro t ht; simp [splitB] at ht; subst ht; simp
  | cons b l ih =>
    intro t ht
    unfold splitB at ht
    split at ht
    · rcases List.mem_cons.1 ht with rfl | ht
      · simp
      · have := ih t ht; simp; omega
    · split at ht
      · simp at ht; subst ht; simp
      · rename_i x r e
        rcases List.mem_cons.1 ht with rfl | ht
        · have := ih x (by rw [e]; simp); simp; omega
        · have := ih t (by rw [e]; simp [ht]); simp; omega
/-- What is left after i cuts. -/
def restB (c : UInt8) (s : Bs) : Nat → Bs
  | 0 => s
  | i + 1 => (restB c s i).drop ((restB c s i).idxOf c + 1)
theorem restB_split (c : UInt8) (s : Bs) : ∀ i, i < (splitB c s).length → splitB c (restB c s i) = (splitB c s).drop i
  | 0, _ => rfl
  | i + 1, h => by
    have ih := restB_split c s i (by omega)
    have hm : c ∈ restB c s i := by
      by_cases hm : c ∈ restB c s i
      · exact hm
      · rw [splitB_no c _ hm] at ih
        have := congrArg List.length ih
        simp at this; omega
    rw [splitB_cut c _ hm] at ih
    have := congrArg List.tail ih
    simpa [restB] using this
theorem restB_len (c : UInt8) (s : Bs) : ∀ i, (restB c s i).length ≤ s.length
  | 0 => Nat.le_refl _
  | i + 1 => by have := restB_len c s i; simp only [restB, List.length_drop]; omega

/-- All the words' rewritings at once (a conjunction: simp takes each part). -/
theorem evv : type_of% (And.intro @if_ub (And.intro @ig_bool (And.intro @ig_t (And.intro @ig_f (And.intro @st_ub (And.intro @st_bool (And.intro @st_int (And.intro @st_str (And.intro @st_nilp (And.intro @st_ptr (And.intro @st_elt (And.intro @st_fn (And.intro @st_sl (And.intro @st_agg (And.intro @st_tup (And.intro @stL_nil (And.intro @stL_cons (And.intro @stLL_nil (And.intro @stLL_cons (And.intro @strip_strip (And.intro @stripL_stripL (And.intro @stripLL_stripLL (And.intro @fz_bool (And.intro @fz_int (And.intro @fz_str (And.intro @fz_sl (And.intro @fz_agg (And.intro @fz_fn0 (And.intro @fz_fn (And.intro @fz_ptr (And.intro @fz_elt (And.intro @fz1_ptr (And.intro @fzP_cons (And.intro @map_nil' (And.intro @map_cons' (And.intro @app_nil' (And.intro @app_cons' (And.intro @np_bool (And.intro @np_int (And.intro @np_str (And.intro @np_sl (And.intro @np_agg (And.intro @np_elt (And.intro @np_fn (And.intro @npL_nil (And.intro @npL_cons (And.intro @npLL_nil (And.intro @npLL_cons (And.intro @d_bool (And.intro @d_int (And.intro @d_str (And.intro @d_sl (And.intro @d_agg (And.intro @d_tup (And.intro @dL_nil (And.intro @dL_cons (And.intro @dLL_nil (And.intro @dLL_cons (And.intro @sc_bool (And.intro @sc_int (And.intro @sc_str (And.intro @sc_tup (And.intro @s1_bool (And.intro @s1_int (And.intro @s1_str (And.intro @al_nil (And.intro @al_cons (And.intro @an_tt (And.intro @bind_s (And.intro @id_s (And.intro @if_bool (And.intro @if_t (And.intro @if_f (And.intro @in_0 (And.intro @in_1 (And.intro @in_2 (And.intro @in_3 (And.intro @in_4 (And.intro @gt_0 (And.intro @gt_1 (And.intro @gt_2 (And.intro @gt_3 (And.intro @gt_4 (And.intro @gt_5 (And.intro @gt_6 (And.intro @gt_7 (And.intro @gt_8 (And.intro @gt_9 (And.intro @gt_10 (And.intro @gd_z (And.intro @gd_1 (And.intro @gd_2 (And.intro @gd_3 (And.intro @gd_4 (And.intro @gd_5 (And.intro @gd_6 (And.intro @gd_7 (And.intro @gd_8 (And.intro @gd_9 (And.intro @gt_11 (And.intro @gt_12 (And.intro @gt_13 (And.intro @gt_14 (And.intro @gt_15 (And.intro @gd_10 (And.intro @gd_11 (And.intro @gd_12 (And.intro @gd_13 (And.intro @gd_14 (And.intro @gd_15 (And.intro @n_lss (And.intro @n_leq (And.intro @n_gtr (And.intro @n_geq (And.intro @n_eql (And.intro @n_neq (And.intro @n_not (And.intro @b_eql (And.intro @b_neq (And.intro @t_eql (And.intro @t_neq (And.intro @t_len (And.intro @v_len (And.intro @t_str (And.intro @ld_elt (And.intro @extB_index (And.intro @extB_count (And.intro @v_nilf (And.intro @v_nilp (And.intro @v_nile (And.intro @v_offp (And.intro @v_offe (And.intro @o_int (And.intro @o_bool (And.intro @o_str (And.intro @o_sl (And.intro @o_ptr (And.intro @o_fn (And.intro @ow_t (And.intro @cl_fn (And.intro @ex_0 (And.intro @ex_1 (And.intro @ex_2 (And.intro @sa_0 (And.intro @sa_1 (And.intro @sa_2 (And.intro @vT_len (And.intro @vB_len (And.intro @vI_len (And.intro @vT_strip (And.intro @vB_strip (And.intro @vI_strip (And.intro @vT_np (And.intro @vB_np (And.intro @vI_np (And.intro @vT_data (And.intro @vB_data (And.intro @vI_data (And.intro @vT_esz (And.intro @vB_esz (And.intro @vI_esz (And.intro @ag_2 (And.intro @ag_3 (And.intro @ag_6 (And.intro @ag_7 (And.intro @le_2 (And.intro @le_3 (And.intro @le_6 (And.intro @le_at0 (And.intro @le_at1 (And.intro @le_at2 (And.intro @em_e (And.intro @es_e (And.intro @ex_e (And.intro @cM_e (And.intro @cS_e (And.intro @cX_e (And.intro @vR_len (And.intro @vR_strip (And.intro @vR_np (And.intro @vR_data (And.intro @vR_esz3 (And.intro @vR_esz2 (And.intro @ob_len (And.intro @st_obs @np_obs))))))))))))))))))))))))))))))))))))))))))))))))))))))))))))))))))))))))))))))))))))))))))))))))))))))))))))))))))))))))))))))))))))))))))))))))))))))))))))))))))))))))))))))))))))))))) := And.intro @if_ub (And.intro @ig_bool (And.intro @ig_t (And.intro @ig_f (And.intro @st_ub (And.intro @st_bool (And.intro @st_int (And.intro @st_str (And.intro @st_nilp (And.intro @st_ptr (And.intro @st_elt (And.intro @st_fn (And.intro @st_sl (And.intro @st_agg (And.intro @st_tup (And.intro @stL_nil (And.intro @stL_cons (And.intro @stLL_nil (And.intro @stLL_cons (And.intro @strip_strip (And.intro @stripL_stripL (And.intro @stripLL_stripLL (And.intro @fz_bool (And.intro @fz_int (And.intro @fz_str (And.intro @fz_sl (And.intro @fz_agg (And.intro @fz_fn0 (And.intro @fz_fn (And.intro @fz_ptr (And.intro @fz_elt (And.intro @fz1_ptr (And.intro @fzP_cons (And.intro @map_nil' (And.intro @map_cons' (And.intro @app_nil' (And.intro @app_cons' (And.intro @np_bool (And.intro @np_int (And.intro @np_str (And.intro @np_sl (And.intro @np_agg (And.intro @np_elt (And.intro @np_fn (And.intro @npL_nil (And.intro @npL_cons (And.intro @npLL_nil (And.intro @npLL_cons (And.intro @d_bool (And.intro @d_int (And.intro @d_str (And.intro @d_sl (And.intro @d_agg (And.intro @d_tup (And.intro @dL_nil (And.intro @dL_cons (And.intro @dLL_nil (And.intro @dLL_cons (And.intro @sc_bool (And.intro @sc_int (And.intro @sc_str (And.intro @sc_tup (And.intro @s1_bool (And.intro @s1_int (And.intro @s1_str (And.intro @al_nil (And.intro @al_cons (And.intro @an_tt (And.intro @bind_s (And.intro @id_s (And.intro @if_bool (And.intro @if_t (And.intro @if_f (And.intro @in_0 (And.intro @in_1 (And.intro @in_2 (And.intro @in_3 (And.intro @in_4 (And.intro @gt_0 (And.intro @gt_1 (And.intro @gt_2 (And.intro @gt_3 (And.intro @gt_4 (And.intro @gt_5 (And.intro @gt_6 (And.intro @gt_7 (And.intro @gt_8 (And.intro @gt_9 (And.intro @gt_10 (And.intro @gd_z (And.intro @gd_1 (And.intro @gd_2 (And.intro @gd_3 (And.intro @gd_4 (And.intro @gd_5 (And.intro @gd_6 (And.intro @gd_7 (And.intro @gd_8 (And.intro @gd_9 (And.intro @gt_11 (And.intro @gt_12 (And.intro @gt_13 (And.intro @gt_14 (And.intro @gt_15 (And.intro @gd_10 (And.intro @gd_11 (And.intro @gd_12 (And.intro @gd_13 (And.intro @gd_14 (And.intro @gd_15 (And.intro @n_lss (And.intro @n_leq (And.intro @n_gtr (And.intro @n_geq (And.intro @n_eql (And.intro @n_neq (And.intro @n_not (And.intro @b_eql (And.intro @b_neq (And.intro @t_eql (And.intro @t_neq (And.intro @t_len (And.intro @v_len (And.intro @t_str (And.intro @ld_elt (And.intro @extB_index (And.intro @extB_count (And.intro @v_nilf (And.intro @v_nilp (And.intro @v_nile (And.intro @v_offp (And.intro @v_offe (And.intro @o_int (And.intro @o_bool (And.intro @o_str (And.intro @o_sl (And.intro @o_ptr (And.intro @o_fn (And.intro @ow_t (And.intro @cl_fn (And.intro @ex_0 (And.intro @ex_1 (And.intro @ex_2 (And.intro @sa_0 (And.intro @sa_1 (And.intro @sa_2 (And.intro @vT_len (And.intro @vB_len (And.intro @vI_len (And.intro @vT_strip (And.intro @vB_strip (And.intro @vI_strip (And.intro @vT_np (And.intro @vB_np (And.intro @vI_np (And.intro @vT_data (And.intro @vB_data (And.intro @vI_data (And.intro @vT_esz (And.intro @vB_esz (And.intro @vI_esz (And.intro @ag_2 (And.intro @ag_3 (And.intro @ag_6 (And.intro @ag_7 (And.intro @le_2 (And.intro @le_3 (And.intro @le_6 (And.intro @le_at0 (And.intro @le_at1 (And.intro @le_at2 (And.intro @em_e (And.intro @es_e (And.intro @ex_e (And.intro @cM_e (And.intro @cS_e (And.intro @cX_e (And.intro @vR_len (And.intro @vR_strip (And.intro @vR_np (And.intro @vR_data (And.intro @vR_esz3 (And.intro @vR_esz2 (And.intro @ob_len (And.intro @st_obs @np_obs))))))))))))))))))))))))))))))))))))))))))))))))))))))))))))))))))))))))))))))))))))))))))))))))))))))))))))))))))))))))))))))))))))))))))))))))))))))))))))))))))))))))))))))))))))))))

end Go.AM

/- Rows in objects: what calls see of them, what becomes of rows that calls give. -/
namespace Go.AM
set_option linter.unusedSimpArgs false
set_option linter.unusedVariables false

mutual
theorem frO_data (G : VH) : ∀ v : V, data v = true → frO G v = strip v
  | .bool b, _ => rfl
  | .int k n, _ => rfl
  | .str s, _ => rfl
  | .nilp, _ => rfl
  | .nilf, _ => rfl
  | .ub, _ => rfl
  | .gp g off, h => by simp only [data] at h; cases h
  | .elt cs off, h => by simp only [data] at h; cases h
  | .ptr k off, h => by simp only [data] at h; cases h
  | .obs k off n e, h => by simp only [data] at h; cases h
  | .fn f cs, h => by simp only [data] at h; cases h
  | .sl ow xs, h => by simp only [data] at h; simp only [frO, strip, frOLL_data G xs h]
  | .agg cs, h => by simp only [data] at h; simp only [frO, strip, frOL_data G cs h]
  | .tup cs, h => by simp only [data] at h; simp only [frO, strip, frOL_data G cs h]
theorem frOL_data (G : VH) : ∀ l : List V, dataL l = true → frOL G l = stripL l
  | [], _ => rfl
  | v :: l, h => by
    simp only [dataL, Bool.and_eq_true] at h
    simp only [frOL, stripL, frO_data G v h.1, frOL_data G l h.2]
theorem frOLL_data (G : VH) : ∀ l : List (List V), dataLL l = true → frOLL G l = stripLL l
  | [], _ => rfl
  | v :: l, h => by
    simp only [dataLL, Bool.and_eq_true] at h
    simp only [frOLL, stripLL, frOL_data G v h.1, frOLL_data G l h.2]
end

theorem frD_data (d : Nat) (H : VH) (v : V) (h : data v = true) : frD d H v = strip v := by
  cases d with
  | zero => exact frO_data _ v h
  | succ d => exact frO_data _ v h

mutual
theorem noObs_data : ∀ v : V, data v = true → noObs v = true
  | .bool b, _ => rfl
  | .int k n, _ => rfl
  | .str s, _ => rfl
  | .nilp, _ => rfl
  | .nilf, _ => rfl
  | .ub, _ => rfl
  | .gp g off, h => by simp only [data] at h; cases h
  | .elt cs off, h => by simp only [data] at h; cases h
  | .ptr k off, h => by simp only [data] at h; cases h
  | .obs k off n e, h => by simp only [data] at h; cases h
  | .fn f cs, h => by simp only [data] at h; cases h
  | .sl ow xs, h => by simp only [data] at h; simp only [noObs, noObsLL_data xs h]
  | .agg cs, h => by simp only [data] at h; simp only [noObs, noObsL_data cs h]
  | .tup cs, h => by simp only [data] at h; simp only [noObs, noObsL_data cs h]
theorem noObsL_data : ∀ l : List V, dataL l = true → noObsL l = true
  | [], _ => rfl
  | v :: l, h => by
    simp only [dataL, Bool.and_eq_true] at h
    simp only [noObsL, noObs_data v h.1, noObsL_data l h.2, Bool.and_self]
theorem noObsLL_data : ∀ l : List (List V), dataLL l = true → noObsLL l = true
  | [], _ => rfl
  | v :: l, h => by
    simp only [dataLL, Bool.and_eq_true] at h
    simp only [noObsLL, noObsL_data v h.1, noObsLL_data l h.2, Bool.and_self]
end

theorem dataL_app : ∀ {a b : List V}, dataL a = true → dataL b = true → dataL (a ++ b) = true
  | [], b, _, h => h
  | v :: a, b, h, g => by
    simp only [List.cons_append, dataL, Bool.and_eq_true] at h ⊢
    exact ⟨h.1, dataL_app h.2 g⟩
theorem dataL_flat : ∀ {r : List (List V)}, dataLL r = true → dataL r.flatten = true
  | [], _ => rfl
  | x :: r, h => by
    simp only [dataLL, Bool.and_eq_true] at h
    rw [List.flatten_cons]
    exact dataL_app h.1 (dataL_flat h.2)
theorem stripL_app (a b : List V) : stripL (a ++ b) = stripL a ++ stripL b := by rw [stripL_map, stripL_map, stripL_map, List.map_append]
theorem stripL_flat : ∀ r : List (List V), stripL r.flatten = (stripLL r).flatten
  | [] => rfl
  | x :: r => by rw [List.flatten_cons, stripL_app, stripL_flat r]; rfl

/-- All rows have this many cells. -/
def Rows (e : Nat) (r : List (List V)) : Prop := ∀ x ∈ r, x.length = e
theorem Rows.flat {e : Nat} : ∀ {r : List (List V)}, Rows e r → r.flatten.length = r.length * e
  | [], _ => by simp
  | x :: r, h => by
    have h1 := h x (by simp)
    have h2 := Rows.flat (r := r) (fun y hy => h y (by simp [hy]))
    rw [List.flatten_cons, List.length_append, h1, h2, List.length_cons, Nat.succ_mul, Nat.add_comm]
theorem Rows.chunk {e : Nat} : ∀ {r : List (List V)}, Rows e r → chunkV e r.length r.flatten = r
  | [], _ => rfl
  | x :: r, h => by
    have h1 := h x (by simp)
    have h2 := Rows.chunk (r := r) (fun y hy => h y (by simp [hy]))
    simp only [List.length_cons, chunkV, List.flatten_cons]
    rw [← h1, List.take_left, List.drop_left, h1, h2]
theorem Rows.strip {e : Nat} {r : List (List V)} (h : Rows e r) : Rows e (stripLL r) := fun x hx => by
  rw [stripLL_map] at hx
  obtain ⟨y, hy, rfl⟩ := List.mem_map.1 hx
  rw [List.length_map]; exact h y hy

theorem Rows.get {e : Nat} {j : Nat} (hj : j < e) : ∀ {r : List (List V)} {i : Nat} {x : List V}, Rows e r → r[i]? = some x → r.flatten[i * e + j]? = x[j]?
  | [], i, x, _, h => by simp at h
  | y :: r, 0, x, hr, h => by
    simp at h; subst h
    have h1 := hr y (by simp)
    rw [List.flatten_cons, Nat.zero_mul, Nat.zero_add, List.getElem?_append_left (by omega)]
  | y :: r, i + 1, x, hr, h => by
    have h1 := hr y (by simp)
    simp at h
    rw [List.flatten_cons, List.getElem?_append_right (by rw [h1, Nat.succ_mul]; omega), h1]
    have : (i + 1) * e + j - e = i * e + j := by rw [Nat.succ_mul]; omega
    rw [this]
    exact Rows.get hj (fun z hz => hr z (by simp [hz])) h

theorem Rows.set {e : Nat} {j : Nat} (hj : j < e) {v : V} : ∀ {r : List (List V)} {i : Nat} {x : List V}, Rows e r → r[i]? = some x → gseg r.flatten (i * e + j) [v] = (r.set i (x.set j v)).flatten
  | [], i, x, _, h => by simp at h
  | y :: r, 0, x, hr, h => by
    simp at h; subst h
    have h1 := hr y (by simp)
    simp only [List.flatten_cons, Nat.zero_mul, Nat.zero_add, List.set_cons_zero, gseg, List.length_singleton]
    rw [List.take_append_of_le_length (by omega), List.drop_append_of_le_length (by omega), ← List.append_assoc]
    congr 1
    rw [List.set_eq_take_append_cons_drop, if_pos (by omega)]; simp
  | y :: r, i + 1, x, hr, h => by
    have h1 := hr y (by simp)
    simp at h
    have ih := Rows.set hj (v := v) (r := r) (i := i) (fun z hz => hr z (by simp [hz])) h
    simp only [gseg, List.length_singleton] at ih
    simp only [List.flatten_cons, List.set_cons_succ, gseg, List.length_singleton]
    have e1 : (i + 1) * e + j = y.length + (i * e + j) := by rw [Nat.succ_mul]; omega
    rw [e1, List.take_length_add_append, Nat.add_assoc, List.drop_length_add_append, List.append_assoc, List.append_assoc, ← ih, List.append_assoc]

theorem frD_obs (d : Nat) {H : VH} {k e : Nat} {r : List (List V)} (hk : H[k]? = some r.flatten) (hr : Rows e r) (hd : dataLL r = true) : frD d H (.obs k 0 r.length e) = .sl false (stripLL r) := by
  have fin : ∀ G : VH, G[k]? = some (stripL r.flatten) → frO G (.obs k 0 r.length e) = .sl false (stripLL r) := fun G hG => by
    have h1 : G.getD k [] = (stripLL r).flatten := by rw [List.getD_eq_getElem?_getD, hG, stripL_flat]; rfl
    have h2 := hr.strip.flat
    rw [stripLL_len] at h2
    simp only [frO, h1]
    rw [gcut_mk (by omega)]
    simp only [List.drop_zero]
    rw [List.take_of_length_le (by omega)]
    have h3 := hr.strip.chunk
    rw [stripLL_len] at h3
    rw [h3]
  cases d with
  | zero =>
    refine fin _ ?_
    rw [List.getElem?_map, hk]; rfl
  | succ d =>
    refine fin _ ?_
    rw [List.getElem?_map, hk]
    simp only [Option.map_some]
    rw [stripL_map]
    congr 1
    have : ∀ {l : List V}, dataL l = true → l.map (frD d H) = l.map strip := by
      intro l
      induction l with
      | nil => intro _; rfl
      | cons v l ih =>
        intro h
        simp only [dataL, Bool.and_eq_true] at h
        simp only [List.map_cons, frD_data d H v h.1, ih h.2]
    exact this (dataL_flat hd)

theorem unobs1_obs {H : VH} {k e : Nat} {r : List (List V)} (hk : H[k]? = some r.flatten) (hr : Rows e r) : unobs1 H (.obs k 0 r.length e) = some (.sl false (stripLL r)) := by
  have h2 := hr.flat
  simp only [unobs1, hk, Option.bind_some]
  rw [gcut_mk (by omega)]
  simp only [List.drop_zero, Option.map_some]
  rw [List.take_of_length_le (by omega), hr.chunk]
theorem unobs1_sl (H : VH) (o : Bool) (xs : List (List V)) : unobs1 H (.sl o xs) = some (.sl o xs) := rfl

theorem qpcallO_n {call : CallV} {f : FuncId} {H : VH} {vs : List V} (h : noObsL vs = true) : qpcallO call f H vs = qpcall call f (vs.map (frz H)) := by unfold qpcallO; rw [h]
theorem qpcallO_o {call : CallV} {f : FuncId} {H : VH} {vs : List V} (h : noObsL vs = false) : qpcallO call f H vs = qpcall call f (vs.map (frD 3 H)) := by unfold qpcallO; rw [h]
theorem pcallO_n {call : CallV} {f : FuncId} {H : VH} {vs : List V} (h : noObsL vs = true) : pcallO call f H vs = pcall call f (vs.map (frz H)) := by unfold pcallO; rw [h]
theorem pcallO_o {call : CallV} {f : FuncId} {H : VH} {vs : List V} {v : V} (h : noObsL vs = false) (hp : pcall call f (vs.map (frD 3 H)) = some v) (ho : ownA v = true) : pcallO call f H vs = some v := by unfold pcallO; rw [h]; simp only [hp, Option.bind_some, ho]

mutual
theorem prom_zero (H : VH) : ∀ v : V, prom 0 H v = (v, H)
  | .bool b => rfl
  | .int k n => rfl
  | .str s => rfl
  | .nilp => rfl
  | .nilf => rfl
  | .ub => rfl
  | .gp g off => rfl
  | .elt cs off => rfl
  | .ptr k off => rfl
  | .obs k off n e => rfl
  | .fn f cs => rfl
  | .sl ow xs => by cases xs <;> simp only [prom]
  | .agg cs => by simp only [prom, promL_zero H cs]
  | .tup cs => by simp only [prom, promL_zero H cs]
theorem promL_zero (H : VH) : ∀ l : List V, promL 0 H l = (l, H)
  | [] => rfl
  | v :: l => by simp only [promL, prom_zero H v, promL_zero H l]
end
theorem promLL_zero (H : VH) : ∀ l : List (List V), promLL 0 H l = (l.flatten, H)
  | [] => rfl
  | v :: l => by simp only [promLL, promL_zero H v, promLL_zero H l, List.flatten_cons]

theorem promB_nil {R : Type} (d : Nat) (H : VH) (K : V → VH → Option R) : promB d (.sl true []) H K = K (.sl true []) H := by
  unfold promB
  simp only [ownA, ownALL, Bool.true_or, Bool.and_self]
  cases d <;> simp only [prom]
theorem promB_one {R : Type} {r : List (List V)} {e : Nat} (H : VH) (K : V → VH → Option R) (hne : r ≠ []) (hr : Rows e r) (ho : ownALL r = true) : promB 1 (.sl true r) H K = K (.obs H.length 0 r.length e) (H ++ [r.flatten]) := by
  unfold promB
  simp only [ownA, Bool.true_or, ho, Bool.and_self]
  cases r with
  | nil => exact absurd rfl hne
  | cons x l =>
    have hx := hr x (by simp)
    simp only [prom, promLL_zero, List.length_cons, hx]

theorem appO_sl (fl st : Bool) (esz bytes : Nat) (o : Bool) (xs : List (List V)) (x : V) (H : VH) (h : fl = false ∨ xs ≠ []) : appO fl st esz bytes (.sl o xs) x H = (ownV (.sl o xs)).bind fun xs => (appV st esz bytes xs x).bind fun r => some (r, H) := by
  simp only [appO]
  cases o with
  | false => rfl
  | true =>
    simp only [ownV, Option.bind_some]
    have : (fl && xs.isEmpty) = false := by
      rcases h with rfl | h
      · rfl
      · cases xs with
        | nil => exact absurd rfl h
        | cons a l => cases fl <;> rfl
    rw [this]

theorem frz_data {H : VH} {v : V} (h : data v = true) : frz H v = strip v := by
  cases v <;> first | rfl | (simp only [data] at h; cases h)
theorem map_frz {H : VH} : ∀ {vs : List V}, dataL vs = true → vs.map (frz H) = vs.map strip
  | [], _ => rfl
  | v :: vs, h => by
    simp only [dataL, Bool.and_eq_true] at h
    simp only [List.map_cons, frz_data h.1, map_frz h.2]
theorem map_frD {d : Nat} {H : VH} : ∀ {vs : List V}, dataL vs = true → vs.map (frD d H) = vs.map strip
  | [], _ => rfl
  | v :: vs, h => by
    simp only [dataL, Bool.and_eq_true] at h
    simp only [List.map_cons, frD_data d H v h.1, map_frD h.2]
theorem qpcallO_d {call : CallV} {f : FuncId} {H : VH} {vs : List V} (h : dataL vs = true) : qpcallO call f H vs = qpcall call f (vs.map strip) := by rw [qpcallO_n (noObsL_data vs h), map_frz h]
theorem pcallO_d {call : CallV} {f : FuncId} {H : VH} {vs : List V} (h : dataL vs = true) : pcallO call f H vs = pcall call f (vs.map strip) := by rw [pcallO_n (noObsL_data vs h), map_frz h]

theorem setO_same {H : VH} {k : Nat} {cs : List V} (h : H[k]? = some cs) : H.set k cs = H := by
  apply List.ext_getElem?
  intro i
  rw [List.getElem?_set]
  split
  · rename_i e
    subst e
    split
    · exact h.symm
    · rename_i hlt
      rw [List.getElem?_eq_none (by omega)]
  · rfl
theorem ld_peek {g : Nat → Option (List V)} {k off : Nat} {H : VH} {cs : List V} {v : V} (h : H[k]? = some cs) (hv : cs[off]? = some v) : ldO g false false 1 (.ptr k off) H = some (strip v, H) := by
  simp only [ldO, h, loadC, hv, Option.bind_some, Option.map_some, setO_same h]
theorem vi_obs {k n e i : Nat} {kk : IntKind} (h : i < n) : vIdxV e (.obs k 0 n e) (.int kk (i : Int)) = some (.ptr k (i * e)) := by
  simp only [vIdxV]
  rw [if_pos ⟨by omega, by omega, trivial⟩]
  simp
theorem pc_un {call : CallV} {f : FuncId} {args : List V} {r v : V} {H : VH} (h : call f args [] = some (r, H)) (h1 : noPtrL args = true) (hd : data r = false) (hu : unobs H r = some v) (h2 : data v = true) : pcall call f args = some v := by
  simp only [pcall, h1, h, Option.bind_some, hd, hu, h2]

theorem gseg_set {cs : List V} {o : Nat} {v : V} (h : o < cs.length) : gseg cs o [v] = cs.set o v := by
  unfold gseg
  rw [List.set_eq_take_append_cons_drop, if_pos h]; simp
theorem gseg_gseg {cs : List V} {o : Nat} {v w : V} (h : o < cs.length) : gseg (gseg cs o [w]) o [v] = gseg cs o [v] := by
  rw [gseg_set h, gseg_set (by simpa using h), gseg_set h, List.set_set]

/-! ### The order of texts -/
theorem bl_irr : ∀ s : List UInt8, Op.bytesLess s s = false
  | [] => rfl
  | a :: s => by simp [Op.bytesLess, bl_irr s]
theorem bl_trans : ∀ {s t u : List UInt8}, Op.bytesLess s t = true → Op.bytesLess t u = true → Op.bytesLess s u = true
  | _, [], _, h, _ => by simp [Op.bytesLess] at h
  | _, _ :: _, [], _, h => by simp [Op.bytesLess] at h
  | [], _ :: _, _ :: _, _, _ => rfl
  | a :: s, b :: t, c :: u, h, g => by
    simp only [Op.bytesLess, Bool.or_eq_true, decide_eq_true_eq, Bool.and_eq_true, beq_iff_eq] at h g ⊢
    rcases h with h | ⟨rfl, h⟩
    · rcases g with g | ⟨rfl, g⟩
      · left; exact UInt8.lt_trans h g
      · left; exact h
    · rcases g with g | ⟨rfl, g⟩
      · left; exact g
      · right; exact ⟨rfl, bl_trans h g⟩
theorem bl_tri : ∀ {s t : List UInt8}, Op.bytesLess s t = false → Op.bytesLess t s = false → s = t
  | [], [], _, _ => rfl
  | [], _ :: _, h, _ => by simp [Op.bytesLess] at h
  | _ :: _, [], _, h => by simp [Op.bytesLess] at h
  | a :: s, b :: t, h, g => by
    simp only [Op.bytesLess, Bool.or_eq_false_iff, decide_eq_false_iff_not, Bool.and_eq_false_iff, beq_eq_false_iff_ne] at h g
    have e : a = b := by
      have h1 := h.1; have h2 := g.1
      rw [UInt8.not_lt] at h1 h2
      exact UInt8.le_antisymm h2 h1
    subst e
    rw [bl_tri (h.2.resolve_left (fun h => h rfl)) (g.2.resolve_left (fun h => h rfl))]

end Go.AM

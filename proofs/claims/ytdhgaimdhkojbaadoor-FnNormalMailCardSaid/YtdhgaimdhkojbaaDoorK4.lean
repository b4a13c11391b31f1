/- Part 4 of the machines: what is proved is told at each theorem; no condition. -/
import Derived.Test.YtdhgaimdhkojbaaDoorK3
import Derived.Test.YtdhgaimdhkojbaaDoorK2
import Derived.IntWalk
import Derived.Laws.Strings
import Derived.Lib.Bytealg
import Derived.ChangeArms
import Derived.DataReads
import Derived.WideShapes
/- Code: the machine of values and the abstract machine side by side. -/
namespace Go.AM
set_option linter.unusedSimpArgs false
set_option linter.unusedVariables false

/-- The states stand for each other. -/
def St0 (X : XV) (E : En) (s : VS) (s' : St) : Prop := ∃ w, StR X E w s s' (fun _ => 0)

/-- What was kept stands for what was kept. -/
def Saved (X : XV) (E : En) (vs : List V) (H : VH) (xs : List Value) (hp : Heap) : Prop :=
  ∃ (w : Wd) (cv ch : Cnt), hp = w.hp ∧ HW w ∧ GlobOk X w ∧ Fr' E w ∧ RVs w vs xs cv ∧ ROs w H w.rho ch ∧ (∀ i, cv i + ch i ≤ 1) ∧ (∀ i, i < E.hp.length → cv i + ch i ≤ E.c0 i) ∧ (∀ i, w.hp.length ≤ i → cv i + ch i = 0)

theorem put_sim {X : XV} {E : En} {w : Wd} {s : VS} {env : List (Nat × EV)} {loc : List (Nat × List Value)} {ce : Cnt} {e : VE} {e' : EV} (hs : StR X E w s ⟨env, loc, w.hp⟩ ce) (hr : RE w e e' ce) (d : Option Nat) :
    StR X E w { s with env := putV s.env d e } ⟨putE env d e', loc, w.hp⟩ (fun _ => 0) := by
  cases d with
  | none => exact hs.less (by simp)
  | some d =>
    obtain ⟨c1, cl, ch, g⟩ := hs
    obtain ⟨c2, h1, h2⟩ := g.env.del (d := d) (x := e')
    refine ⟨fun i => ce i + c2 i, cl, ch, rfl, g.hw, g.gl, g.fr, ?_, g.loc, g.locn, g.obj, fun i => ?_, fun i hi => ?_, fun i hi => ?_⟩
    · simp only [putV, putE, REnv]
      exact ⟨e', ce, c2, by rw [look_cons, if_pos rfl], hr, h1, by simp⟩
    · have := g.le1 i; have := h2 i; omega
    · have := g.le0 i hi; have := h2 i; omega
    · have := g.big i hi; have := h2 i; omega

theorem ifVV_some {S : Type} {v : V} {p q : Option S} {a : S} (hh : ifVV v p q = some a) : (v = .bool true ∧ p = some a) ∨ (v = .bool false ∧ q = some a) ∨ (v = .ub ∧ p = some a ∧ q = some a) := by
  unfold ifVV at hh
  split at hh
  · exact .inl ⟨rfl, hh⟩
  · exact .inr (.inl ⟨rfl, hh⟩)
  · unfold bothR at hh
    split at hh
    · rename_i e; exact .inr (.inr ⟨rfl, hh, by rw [← e]; exact hh⟩)
    · cases hh
  · cases hh

theorem ifGV_some {S : Type} {v : V} {p q : Option S} {a : S} (hh : ifGV v p q = some a) : (v = .bool true ∧ p = some a) ∨ (v = .bool false ∧ q = some a) := by
  unfold ifGV at hh
  split at hh
  · exact .inl ⟨rfl, hh⟩
  · exact .inr ⟨rfl, hh⟩
  · cases hh

section
variable {X : XV} {Y : Ctx} {A : Ann} {T : List Nat} {E : En}

theorem St0.bool {s : VS} {s' : St} (hs : St0 X E s s') (d : Nat) (b : Bool) : St0 X E { s with env := (d, .val (.bool b)) :: delE s.env d } { s' with env := (d, .val (.bool b)) :: s'.env } := by
  obtain ⟨w, h⟩ := hs
  have := put_sim (e := .val (.bool b)) (e' := .val (.bool b)) h.self (by simp [RE, RV]) (some d)
  refine ⟨w, ?_⟩
  have hh := h.hp
  obtain ⟨env, loc, hp⟩ := s'
  simp only at hh
  subst hh
  exact this

theorem guard_sim {R R' : Type} {r : R} {Q : R' → Prop} {ops : Array Oper} {o : Oper} {s : VS} {s' : St} (hs : St0 X E s s') {run pass : List (Nat × VE) → Option R} {run' pass' : List (Nat × EV) → Option R'}
    (h : guardV ops o s.env run pass = some r) (h1 : ∀ e e', run e = some r → St0 X E { s with env := e } { s' with env := e' } → ∃ r', run' e' = some r' ∧ Q r') (h2 : ∀ e e', pass e = some r → St0 X E { s with env := e } { s' with env := e' } → ∃ r', pass' e' = some r' ∧ Q r') :
    ∃ r', guardK ops o s'.env run' pass' = some r' ∧ Q r' := by
  unfold guardV at h
  unfold guardK
  split at h
  · rename_i hg
    simp only [hg]
    exact h1 _ _ h hs
  · rename_i j want hg
    simp only [hg]
    split at h
    · cases h
    · rename_i d hd
      simp only [hd]
      split at h
      · rename_i v hl
        obtain ⟨w, ce, cl, ch, g⟩ := hs
        obtain ⟨x, c1, c2, k1, k2, _, _⟩ := g.env.look hl
        cases x <;> simp only [RE] at k2
        rename_i x
        have hs' : St0 X E s s' := ⟨w, ce, cl, ch, g⟩
        rw [k1]
        split at h
        · rcases ifGV_some h with ⟨rfl, h⟩ | ⟨rfl, h⟩
          · simp only [RV] at k2
            simp only [k2.1, ifV]
            exact h1 _ _ h (hs'.bool d true)
          · simp only [RV] at k2
            simp only [k2.1, ifV]
            exact h2 _ _ h (hs'.bool d false)
        · rcases ifGV_some h with ⟨rfl, h⟩ | ⟨rfl, h⟩
          · simp only [RV] at k2
            simp only [k2.1, ifV]
            exact h2 _ _ h (hs'.bool d true)
          · simp only [RV] at k2
            simp only [k2.1, ifV]
            exact h1 _ _ h (hs'.bool d false)
      · rename_i hl
        obtain ⟨w, ce, cl, ch, g⟩ := hs
        obtain ⟨x, c1, c2, k1, k2, _, _⟩ := g.env.look hl
        cases x <;> simp only [RE] at k2
        rw [k1]
        exact h2 _ _ h ⟨w, ce, cl, ch, g⟩
      · cases h

theorem reg_sim (ht : Twin X Y) (hT : TabOk X) (hcall : ∀ f args H r H', X.call f args H = some (r, H') → CallSim X Y.call f args H r H') {R R' : Type} {r : R} {Q : R' → Prop} {ops : Array Oper} :
    ∀ {os : List Oper} {cl : List Cls} {s : VS} {s' : St} {K : List Cls → VS → Option R} {K' : List Cls → St → Option R'}, St0 X E s s' → regV X A T ops os cl s K = some r →
      (∀ cl s s', K cl s = some r → St0 X E s s' → ∃ r', K' cl s' = some r' ∧ Q r') → ∃ r', regK Y A ops os cl s' K' = some r' ∧ Q r'
  | [], cl, s, s', K, K', hs, h, hK => hK _ _ _ h hs
  | o :: os, cl, s, s', K, K', hs, h, hK => by
    simp only [regV] at h
    simp only [regK]
    refine guard_sim hs h (fun e e' hr hs2 => ?_) (fun e e' hp hs2 => ?_)
    · obtain ⟨w, hs2⟩ := hs2
      refine op_sim ht hT hcall hs2 hr ?_
      intro w2 ev ev' s2 loc c ce hk hre hst
      exact reg_sim ht hT hcall ⟨w2, put_sim hst hre o.dst⟩ hk hK
    · refine reg_sim ht hT hcall ?_ hp hK
      obtain ⟨w, hs2⟩ := hs2
      have hh := hs2.hp
      simp only at hh
      have := put_sim (e := .skp) (e' := .skp) hs2.self (by simp [RE]) o.dst
      refine ⟨w, ?_⟩
      rw [← hh] at this
      exact this

/-! ### Keeping -/

theorem look_strip {t u : Nat} (h : u ≠ t) : ∀ {l : List (Nat × VE)}, look (stripE l t) u = look l u
  | [] => rfl
  | (k, v) :: l => by
    by_cases e : k = t
    · subst e
      have hb : Nat.beq k k = true := Nat.beq_refl k
      simp only [stripE, hb]
      rw [look_cons, look_cons, if_neg h, if_neg h]
    · simp only [stripE, beq_ne e]
      rw [look_cons, look_cons]
      split
      · rfl
      · exact look_strip h

theorem vals_strip {R : Type} {t : Nat} {l : List (Nat × VE)} : ∀ {ss : List Nat} {K : List V → Option R}, t ∉ ss → valsV (stripE l t) ss K = valsV l ss K
  | [], K, h => rfl
  | s :: ss, K, h => by
    simp only [valsV]
    rw [look_strip (fun e => h (by simp [e]))]
    split
    · exact vals_strip (fun hm => h (by simp [hm]))
    · exact vals_strip (fun hm => h (by simp [hm]))
    · rfl

theorem vals_sim {w : Wd} {ae : List (Nat × EV)} {R : Type} {r : R} : ∀ {ss : List Nat} {l : List (Nat × VE)} {ce : Cnt} {K : List V → Option R}, ss.Nodup → REnv w l ae ce → valsV l ss K = some r →
    ∃ vs xs c, K vs = some r ∧ RVs w vs xs c ∧ (∀ i, c i ≤ ce i) ∧ vs.length = ss.length ∧ ∀ (R' : Type) (K' : List Value → Option R'), valsK ae ss K' = K' xs
  | [], l, ce, K, nd, he, h => ⟨[], [], fun _ => 0, h, by simp [RVs], by simp, rfl, fun _ _ => rfl⟩
  | s :: ss, l, ce, K, nd, he, h => by
    simp only [valsV] at h
    simp at nd
    have key : ∀ {v : V} {x : Value} {e : VE} {c1 c2 : Cnt} {K2 : List V → Option R}, look ae s = some (.val x) → RV w v x c1 → REnv w (stripE l s) ae c2 → (∀ i, ce i = c1 i + c2 i) → valsV l ss (fun vs => K (v :: vs)) = some r →
        ∃ vs xs c, K vs = some r ∧ RVs w vs xs c ∧ (∀ i, c i ≤ ce i) ∧ vs.length = (s :: ss).length ∧ ∀ (R' : Type) (K' : List Value → Option R'), valsK ae (s :: ss) K' = K' xs := by
      intro v x e c1 c2 K2 h1 h2 h3 h4 h5
      rw [← vals_strip (t := s) nd.1] at h5
      obtain ⟨vs, xs, c, g1, g2, g3, g4, g5⟩ := vals_sim nd.2 h3 h5
      refine ⟨v :: vs, x :: xs, fun i => c1 i + c i, g1, ⟨x, xs, c1, c, rfl, h2, g2, by simp⟩, fun i => by have := g3 i; have := h4 i; show c1 i + c i ≤ ce i; omega, by simp [g4], fun R' K' => by simp only [valsK, h1, g5]⟩
    split at h
    · rename_i v hl
      obtain ⟨x, c1, c2, h1, h2, h3, h4⟩ := he.look hl
      cases x <;> simp only [RE] at h2
      exact key (e := .skp) (K2 := K) h1 h2 h3 h4 h
    · rename_i ys hl
      obtain ⟨x, c1, c2, h1, h2, h3, h4⟩ := he.look hl
      cases x <;> simp only [RE] at h2
      exact key (e := .skp) (K2 := K) h1 h2.1 h3 h4 h
    · cases h

theorem ls_sim {w : Wd} {ae : List (Nat × EV)} : ∀ {ls : List (Nat × Nat × Nat)} {l : List (Nat × VE)} {ce : Cnt}, REnv w l ae ce → lsOkV l ls = true → lsOk ae ls = true
  | [], l, ce, he, h => rfl
  | (s, k, o) :: ls, l, ce, he, h => by
    simp only [lsOkV] at h
    split at h
    · rename_i k' o' hl
      obtain ⟨x, c1, c2, h1, h2, h3, h4⟩ := he.look hl
      cases x <;> simp only [RE] at h2
      obtain ⟨rfl, rfl, _⟩ := h2
      simp only [Bool.and_eq_true] at h
      simp only [lsOk, h1, Bool.and_eq_true]
      exact ⟨h.1, ls_sim he h.2⟩
    · cases h

theorem look_setLV {k j : Nat} (h : j ≠ k) {cs : List V} : ∀ {l : List (Nat × List V)}, look (setLV l k cs) j = look l j
  | [] => rfl
  | (q, v) :: l => by
    by_cases e : q = k
    · subst e
      have hb : Nat.beq q q = true := Nat.beq_refl q
      simp only [setLV, hb]
      rw [look_cons, look_cons, if_neg h, if_neg h]
    · simp only [setLV, beq_ne e]
      rw [look_cons, look_cons]
      split
      · rfl
      · exact look_setLV h

theorem cs_set {R : Type} {k : Nat} {d : List V} {l : List (Nat × List V)} : ∀ {ks : List (Nat × Nat)} {K : List V → Option R}, k ∉ ks.map (·.1) → csV (setLV l k d) ks K = csV l ks K
  | [], K, h => rfl
  | (j, n) :: ks, K, h => by
    simp only [csV]
    rw [look_setLV (fun e => h (by simp [e]))]
    split
    · split
      · exact cs_set (fun hm => h (by simp at hm ⊢; exact .inr hm))
      · rfl
    · rfl

theorem setL_same {k : Nat} {ws : List Value} : ∀ {l : List (Nat × List Value)}, look l k = some ws → setL l k ws = l
  | [], h => rfl
  | (q, v) :: l, h => by
    by_cases e : q = k
    · subst e
      have hb : Nat.beq q q = true := Nat.beq_refl q
      simp only [look, hb] at h
      cases h; simp only [setL, hb]
    · simp only [look, beq_ne e] at h
      simp only [setL, beq_ne e, setL_same h]

theorem cs_sim {w : Wd} {al : List (Nat × List Value)} {R : Type} {r : R} : ∀ {ks : List (Nat × Nat)} {l : List (Nat × List V)} {cl : Cnt} {K : List V → Option R}, (ks.map (·.1)).Nodup → RLoc w l al cl → csV l ks K = some r →
    ∃ vs xs c, K vs = some r ∧ RVs w vs xs c ∧ (∀ i, c i ≤ cl i) ∧ vs.length = total ks ∧ ∀ (R' : Type) (K' : List Value → Option R'), csK al ks K' = K' xs
  | [], l, cl, K, nd, he, h => ⟨[], [], fun _ => 0, h, by simp [RVs], by simp, rfl, fun _ _ => rfl⟩
  | (k, n) :: ks, l, cl, K, nd, he, h => by
    simp only [csV] at h
    simp only [List.map_cons, List.nodup_cons] at nd
    split at h
    · rename_i cs hl
      split at h
      · rename_i hb
        obtain ⟨ws, c1, c2, h1, h2, h3, h4⟩ := he.look hl
        have h5 := h4 _ _ _ (RVs.strip _ h2)
        rw [setL_same h1] at h5
        rw [← cs_set (k := k) (d := stripL cs) nd.1] at h
        obtain ⟨vs, xs, c, g1, g2, g3, g4, g5⟩ := cs_sim nd.2 h5 h
        have hn := Nat.eq_of_beq_eq_true hb
        have hb' : Nat.beq ws.length n = true := by rw [← h2.len]; exact hb
        exact ⟨cs ++ vs, ws ++ xs, _, g1, h2.app g2, fun i => by have := g3 i; have := h3 i; omega, by simp only [List.length_append, total, g4]; omega, fun R' K' => by simp only [csK, h1, hb', g5]⟩
      · cases h
    · cases h

theorem keepV_split {kp : Keep} (h : keepOkV kp = true) : keepOk kp = true ∧ (kp.cs.map (·.1)).Nodup ∧ kp.vs.Nodup ∧ (kp.ls.map (·.1)).Nodup ∧ ∀ x ∈ kp.ls, mem kp.vs x.1 = false := by
  unfold keepOkV at h
  simp only [Bool.and_eq_true, decide_eq_true_eq, List.all_eq_true] at h
  obtain ⟨⟨⟨⟨h1, h2⟩, h3⟩, h4⟩, h5⟩ := h
  refine ⟨?_, h2, h3, h4, fun x hx => by have := h5 x hx; simpa using this⟩
  unfold keepOk
  simp only [Bool.and_eq_true]
  exact ⟨h1, by simpa using h2⟩

theorem save_sim {R : Type} {r : R} {kp : Keep} {s : VS} {s' : St} (hs : St0 X E s s') {K : List V → VH → Option R} (h : saveV kp s K = some r) :
    ∃ vs xs, K vs s.H = some r ∧ Saved X E vs s.H xs s'.hp ∧ ∀ (R' : Type) (K' : List Value → Heap → Option R'), saveK kp s' K' = K' xs s'.hp := by
  unfold saveV at h
  split at h
  · rename_i hk
    simp only [Bool.and_eq_true] at hk
    obtain ⟨k1, k2, k3, k4, k5⟩ := keepV_split hk.1
    obtain ⟨w, ce, cl, ch, g⟩ := hs
    obtain ⟨vs, xs, c, h1, h2, h3, h4, h5⟩ := vals_sim k3 g.env h
    obtain ⟨us, ys, d, g1, g2, g3, g4, g5⟩ := cs_sim k2 g.loc h1
    refine ⟨vs ++ us, xs ++ ys, g1, ⟨w, _, ch, g.hp, g.hw, g.gl, g.fr, h2.app g2, g.obj, fun i => ?_, fun i hi => ?_, fun i hi => ?_⟩, fun R' K' => ?_⟩
    · have := g.le1 i; have := h3 i; have := g3 i; omega
    · have := g.le0 i hi; have := h3 i; have := g3 i; omega
    · have := g.big i hi; have := h3 i; have := g3 i; omega
    · simp only [saveK, ls_sim g.env hk.2, h5, g5]
  · cases h

theorem mem_false {a : Nat} : ∀ {l : List Nat}, mem l a = false → a ∉ l
  | [], _ => by simp
  | b :: l, h => by
    simp only [mem] at h
    split at h
    · cases h
    · rename_i hb
      intro hm
      rcases List.mem_cons.1 hm with e | hm
      · rw [e, Nat.beq_refl] at hb; cases hb
      · exact mem_false h hm

theorem RVs.head {w : Wd} {vs : List V} {xs : List Value} {d : Cnt} {i : Nat} (hi : i < vs.length) (h : RVs w (vs.drop i) (xs.drop i) d) : ∃ a b, RV w (vs.getD i .nilp) (xs.getD i undef) a ∧ RVs w (vs.drop (i + 1)) (xs.drop (i + 1)) b ∧ ∀ j, d j = a j + b j := by
  rw [List.drop_eq_getElem_cons hi] at h
  simp only [RVs] at h
  obtain ⟨x, ys, a, b, h1, h2, h3, h4⟩ := h
  have hx : xs[i]? = some x := by
    have : (xs.drop i)[0]? = some x := by rw [h1]; rfl
    simpa using this
  have hy : xs.drop (i + 1) = ys := by rw [← List.drop_drop, h1]; rfl
  refine ⟨a, b, ?_, by rw [hy]; exact h3, h4⟩
  rw [List.getD_eq_getElem?_getD, List.getD_eq_getElem?_getD, hx, List.getElem?_eq_getElem hi]; exact h2

theorem env_load {w : Wd} {vs : List V} {xs : List Value} {ae : List (Nat × EV)} : ∀ {ss : List Nat} {i : Nat} {d : Cnt}, RVs w (vs.drop i) (xs.drop i) d → i + ss.length ≤ vs.length → (∀ (j s : Nat), ss[j]? = some s → look ae s = some (.val (xs.getD (i + j) undef))) →
    ∃ c1 c2, REnv w (envOfV i ss vs) ae c1 ∧ RVs w (vs.drop (i + ss.length)) (xs.drop (i + ss.length)) c2 ∧ ∀ j, c1 j + c2 j = d j
  | [], i, d, hd, hl, ha => ⟨fun _ => 0, d, by simp [envOfV, REnv], by simpa using hd, by simp⟩
  | s :: ss, i, d, hd, hl, ha => by
    simp at hl
    obtain ⟨a, b, h1, h2, h3⟩ := hd.head (i := i) (by omega)
    obtain ⟨c1, c2, g1, g2, g3⟩ := env_load (ss := ss) (i := i + 1) h2 (by omega) (fun j t ht => by have := ha (j + 1) t (by simpa using ht); rw [this]; congr 3; omega)
    refine ⟨fun j => a j + c1 j, c2, ?_, by rw [List.length_cons, show i + (ss.length + 1) = i + 1 + ss.length by omega]; exact g2, fun j => by have := g3 j; have := h3 j; show a j + c1 j + c2 j = d j; omega⟩
    simp only [envOfV, REnv]
    exact ⟨_, a, c1, ha 0 s (by simp), by simp only [RE]; exact h1, g1, by simp⟩

theorem loc_load {w : Wd} {vs : List V} {xs : List Value} : ∀ {ks : List (Nat × Nat)} {i : Nat} {d : Cnt} {al : List (Nat × List Value)}, (ks.map (·.1)).Nodup → RVs w (vs.drop i) (xs.drop i) d → i + total ks ≤ vs.length → i + total ks ≤ xs.length → (∀ k n, look (locOf i ks xs) k = some n → look al k = some n) → (∀ p ∈ ks, (look (locOf i ks xs) p.1).isSome = true) →
    ∃ c1, RLoc w (locOfV i ks vs) al c1 ∧ ∀ j, c1 j ≤ d j
  | [], i, d, al, nd, hd, hl, hl2, ha, hm => ⟨fun _ => 0, by simp [locOfV, RLoc], by simp⟩
  | (k, n) :: ks, i, d, al, nd, hd, hl, hl2, ha, hm => by
    simp only [List.map_cons, List.nodup_cons] at nd
    simp only [total] at hl hl2
    have e1 : vs.drop i = (vs.drop i).take n ++ vs.drop (i + n) := by rw [← List.drop_drop, List.take_append_drop]
    rw [e1] at hd
    obtain ⟨ys, zs, a, b, h1, h2, h3, h4⟩ := hd.split
    have hyl := h2.len
    rw [List.length_take, List.length_drop, Nat.min_eq_left (by omega)] at hyl
    have hys : ys = (xs.drop i).take n := by rw [h1, hyl, List.take_left]
    have hzs : zs = xs.drop (i + n) := by rw [← List.drop_drop, h1, hyl, List.drop_left]
    subst hzs
    have hne : ∀ k' v, look (locOf (i + n) ks xs) k' = some v → k' ≠ k := fun k' v h e => by
      subst e
      have : ∀ {ks : List (Nat × Nat)} {i : Nat}, k' ∉ ks.map (·.1) → look (locOf i ks xs) k' = none := by
        intro ks
        induction ks with
        | nil => intro i _; rfl
        | cons p ks ih =>
          intro i hn
          obtain ⟨q, m⟩ := p
          simp only [List.map_cons, List.mem_cons, not_or] at hn
          simp only [locOf]
          rw [look_cons, if_neg hn.1]; exact ih hn.2
      rw [this nd.1] at h; cases h
    have memv : ∀ {ks : List (Nat × Nat)} {i : Nat}, k ∉ ks.map (·.1) → look (locOfV i ks vs) k = none := by
      intro ks
      induction ks with
      | nil => intro i _; rfl
      | cons p ks ih =>
        intro i hn
        obtain ⟨q, m⟩ := p
        simp only [List.map_cons, List.mem_cons, not_or] at hn
        simp only [locOfV]
        rw [look_cons, if_neg hn.1]; exact ih hn.2
    have somev : ∀ {ks : List (Nat × Nat)} {i : Nat}, ∀ p ∈ ks, (look (locOf i ks xs) p.1).isSome = true := by
      intro ks
      induction ks with
      | nil => intro i p hp; cases hp
      | cons q ks ih =>
        intro i p hp
        obtain ⟨q, m⟩ := q
        simp only [locOf]
        rw [look_cons]
        split
        · rfl
        · rename_i hq
          rcases List.mem_cons.1 hp with rfl | hp
          · exact absurd rfl hq
          · exact ih p hp
    obtain ⟨c1, g1, g2⟩ := loc_load (ks := ks) (i := i + n) (al := al) nd.2 h3 (by omega) (by omega) (fun k' v h => ha k' v (by simp only [locOf]; rw [look_cons, if_neg (hne k' v h)]; exact h)) somev
    refine ⟨fun j => a j + c1 j, ?_, fun j => by have := g2 j; have := h4 j; show a j + c1 j ≤ d j; omega⟩
    simp only [locOfV, RLoc]
    refine ⟨tabl i n xs, a, c1, ha k _ (by simp only [locOf]; rw [look_cons, if_pos rfl]), ?_, memv nd.1, g1, by simp⟩
    rw [tablV_eq (by omega), tabl_take (by omega), ← hys]; exact h2

theorem load_sim' {R : Type} {r : R} {kp : Keep} {vs : List V} {H : VH} {xs : List Value} {hp : Heap} (hs : Saved X E vs H xs hp) {K : VS → Option R} (h : loadV kp vs H K = some r) :
    ∃ s s', K s = some r ∧ St0 X E s s' ∧ ∀ (R' : Type) (K' : St → Option R'), loadK kp xs hp K' = K' s' := by
  unfold loadV at h
  split at h
  · rename_i hk
    obtain ⟨k1, k2, k3, k4, k5⟩ := keepV_split hk
    split at h
    · rename_i hl
      obtain ⟨w, cv, ch, rfl, hw, hg, hf, hv, ho, l1, l0, lb⟩ := hs
      have hlen := hv.len
      have hlook : ∀ (j s : Nat), kp.vs[j]? = some s → look (lsOf kp.ls ++ envOf 0 kp.vs xs) s = some (.val (xs.getD (0 + j) undef)) := by
        intro j s hj
        have hnl : ∀ {ls : List (Nat × Nat × Nat)} {m : List (Nat × EV)}, (∀ x ∈ ls, x.1 ≠ s) → look (lsOf ls ++ m) s = look m s := by
          intro ls
          induction ls with
          | nil => intro m _; rfl
          | cons p ls ih =>
            intro m hn
            obtain ⟨q, k, o⟩ := p
            simp only [lsOf, List.cons_append]
            rw [look_cons, if_neg (fun e => hn (q, k, o) (by simp) e.symm)]
            exact ih (fun x hx => hn x (by simp [hx]))
        rw [hnl (fun x hx e => mem_false (k5 x hx) (by rw [e]; exact List.mem_of_getElem? hj))]
        have hev : ∀ {ss : List Nat} {i j : Nat}, ss.Nodup → ss[j]? = some s → look (envOf i ss xs) s = some (.val (xs.getD (i + j) undef)) := by
          intro ss
          induction ss with
          | nil => intro i j _ h; simp at h
          | cons t ss ih =>
            intro i j nd h
            simp at nd
            simp only [envOf]
            rw [look_cons]
            cases j with
            | zero => simp at h; subst h; rw [if_pos rfl]; rfl
            | succ j =>
              simp at h
              rw [if_neg (fun e => nd.1 (by subst e; exact List.mem_of_getElem? h)), ih nd.2 h]
              congr 3; omega
        exact hev k3 hj
      obtain ⟨c1, c2, e1, e2, e3⟩ := env_load (ss := kp.vs) (i := 0) (ae := lsOf kp.ls ++ envOf 0 kp.vs xs) (by simpa using hv) (by omega) hlook
      have hls : ∀ {ls : List (Nat × Nat × Nat)} {pre : List (Nat × EV)} {rest : List (Nat × VE)} {c : Cnt}, (ls.map (·.1)).Nodup → REnv w rest (pre ++ (lsOf ls ++ envOf 0 kp.vs xs)) c → (∀ x ∈ ls, look pre x.1 = none) → REnv w (lsOfV ls ++ rest) (pre ++ (lsOf ls ++ envOf 0 kp.vs xs)) c := by
        intro ls
        induction ls with
        | nil => intro pre rest c _ h _; exact h
        | cons p ls ih =>
          intro pre rest c nd h hn
          obtain ⟨q, k, o⟩ := p
          simp only [List.map_cons, List.nodup_cons] at nd
          simp only [lsOfV, List.cons_append, REnv]
          have hpre : ∀ {m : List (Nat × EV)} {t : Nat}, look pre t = none → look (pre ++ m) t = look m t := by
            intro m t
            have : ∀ {pre : List (Nat × EV)}, look pre t = none → look (pre ++ m) t = look m t := by
              intro pre
              induction pre with
              | nil => intro _; rfl
              | cons a pre ih2 =>
                intro hh
                obtain ⟨a1, a2⟩ := a
                rw [look_cons] at hh
                split at hh
                · cases hh
                · rename_i hq
                  simp only [List.cons_append]
                  rw [look_cons, if_neg hq]; exact ih2 hh
            exact this
          refine ⟨.loc k o, fun _ => 0, c, ?_, by simp [RE], ?_, by simp⟩
          · have hq : look pre q = none := hn (q, k, o) (by simp)
            rw [hpre hq]
            simp only [lsOf, List.cons_append]
            rw [look_cons, if_pos rfl]
          · have e : pre ++ (lsOf ((q, k, o) :: ls) ++ envOf 0 kp.vs xs) = (pre ++ [(q, EV.loc k o)]) ++ (lsOf ls ++ envOf 0 kp.vs xs) := by simp [lsOf]
            rw [e] at h ⊢
            refine ih nd.2 h (fun x hx => ?_)
            have : look pre x.1 = none := hn x (by simp [hx])
            rw [hpre this, look_cons, if_neg (fun e => nd.1 (by rw [← e]; exact List.mem_map_of_mem hx))]
            rfl
      have henv := hls (pre := []) k4 e1 (fun _ _ => rfl)
      simp only [List.nil_append] at henv
      obtain ⟨c3, f1, f2⟩ := loc_load (ks := kp.cs) (i := kp.vs.length) (al := locOf kp.vs.length kp.cs xs) k2 (by simpa using e2) (by omega) (by omega) (fun k n h => h) (by
        intro p hp
        have somev : ∀ {ks : List (Nat × Nat)} {i : Nat}, ∀ p ∈ ks, (look (locOf i ks xs) p.1).isSome = true := by
          intro ks
          induction ks with
          | nil => intro i p hp; cases hp
          | cons q ks ih =>
            intro i p hp
            obtain ⟨q, m⟩ := q
            simp only [locOf]
            rw [look_cons]
            split
            · rfl
            · rename_i hq
              rcases List.mem_cons.1 hp with rfl | hp
              · exact absurd rfl hq
              · exact ih p hp
        exact somev p hp)
      refine ⟨_, loadSt kp xs w.hp, h, ⟨w, c1, c3, ch, rfl, hw, hg, hf, henv, f1, fun k hk => ?_, ho, fun i => ?_, fun i hi => ?_, fun i hi => ?_⟩, fun R' K' => ?_⟩
      · have : ∀ {ks : List (Nat × Nat)} {i : Nat}, look (locOfV i ks vs) k = none → look (locOf i ks xs) k = none := by
          intro ks
          induction ks with
          | nil => intro i _; rfl
          | cons p ks ih =>
            intro i hh
            obtain ⟨q, m⟩ := p
            simp only [locOfV] at hh
            simp only [locOf]
            rw [look_cons] at hh ⊢
            split at hh
            · cases hh
            · rename_i hq; rw [if_neg hq]; exact ih hh
        exact this hk
      · have := l1 i; have := e3 i; have := f2 i; omega
      · have := l0 i hi; have := e3 i; have := f2 i; omega
      · have := lb i hi; have := e3 i; have := f2 i; omega
      · unfold loadK
        rw [k1]
        simp only
        rw [if_pos (by omega)]; rfl
    · cases h
  · cases h

theorem out_sim {R : Type} {r : R} {e : Exit} {s : VS} {s' : St} (hs : St0 X E s s') : ∀ {outs : List (Exit × Keep)} {K : Nat → List V → VH → Option R}, outV outs e s K = some r →
    ∃ n vs xs, K n vs s.H = some r ∧ Saved X E vs s.H xs s'.hp ∧ ∀ (R' : Type) (K' : Nat → List Value → Heap → Option R'), outK outs e s' K' = K' n xs s'.hp
  | [], K, h => by cases h
  | (x, kp) :: l, K, h => by
    simp only [outV] at h
    split at h
    · rename_i hx
      obtain ⟨vs, xs, h1, h2, h3⟩ := save_sim hs h
      exact ⟨0, vs, xs, h1, h2, fun R' K' => by simp only [outK, hx, h3]⟩
    · rename_i hx
      obtain ⟨n, vs, xs, h1, h2, h3⟩ := out_sim hs h
      exact ⟨n + 1, vs, xs, h1, h2, fun R' K' => by simp only [outK, hx, h3]⟩

theorem in_sim {R : Type} {r : R} {vs : List V} {H : VH} {xs : List Value} {hp : Heap} (hs : Saved X E vs H xs hp) {K : Exit → VS → Option R} : ∀ {outs : List (Exit × Keep)} {n : Nat}, inV outs n vs H K = some r →
    ∃ e s s', K e s = some r ∧ St0 X E s s' ∧ ∀ (R' : Type) (K' : Exit → St → Option R'), inK outs n xs hp K' = K' e s'
  | [], n, h => by cases h
  | (x, kp) :: l, 0, h => by
    simp only [inV] at h
    obtain ⟨s, s', h1, h2, h3⟩ := load_sim' hs h
    exact ⟨x, s, s', h1, h2, fun R' K' => by simp only [inK, h3]⟩
  | (x, kp) :: l, n + 1, h => by
    simp only [inV] at h
    obtain ⟨e, s, s', h1, h2, h3⟩ := in_sim hs h
    exact ⟨e, s, s', h1, h2, fun R' K' => by simp only [inK, h3]⟩

/-! ### Code -/

inductive LpV' (B : List V → VH → Option (Option Nat × List V × VH)) : Nat → List V → VH → (Nat × List V × VH) → Prop
  | stop {vs : List V} {hp : VH} {m : Nat} {vs' : List V} {hp' : VH} : B vs hp = some (some m, vs', hp') → LpV' B 0 vs hp (m, vs', hp')
  | more {n : Nat} {vs : List V} {hp : VH} {vs1 : List V} {hp1 : VH} {res : Nat × List V × VH} : B vs hp = some (none, vs1, hp1) → LpV' B n vs1 hp1 res → LpV' B (n + 1) vs hp res

def LpVOk (lp : LpV) : Prop := ∀ B vs hp res, lp B vs hp = some res → ∃ n, LpV' B n vs hp res

/-- The abstract machine's loops go round by round. -/
def LpEq (lp : LpT) : Prop := ∀ B vs hp, lp B vs hp = match B vs hp with | none => none | some (none, vs, hp) => lp B vs hp | some (some m, vs, hp) => some (m, vs, hp)

theorem code_sim (ht : Twin X Y) (hT : TabOk X) (hcall : ∀ f args H r H', X.call f args H = some (r, H') → CallSim X Y.call f args H r H') (hlp : LpVOk X.lp) (hlq : LpEq Y.lp) :
    ∀ (x : Code) {R R' : Type} {r : R} {Q : R' → Prop} {s : VS} {s' : St} {K : Exit → VS → Option R} {K' : Exit → St → Option R'}, St0 X E s s' → codeV X A T x s K = some r →
      (∀ e s s', K e s = some r → St0 X E s s' → ∃ r', K' e s' = some r' ∧ Q r') → ∃ r', codeK Y A x s' K' = some r' ∧ Q r'
  | .skip, R, R', r, Q, s, s', K, K', hs, h, hK => hK _ _ _ h hs
  | .exit id, R, R', r, Q, s, s', K, K', hs, h, hK => hK _ _ _ h hs
  | .ret, R, R', r, Q, s, s', K, K', hs, h, hK => hK _ _ _ h hs
  | .region id ops draw, R, R', r, Q, s, s', K, K', hs, h, hK => by
    cases draw with
    | false =>
      simp only [codeV] at h
      simp only [codeK]
      exact reg_sim ht hT hcall hs h fun cl s s' h hs => hK _ _ _ h hs
    | true =>
      simp only [codeV] at h
      simp only [codeK]
      refine reg_sim ht hT hcall hs h fun cl s s' h hs => ?_
      split at h
      · rename_i ho; simp only [ho]; exact hK _ _ _ h hs
      · cases h
  | .cond y a b, R, R', r, Q, s, s', K, K', hs, h, hK => by
    simp only [codeV] at h
    simp only [codeK]
    obtain ⟨w, hs⟩ := hs
    obtain ⟨v, x', c, h1, h2, _, h4⟩ := va_sim ht hs h
    rw [h4]
    rcases ifVV_some h1 with ⟨rfl, h⟩ | ⟨rfl, h⟩ | ⟨rfl, h, h'⟩
    · simp only [RV] at h2
      simp only [h2.1, ifV]
      exact code_sim ht hT hcall hlp hlq a ⟨w, hs⟩ h hK
    · simp only [RV] at h2
      simp only [h2.1, ifV]
      exact code_sim ht hT hcall hlp hlq b ⟨w, hs⟩ h hK
    · simp only [RV] at h2
      obtain ⟨⟨bb, hb⟩, _⟩ := h2
      subst hb
      cases bb with
      | true => exact code_sim ht hT hcall hlp hlq a ⟨w, hs⟩ h hK
      | false => exact code_sim ht hT hcall hlp hlq b ⟨w, hs⟩ h' hK
  | .block id a, R, R', r, Q, s, s', K, K', hs, h, hK => by
    simp only [codeV] at h
    simp only [codeK]
    refine code_sim ht hT hcall hlp hlq a hs h fun e s s' h hs => ?_
    cases e with
    | exit i =>
      simp only at h ⊢
      split at h
      · rename_i hb; simp only [hb]; exact hK _ _ _ h hs
      · rename_i hb; simp only [hb]; exact hK _ _ _ h hs
    | _ => exact hK _ _ _ h hs
  | .seq a b, R, R', r, Q, s, s', K, K', hs, h, hK => by
    simp only [codeV] at h
    simp only [codeK]
    have behind : ∀ (e : Exit) (s : VS) (s' : St), (match e with | .normal => codeV X A T b s K | e => K e s) = some r → St0 X E s s' → ∃ r', (fun (e : Exit) (st : St) => match e with | .normal => codeK Y A b st K' | e => K' e st) e s' = some r' ∧ Q r' := by
      intro e s s' h hs
      cases e with
      | normal => exact code_sim ht hT hcall hlp hlq b hs h hK
      | _ => exact hK _ _ _ h hs
    split at h
    · rename_i hj
      split
      · exact code_sim ht hT hcall hlp hlq a (K' := fun e st => match e with | .normal => codeK Y A b st K' | e => K' e st) hs h behind
      · rename_i hj2
        have := hj.symm.trans hj2
        cases this
    · rename_i outs hj
      split
      · rename_i hj2
        have := hj.symm.trans hj2
        cases this
      rename_i outs' hj2
      have := hj.symm.trans hj2
      cases this
      obtain ⟨⟨n, vs, H⟩, h1, h2⟩ := bind_some' h
      obtain ⟨⟨n', xs, hp⟩, g1, g2⟩ := code_sim ht hT hcall hlp hlq a (K' := fun e st => outK outs e st fun n vs hp => some (n, vs, hp)) (Q := fun q => q.1 = n ∧ Saved X E vs H q.2.1 q.2.2) hs h1 (fun e s s' h hs => by
        obtain ⟨m, us, xs, k1, k2, k3⟩ := out_sim hs h
        cases k1
        exact ⟨_, k3 _ _, rfl, k2⟩)
      simp only at g2
      obtain ⟨rfl, g2⟩ := g2
      rw [g1]
      simp only [Option.bind_some]
      obtain ⟨e, s2, s2', k1, k2, k3⟩ := in_sim g2 h2
      rw [k3]
      exact behind e s2 s2' k1 k2
  | .loop a, R, R', r, Q, s, s', K, K', hs, h, hK => by
    simp only [codeV] at h
    simp only [codeK]
    split at h
    · cases h
    · rename_i li hli
      obtain ⟨vs, xs, h1, h2, h3⟩ := save_sim hs h
      obtain ⟨⟨n, us, H⟩, h4, h5⟩ := bind_some' h1
      simp only [hli]
      rw [h3]
      obtain ⟨m, hm⟩ := hlp _ _ _ _ h4
      have loop : ∀ {m : Nat} {vs : List V} {H : VH} {res : Nat × List V × VH} {xs : List Value} {hp : Heap}, LpV' (fun vs hp => loadV li.ks vs hp fun st => codeV X A T a st fun e st => match e with
          | .normal => saveV li.ks st fun vs hp => some (none, vs, hp)
          | e => outV li.outs e st fun n vs hp => some (some n, vs, hp)) m vs H res → Saved X E vs H xs hp →
          ∃ ys hp', Y.lp (fun vs hp => loadK li.ks vs hp fun st => codeK Y A a st fun e st => match e with
            | .normal => saveK li.ks st fun vs hp => some (none, vs, hp)
            | e => outK li.outs e st fun n vs hp => some (some n, vs, hp)) xs hp = some (res.1, ys, hp') ∧ Saved X E res.2.1 res.2.2 ys hp' := by
        intro m vs H res xs hp hl
        induction hl generalizing xs hp with
        | @stop vs0 H0 m0 vs1 H1 hB =>
          intro hsv
          obtain ⟨s, s', k1, k2, k3⟩ := load_sim' hsv hB
          obtain ⟨⟨o, ys, hp'⟩, k4, k5⟩ := code_sim ht hT hcall hlp hlq a (K' := fun e st => match e with
            | .normal => saveK li.ks st fun vs hp => some (none, vs, hp)
            | e => outK li.outs e st fun n vs hp => some (some n, vs, hp)) (Q := fun q => q.1 = some m0 ∧ Saved X E vs1 H1 q.2.1 q.2.2) k2 k1 (fun e s s' h hs => by
              cases e with
              | normal =>
                obtain ⟨us, xs, a1, a2, a3⟩ := save_sim hs h
                cases a1
              | _ =>
                obtain ⟨m, us, xs, a1, a2, a3⟩ := out_sim hs h
                cases a1
                exact ⟨_, a3 _ _, rfl, a2⟩)
          simp only at k5
          obtain ⟨rfl, k5⟩ := k5
          refine ⟨ys, hp', ?_, k5⟩
          rw [hlq, k3, k4]
        | @more n0 vs0 H0 vs1 H1 res0 hB _ ih =>
          intro hsv
          obtain ⟨s, s', k1, k2, k3⟩ := load_sim' hsv hB
          obtain ⟨⟨o, ys, hp'⟩, k4, k5⟩ := code_sim ht hT hcall hlp hlq a (K' := fun e st => match e with
            | .normal => saveK li.ks st fun vs hp => some (none, vs, hp)
            | e => outK li.outs e st fun n vs hp => some (some n, vs, hp)) (Q := fun q => q.1 = none ∧ Saved X E vs1 H1 q.2.1 q.2.2) k2 k1 (fun e s s' h hs => by
              cases e with
              | normal =>
                obtain ⟨us, xs, a1, a2, a3⟩ := save_sim hs h
                cases a1
                exact ⟨_, a3 _ _, rfl, a2⟩
              | _ =>
                obtain ⟨m, us, xs, a1, a2, a3⟩ := out_sim hs h
                cases a1)
          simp only at k5
          obtain ⟨rfl, k5⟩ := k5
          obtain ⟨zs, hp2, k6, k7⟩ := ih k5
          refine ⟨zs, hp2, ?_, k7⟩
          rw [hlq, k3, k4]
          exact k6
      obtain ⟨ys, hp', k1, k2⟩ := loop hm h2
      obtain ⟨e, s2, s2', k3, k4, k5⟩ := in_sim k2 h5
      obtain ⟨r', q1, q2⟩ := hK _ _ _ k3 k4
      exact ⟨r', (congrArg (fun (o : Option (Nat × List Value × Heap)) => o.bind fun q => inK li.outs q.1 q.2.1 q.2.2 K') k1).trans ((k5 R' K').trans q1), q2⟩
  | .rangeFunc .., R, R', r, Q, s, s', K, K', hs, h, hK => by cases h
  | .scope .., R, R', r, Q, s, s', K, K', hs, h, hK => by cases h
  | .label .., R, R', r, Q, s, s', K, K', hs, h, hK => by cases h
  | .goto .., R, R', r, Q, s, s', K, K', hs, h, hK => by cases h
  | .refuse .., R, R', r, Q, s, s', K, K', hs, h, hK => by cases h

/-! ### Results, calls -/

theorem res_sim (ht : Twin X Y) {w : Wd} {R R' : Type} {r : R} {Q : R' → Prop} {s' : St} : ∀ {rs : List ResultVar} {s : VS} {cx : Cnt} {K : List V → VS → Option R} {K' : List Value → Option R'}, StR X E w s s' cx → resV X rs s K = some r →
    (∀ vs s2 xs c, K vs s2 = some r → RVs w vs xs c → StR X E w s2 s' (fun i => cx i + c i) → ∃ r', K' xs = some r' ∧ Q r') → ∃ r', resK Y rs s' K' = some r' ∧ Q r'
  | [], s, cx, K, K', hs, h, hK => hK [] s [] (fun _ => 0) h (by simp [RVs]) (hs.less (by simp))
  | .tmp t :: l, s, cx, K, K', hs, h, hK => by
    simp only [resV] at h
    simp only [resK]
    obtain ⟨v, x, c, h1, h2, h3, h4⟩ := vt_sim ht hs h
    have hl : look s'.env t = some (.val x) := by
      have := h4 Value (fun v => some v)
      simp only [vaK, evK] at this
      cases e : look s'.env t with
      | none => rw [e] at this; cases this
      | some q =>
        rw [e] at this
        cases q <;> simp only at this <;> first | (cases this; done) | skip
        cases this; rfl
    simp only [hl]
    exact res_sim ht h3 h1 fun vs s2 xs d k1 k2 k3 => hK (v :: vs) s2 (x :: xs) (fun i => c i + d i) k1 ⟨x, xs, c, d, rfl, h2, k2, by simp⟩ (k3.less (fun i => by omega))
  | .cell a t :: l, s, cx, K, K', hs, h, hK => by
    simp only [resV] at h
    simp only [resK]
    rw [ht.tab]
    split at h
    · rename_i ti hti
      simp only [hti]
      obtain ⟨ce, cl, ch, g⟩ := hs
      split at h
      · rename_i k hl
        obtain ⟨x, c1, c2, h1, h2, _, _⟩ := g.env.look hl
        cases x <;> simp only [RE] at h2
        obtain ⟨rfl, rfl, _⟩ := h2
        simp only [h1]
        split at h
        · rename_i cs hcs
          obtain ⟨ws, d1, d2, k1, k2, k3, k4⟩ := g.loc.look hcs
          simp only [k1]
          split at h
          · rename_i hb
            have hb' : Nat.beq ws.length ti.size = true := by rw [← k2.len]; exact hb
            simp only [hb']
            have hset := k4 _ _ _ (RVs.strip _ k2)
            rw [setL_same k1] at hset
            have hst : StR X E w { s with loc := setLV s.loc k (stripL cs) } s' (fun i => cx i + d1 i) := by
              refine ⟨ce, fun i => 0 + d2 i, ch, g.hp, g.hw, g.gl, g.fr, g.env, hset, fun j hj => g.locn j (setLV_none hj), g.obj, fun i => ?_, fun i hi => ?_, fun i hi => ?_⟩
              · have := g.le1 i; have := k3 i; omega
              · have := g.le0 i hi; have := k3 i; omega
              · have := g.big i hi; have := k3 i; omega
            split at h
            · rename_i hag
              simp only [hag]
              exact res_sim ht hst h fun vs s2 xs d q1 q2 q3 => hK (.agg cs :: vs) s2 (.agg ws.toArray :: xs) (fun i => d1 i + d i) q1 ⟨_, xs, d1, d, rfl, by simp only [RV]; exact ⟨ws, rfl, k2⟩, q2, by simp⟩ (q3.less (fun i => by omega))
            · rename_i hag
              simp only [hag]
              split at h
              · rename_i v
                simp only [RVs] at k2
                obtain ⟨x, ys, e1, e2, rfl, m1, ⟨rfl, m2⟩, m3⟩ := k2
                simp only
                exact res_sim ht hst h fun vs s2 xs d q1 q2 q3 => hK (v :: vs) s2 (x :: xs) (fun i => d1 i + d i) q1 ⟨x, xs, d1, d, rfl, m1.congr (fun i => by rw [m3, m2]; rfl), q2, by simp⟩ (q3.less (fun i => by omega))
              · cases h
          · cases h
        · cases h
      · rename_i k off hl
        obtain ⟨x, c1, c2, h1, h2, _, _⟩ := g.env.look hl
        cases x <;> simp only [RE] at h2
        simp only [RV] at h2
        obtain ⟨⟨b, hb1, rfl⟩, _⟩ := h2
        simp only [h1]
        split at h
        · rename_i cs hcs
          obtain ⟨⟨v, cs2⟩, hld, h⟩ := bind_some' h
          obtain ⟨b', kb, d1, d2, g1, g2, g3, g4, g5⟩ := g.obj.get hcs
          rw [hb1] at g1; cases g1
          obtain ⟨kb', o1, o2, o3⟩ := g.hw.obj b (List.mem_of_getElem? hb1)
          rw [g2] at o1; cases o1
          obtain ⟨z, e1, e2, k1, k2, k3, k4⟩ := load_sim hld g3
          have hload : hLoad s'.hp ti.agg ti.size (.pointer (some ⟨b, off, none⟩)) = some z := by
            simp only [hLoad, g.hp, blkAt_mk g2 (by rw [o2]; simp), Option.bind_some]; exact k1
          simp only [hload, Option.bind_some]
          have hst : StR X E w { s with H := s.H.set k cs2 } s' (fun i => cx i + e1 i) := by
            refine ⟨ce, cl, fun i => e2 i + d2 i, g.hp, g.hw, g.gl, g.fr, g.env, g.loc, g.locn, g5 cs2 e2 k3, fun i => ?_, fun i hi => ?_, fun i hi => ?_⟩
            · have := g.le1 i; have := g4 i; have := k4 i; omega
            · have := g.le0 i hi; have := g4 i; have := k4 i; omega
            · have := g.big i hi; have := g4 i; have := k4 i; omega
          exact res_sim ht hst h fun vs s2 xs d q1 q2 q3 => hK (v :: vs) s2 (z :: xs) (fun i => e1 i + d i) q1 ⟨z, xs, e1, d, rfl, k2, q2, by simp⟩ (q3.less (fun i => by omega))
        · cases h
      · cases h
    · cases h

theorem args_env {w : Wd} : ∀ {args : List V} {xs : List Value} {i : Nat} {pre : List (Nat × EV)} {c : Cnt}, RVs w args xs c → (∀ j, i ≤ j → look pre j = none) → REnv w (argsEV i args) (pre ++ argsE i xs) c
  | [], xs, i, pre, c, h, hp => by simp only [RVs] at h; simp only [argsEV, REnv]; exact h.2
  | v :: args, xs, i, pre, c, h, hp => by
    simp only [RVs] at h
    obtain ⟨x, ys, c1, c2, rfl, h1, h2, h3⟩ := h
    have hpre : ∀ {m : List (Nat × EV)} {t : Nat} {pre : List (Nat × EV)}, look pre t = none → look (pre ++ m) t = look m t := by
      intro m t pre
      induction pre with
      | nil => intro _; rfl
      | cons a pre ih2 =>
        intro hh
        obtain ⟨a1, a2⟩ := a
        rw [look_cons] at hh
        split at hh
        · cases hh
        · rename_i hq
          simp only [List.cons_append]
          rw [look_cons, if_neg hq]; exact ih2 hh
    simp only [argsEV, REnv]
    refine ⟨.val x, c1, c2, ?_, by simp only [RE]; exact h1, ?_, h3⟩
    · rw [hpre (hp i (Nat.le_refl _))]
      simp only [argsE]
      rw [look_cons, if_pos rfl]
    · have e : pre ++ argsE i (x :: ys) = (pre ++ [(i, EV.val x)]) ++ argsE (i + 1) ys := by simp [argsE]
      rw [e]
      refine args_env h2 fun j hj => ?_
      rw [hpre (hp j (by omega)), look_cons, if_neg (by omega)]; rfl

theorem ROs.owned {w : Wd} : ∀ {H : VH} {bs : List Nat} {c : Cnt}, ROs w H bs c → ∀ b, 1 ≤ c b → b ∉ w.fb ∧ b ∉ w.rho
  | [], bs, c, h, b, hb => by simp only [ROs] at h; rw [h.2] at hb; omega
  | cs :: H, bs, c, h, b, hb => by
    simp only [ROs] at h
    obtain ⟨b2, bs', kb, c1, c2, rfl, h2, h3, h4, h5⟩ := h
    rw [h5] at hb
    by_cases q : 1 ≤ c1 b
    · have := RVs.owned _ h3 b q; exact ⟨this.1, this.2.1⟩
    · exact ROs.owned h4 b (by omega)

/-- What a call leaves. -/
def RetSim (X : XV) (E : En) (r : V) (H' : VH) (q : Value × Heap) : Prop :=
  ∃ (w2 : Wd) (cr ch' : Cnt), q.2 = w2.hp ∧ HW w2 ∧ GlobOk X w2 ∧ Fr' E w2 ∧ RV w2 r q.1 cr ∧ ROs w2 H' w2.rho ch' ∧ (∀ i, cr i + ch' i ≤ 1) ∧ (∀ i, i < E.hp.length → cr i + ch' i ≤ E.c0 i) ∧ (∀ i, w2.hp.length ≤ i → cr i + ch' i = 0)

theorem body_sim (ht : Twin X Y) (hT : TabOk X) (hcall : ∀ f args H r H', X.call f args H = some (r, H') → CallSim X Y.call f args H r H') (hlp : LpVOk X.lp) (hlq : LpEq Y.lp)
    {f : FuncId} {args : List V} {H H' : VH} {r : V} (h : bodyV X f args H = some (r, H')) : CallSim X (bodyK Y) f args H r H' := by
  intro w args' ca ch hw hg hv ho hle hbig
  unfold bodyV at h
  unfold bodyK
  rw [ht.fn, ht.ann]
  split at h
  · cases h
  · rename_i fn hfn
    simp only [hfn]
    split at h
    · cases h
    · rename_i c hc
      simp only [hc]
      split at h
      · rename_i hd
        simp only [hd]
        have hfr : Fr' ⟨w.hp, w.rho, w.fb, fun i => ca i + ch i⟩ w := by
          refine ⟨Nat.le_refl _, fun _ _ _ _ => rfl, fun b k hk _ => ⟨k, hk, rfl, rfl, rfl, .inl rfl⟩, fun c k hc hk => ?_, ⟨[], by simp, by simp⟩, ⟨[], by simp, by simp⟩, fun b hb => ?_, fun b kb _ hk => ⟨kb, hk, rfl⟩⟩
          · have := (List.getElem?_eq_some_iff.1 hk).1; simp only at hc; omega
          · simp only at hb
            by_cases q : 1 ≤ ca b
            · exact (RVs.owned _ hv b q).2.1
            · exact (ROs.owned ho b (by omega)).2
        have henv : REnv w (argsEV 0 args) (argsE 0 args') ca := by
          have := args_env (pre := []) (i := 0) hv (fun _ _ => rfl)
          simpa using this
        have hst : St0 X ⟨w.hp, w.rho, w.fb, fun i => ca i + ch i⟩ ⟨argsEV 0 args, [], H⟩ ⟨argsE 0 args', [], w.hp⟩ :=
          ⟨w, ca, fun _ => 0, ch, rfl, hw, hg, hfr, henv, by simp [RLoc], fun _ _ => rfl, ho, fun i => by have := hle i; omega, fun i hi => by simp, fun i hi => by have := hbig i hi; omega⟩
        obtain ⟨⟨x, hp2⟩, h1, w2, cr, ch', q2, p2, q3, q4, q5, q6, q7, q8, q9⟩ := code_sim ht hT hcall hlp hlq c (Y := Y) (K' := fun e st => match e with
          | .normal | .ret => resK Y fn.results.toList st fun vs => some (one vs, st.hp)
          | _ => none) (Q := RetSim X ⟨w.hp, w.rho, w.fb, fun i => ca i + ch i⟩ r H') hst h (fun e s s' h hs => by
            have fin : resV X fn.results.toList s (fun vs st => some (oneV vs, st.H)) = some (r, H') → ∃ r', (resK Y fn.results.toList s' fun vs => some (one vs, s'.hp)) = some r' ∧ RetSim X ⟨w.hp, w.rho, w.fb, fun i => ca i + ch i⟩ r H' r' := by
              intro h
              obtain ⟨w2, hs⟩ := hs
              refine res_sim ht hs h fun vs s2 xs c k1 k2 k3 => ?_
              cases k1
              obtain ⟨ce, cl, ch2, g⟩ := k3
              refine ⟨_, rfl, w2, c, ch2, g.hp, g.hw, g.gl, g.fr, ?_, g.obj, fun i => by have := g.le1 i; omega, fun i hi => by have := g.le0 i hi; show c i + ch2 i ≤ ca i + ch i; simp only at this; omega, fun i hi => by have := g.big i hi; omega⟩
              have hl := k2.len
              match vs, xs, k2, hl with
              | [], [], k2, _ => simp only [oneV, one, RV]; exact ⟨[], rfl, k2⟩
              | [v], [x], k2, _ =>
                simp only [RVs] at k2
                obtain ⟨x', ys, e1, e2, h1, m1, ⟨rfl, m2⟩, m3⟩ := k2
                cases h1
                exact m1.congr (fun i => by rw [m3, m2]; rfl)
              | a :: b :: l, x :: y :: m, k2, _ => simp only [oneV, one, RV]; exact ⟨_, rfl, k2⟩
            cases e <;> simp only at h ⊢ <;> first | exact fin h | cases h)
        simp only at q2
        subst q2
        exact ⟨x, w2, cr, ch', h1, p2, q3, q4, q5, q6, q7, q8, q9⟩
      · cases h

end
end Go.AM

/- What an operation of the machine of values asks of the calls behind it. -/
namespace Go.AM
set_option linter.unusedSimpArgs false
set_option linter.unusedVariables false

/-- The same program over other calls and loops. -/
def XV.over (X : XV) (call : CallV) (lp : LpV) : XV := { X with call := call, lp := lp }

section
variable {R : Type} {X : XV} {st : VS} {r : R}

theorem ev_eq {x : Operand} {K : VE → Option R} (h : evV X st x K = some r) : ∃ e, K e = some r ∧ ∀ (c : CallV) (l : LpV) (R' : Type) (K' : VE → Option R'), evV (X.over c l) st x K' = K' e := by
  cases x with
  | tmp t =>
    simp only [evV] at h
    cases e : look st.env t with
    | none => rw [e] at h; cases h
    | some e' => rw [e] at h; exact ⟨e', h, fun c l R' K' => by simp only [evV, e]⟩
  | const v =>
    simp only [evV] at h
    split at h
    · exact ⟨_, h, fun c l R' K' => rfl⟩
    · rename_i hv
      split at h
      · rename_i hp
        refine ⟨_, h, fun c l R' K' => ?_⟩
        simp only [evV, hp]
      · cases h
  | global g =>
    simp only [evV] at h
    cases e : Nat.blt g X.ng with
    | true => rw [e] at h; exact ⟨_, h, fun c l R' K' => by show evV _ _ _ _ = _; simp only [evV, XV.over, e]⟩
    | false => rw [e] at h; cases h
  | func f => exact ⟨_, h, fun c l R' K' => rfl⟩

theorem va_eq {x : Operand} {K : V → Option R} (h : vaV X st x K = some r) : ∃ v, K v = some r ∧ ∀ (c : CallV) (l : LpV) (R' : Type) (K' : V → Option R'), vaV (X.over c l) st x K' = K' v := by
  obtain ⟨e, hk, he⟩ := ev_eq h
  cases e with
  | val v => exact ⟨v, hk, fun c l R' K' => by unfold vaV; rw [he]⟩
  | fl xs => exact ⟨_, hk, fun c l R' K' => by unfold vaV; rw [he]⟩
  | loc k o => cases hk
  | skp => cases hk

theorem vt_eq {x : Operand} {K : V → VS → Option R} (h : vtV X st x K = some r) : ∃ v, K v (used st x) = some r ∧ ∀ (c : CallV) (l : LpV) (R' : Type) (K' : V → VS → Option R'), vtV (X.over c l) st x K' = K' v (used st x) := by
  obtain ⟨v, h1, h2⟩ := va_eq (K := fun v => K v (used st x)) h
  exact ⟨v, h1, fun c l R' K' => h2 c l R' fun v => K' v (used st x)⟩

theorem vas_eq : ∀ {xs : List Operand} {K : List V → Option R}, vasV X st xs K = some r → ∃ vs, K vs = some r ∧ ∀ (c : CallV) (l : LpV) (R' : Type) (K' : List V → Option R'), vasV (X.over c l) st xs K' = K' vs
  | [], K, h => ⟨[], h, fun _ _ _ _ => rfl⟩
  | x :: xs, K, h => by
    obtain ⟨v, h, hv⟩ := va_eq h
    obtain ⟨vs, h, hvs⟩ := vas_eq h
    exact ⟨v :: vs, h, fun c l R' K' => by simp only [vasV, hv, hvs]⟩

theorem vo_eq {x : Option Operand} {K : Option V → Option R} (h : voV X st x K = some r) : ∃ v, K v = some r ∧ ∀ (c : CallV) (l : LpV) (R' : Type) (K' : Option V → Option R'), voV (X.over c l) st x K' = K' v := by
  cases x with
  | none => exact ⟨none, h, fun _ _ _ _ => rfl⟩
  | some x =>
    obtain ⟨v, h, hv⟩ := va_eq h
    exact ⟨some v, h, fun c l R' K' => by simp only [voV, hv]⟩

theorem args_eq {mv : List Nat} : ∀ {xs : List Operand} {i : Nat} {st : VS} {K : List V → VS → Option R}, argsV X mv i xs st K = some r → ∃ vs s2, K vs s2 = some r ∧ ∀ (c : CallV) (l : LpV) (R' : Type) (K' : List V → VS → Option R'), argsV (X.over c l) mv i xs st K' = K' vs s2
  | [], i, st, K, h => ⟨[], st, h, fun _ _ _ _ => rfl⟩
  | x :: xs, i, st, K, h => by
    simp only [argsV] at h
    obtain ⟨v, h, hv⟩ := va_eq h
    split at h
    · rename_i hm
      obtain ⟨vs, s2, h, hvs⟩ := args_eq h
      exact ⟨v :: vs, s2, h, fun c l R' K' => by simp only [argsV, hv, hm, hvs]⟩
    · rename_i hm
      obtain ⟨vs, s2, h, hvs⟩ := args_eq h
      exact ⟨strip v :: vs, s2, h, fun c l R' K' => by simp only [argsV, hv, hm, hvs]⟩

theorem cellsV_eq {agg : Bool} {n : Nat} {v : V} {K : List V → Option R} (h : cellsV agg n v K = some r) : ∃ cs, K cs = some r ∧ ∀ (R' : Type) (K' : List V → Option R'), cellsV agg n v K' = K' cs := by
  cases agg with
  | true =>
    simp only [cellsV] at h
    obtain ⟨cs, h1, h⟩ := bind_some' h
    exact ⟨_, h, fun R' K' => by simp only [cellsV, h1, Option.bind_some]⟩
  | false =>
    simp only [cellsV] at h
    obtain ⟨u, h1, h⟩ := bind_some' h
    exact ⟨_, h, fun R' K' => by simp only [cellsV, h1, Option.bind_some]⟩

theorem partsV_eq {place : Nat → Option (Nat × Nat × Bool)} : ∀ {ps : List (Nat × Operand)} {cells : List V} {st : VS} {K : List V → VS → Option R}, partsV X place ps cells st K = some r →
    ∃ cs s2, K cs s2 = some r ∧ ∀ (c : CallV) (l : LpV) (R' : Type) (K' : List V → VS → Option R'), partsV (X.over c l) place ps cells st K' = K' cs s2
  | [], cells, st, K, h => ⟨cells, st, h, fun _ _ _ _ => rfl⟩
  | (i, x) :: rest, cells, st, K, h => by
    simp only [partsV] at h
    cases e : place i with
    | none => rw [e] at h; cases h
    | some p =>
      obtain ⟨off, n, agg⟩ := p
      rw [e] at h
      simp only at h
      cases hb : Nat.ble (off + n) cells.length with
      | false => rw [hb] at h; cases h
      | true =>
        rw [hb] at h
        obtain ⟨v, h, hv⟩ := vt_eq h
        obtain ⟨cs, h, hcs⟩ := cellsV_eq h
        cases hb2 : Nat.ble (off + cs.length) cells.length with
        | false => rw [hb2] at h; cases h
        | true =>
          rw [hb2] at h
          obtain ⟨cells', s2, h, hp⟩ := partsV_eq h
          exact ⟨cells', s2, h, fun c l R' K' => by simp only [partsV, e, hb, hv, hcs, hb2, hp]⟩
end

/-- An operation goes on with what does not ask a call, or with one call. -/
def OpContV (X : XV) (A : Ann) (T : List Nat) (o : Oper) (st : VS) {R : Type} (K : VE → VS → Cls → Option R) (r : R) : Prop :=
  (∃ e s2 c, K e s2 c = some r ∧ ∀ (cl : CallV) (l : LpV) (R' : Type) (K' : VE → VS → Cls → Option R'), opV (X.over cl l) A T o st K' = K' e s2 c) ∨
  (∃ (f : FuncId) (vs : List V) (s2 : VS) (res : V × VH), X.call f vs s2.H = some res ∧ K (.val res.1) { s2 with H := res.2 } .W = some r ∧ ∀ (cl : CallV) (l : LpV) (R' : Type) (K' : VE → VS → Cls → Option R'), opV (X.over cl l) A T o st K' = (cl f vs s2.H).bind fun r => K' (.val r.1) { s2 with H := r.2 } .W) ∨
  (∃ f vs v, qpcall X.call f vs = some v ∧ K (.val v) st .H = some r ∧ ∀ (cl : CallV) (l : LpV) (R' : Type) (K' : VE → VS → Cls → Option R'), opV (X.over cl l) A T o st K' = (qpcall cl f vs).bind fun v => K' (.val v) st .H) ∨
  (∃ f vs v, pcall X.call f vs = some v ∧ K (.val v) st .A = some r ∧ ∀ (cl : CallV) (l : LpV) (R' : Type) (K' : VE → VS → Cls → Option R'), opV (X.over cl l) A T o st K' = (pcall cl f vs).bind fun v => K' (.val v) st .A)

section
variable {X : XV} {A : Ann} {T : List Nat} {R : Type} {K : VE → VS → Cls → Option R} {r : R} {o : Oper} {st : VS}

theorem overV_tab (X : XV) (c : CallV) (l : LpV) : (X.over c l).tab = X.tab := rfl
theorem overV_kind (X : XV) (c : CallV) (l : LpV) : (X.over c l).kind = X.kind := rfl
theorem overV_ext (X : XV) (c : CallV) (l : LpV) : (X.over c l).ext = X.ext := rfl
theorem overV_mv (X : XV) (c : CallV) (l : LpV) : (X.over c l).mv = X.mv := rfl
theorem overV_glob (X : XV) (c : CallV) (l : LpV) : (X.over c l).glob = X.glob := rfl
theorem overV_call (X : XV) (c : CallV) (l : LpV) : (X.over c l).call = c := rfl

set_option maxHeartbeats 4000000 in
theorem opV_cont (h : opV X A T o st K = some r) : OpContV X A T o st K r := by
  unfold opV at h
  cases hop : o.op with
  | move x =>
    simp only [hop] at h
    split at h
    · rename_i ht
      obtain ⟨e, h, he⟩ := ev_eq h
      exact .inl ⟨_, _, _, h, fun cl l R' K' => by unfold opV; simp only [hop, ht, he]⟩
    · rename_i ht
      obtain ⟨e, h, he⟩ := ev_eq h
      exact .inl ⟨_, _, _, h, fun cl l R' K' => by unfold opV; simp only [hop, ht, he]⟩
  | assign x =>
    simp only [hop] at h
    split at h
    · rename_i ht
      obtain ⟨e, h, he⟩ := ev_eq h
      exact .inl ⟨_, _, _, h, fun cl l R' K' => by unfold opV; simp only [hop, ht, he]⟩
    · rename_i ht
      obtain ⟨e, h, he⟩ := ev_eq h
      exact .inl ⟨_, _, _, h, fun cl l R' K' => by unfold opV; simp only [hop, ht, he]⟩
  | pick c x y =>
    simp only [hop] at h
    obtain ⟨vc, h, hc⟩ := va_eq h
    obtain ⟨ex, h, hx⟩ := ev_eq h
    obtain ⟨ey, h, hy⟩ := ev_eq h
    split at h
    · rcases ifGV_some h with ⟨rfl, h⟩ | ⟨rfl, h⟩
      · cases h
      · exact .inl ⟨_, _, _, h, fun cl l R' K' => by unfold opV; simp only [hop, hc, hx, hy, ifGV]⟩
    · rcases ifGV_some h with ⟨rfl, h⟩ | ⟨rfl, h⟩
      · exact .inl ⟨_, _, _, h, fun cl l R' K' => by unfold opV; simp only [hop, hc, hx, hy, ifGV]⟩
      · cases h
    · obtain ⟨v, hv, h⟩ := bind_some' h
      exact .inl ⟨_, _, _, h, fun cl l R' K' => by unfold opV; simp only [hop, hc, hx, hy, hv, Option.bind_some]⟩
    · cases h
  | alloc elem =>
    simp only [hop] at h
    split at h
    · rename_i ti d ht hd
      split at h
      · rename_i hm
        split at h
        · rename_i hl
          exact .inl ⟨_, _, _, h, fun cl l R' K' => by unfold opV; simp only [hop, overV_tab, ht, hd, hm, hl]⟩
        · cases h
      · rename_i hm
        exact .inl ⟨_, _, _, h, fun cl l R' K' => by unfold opV; simp only [hop, overV_tab, ht, hd, hm]⟩
    · cases h
  | box elem x =>
    simp only [hop] at h
    split at h
    · rename_i ti d ht hd
      obtain ⟨v, h, hv⟩ := vt_eq h
      obtain ⟨cs, h, hcs⟩ := cellsV_eq h
      split at h
      · rename_i hm
        split at h
        · rename_i hl
          exact .inl ⟨_, _, _, h, fun cl l R' K' => by unfold opV; simp only [hop, overV_tab, ht, hd, hm, hl, hv, hcs]⟩
        · cases h
      · rename_i hm
        exact .inl ⟨_, _, _, h, fun cl l R' K' => by unfold opV; simp only [hop, overV_tab, ht, hd, hm, hv, hcs]⟩
    · cases h
  | build t parts =>
    simp only [hop] at h
    split at h
    · rename_i ht
      obtain ⟨cells', s2, h, hp⟩ := partsV_eq h
      exact .inl ⟨_, _, _, h, fun cl l R' K' => by unfold opV; simp only [hop, overV_tab, ht, hp]⟩
    · cases h
  | buildSlice t len parts =>
    simp only [hop] at h
    split at h
    · rename_i ht
      split at h
      · rename_i te hte
        split at h
        · rename_i hb
          obtain ⟨cells', s2, h, hp⟩ := partsV_eq h
          exact .inl ⟨_, _, _, h, fun cl l R' K' => by unfold opV; simp only [hop, overV_tab, ht, hte, hb, hp]⟩
        · cases h
      · cases h
    · cases h
  | load t x =>
    simp only [hop] at h
    split at h
    · rename_i ti ht
      obtain ⟨e, h, he⟩ := ev_eq h
      split at h
      · split at h
        · rename_i cs hk
          obtain ⟨c, hc, h⟩ := bind_some' h
          exact .inl ⟨_, _, _, h, fun cl l R' K' => by unfold opV; simp only [hop, overV_tab, ht, he, hk, hc, Option.bind_some]⟩
        · cases h
      · obtain ⟨c, hc, h⟩ := bind_some' h
        exact .inl ⟨_, _, _, h, fun cl l R' K' => by unfold opV; simp only [hop, overV_tab, overV_glob, ht, he, hc, Option.bind_some]⟩
      · cases h
    · cases h
  | store t x y =>
    simp only [hop] at h
    split at h
    · rename_i ti ht
      obtain ⟨e, h, he⟩ := ev_eq h
      obtain ⟨v, h, hv⟩ := vt_eq h
      obtain ⟨cs, h, hcs⟩ := cellsV_eq h
      split at h
      · split at h
        · rename_i old hk
          split at h
          · rename_i hb
            exact .inl ⟨_, _, _, h, fun cl l R' K' => by unfold opV; simp only [hop, overV_tab, ht, he, hv, hcs, hk, hb]⟩
          · cases h
        · cases h
      · obtain ⟨H2, hh, h⟩ := bind_some' h
        exact .inl ⟨_, _, _, h, fun cl l R' K' => by unfold opV; simp only [hop, overV_tab, ht, he, hv, hcs, hh, Option.bind_some]⟩
      · cases h
    · cases h
  | nilCheck x =>
    simp only [hop] at h
    obtain ⟨e, h, he⟩ := ev_eq h
    split at h
    · exact .inl ⟨_, _, _, h, fun cl l R' K' => by unfold opV; simp only [hop, he]⟩
    · obtain ⟨v, hv, h⟩ := bind_some' h
      exact .inl ⟨_, _, _, h, fun cl l R' K' => by unfold opV; simp only [hop, he, hv, Option.bind_some]⟩
    · cases h
  | binOp op t x y yt =>
    simp only [hop] at h
    split at h
    · rename_i ti ht
      split at h
      · rename_i hn
        obtain ⟨a, h, ha⟩ := va_eq h
        obtain ⟨v, hv, h⟩ := bind_some' h
        exact .inl ⟨_, _, _, h, fun cl l R' K' => by unfold opV; simp only [hop, overV_tab, ht, hn, ha, hv, Option.bind_some]⟩
      · rename_i hn
        obtain ⟨a, h, ha⟩ := va_eq h
        obtain ⟨b, h, hb⟩ := va_eq h
        obtain ⟨v, hv, h⟩ := bind_some' h
        exact .inl ⟨_, _, _, h, fun cl l R' K' => by unfold opV; simp only [hop, overV_tab, ht, hn, ha, hb, hv, Option.bind_some]⟩
    · cases h
  | unOp op t x =>
    simp only [hop] at h
    obtain ⟨a, h, ha⟩ := va_eq h
    obtain ⟨v, hv, h⟩ := bind_some' h
    exact .inl ⟨_, _, _, h, fun cl l R' K' => by unfold opV; simp only [hop, ha, hv, Option.bind_some]⟩
  | convert src dst x =>
    simp only [hop] at h
    split at h
    · rename_i ts td hts htd
      obtain ⟨va, h, ha⟩ := va_eq h
      split at h
      · rename_i k k' hk hk'
        obtain ⟨v, hv, h⟩ := bind_some' h
        exact .inl ⟨_, _, _, h, fun cl l R' K' => by unfold opV; simp only [hop, overV_tab, hts, htd, ha, hk, hk', hv, Option.bind_some]⟩
      · rename_i hk hk'
        obtain ⟨v, hv, h⟩ := bind_some' h
        exact .inl ⟨_, _, _, h, fun cl l R' K' => by unfold opV; simp only [hop, overV_tab, hts, htd, ha, hk, hk', hv, Option.bind_some]⟩
      · rename_i hk hk'
        split at h
        · rename_i hte
          obtain ⟨v, hv, h⟩ := bind_some' h
          exact .inl ⟨_, _, _, h, fun cl l R' K' => by unfold opV; simp only [hop, overV_tab, hts, htd, ha, hk, hk', hte, hv, Option.bind_some]⟩
        · cases h
      · rename_i hk hk'
        split at h
        · rename_i hte
          obtain ⟨v, hv, h⟩ := bind_some' h
          exact .inl ⟨_, _, _, h, fun cl l R' K' => by unfold opV; simp only [hop, overV_tab, hts, htd, ha, hk, hk', hte, hv, Option.bind_some]⟩
        · cases h
      · cases h
    · cases h
  | makeFunc fn first captured =>
    simp only [hop] at h
    cases hz : first.size with
    | zero =>
      simp only [hz] at h
      split at h
      · obtain ⟨vs, h, hvs⟩ := vas_eq h
        exact .inl ⟨_, _, _, h, fun cl l R' K' => by unfold opV; simp only [hop, hz, hvs]⟩
      · cases h
    | succ n => simp only [hz] at h; cases h
  | makeSlice t l c =>
    simp only [hop] at h
    split at h
    · rename_i ht
      obtain ⟨vl, h, hl⟩ := va_eq h
      obtain ⟨vc, h, hc⟩ := va_eq h
      obtain ⟨n, hn, h⟩ := bind_some' h
      exact .inl ⟨_, _, _, h, fun cl l R' K' => by unfold opV; simp only [hop, overV_tab, ht, hl, hc, hn, Option.bind_some]⟩
    · cases h
  | slice t x lo hi mx =>
    simp only [hop] at h
    split at h
    · rename_i ht
      obtain ⟨v, h, hv⟩ := va_eq h
      obtain ⟨l, h, hl⟩ := vo_eq h
      obtain ⟨k, h, hk⟩ := vo_eq h
      split at h
      · obtain ⟨u, hu, h⟩ := bind_some' h
        exact .inl ⟨_, _, _, h, fun cl l R' K' => by unfold opV; simp only [hop, overV_tab, ht, hv, hl, hk, hu, Option.bind_some]⟩
      · cases h
    · rename_i ht
      obtain ⟨v, h, hv⟩ := va_eq h
      split at h
      · obtain ⟨l, h, hl⟩ := vo_eq h
        obtain ⟨k, h, hk⟩ := vo_eq h
        obtain ⟨u, hu, h⟩ := bind_some' h
        exact .inl ⟨_, _, _, h, fun cl l R' K' => by unfold opV; simp only [hop, overV_tab, ht, hv, hl, hk, hu, Option.bind_some]⟩
      · obtain ⟨l, h, hl⟩ := va_eq h
        obtain ⟨k, h, hk⟩ := va_eq h
        obtain ⟨m, h, hm⟩ := va_eq h
        obtain ⟨u, hu, h⟩ := bind_some' h
        exact .inl ⟨_, _, _, h, fun cl l R' K' => by unfold opV; simp only [hop, overV_tab, ht, hv, hl, hk, hm, hu, Option.bind_some]⟩
      · cases h
    · cases h
  | fieldAddr t x f =>
    simp only [hop] at h
    split at h
    · rename_i ht
      split at h
      · rename_i off n agg hf
        obtain ⟨e, h, he⟩ := ev_eq h
        split at h
        · exact .inl ⟨_, _, _, h, fun cl l R' K' => by unfold opV; simp only [hop, overV_tab, ht, hf, he]⟩
        · obtain ⟨v, hv, h⟩ := bind_some' h
          exact .inl ⟨_, _, _, h, fun cl l R' K' => by unfold opV; simp only [hop, overV_tab, ht, hf, he, hv, Option.bind_some]⟩
        · cases h
      · cases h
    · cases h
  | field t x f =>
    simp only [hop] at h
    split at h
    · rename_i ht
      split at h
      · rename_i off m agg hf
        obtain ⟨v, h, hv⟩ := va_eq h
        obtain ⟨cs, hcs, h⟩ := bind_some' h
        split at h
        · obtain ⟨c, hc, h⟩ := bind_some' h
          exact .inl ⟨_, _, _, h, fun cl l R' K' => by unfold opV; simp only [hop, overV_tab, ht, hf, hv, hcs, hc, Option.bind_some]⟩
        · obtain ⟨c, hc, h⟩ := bind_some' h
          exact .inl ⟨_, _, _, h, fun cl l R' K' => by unfold opV; simp only [hop, overV_tab, ht, hf, hv, hcs, hc, Option.bind_some]⟩
      · cases h
    · cases h
  | indexAddr t x i =>
    simp only [hop] at h
    split at h
    · rename_i ht
      obtain ⟨v, h, hv⟩ := va_eq h
      obtain ⟨j, h, hj⟩ := va_eq h
      obtain ⟨u, hu, h⟩ := bind_some' h
      exact .inl ⟨_, _, _, h, fun cl l R' K' => by unfold opV; simp only [hop, overV_tab, ht, hv, hj, hu, Option.bind_some]⟩
    · rename_i ht
      obtain ⟨v, h, hv⟩ := va_eq h
      obtain ⟨j, h, hj⟩ := va_eq h
      obtain ⟨u, hu, h⟩ := bind_some' h
      exact .inl ⟨_, _, _, h, fun cl l R' K' => by unfold opV; simp only [hop, overV_tab, ht, hv, hj, hu, Option.bind_some]⟩
    · cases h
  | index t x i =>
    simp only [hop] at h
    split at h
    · rename_i ht
      obtain ⟨v, h, hv⟩ := va_eq h
      obtain ⟨j, h, hj⟩ := va_eq h
      obtain ⟨u, hu, h⟩ := bind_some' h
      exact .inl ⟨_, _, _, h, fun cl l R' K' => by unfold opV; simp only [hop, overV_tab, ht, hv, hj, hu, Option.bind_some]⟩
    · cases h
  | extract x i =>
    simp only [hop] at h
    split at h
    · rename_i t
      obtain ⟨v, h, hv⟩ := va_eq h
      obtain ⟨u, hu, h⟩ := bind_some' h
      split at h
      · rename_i hm
        exact .inl ⟨_, _, _, h, fun cl l R' K' => by unfold opV; simp only [hop, hv, hu, hm, Option.bind_some]⟩
      · rename_i hm
        exact .inl ⟨_, _, _, h, fun cl l R' K' => by unfold opV; simp only [hop, hv, hu, hm, Option.bind_some]⟩
    · cases h
  | call c =>
    simp only [hop] at h
    split at h
    · rename_i hcal
      split at h
      · rename_i x t hargs htys
        split at h
        · rename_i ht
          obtain ⟨v, h, hv⟩ := va_eq h
          obtain ⟨u, hu, h⟩ := bind_some' h
          exact .inl ⟨_, _, _, h, fun cl l R' K' => by unfold opV; simp only [hop, overV_tab, hcal, hargs, htys, ht, hv, hu, Option.bind_some]⟩
        · rename_i ht
          obtain ⟨v, h, hv⟩ := va_eq h
          obtain ⟨u, hu, h⟩ := bind_some' h
          exact .inl ⟨_, _, _, h, fun cl l R' K' => by unfold opV; simp only [hop, overV_tab, hcal, hargs, htys, ht, hv, hu, Option.bind_some]⟩
        · cases h
      · cases h
    · rename_i hcal
      split at h
      · rename_i x y hargs
        obtain ⟨v, h, hv⟩ := va_eq h
        obtain ⟨u, h, hu⟩ := va_eq h
        obtain ⟨m, hm, h⟩ := bind_some' h
        exact .inl ⟨_, _, _, h, fun cl l R' K' => by unfold opV; simp only [hop, overV_tab, hcal, hargs, hv, hu, hm, Option.bind_some]⟩
      · cases h
    · rename_i hcal
      split at h
      · rename_i x y t u d hargs htys hdst
        split at h
        · rename_i ht hu
          split at h
          · rename_i b hku
            split at h
            · rename_i hm
              obtain ⟨e, h, he⟩ := ev_eq h
              obtain ⟨v, h, hv⟩ := vt_eq h
              split at h
              · obtain ⟨q, hq, h⟩ := bind_some' h
                exact .inl ⟨_, _, _, h, fun cl l R' K' => by unfold opV; simp only [hop, overV_tab, hcal, hargs, htys, hdst, ht, hu, hku, he, hv, hm, hq, Option.bind_some]⟩
              · cases h
            · rename_i hm
              obtain ⟨s, h, hs⟩ := vt_eq h
              obtain ⟨v, h, hv⟩ := vt_eq h
              obtain ⟨xs, hxs, h⟩ := bind_some' h
              obtain ⟨q, hq, h⟩ := bind_some' h
              exact .inl ⟨_, _, _, h, fun cl l R' K' => by unfold opV; simp only [hop, overV_tab, hcal, hargs, htys, hdst, ht, hu, hku, hs, hv, hxs, hm, hq, Option.bind_some]⟩
          · cases h
        · cases h
      · cases h
    · rename_i f hcal
      split at h
      · rename_i hk
        obtain ⟨vs, s2, h, hvs⟩ := args_eq h
        obtain ⟨q, hq, h⟩ := bind_some' h
        exact .inr (.inl ⟨_, _, _, _, hq, h, fun cl l R' K' => by unfold opV; simp only [hop, hcal, overV_mv, hvs, overV_kind, hk, overV_call]⟩)
      · rename_i hk
        obtain ⟨vs, h, hvs⟩ := vas_eq h
        obtain ⟨q, hq, h⟩ := bind_some' h
        exact .inr (.inr (.inl ⟨_, _, _, hq, h, fun cl l R' K' => by unfold opV; simp only [hop, hcal, hvs, overV_kind, hk, overV_call]⟩))
      · rename_i hk
        obtain ⟨vs, h, hvs⟩ := vas_eq h
        obtain ⟨q, hq, h⟩ := bind_some' h
        exact .inr (.inr (.inr ⟨_, _, _, hq, h, fun cl l R' K' => by unfold opV; simp only [hop, hcal, hvs, overV_kind, hk, overV_call]⟩))
      · rename_i n hk
        obtain ⟨vs, h, hvs⟩ := vas_eq h
        obtain ⟨as, has, h⟩ := bind_some' h
        obtain ⟨q, hq, h⟩ := bind_some' h
        obtain ⟨u, hu, h⟩ := bind_some' h
        exact .inl ⟨_, _, _, h, fun cl l R' K' => by unfold opV; simp only [hop, hcal, hvs, overV_kind, hk, overV_ext, has, hq, hu, Option.bind_some]⟩
    · rename_i fv hne hcal
      obtain ⟨f, h, hf⟩ := va_eq h
      obtain ⟨vs, h, hvs⟩ := vas_eq h
      obtain ⟨p, hp, h⟩ := bind_some' h
      split at h
      · rename_i hq'
        obtain ⟨q, hq, h⟩ := bind_some' h
        refine .inr (.inr (.inl ⟨_, _, _, hq, h, fun cl l R' K' => ?_⟩))
        unfold opV
        cases fv with
        | func f => exact absurd rfl (hne f)
        | _ => simp only [hop, hcal, hf, hvs, hp, hq', overV_call, Option.bind_some]
      · rename_i hq'
        obtain ⟨q, hq, h⟩ := bind_some' h
        refine .inr (.inl ⟨_, _, _, _, hq, h, fun cl l R' K' => ?_⟩)
        unfold opV
        cases fv with
        | func f => exact absurd rfl (hne f)
        | _ => simp only [hop, hcal, hf, hvs, hp, hq', overV_call, Option.bind_some]
    · cases h
  | _ => simp only [hop] at h; cases h
end
end Go.AM

/- Calls of the machine of values without a count of steps; they stand for calls of the abstract machine. -/
namespace Go.AM
open Go.RowKit
set_option linter.unusedSimpArgs false
set_option linter.unusedVariables false

theorem saveV_eq {R : Type} {kp : Keep} {st : VS} {K : List V → VH → Option R} {r : R} (h : saveV kp st K = some r) : ∃ vs, K vs st.H = some r ∧ ∀ (R' : Type) (K' : List V → VH → Option R'), saveV kp st K' = K' vs st.H := by
  have hv : ∀ {ss : List Nat} {R : Type} {K : List V → Option R} {r : R}, valsV st.env ss K = some r → ∃ vs, K vs = some r ∧ ∀ (R' : Type) (K' : List V → Option R'), valsV st.env ss K' = K' vs := by
    intro ss
    induction ss with
    | nil => intro R K r h; exact ⟨[], h, fun _ _ => rfl⟩
    | cons s ss ih =>
      intro R K r h
      simp only [valsV] at h
      split at h
      · rename_i v hl
        obtain ⟨vs, h1, h2⟩ := ih h
        exact ⟨v :: vs, h1, fun R' K' => by simp only [valsV, hl, h2]⟩
      · rename_i v hl
        obtain ⟨vs, h1, h2⟩ := ih h
        exact ⟨_, h1, fun R' K' => by simp only [valsV, hl, h2]⟩
      · cases h
  have hc : ∀ {ks : List (Nat × Nat)} {R : Type} {K : List V → Option R} {r : R}, csV st.loc ks K = some r → ∃ vs, K vs = some r ∧ ∀ (R' : Type) (K' : List V → Option R'), csV st.loc ks K' = K' vs := by
    intro ks
    induction ks with
    | nil => intro R K r h; exact ⟨[], h, fun _ _ => rfl⟩
    | cons s ks ih =>
      intro R K r h
      obtain ⟨k, n⟩ := s
      simp only [csV] at h
      split at h
      · rename_i cs hl
        split at h
        · rename_i hb
          obtain ⟨vs, h1, h2⟩ := ih h
          exact ⟨cs ++ vs, h1, fun R' K' => by simp only [csV, hl, hb, h2]⟩
        · cases h
      · cases h
  unfold saveV at h
  split at h
  · rename_i hl
    obtain ⟨vs, h, h1⟩ := hv h
    obtain ⟨cs, h, h2⟩ := hc h
    exact ⟨_, h, fun R' K' => by simp only [saveV, hl, h1, h2]⟩
  · cases h

theorem loadV_eq {R : Type} {kp : Keep} {vs : List V} {H : VH} {K : VS → Option R} {r : R} (h : loadV kp vs H K = some r) : ∃ s, K s = some r ∧ ∀ (R' : Type) (K' : VS → Option R'), loadV kp vs H K' = K' s := by
  unfold loadV at h
  split at h
  · rename_i hk
    split at h
    · rename_i hl
      exact ⟨_, h, fun R' K' => by unfold loadV; simp only [hk]; rw [if_pos hl]⟩
    · cases h
  · cases h

theorem outV_eq {R : Type} {e : Exit} {st : VS} {r : R} : ∀ {outs : List (Exit × Keep)} {K : Nat → List V → VH → Option R}, outV outs e st K = some r → ∃ n vs, K n vs st.H = some r ∧ ∀ (R' : Type) (K' : Nat → List V → VH → Option R'), outV outs e st K' = K' n vs st.H
  | [], K, h => by cases h
  | (x, kp) :: l, K, h => by
    simp only [outV] at h
    split at h
    · rename_i hx
      obtain ⟨vs, h1, h2⟩ := saveV_eq h
      exact ⟨0, vs, h1, fun R' K' => by simp only [outV, hx, h2]⟩
    · rename_i hx
      obtain ⟨n, vs, h1, h2⟩ := outV_eq h
      exact ⟨n + 1, vs, h1, fun R' K' => by simp only [outV, hx, h2]⟩

theorem inV_eq {R : Type} {vs : List V} {H : VH} {K : Exit → VS → Option R} {r : R} : ∀ {outs : List (Exit × Keep)} {n : Nat}, inV outs n vs H K = some r → ∃ e st, K e st = some r ∧ ∀ (R' : Type) (K' : Exit → VS → Option R'), inV outs n vs H K' = K' e st
  | [], _, h => by cases h
  | (x, kp) :: l, 0, h => by
    simp only [inV] at h
    obtain ⟨s, h1, h2⟩ := loadV_eq h
    exact ⟨x, s, h1, fun R' K' => by simp only [inV, h2]⟩
  | (x, kp) :: l, n + 1, h => by
    simp only [inV] at h
    obtain ⟨e, st, h1, h2⟩ := inV_eq h
    exact ⟨e, st, h1, fun R' K' => by simp only [inV, h2]⟩

theorem guardV_eq {R : Type} {ops : Array Oper} {o : Oper} {env : List (Nat × VE)} {run pass : List (Nat × VE) → Option R} {r : R} (h : guardV ops o env run pass = some r) :
    ∃ env', (run env' = some r ∧ ∀ (R' : Type) (run' pass' : List (Nat × VE) → Option R'), guardV ops o env run' pass' = run' env') ∨ (pass env' = some r ∧ ∀ (R' : Type) (run' pass' : List (Nat × VE) → Option R'), guardV ops o env run' pass' = pass' env') := by
  unfold guardV at h
  split at h
  · rename_i hg
    exact ⟨_, .inl ⟨h, fun R' run' pass' => by simp only [guardV, hg]⟩⟩
  · rename_i j want hg
    split at h
    · cases h
    · rename_i d hd
      split at h
      · rename_i v hl
        split at h
        · rcases ifGV_some h with ⟨rfl, h⟩ | ⟨rfl, h⟩
          · exact ⟨_, .inl ⟨h, fun R' run' pass' => by simp only [guardV, hg, hd, hl, ifGV]⟩⟩
          · exact ⟨_, .inr ⟨h, fun R' run' pass' => by simp only [guardV, hg, hd, hl, ifGV]⟩⟩
        · rcases ifGV_some h with ⟨rfl, h⟩ | ⟨rfl, h⟩
          · exact ⟨_, .inr ⟨h, fun R' run' pass' => by simp only [guardV, hg, hd, hl, ifGV]⟩⟩
          · exact ⟨_, .inl ⟨h, fun R' run' pass' => by simp only [guardV, hg, hd, hl, ifGV]⟩⟩
      · rename_i hl
        exact ⟨_, .inr ⟨h, fun R' run' pass' => by simp only [guardV, hg, hd, hl]⟩⟩
      · cases h

/-- Calls and loops that come near those of X. -/
structure NearV (X : XV) (c : Nat → CallV) (l : Nat → LpV) : Prop where
  call : ∀ f vs hp res, X.call f vs hp = some res → Evt fun m => c m f vs hp = some res
  lp : ∀ (B : List V → VH → Option (Option Nat × List V × VH)) (Bm : Nat → List V → VH → Option (Option Nat × List V × VH)), (∀ vs hp res, B vs hp = some res → Evt fun m => Bm m vs hp = some res) →
    ∀ vs hp res, X.lp B vs hp = some res → Evt fun m => l m (Bm m) vs hp = some res

theorem qpcall_eq {c c' : CallV} {f : FuncId} {vs : List V} {v : V} (h : qpcall c f vs = some v) : ∃ res, c f vs [] = some res ∧ (c' f vs [] = some res → qpcall c' f vs = some v) := by
  unfold qpcall at h ⊢
  split at h
  · rename_i hn
    obtain ⟨res, h1, h2⟩ := bind_some' h
    exact ⟨res, h1, fun h3 => by rw [h3]; exact h2⟩
  · cases h

theorem pcall_eq {c c' : CallV} {f : FuncId} {vs : List V} {v : V} (h : pcall c f vs = some v) : ∃ res, c f vs [] = some res ∧ (c' f vs [] = some res → pcall c' f vs = some v) := by
  unfold pcall at h ⊢
  split at h
  · rename_i hn
    obtain ⟨res, h1, h2⟩ := bind_some' h
    exact ⟨res, h1, fun h3 => by rw [h3]; exact h2⟩
  · cases h

section
variable {X : XV} {c : Nat → CallV} {l : Nat → LpV} {A : Ann} {T : List Nat}

theorem opV_app (hN : NearV X c l) {R : Type} {r : R} {o : Oper} {st : VS} {K : VE → VS → Cls → Option R} {Km : Nat → VE → VS → Cls → Option R}
    (h : opV X A T o st K = some r) (hK : ∀ e s cl, K e s cl = some r → Evt fun m => Km m e s cl = some r) : Evt fun m => opV (X.over (c m) (l m)) A T o st (Km m) = some r := by
  rcases opV_cont h with ⟨e, s, cl, h1, h2⟩ | ⟨f, vs, s, res, h1, h2, h3⟩ | ⟨f, vs, v, h1, h2, h3⟩ | ⟨f, vs, v, h1, h2, h3⟩
  · exact (hK _ _ _ h1).imp fun m hm => by rw [h2]; exact hm
  · exact ((hN.call _ _ _ _ h1).and (hK _ _ _ h2)).imp fun m ⟨a, b⟩ => by rw [h3, a]; exact b
  · obtain ⟨res, g1, _⟩ := qpcall_eq (c' := X.call) h1
    refine ((hN.call _ _ _ _ g1).and (hK _ _ _ h2)).imp fun m ⟨a, b⟩ => ?_
    obtain ⟨res', g2, g3⟩ := qpcall_eq (c' := c m) h1
    rw [g1] at g2; cases g2
    rw [h3, g3 a]; exact b
  · obtain ⟨res, g1, _⟩ := pcall_eq (c' := X.call) h1
    refine ((hN.call _ _ _ _ g1).and (hK _ _ _ h2)).imp fun m ⟨a, b⟩ => ?_
    obtain ⟨res', g2, g3⟩ := pcall_eq (c' := c m) h1
    rw [g1] at g2; cases g2
    rw [h3, g3 a]; exact b

theorem regV_app (hN : NearV X c l) {R : Type} {r : R} {ops : Array Oper} : ∀ {os : List Oper} {cl : List Cls} {st : VS} {K : List Cls → VS → Option R} {Km : Nat → List Cls → VS → Option R},
    regV X A T ops os cl st K = some r → (∀ cl st, K cl st = some r → Evt fun m => Km m cl st = some r) → Evt fun m => regV (X.over (c m) (l m)) A T ops os cl st (Km m) = some r
  | [], cl, st, K, Km, h, hK => hK _ _ h
  | o :: os, cl, st, K, Km, h, hK => by
    simp only [regV] at h ⊢
    obtain ⟨env', ⟨h1, h2⟩ | ⟨h1, h2⟩⟩ := guardV_eq h
    · refine (opV_app hN h1 (Km := fun m e st c' => regV (X.over (c m) (l m)) A T ops os (c' :: cl) { st with env := putV st.env o.dst e } (Km m)) fun e s cl' h3 => regV_app hN h3 hK).imp fun m hm => ?_
      rw [h2]; exact hm
    · exact (regV_app hN h1 hK).imp fun m hm => by rw [h2]; exact hm

theorem codeV_app (hN : NearV X c l) : ∀ (x : Code) {R : Type} {r : R} {st : VS} {K : Exit → VS → Option R} {Km : Nat → Exit → VS → Option R},
    codeV X A T x st K = some r → (∀ e st, K e st = some r → Evt fun m => Km m e st = some r) → Evt fun m => codeV (X.over (c m) (l m)) A T x st (Km m) = some r
  | .skip, R, r, st, K, Km, h, hK => hK _ _ h
  | .exit id, R, r, st, K, Km, h, hK => hK _ _ h
  | .ret, R, r, st, K, Km, h, hK => hK _ _ h
  | .region id ops draw, R, r, st, K, Km, h, hK => by
    cases draw with
    | false =>
      simp only [codeV] at h ⊢
      exact regV_app hN h fun cl st h => hK _ _ h
    | true =>
      simp only [codeV] at h ⊢
      refine regV_app hN h fun cl st h => ?_
      split at h
      · exact hK _ _ h
      · cases h
  | .cond y a b, R, r, st, K, Km, h, hK => by
    simp only [codeV] at h ⊢
    obtain ⟨v, h, hv⟩ := va_eq h
    rcases ifVV_some h with ⟨rfl, h⟩ | ⟨rfl, h⟩ | ⟨rfl, h, h'⟩
    · exact (codeV_app hN a h hK).imp fun m hm => by rw [hv]; exact hm
    · exact (codeV_app hN b h hK).imp fun m hm => by rw [hv]; exact hm
    · exact ((codeV_app hN a h hK).and (codeV_app hN b h' hK)).imp fun m hm => by rw [hv]; show bothR _ _ = _; unfold bothR; rw [hm.1, hm.2, if_pos rfl]
  | .block id a, R, r, st, K, Km, h, hK => by
    simp only [codeV] at h ⊢
    refine codeV_app hN a h fun e st h => ?_
    cases e with
    | exit i =>
      simp only at h ⊢
      split at h
      · rename_i hb; exact (hK _ _ h).imp fun m hm => by first | exact hm | (rw [hb]; exact hm)
      · rename_i hb; exact (hK _ _ h).imp fun m hm => by first | exact hm | (rw [hb]; exact hm)
    | _ => exact hK _ _ h
  | .seq a b, R, r, st, K, Km, h, hK => by
    simp only [codeV] at h ⊢
    have behind : ∀ (e : Exit) (st : VS), (match e with | .normal => codeV X A T b st K | e => K e st) = some r → Evt fun m => (match e with | .normal => codeV (X.over (c m) (l m)) A T b st (Km m) | e => Km m e st) = some r := by
      intro e st h
      cases e with
      | normal => exact codeV_app hN b h hK
      | _ => exact hK _ _ h
    split at h
    · rename_i hj
      exact (codeV_app hN a h (Km := fun m e st => match e with | .normal => codeV (X.over (c m) (l m)) A T b st (Km m) | e => Km m e st) behind).imp fun m hm => hm
    · rename_i outs hj
      obtain ⟨s, hs, h⟩ := bind_some' h
      obtain ⟨e, st', h1, h2⟩ := inV_eq h
      refine ((codeV_app hN a hs (Km := fun _ e st => outV outs e st fun n vs hp => some (n, vs, hp)) fun e st h => Evt.of fun _ => h).and (behind e st' h1)).imp fun m ⟨g1, g2⟩ => ?_
      show (Option.bind _ _) = some r
      rw [g1]
      simp only [Option.bind_some]
      rw [h2]; exact g2
  | .loop a, R, r, st, K, Km, h, hK => by
    simp only [codeV] at h ⊢
    split at h
    · cases h
    · rename_i li hli
      obtain ⟨vs, h, h0⟩ := saveV_eq h
      obtain ⟨res, hres, h⟩ := bind_some' h
      obtain ⟨e, st', h1, h2⟩ := inV_eq h
      have hB := hN.lp _ (fun m vs hp => loadV li.ks vs hp fun st => codeV (X.over (c m) (l m)) A T a st fun e st => match e with
          | .normal => saveV li.ks st fun vs hp => some (none, vs, hp)
          | e => outV li.outs e st fun n vs hp => some (some n, vs, hp)) (fun vs hp res hr => by
        obtain ⟨s, g1, g2⟩ := loadV_eq hr
        exact (codeV_app hN a g1 (Km := fun _ e st => match e with
          | .normal => saveV li.ks st fun vs hp => some (none, vs, hp)
          | e => outV li.outs e st fun n vs hp => some (some n, vs, hp)) fun e st h => Evt.of fun _ => h).imp fun m hm => by rw [g2]; exact hm) _ _ _ hres
      refine (hB.and (hK e st' h1)).imp fun m ⟨g1, g2⟩ => ?_
      rw [h0]
      exact (congrArg (fun (o : Option (Nat × List V × VH)) => o.bind fun q => inV li.outs q.1 q.2.1 q.2.2 (Km m)) g1).trans ((h2 R (Km m)).trans g2)
  | .rangeFunc .., R, r, st, K, Km, h, hK => by cases h
  | .scope .., R, r, st, K, Km, h, hK => by cases h
  | .label .., R, r, st, K, Km, h, hK => by cases h
  | .goto .., R, r, st, K, Km, h, hK => by cases h
  | .refuse .., R, r, st, K, Km, h, hK => by cases h

theorem vtV_over {R : Type} (X : XV) (c : CallV) (l : LpV) (st : VS) (t : Nat) (K : V → VS → Option R) : vtV (X.over c l) st (.tmp t) K = vtV X st (.tmp t) K := rfl

theorem resV_over {R : Type} (X : XV) (c : CallV) (l : LpV) : ∀ (rs : List ResultVar) (st : VS) (K : List V → VS → Option R), resV (X.over c l) rs st K = resV X rs st K
  | [], st, K => rfl
  | .tmp t :: rs, st, K => by
    simp only [resV, vtV_over]
    congr 1; funext v st
    exact resV_over X c l rs st _
  | .cell a t :: rs, st, K => by
    simp only [resV, overV_tab, resV_over X c l rs]

theorem bodyV_app (hN : NearV X c l) {f : FuncId} {args : List V} {H : VH} {r : V × VH} (h : bodyV X f args H = some r) : Evt fun m => bodyV (X.over (c m) (l m)) f args H = some r := by
  unfold bodyV at h ⊢
  have e1 : ∀ m, (X.over (c m) (l m)).fn f = X.fn f := fun _ => rfl
  have e2 : ∀ m, (X.over (c m) (l m)).ann f = X.ann f := fun _ => rfl
  have e3 : ∀ m, (X.over (c m) (l m)).takes f = X.takes f := fun _ => rfl
  simp only [e1, e2, e3]
  split at h
  · cases h
  · rename_i fn hf
    split at h
    · cases h
    · rename_i x hx
      split at h
      · rename_i hd
        try simp only [hf, hx, hd]
        refine (codeV_app hN x h (Km := fun m e st => match e with
          | .normal | .ret => resV (X.over (c m) (l m)) fn.results.toList st fun vs st => some (oneV vs, st.H)
          | _ => none) fun e st h => Evt.of fun m => ?_).imp fun m hm => hm
        cases e <;> first | (simp only [resV_over]; exact h) | exact h
      · cases h
end

/-- One round of a loop. -/
noncomputable def roundV (X : XV) (A : Ann) (T : List Nat) (li : LInfo) (a : Code) (vs : List V) (H : VH) : Option (Option Nat × List V × VH) :=
  loadV li.ks vs H fun st => codeV X A T a st fun e st => match e with
    | .normal => saveV li.ks st fun vs hp => some (none, vs, hp)
    | e => outV li.outs e st fun n vs hp => some (some n, vs, hp)

/-! ### The limit -/

structure BaseV where
  b : Base
  glob : Nat → Option (List V)
  takes : FuncId → List Nat
  mv : FuncId → List Nat
  prim : FuncId → Option (List V → Option V)

def BaseV.ctx (b : BaseV) (call : CallV) (lp : LpV) : XV := ⟨b.b.ng, b.b.tab, b.b.fn, b.b.ann, b.b.kind, b.b.ext, b.glob, b.takes, b.mv, call, lp⟩

def lpVN : Nat → LpV
  | 0, _, _, _ => none
  | n + 1, B, vs, hp => match B vs hp with
    | none => none
    | some (none, vs, hp) => lpVN n B vs hp
    | some (some m, vs, hp) => some (m, vs, hp)

noncomputable def callVN (b : BaseV) : Nat → CallV
  | 0, _, _, _ => none
  | n + 1, f, args, H => match b.prim f with
    | some g => (g args).map fun v => (v, H)
    | none => bodyV (b.ctx (callVN b n) (lpVN n)) f args H

noncomputable def lpW' : LpV := fun B vs hp => limO fun n => lpVN n B vs hp
noncomputable def callV (b : BaseV) : CallV := fun f args H => limO fun n => callVN b n f args H

theorem lpVN_Lp {B : List V → VH → Option (Option Nat × List V × VH)} : ∀ {n : Nat} {vs : List V} {hp : VH} {res : Nat × List V × VH}, lpVN n B vs hp = some res → ∃ m, LpV' B m vs hp res
  | 0, _, _, _, h => by cases h
  | n + 1, vs, hp, res, h => by
    simp only [lpVN] at h
    split at h
    · cases h
    · rename_i hb
      obtain ⟨m, hm⟩ := lpVN_Lp h
      exact ⟨m + 1, .more hb hm⟩
    · rename_i hb
      cases h
      exact ⟨0, .stop hb⟩

theorem Lp_lpVN {B : List V → VH → Option (Option Nat × List V × VH)} {Bm : Nat → List V → VH → Option (Option Nat × List V × VH)} (hB : ∀ vs hp res, B vs hp = some res → Evt fun m => Bm m vs hp = some res)
    {n : Nat} {vs : List V} {hp : VH} {res : Nat × List V × VH} (h : LpV' B n vs hp res) : Evt fun m => ∀ k, n < k → lpVN k (Bm m) vs hp = some res := by
  induction h with
  | stop h =>
    refine (hB _ _ _ h).imp fun m hm k hk => ?_
    obtain ⟨k, rfl⟩ : ∃ j, k = j + 1 := ⟨k - 1, by omega⟩
    simp only [lpVN, hm]
  | more h _ ih =>
    refine ((hB _ _ _ h).and ih).imp fun m ⟨g1, g2⟩ k hk => ?_
    obtain ⟨k, rfl⟩ : ∃ j, k = j + 1 := ⟨k - 1, by omega⟩
    simp only [lpVN, g1]
    exact g2 k (by omega)

theorem lpVOk_N (n : Nat) : LpVOk (lpVN n) := fun _ _ _ _ h => lpVN_Lp h

theorem callVN_mono (b : BaseV) : ∀ (n : Nat) (f : FuncId) (args : List V) (H : VH) (r : V × VH), callVN b n f args H = some r → ∀ m, n ≤ m → callVN b m f args H = some r := by
  intro n
  induction n with
  | zero => intro f args H r h; cases h
  | succ n ih =>
    intro f args H r h m hm
    obtain ⟨m, rfl⟩ : ∃ j, m = j + 1 := ⟨m - 1, by omega⟩
    simp only [callVN] at h ⊢
    split at h
    · rename_i g hg; first | exact h | (simp only [hg]; exact h)
    · rename_i hg
      try simp only [hg]
      have hN : NearV (b.ctx (callVN b n) (lpVN n)) (fun _ => callVN b m) (fun _ => lpVN m) := by
        refine ⟨fun f vs hp res h => Evt.of fun _ => ih f vs hp res h m (by omega), fun B Bm hB vs hp res h => ?_⟩
        have h' : lpVN n B vs hp = some res := h
        clear h
        have : ∀ (n m : Nat) (vs : List V) (hp : VH), n ≤ m → lpVN n B vs hp = some res → Evt fun k => lpVN m (Bm k) vs hp = some res := by
          intro n
          induction n with
          | zero => intro m vs hp _ h; cases h
          | succ n ihn =>
            intro m vs hp hm h
            obtain ⟨m, rfl⟩ : ∃ j, m = j + 1 := ⟨m - 1, by omega⟩
            simp only [lpVN] at h
            split at h
            · cases h
            · rename_i hb
              exact ((hB _ _ _ hb).and (ihn m _ _ (by omega) h)).imp fun k ⟨g1, g2⟩ => by simp only [lpVN, g1]; exact g2
            · rename_i hb
              cases h
              exact (hB _ _ _ hb).imp fun k g1 => by simp only [lpVN, g1]
        exact this n m vs hp (by omega) h'
      exact (bodyV_app hN h).const

theorem callV_of {b : BaseV} {n : Nat} {f : FuncId} {args : List V} {H : VH} {r : V × VH} (h : callVN b n f args H = some r) : callV b f args H = some r :=
  limO_some.2 ⟨n, fun m hm => callVN_mono b n f args H r h m hm⟩

theorem lpW'_of {n : Nat} {B : List V → VH → Option (Option Nat × List V × VH)} {vs : List V} {hp : VH} {r : Nat × List V × VH} (h : lpVN n B vs hp = some r) : lpW' B vs hp = some r := by
  obtain ⟨m, hm⟩ := lpVN_Lp h
  obtain ⟨n1, h1⟩ := Lp_lpVN (Bm := fun _ => B) (fun _ _ _ h => Evt.of fun _ => h) hm
  exact limO_some.2 ⟨m + 1, fun k hk => h1 n1 (Nat.le_refl _) k (by omega)⟩

/-- A call is its body over calls. -/
theorem callV_eq (b : BaseV) (f : FuncId) (args : List V) (H : VH) (hp' : b.prim f = none) : callV b f args H = bodyV (b.ctx (callV b) lpW') f args H := by
  have to : ∀ r, callV b f args H = some r → bodyV (b.ctx (callV b) lpW') f args H = some r := by
    intro r h
    obtain ⟨n, hn⟩ := limO_some.1 h
    have := hn (n + 1) (by omega)
    simp only [callVN, hp'] at this
    have hN : NearV (b.ctx (callVN b n) (lpVN n)) (fun _ => callV b) (fun _ => lpW') := by
      refine ⟨fun f vs hp res h => Evt.of fun _ => callV_of h, fun B Bm hB vs hp res h => ?_⟩
      obtain ⟨m, hm⟩ := lpVN_Lp (n := n) h
      exact (Lp_lpVN hB hm).imp fun k hk => lpW'_of (hk (m + 1) (by omega))
    exact (bodyV_app hN this).const
  have back : ∀ r, bodyV (b.ctx (callV b) lpW') f args H = some r → callV b f args H = some r := by
    intro r h
    have hN : NearV (b.ctx (callV b) lpW') (callVN b) lpVN := by
      refine ⟨fun f vs hp res h => limO_some.1 h, fun B Bm hB vs hp res h => ?_⟩
      obtain ⟨n, hn⟩ := limO_some.1 h
      obtain ⟨m, hm⟩ := lpVN_Lp (hn n (Nat.le_refl _))
      obtain ⟨n1, h1⟩ := Lp_lpVN hB hm
      exact ⟨max n1 (m + 1), fun k hk => h1 k (by omega) k (by omega)⟩
    obtain ⟨n, hn⟩ := bodyV_app hN h
    have h1 : callVN b (n + 1) f args H = some r := by
      simp only [callVN, hp']
      exact hn n (Nat.le_refl _)
    exact callV_of h1
  cases h1 : callV b f args H with
  | some r => exact (to r h1).symm
  | none =>
    cases h2 : bodyV (b.ctx (callV b) lpW') f args H with
    | none => rfl
    | some r => rw [back r h2] at h1; cases h1

theorem callV_prim (b : BaseV) (f : FuncId) (args : List V) (H : VH) {g : List V → Option V} (hp' : b.prim f = some g) : callV b f args H = (g args).map fun v => (v, H) := by
  cases h : (g args).map fun v => (v, H) with
  | some r => exact callV_of (n := 1) (by simp only [callVN, hp']; exact h)
  | none =>
    cases h2 : callV b f args H with
    | none => rfl
    | some r =>
      obtain ⟨n, hn⟩ := limO_some.1 h2
      have := hn (n + 1) (by omega)
      simp only [callVN, hp', h] at this
      cases this

/-- A loop, round by round. -/
theorem lpW'_eq (B : List V → VH → Option (Option Nat × List V × VH)) (vs : List V) (hp : VH) :
    lpW' B vs hp = match B vs hp with | none => none | some (none, vs, hp) => lpW' B vs hp | some (some m, vs, hp) => some (m, vs, hp) := by
  cases hb : B vs hp with
  | none =>
    simp only
    cases h : lpW' B vs hp with
    | none => rfl
    | some r =>
      obtain ⟨n, hn⟩ := limO_some.1 h
      have := hn (n + 1) (by omega)
      simp only [lpVN, hb] at this; cases this
  | some x =>
    obtain ⟨o, vs1, hp1⟩ := x
    cases o with
    | some m => exact lpW'_of (n := 1) (by simp only [lpVN, hb])
    | none =>
      simp only
      cases h : lpW' B vs1 hp1 with
      | some r =>
        obtain ⟨n, hn⟩ := limO_some.1 h
        exact lpW'_of (n := n + 1) (by simp only [lpVN, hb]; exact hn n (Nat.le_refl _))
      | none =>
        cases h2 : lpW' B vs hp with
        | none => rfl
        | some r =>
          obtain ⟨n, hn⟩ := limO_some.1 h2
          have := hn (n + 1) (by omega)
          simp only [lpVN, hb] at this
          rw [lpW'_of this] at h; cases h

/-! ### It stands for the abstract machine's calls -/

structure BaseVOk (b : BaseV) : Prop where
  zero : ∀ t ti, look b.b.tab t = some ti → ∀ u ∈ ti.zero, pureV1 u = true
  sl : ∀ t e esz eb z ag n zz, look b.b.tab t = some ⟨.slice e esz eb z, ag, n, zz⟩ → (∀ u ∈ z, pureV1 u = true) ∧ z.length = esz ∧ 0 < esz
  gd : ∀ g cs, b.glob g = some cs → dataL cs = true
  noprim : ∀ f, b.prim f = none → b.b.prim f = none
  prim : ∀ f g args r H, b.prim f = some g → g args = some r → CallSim (b.ctx (callV b) lpW') (callW b.b) f args H r H

theorem GlobOk.ctx {b : BaseV} {c c' : CallV} {l l' : LpV} {w : Wd} (h : GlobOk (b.ctx c l) w) : GlobOk (b.ctx c' l') w := h

theorem CallSim.ctx {b : BaseV} {c c' : CallV} {l l' : LpV} {call : CallT} {f : FuncId} {args : List V} {H H' : VH} {r : V} (h : CallSim (b.ctx c l) call f args H r H') : CallSim (b.ctx c' l') call f args H r H' := h

theorem callVN_sim {b : BaseV} (hb : BaseVOk b) : ∀ (n : Nat) (f : FuncId) (args : List V) (H : VH) (r : V) (H' : VH), callVN b n f args H = some (r, H') → CallSim (b.ctx (callV b) lpW') (callW b.b) f args H r H'
  | 0, f, args, H, r, H', h => by cases h
  | n + 1, f, args, H, r, H', h => by
    simp only [callVN] at h
    split at h
    · rename_i g hg
      cases e : g args with
      | none => rw [e] at h; cases h
      | some v =>
        rw [e] at h
        cases h
        exact hb.prim f g args _ _ hg e
    · rename_i hg
      have hs := body_sim (X := b.ctx (callVN b n) (lpVN n)) (Y := b.b.ctx (callW b.b) lpW) ⟨rfl, rfl, rfl, rfl, rfl, rfl⟩ ⟨hb.zero, hb.sl, hb.gd⟩ (fun f args H r H' h => callVN_sim hb n f args H r H' h) (lpVOk_N n) (fun B vs hp => lpW_eq B vs hp) h
      intro w args' ca ch h1 h2 h3 h4 h5 h6
      obtain ⟨x, w2, cr, ch', q1, q2⟩ := hs w args' ca ch h1 h2 h3 h4 h5 h6
      exact ⟨x, w2, cr, ch', by rw [callW_eq b.b f args' w.hp (hb.noprim f hg)]; exact q1, q2⟩

theorem callV_sim {b : BaseV} (hb : BaseVOk b) {f : FuncId} {args : List V} {H : VH} {r : V} {H' : VH} (h : callV b f args H = some (r, H')) : CallSim (b.ctx (callV b) lpW') (callW b.b) f args H r H' := by
  obtain ⟨n, hn⟩ := limO_some.1 h
  exact callVN_sim hb n f args H r H' (hn n (Nat.le_refl _))

/-- A law that tells 'true'. -/
theorem callV_true {P : Program} {b : BaseV} (hb : BaseVOk b) (hP : BaseOk P b.b) {f : FuncId} {args : List V} {H' : VH} (h : callV b f args [] = some (.bool true, H')) {hp : Heap} {vs : List Value}
    (hw : HW ⟨hp, [], []⟩) (hg : GlobOk (b.ctx (callV b) lpW') ⟨hp, [], []⟩) (hv : RVs ⟨hp, [], []⟩ args vs (fun _ => 0)) {ι : Inj} {w : World} {args' : Array Value}
    (hR : Rel b.b.ng ι hp w w.heap.size) (ha : VRs ι vs args'.toList) (hro : ∀ b k, blkAt hp b = some k → k.md ≠ .rw) :
    Calls P f args' w fun e w' => e = .returned (.bool true) ∧ Below w.heap.size w w' := by
  obtain ⟨x, w2, cr, ch', q1, q2, q3, q4, q5, q6⟩ := callV_sim hb h ⟨hp, [], []⟩ vs (fun _ => 0) (fun _ => 0) hw hg hv (by simp [ROs]) (by simp) (by simp)
  simp only [RV] at q5
  rw [q5.1] at q1
  exact callW_true hP q1 hR ha hro

end Go.AM

/- Words for printed runs of the machine of values, and what the tables owe. -/
namespace Go.AM
set_option linter.unusedSimpArgs false
set_option linter.unusedVariables false

/-- What came out of a loop or a join. -/
def gotV {R : Type} (n : Nat) (vs : List V) (K : (Nat → V) → Option R) : Option R := if vs.length = n then K (fun i => vs.getD i .nilp) else none

def listOf (l : List (Nat × List Nat)) (f : FuncId) : List Nat := (look l f).getD []

theorem tab_zero {P : Program} {l : List (Nat × TI)} (h : ∀ t ti, look l t = some ti → TIok P t ti) : ∀ t ti, look l t = some ti → ∀ u ∈ ti.zero, pureV1 u = true := fun t ti e => by
  obtain ⟨i, v, _, _, _, _, _, h7⟩ := (h t ti e).info
  exact h7

theorem tab_sl {P : Program} {l : List (Nat × TI)} (h : ∀ t ti, look l t = some ti → TIok P t ti) : ∀ t e esz eb z ag n zz, look l t = some ⟨.slice e esz eb z, ag, n, zz⟩ → (∀ u ∈ z, pureV1 u = true) ∧ z.length = esz ∧ 0 < esz := fun t e esz eb z ag n zz hl => by
  obtain ⟨d, _, _, h3⟩ := (h t _ hl).und
  simp only [TKok] at h3
  obtain ⟨_, i, v, _, _, _, _, _, h4, h5, _, h6⟩ := h3
  exact ⟨h6, h4, h5⟩

end Go.AM

/- What the words of a printed run come to at values that are known. -/
namespace Go.AM
set_option linter.unusedSimpArgs false
set_option linter.unusedVariables false

/-! ### Owning nothing -/
theorem st_bool (b : Bool) : strip (.bool b) = .bool b := by exact id rfl
theorem st_int (k : IntKind) (n : Int) : strip (.int k n) = .int k n := by exact id rfl
theorem st_str (s : List UInt8) : strip (.str s) = .str s := by exact id rfl
theorem st_nilp : strip .nilp = .nilp := by exact id rfl
theorem st_ptr (k o : Nat) : strip (.ptr k o) = .ptr k o := by exact id rfl
theorem st_elt (c : List V) (o : Nat) : strip (.elt c o) = .elt c o := by exact id rfl
theorem st_fn (f : FuncId) (c : List V) : strip (.fn f c) = .fn f c := by exact id rfl
theorem st_sl (o : Bool) (xs : List (List V)) : strip (.sl o xs) = .sl false (stripLL xs) := by exact id rfl
theorem st_agg (cs : List V) : strip (.agg cs) = .agg (stripL cs) := by exact id rfl
theorem st_tup (cs : List V) : strip (.tup cs) = .tup (stripL cs) := by exact id rfl
theorem stL_nil : stripL [] = [] := by exact id rfl
theorem stL_cons (v : V) (l : List V) : stripL (v :: l) = strip v :: stripL l := by exact id rfl
theorem stLL_nil : stripLL [] = [] := by exact id rfl
theorem stLL_cons (v : List V) (l : List (List V)) : stripLL (v :: l) = stripL v :: stripLL l := by exact id rfl

mutual
theorem strip_strip : ∀ v : V, strip (strip v) = strip v
  | .sl o xs => by simp only [strip, stripLL_stripLL xs]
  | .agg cs => by simp only [strip, stripL_stripL cs]
  | .tup cs => by simp only [strip, stripL_stripL cs]
  | .bool _ => rfl
  | .int _ _ => rfl
  | .str _ => rfl
  | .nilp => rfl
  | .nilf => rfl
  | .ptr _ _ => rfl
  | .gp _ _ => rfl
  | .elt _ _ => rfl
  | .fn _ _ => rfl
  | .obs _ _ _ _ => rfl
  | .ub => rfl
theorem stripL_stripL : ∀ l : List V, stripL (stripL l) = stripL l
  | [] => rfl
  | v :: l => by simp only [stripL, strip_strip v, stripL_stripL l]
theorem stripLL_stripLL : ∀ l : List (List V), stripLL (stripLL l) = stripLL l
  | [] => rfl
  | v :: l => by simp only [stripLL, stripL_stripL v, stripLL_stripLL l]
end

/-! ### What a callee sees -/
theorem fz_bool (H : VH) (b : Bool) : frz H (.bool b) = .bool b := by exact id rfl
theorem fz_int (H : VH) (k : IntKind) (n : Int) : frz H (.int k n) = .int k n := by exact id rfl
theorem fz_str (H : VH) (s : List UInt8) : frz H (.str s) = .str s := by exact id rfl
theorem fz_sl (H : VH) (o : Bool) (xs : List (List V)) : frz H (.sl o xs) = .sl false (stripLL xs) := by exact id rfl
theorem fz_agg (H : VH) (cs : List V) : frz H (.agg cs) = .agg (stripL cs) := by exact id rfl
theorem fz_fn (H : VH) (f : FuncId) (cs : List V) : frz H (.fn f cs) = .fn f (cs.map (frz1 H)) := by exact id rfl
theorem fz_fn0 (H : VH) (f : FuncId) : frz H (.fn f []) = .fn f [] := by exact id rfl
theorem fz_ptr (H : VH) (k o : Nat) : frz H (.ptr k o) = .elt (stripL (H.getD k [])) o := by exact id rfl
theorem fz_elt (H : VH) (c : List V) (o : Nat) : frz H (.elt c o) = .elt c o := by exact id rfl
theorem fz1_ptr (H : VH) (k o : Nat) : frz1 H (.ptr k o) = .elt (stripL (H.getD k [])) o := by exact id rfl
theorem fz_strip (H : VH) (v : V) (h : strip v = v) (hd : data v = true) : frz H v = v := by
  cases v <;> first | exact h | (simp only [data] at hd; cases hd)
theorem map_nil' {α β : Type} (f : α → β) : ([] : List α).map f = [] := by exact id rfl
theorem map_cons' {α β : Type} (f : α → β) (a : α) (l : List α) : (a :: l).map f = f a :: l.map f := by exact id rfl
theorem app_nil' {α : Type} (l : List α) : [] ++ l = l := by exact id rfl
theorem app_cons' {α : Type} (a : α) (l m : List α) : (a :: l) ++ m = a :: (l ++ m) := by exact id rfl

/-! ### No addresses -/
theorem np_bool (b : Bool) : noPtr (.bool b) = true := by exact id rfl
theorem np_int (k : IntKind) (n : Int) : noPtr (.int k n) = true := by exact id rfl
theorem np_str (s : List UInt8) : noPtr (.str s) = true := by exact id rfl
theorem np_sl (o : Bool) (xs : List (List V)) : noPtr (.sl o xs) = noPtrLL xs := by exact id rfl
theorem np_agg (cs : List V) : noPtr (.agg cs) = noPtrL cs := by exact id rfl
theorem np_elt (cs : List V) (o : Nat) : noPtr (.elt cs o) = noPtrL cs := by exact id rfl
theorem np_fn (f : FuncId) (cs : List V) : noPtr (.fn f cs) = noPtrL cs := by exact id rfl
theorem npL_nil : noPtrL [] = true := by exact id rfl
theorem npL_cons (v : V) (l : List V) : noPtrL (v :: l) = (noPtr v && noPtrL l) := by exact id rfl
theorem npLL_nil : noPtrLL [] = true := by exact id rfl
theorem npLL_cons (v : List V) (l : List (List V)) : noPtrLL (v :: l) = (noPtrL v && noPtrLL l) := by exact id rfl
theorem d_bool (b : Bool) : data (.bool b) = true := by exact id rfl
theorem d_int (k : IntKind) (n : Int) : data (.int k n) = true := by exact id rfl
theorem d_str (s : List UInt8) : data (.str s) = true := by exact id rfl
theorem d_sl (o : Bool) (xs : List (List V)) : data (.sl o xs) = dataLL xs := by exact id rfl
theorem d_agg (cs : List V) : data (.agg cs) = dataL cs := by exact id rfl
theorem d_tup (cs : List V) : data (.tup cs) = dataL cs := by exact id rfl
theorem dL_nil : dataL [] = true := by exact id rfl
theorem dL_cons (v : V) (l : List V) : dataL (v :: l) = (data v && dataL l) := by exact id rfl
theorem dLL_nil : dataLL [] = true := by exact id rfl
theorem dLL_cons (v : List V) (l : List (List V)) : dataLL (v :: l) = (dataL v && dataLL l) := by exact id rfl
theorem sc_bool (b : Bool) : scalV (.bool b) = true := by exact id rfl
theorem sc_int (k : IntKind) (n : Int) : scalV (.int k n) = true := by exact id rfl
theorem sc_str (s : List UInt8) : scalV (.str s) = true := by exact id rfl
theorem sc_tup (l : List V) : scalV (.tup l) = l.all scal1 := by exact id rfl
theorem s1_bool (b : Bool) : scal1 (.bool b) = true := by exact id rfl
theorem s1_int (k : IntKind) (n : Int) : scal1 (.int k n) = true := by exact id rfl
theorem s1_str (s : List UInt8) : scal1 (.str s) = true := by exact id rfl
theorem al_nil {α : Type} (p : α → Bool) : ([] : List α).all p = true := by exact id rfl
theorem al_cons {α : Type} (p : α → Bool) (a : α) (l : List α) : (a :: l).all p = (p a && l.all p) := by exact id rfl
theorem an_tt : (true && true) = true := by exact id rfl
theorem bind_s {α β : Type} (a : α) (f : α → Option β) : (some a).bind f = f a := by exact id rfl
theorem id_s {α : Type} (a : α) : id a = a := by exact id rfl

/-! ### Branches, joins -/
theorem if_bool {R : Type} (b : Bool) (x y : Option R) : ifVV (.bool b) x y = if b = true then x else y := by cases b <;> rfl
theorem if_ub {R : Type} (x : Option R) : ifVV .ub x x = x := by show bothR x x = x; unfold bothR; rw [if_pos rfl]
theorem nil_eq (o : Bool) (xs : List (List V)) : vNilEqV .eql (.sl o xs) = some (match xs with | [] => .ub | _ :: _ => .bool false) := by cases xs <;> rfl
theorem ig_bool {R : Type} (b : Bool) (x y : Option R) : ifGV (.bool b) x y = if b = true then x else y := by cases b <;> rfl
theorem ig_t {R : Type} (x y : Option R) : ifGV (.bool true) x y = x := by exact id rfl
theorem ig_f {R : Type} (x y : Option R) : ifGV (.bool false) x y = y := by exact id rfl
theorem st_ub : strip .ub = .ub := by exact id rfl
theorem if_t {R : Type} (x y : Option R) : ifVV (.bool true) x y = x := by exact id rfl
theorem if_f {R : Type} (x y : Option R) : ifVV (.bool false) x y = y := by exact id rfl
theorem in_0 {R : Type} (a : Option R) (l : List (Option R)) : inN 0 (a :: l) = a := by exact id rfl
theorem in_1 {R : Type} (a b : Option R) (l : List (Option R)) : inN 1 (a :: b :: l) = b := by exact id rfl
theorem in_2 {R : Type} (a b c : Option R) (l : List (Option R)) : inN 2 (a :: b :: c :: l) = c := by exact id rfl
theorem in_3 {R : Type} (a b c d : Option R) (l : List (Option R)) : inN 3 (a :: b :: c :: d :: l) = d := by exact id rfl
theorem in_4 {R : Type} (a b c d e : Option R) (l : List (Option R)) : inN 4 (a :: b :: c :: d :: e :: l) = e := by exact id rfl
theorem gt_0 {R : Type} (K : (Nat → V) → Option R) : gotV 0 [] K = K fun i => ([] : List V).getD i .nilp := by exact id rfl
theorem gt_1 {R : Type} (a : V) (K : (Nat → V) → Option R) : gotV 1 [a] K = K fun i => [a].getD i .nilp := by exact id rfl
theorem gt_2 {R : Type} (a b : V) (K : (Nat → V) → Option R) : gotV 2 [a, b] K = K fun i => [a, b].getD i .nilp := by exact id rfl
theorem gt_3 {R : Type} (a b c : V) (K : (Nat → V) → Option R) : gotV 3 [a, b, c] K = K fun i => [a, b, c].getD i .nilp := by exact id rfl
theorem gt_4 {R : Type} (a b c d : V) (K : (Nat → V) → Option R) : gotV 4 [a, b, c, d] K = K fun i => [a, b, c, d].getD i .nilp := by exact id rfl
theorem gt_5 {R : Type} (a b c d e : V) (K : (Nat → V) → Option R) : gotV 5 [a, b, c, d, e] K = K fun i => [a, b, c, d, e].getD i .nilp := by exact id rfl
theorem gt_6 {R : Type} (a b c d e f : V) (K : (Nat → V) → Option R) : gotV 6 [a, b, c, d, e, f] K = K fun i => [a, b, c, d, e, f].getD i .nilp := by exact id rfl
theorem gt_7 {R : Type} (a b c d e f g : V) (K : (Nat → V) → Option R) : gotV 7 [a, b, c, d, e, f, g] K = K fun i => [a, b, c, d, e, f, g].getD i .nilp := by exact id rfl
theorem gt_8 {R : Type} (a b c d e f g h : V) (K : (Nat → V) → Option R) : gotV 8 [a, b, c, d, e, f, g, h] K = K fun i => [a, b, c, d, e, f, g, h].getD i .nilp := by exact id rfl
theorem gt_9 {R : Type} (a b c d e f g h j : V) (K : (Nat → V) → Option R) : gotV 9 [a, b, c, d, e, f, g, h, j] K = K fun i => [a, b, c, d, e, f, g, h, j].getD i .nilp := by exact id rfl
theorem gt_10 {R : Type} (a b c d e f g h j k : V) (K : (Nat → V) → Option R) : gotV 10 [a, b, c, d, e, f, g, h, j, k] K = K fun i => [a, b, c, d, e, f, g, h, j, k].getD i .nilp := by exact id rfl
theorem gd_z {α : Type} (a d : α) (l : List α) : (a :: l).getD 0 d = a := by exact id rfl
theorem gd_s {α : Type} (a d : α) (l : List α) (n : Nat) : (a :: l).getD (n + 1) d = l.getD n d := by exact id rfl
theorem gd_1 {α : Type} (a b d : α) (l : List α) : (a :: b :: l).getD 1 d = b := by exact id rfl
theorem gd_2 {α : Type} (a b c d : α) (l : List α) : (a :: b :: c :: l).getD 2 d = c := by exact id rfl
theorem gd_3 {α : Type} (a b c e d : α) (l : List α) : (a :: b :: c :: e :: l).getD 3 d = e := by exact id rfl
theorem gd_4 {α : Type} (a b c e f d : α) (l : List α) : (a :: b :: c :: e :: f :: l).getD 4 d = f := by exact id rfl
theorem gd_5 {α : Type} (a b c e f g d : α) (l : List α) : (a :: b :: c :: e :: f :: g :: l).getD 5 d = g := by exact id rfl
theorem gd_6 {α : Type} (a b c e f g h d : α) (l : List α) : (a :: b :: c :: e :: f :: g :: h :: l).getD 6 d = h := by exact id rfl
theorem gd_7 {α : Type} (a b c e f g h j d : α) (l : List α) : (a :: b :: c :: e :: f :: g :: h :: j :: l).getD 7 d = j := by exact id rfl
theorem gd_8 {α : Type} (a b c e f g h j k d : α) (l : List α) : (a :: b :: c :: e :: f :: g :: h :: j :: k :: l).getD 8 d = k := by exact id rfl
theorem gd_9 {α : Type} (a b c e f g h j k m d : α) (l : List α) : (a :: b :: c :: e :: f :: g :: h :: j :: k :: m :: l).getD 9 d = m := by exact id rfl
theorem gt_11 {R : Type} (a b c d e f g h j k m : V) (K : (Nat → V) → Option R) : gotV 11 [a, b, c, d, e, f, g, h, j, k, m] K = K fun i => [a, b, c, d, e, f, g, h, j, k, m].getD i .nilp := by exact id rfl
theorem gt_12 {R : Type} (a b c d e f g h j k m n : V) (K : (Nat → V) → Option R) : gotV 12 [a, b, c, d, e, f, g, h, j, k, m, n] K = K fun i => [a, b, c, d, e, f, g, h, j, k, m, n].getD i .nilp := by exact id rfl
theorem gt_13 {R : Type} (a b c d e f g h j k m n o : V) (K : (Nat → V) → Option R) : gotV 13 [a, b, c, d, e, f, g, h, j, k, m, n, o] K = K fun i => [a, b, c, d, e, f, g, h, j, k, m, n, o].getD i .nilp := by exact id rfl
theorem gt_14 {R : Type} (a b c d e f g h j k m n o p : V) (K : (Nat → V) → Option R) : gotV 14 [a, b, c, d, e, f, g, h, j, k, m, n, o, p] K = K fun i => [a, b, c, d, e, f, g, h, j, k, m, n, o, p].getD i .nilp := by exact id rfl
theorem gt_15 {R : Type} (a b c d e f g h j k m n o p q : V) (K : (Nat → V) → Option R) : gotV 15 [a, b, c, d, e, f, g, h, j, k, m, n, o, p, q] K = K fun i => [a, b, c, d, e, f, g, h, j, k, m, n, o, p, q].getD i .nilp := by exact id rfl
theorem gd_10 {α : Type} (x0 x1 x2 x3 x4 x5 x6 x7 x8 x9 x10 d : α) (l : List α) : (x0 :: x1 :: x2 :: x3 :: x4 :: x5 :: x6 :: x7 :: x8 :: x9 :: x10 :: l).getD 10 d = x10 := by exact id rfl
theorem gd_11 {α : Type} (x0 x1 x2 x3 x4 x5 x6 x7 x8 x9 x10 x11 d : α) (l : List α) : (x0 :: x1 :: x2 :: x3 :: x4 :: x5 :: x6 :: x7 :: x8 :: x9 :: x10 :: x11 :: l).getD 11 d = x11 := by exact id rfl
theorem gd_12 {α : Type} (x0 x1 x2 x3 x4 x5 x6 x7 x8 x9 x10 x11 x12 d : α) (l : List α) : (x0 :: x1 :: x2 :: x3 :: x4 :: x5 :: x6 :: x7 :: x8 :: x9 :: x10 :: x11 :: x12 :: l).getD 12 d = x12 := by exact id rfl
theorem gd_13 {α : Type} (x0 x1 x2 x3 x4 x5 x6 x7 x8 x9 x10 x11 x12 x13 d : α) (l : List α) : (x0 :: x1 :: x2 :: x3 :: x4 :: x5 :: x6 :: x7 :: x8 :: x9 :: x10 :: x11 :: x12 :: x13 :: l).getD 13 d = x13 := by exact id rfl
theorem gd_14 {α : Type} (x0 x1 x2 x3 x4 x5 x6 x7 x8 x9 x10 x11 x12 x13 x14 d : α) (l : List α) : (x0 :: x1 :: x2 :: x3 :: x4 :: x5 :: x6 :: x7 :: x8 :: x9 :: x10 :: x11 :: x12 :: x13 :: x14 :: l).getD 14 d = x14 := by exact id rfl
theorem gd_15 {α : Type} (x0 x1 x2 x3 x4 x5 x6 x7 x8 x9 x10 x11 x12 x13 x14 x15 d : α) (l : List α) : (x0 :: x1 :: x2 :: x3 :: x4 :: x5 :: x6 :: x7 :: x8 :: x9 :: x10 :: x11 :: x12 :: x13 :: x14 :: x15 :: l).getD 15 d = x15 := by exact id rfl

section
variable {B : List V → VH → Option (Option Nat × List V × VH)} {vs vs' : List V} {hp hp' : VH} {n : Nat}
theorem lv_more (h : B vs hp = some (none, vs', hp')) : lpW' B vs hp = lpW' B vs' hp' := by rw [lpW'_eq, h]
theorem lv_stop (h : B vs hp = some (some n, vs', hp')) : lpW' B vs hp = some (n, vs', hp') := by rw [lpW'_eq, h]
end

/-- A loop over the states S 0, S 1, ..: k rounds go on, then it stops. -/
theorem lv_run {B : List V → VH → Option (Option Nat × List V × VH)} {S : Nat → List V} {H : Nat → VH} {k m : Nat} {vs : List V} {H' : VH} (h : ∀ i, i < k → B (S i) (H i) = some (none, S (i + 1), H (i + 1))) (hk : B (S k) (H k) = some (some m, vs, H')) :
    lpW' B (S 0) (H 0) = some (m, vs, H') := by
  have : ∀ j, j ≤ k → lpW' B (S (k - j)) (H (k - j)) = some (m, vs, H') := by
    intro j
    induction j with
    | zero => intro _; exact lv_stop hk
    | succ j ih =>
      intro hj
      rw [lv_more (h (k - (j + 1)) (by omega)), show k - (j + 1) + 1 = k - j by omega]
      exact ih (by omega)
  have := this k (Nat.le_refl _)
  simpa using this

/-! ### Numbers -/
section
variable (tk : TK) (a b : Int) (k : IntKind)
theorem n_lss : vBinV tk .lss (.int k a) (.int k b) = some (.bool (decide (a < b))) := by simp [vBinV, toA, vBin, vIntOp, ofA]
theorem n_leq : vBinV tk .leq (.int k a) (.int k b) = some (.bool (decide (a ≤ b))) := by simp [vBinV, toA, vBin, vIntOp, ofA]
theorem n_gtr : vBinV tk .gtr (.int k a) (.int k b) = some (.bool (decide (a > b))) := by simp [vBinV, toA, vBin, vIntOp, ofA]
theorem n_geq : vBinV tk .geq (.int k a) (.int k b) = some (.bool (decide (a ≥ b))) := by simp [vBinV, toA, vBin, vIntOp, ofA]
theorem n_eql : vBinV tk .eql (.int k a) (.int k b) = some (.bool (decide (a = b))) := by
  simp only [vBinV, toA, vBin, vIntOp, ofA, Option.bind_some, if_true]
  congr 2
theorem n_neq : vBinV tk .neq (.int k a) (.int k b) = some (.bool (!decide (a = b))) := by
  simp only [vBinV, toA, vBin, vIntOp, ofA, Option.bind_some, if_true]
  congr 2
theorem n_add (h1 : -9223372036854775808 ≤ a + b) (h2 : a + b ≤ 9223372036854775807) : vBinV tk .add (.int .i64 a) (.int .i64 b) = some (.int .i64 (a + b)) := by simp [vBinV, toA, vBin, vIntOp, ofA, IntWalk.i64_in _ ⟨h1, h2⟩]
theorem n_sub (h1 : -9223372036854775808 ≤ a - b) (h2 : a - b ≤ 9223372036854775807) : vBinV tk .sub (.int .i64 a) (.int .i64 b) = some (.int .i64 (a - b)) := by simp [vBinV, toA, vBin, vIntOp, ofA, IntWalk.i64_in _ ⟨h1, h2⟩]
theorem n_mul (h1 : -9223372036854775808 ≤ a * b) (h2 : a * b ≤ 9223372036854775807) : vBinV tk .mul (.int .i64 a) (.int .i64 b) = some (.int .i64 (a * b)) := by simp [vBinV, toA, vBin, vIntOp, ofA, IntWalk.i64_in _ ⟨h1, h2⟩]
theorem n_rem (h : b ≠ 0) : vBinV tk .rem (.int k a) (.int k b) = some (.int k (a.tmod b)) := by simp [vBinV, toA, vBin, vIntOp, ofA, h]
theorem n_quo (h : 0 < b) (h1 : 0 ≤ a) (h2 : a ≤ 9223372036854775807) : vBinV tk .quo (.int .i64 a) (.int .i64 b) = some (.int .i64 (a.tdiv b)) := by
  have h3 : 0 ≤ a.tdiv b := Int.tdiv_nonneg h1 (by omega)
  have h4 : a.tdiv b ≤ a := Int.tdiv_le_self b h1
  have h5 := IntWalk.i64_in (a.tdiv b) ⟨by omega, by omega⟩
  simp [vBinV, toA, ofA, vBin, vIntOp, show b ≠ 0 by omega, h5]
theorem n_neg (h1 : -9223372036854775807 ≤ a) (h2 : a ≤ 9223372036854775807) : vUnV .neg (.int .i64 a) = some (.int .i64 (-a)) := by
  have h5 := IntWalk.i64_in (0 - a) ⟨by omega, by omega⟩
  simp [vUnV, toA, vUn, ofA]
  have : 0 - a = -a := by omega
  rw [this] at h5; exact h5
theorem n_not (b : Bool) : vUnV .not (.bool b) = some (.bool !b) := by exact id rfl
theorem b_eql (a b : Bool) : vBinV .bool .eql (.bool a) (.bool b) = some (.bool (decide (a = b))) := by cases a <;> cases b <;> rfl
theorem b_neq (a b : Bool) : vBinV .bool .neq (.bool a) (.bool b) = some (.bool (!decide (a = b))) := by cases a <;> cases b <;> rfl
end

theorem n_xor (tk : TK) (a b : Nat) (h1 : a < 2 ^ 62) (h2 : b < 2 ^ 62) : vBinV tk .xor (.int .i64 a) (.int .i64 b) = some (.int .i64 ((a ^^^ b : Nat) : Int)) ∧ a ^^^ b < 2 ^ 62 := by
  have hlt : a ^^^ b < 2 ^ 62 := Nat.xor_lt_two_pow h1 h2
  refine ⟨?_, hlt⟩
  have e1 : BitVec.ofInt 64 (a : Int) = BitVec.ofNat 64 a := by simp
  have e2 : BitVec.ofInt 64 (b : Int) = BitVec.ofNat 64 b := by simp
  have e3 : (BitVec.ofNat 64 a ^^^ BitVec.ofNat 64 b).toNat = a ^^^ b := by
    rw [BitVec.toNat_xor, BitVec.toNat_ofNat, BitVec.toNat_ofNat, Nat.mod_eq_of_lt (by omega), Nat.mod_eq_of_lt (by omega)]
  have e4 := IntWalk.i64_in ((a ^^^ b : Nat) : Int) ⟨by omega, by omega⟩
  show some (V.int .i64 (IntKind.i64.wrap (((BitVec.ofInt 64 (a : Int) ^^^ BitVec.ofInt 64 (b : Int)).toNat : Nat) : Int))) = _
  rw [e1, e2, e3, e4]

theorem nat_mul (a b : Nat) : ((a : Int) * (b : Int)) = ((a * b : Nat) : Int) := by simp
theorem nat_tmod (a b : Nat) : (a : Int).tmod (b : Int) = ((a % b : Nat) : Int) := by rw [Int.tmod_eq_emod_of_nonneg (by omega)]; simp
theorem nat_tdiv (a b : Nat) : (a : Int).tdiv (b : Int) = ((a / b : Nat) : Int) := by simp [Int.ofNat_tdiv]

theorem c_u8i64 (n : Nat) (h : n ≤ 255) : vConvV .i64 (.int .u8 (n : Int)) = some (.int .i64 (n : Int)) := by simp [vConvV, IntWalk.i64_in (n : Int) ⟨by omega, by omega⟩]

theorem n_mulN (tk : TK) (a b : Nat) (h : a * b ≤ 9223372036854775807) : vBinV tk .mul (.int .i64 (a : Int)) (.int .i64 (b : Int)) = some (.int .i64 ((a * b : Nat) : Int)) := by
  have e : (a : Int) * (b : Int) = ((a * b : Nat) : Int) := by simp
  rw [n_mul _ _ _ (by rw [e]; omega) (by rw [e]; omega), e]
theorem n_addN (tk : TK) (a b : Nat) (h : a + b ≤ 9223372036854775807) : vBinV tk .add (.int .i64 (a : Int)) (.int .i64 (b : Int)) = some (.int .i64 ((a + b : Nat) : Int)) := by
  have e : (a : Int) + (b : Int) = ((a + b : Nat) : Int) := by simp
  rw [n_add _ _ _ (by rw [e]; omega) (by rw [e]; omega), e]
theorem n_subN (tk : TK) (a b : Nat) (h : b ≤ a) (h2 : a ≤ 9223372036854775807) : vBinV tk .sub (.int .i64 (a : Int)) (.int .i64 (b : Int)) = some (.int .i64 ((a - b : Nat) : Int)) := by
  have e : (a : Int) - (b : Int) = ((a - b : Nat) : Int) := by omega
  rw [n_sub _ _ _ (by rw [e]; omega) (by rw [e]; omega), e]
theorem n_remN (tk : TK) (a b : Nat) (h : 0 < b) : vBinV tk .rem (.int .i64 (a : Int)) (.int .i64 (b : Int)) = some (.int .i64 ((a % b : Nat) : Int)) := by
  rw [n_rem _ _ _ _ (by omega), nat_tmod]
theorem n_quoN (tk : TK) (a b : Nat) (h : 0 < b) (h2 : a ≤ 9223372036854775807) : vBinV tk .quo (.int .i64 (a : Int)) (.int .i64 (b : Int)) = some (.int .i64 ((a / b : Nat) : Int)) := by
  rw [n_quo _ _ _ (by omega) (by omega) (by omega), nat_tdiv]

/-! ### Texts -/
theorem ba_eq (s t : List UInt8) : ((ByteArray.mk s.toArray).toList == (ByteArray.mk t.toArray).toList) = decide (s = t) := by
  rw [ByteArray.toList_eq, ByteArray.toList_eq]
  show (s == t) = _
  rw [Bool.eq_iff_iff, beq_iff_eq, decide_eq_true_iff]
theorem t_eql (tk : TK) (s t : List UInt8) : vBinV tk .eql (.str s) (.str t) = some (.bool (decide (s = t))) := by
  simp only [vBinV, toA, vBin, vStrOp, ofA, Option.bind_some, ba_eq]
theorem t_neq (tk : TK) (s t : List UInt8) : vBinV tk .neq (.str s) (.str t) = some (.bool (!decide (s = t))) := by
  simp only [vBinV, toA, vBin, vStrOp, ofA, Option.bind_some, ba_eq]
theorem t_add (tk : TK) (s t : List UInt8) (h : s.length + t.length ≤ 9223372036854775807) : vBinV tk .add (.str s) (.str t) = some (.str (s ++ t)) := by
  simp only [vBinV, toA, vBin, vStrOp, ofA, Option.bind_some]
  rw [if_pos (by simpa [ByteArray.size] using h)]
  simp [ofA]
theorem t_idx (s : List UInt8) (k : IntKind) (i : Nat) (h : i < s.length) : vIndexSV (.str s) (.int k (i : Int)) = some (.int .u8 ((s[i]'h).toNat : Int)) := by
  simp [vIndexSV, List.getElem?_eq_getElem h]
theorem t_len (s : List UInt8) : vLenSV (.str s) = some (.int .i64 s.length) := by exact id rfl
theorem v_len (o : Bool) (xs : List (List V)) : vLenVV (.sl o xs) = some (.int .i64 xs.length) := by exact id rfl
theorem t_sub (s : List UInt8) (k k' : IntKind) (l h : Nat) (h1 : l ≤ h) (h2 : h ≤ s.length) : vSliceSV (.str s) (some (.int k (l : Int))) (some (.int k' (h : Int))) = some (.str ((s.drop l).take (h - l))) := by
  simp only [vSliceSV, bndV, Option.bind_some]
  rw [if_pos (by omega)]; simp
theorem t_pre (s : List UInt8) (k : IntKind) (h : Nat) (h2 : h ≤ s.length) : vSliceSV (.str s) none (some (.int k (h : Int))) = some (.str (s.take h)) := by
  simp only [vSliceSV, bndV, Option.bind_some]
  rw [if_pos (by omega)]; simp
theorem t_suf (s : List UInt8) (k : IntKind) (l : Nat) (h2 : l ≤ s.length) : vSliceSV (.str s) (some (.int k (l : Int))) none = some (.str (s.drop l)) := by
  simp only [vSliceSV, bndV, Option.bind_some]
  rw [if_pos (by omega)]
  simp
  rw [List.take_of_length_le (by simp)]
theorem t_str (s : List UInt8) : vStrV (.str s) = some (.str s) := by exact id rfl

/-! ### Slices, pointers -/
theorem v_idx (esz : Nat) (o : Bool) (xs : List (List V)) (k : IntKind) (i : Nat) (c : List V) (h : xs[i]? = some c) (hc : c.length = esz) : vIdxV esz (.sl o xs) (.int k (i : Int)) = some (.elt (stripL c) 0) := by
  simp [vIdxV, h, hc]
theorem ld_elt (g : Nat → Option (List V)) (t : Bool) (n : Nat) (v : V) (H : VH) : ldO g t false n (.elt [v] 0) H = some (v, H) := by exact id rfl
theorem v_nilf (f : FuncId) (c : List V) : vNilV (.fn f c) = some (.fn f c) := by exact id rfl
theorem v_nilp (k o : Nat) : vNilV (.ptr k o) = some (.ptr k o) := by exact id rfl
theorem v_nile (c : List V) (o : Nat) : vNilV (.elt c o) = some (.elt c o) := by exact id rfl
theorem v_offp (k o n : Nat) : vOffV (.ptr k o) n = some (.ptr k (o + n)) := by exact id rfl
theorem v_offe (c : List V) (o n : Nat) : vOffV (.elt c o) n = some (.elt c (o + n)) := by exact id rfl
theorem o_int (k : IntKind) (n : Int) : vOneV (.int k n) = some (.int k n) := by exact id rfl
theorem o_bool (b : Bool) : vOneV (.bool b) = some (.bool b) := by exact id rfl
theorem o_str (s : List UInt8) : vOneV (.str s) = some (.str s) := by exact id rfl
theorem o_sl (o : Bool) (xs : List (List V)) : vOneV (.sl o xs) = some (.sl o xs) := by exact id rfl
theorem o_ptr (k o : Nat) : vOneV (.ptr k o) = some (.ptr k o) := by exact id rfl
theorem o_fn (f : FuncId) (c : List V) : vOneV (.fn f c) = some (.fn f c) := by exact id rfl
theorem ow_t (xs : List (List V)) : ownV (.sl true xs) = some xs := by exact id rfl
theorem cl_fn (f : FuncId) (c : List V) : calleeV (.fn f c) = some (f, c) := by exact id rfl
theorem ex_0 (a : V) (l : List V) : vExtV (.tup (a :: l)) 0 = some a := by exact id rfl
theorem ex_1 (a b : V) (l : List V) : vExtV (.tup (a :: b :: l)) 1 = some b := by exact id rfl
theorem ex_2 (a b c : V) (l : List V) : vExtV (.tup (a :: b :: c :: l)) 2 = some c := by exact id rfl
theorem sa_0 (a : V) (l : List V) : stripAt 0 (.tup (a :: l)) = .tup (strip a :: l) := by exact id rfl
theorem sa_1 (a b : V) (l : List V) : stripAt 1 (.tup (a :: b :: l)) = .tup (a :: strip b :: l) := by exact id rfl
theorem sa_2 (a b c : V) (l : List V) : stripAt 2 (.tup (a :: b :: c :: l)) = .tup (a :: b :: strip c :: l) := by exact id rfl

theorem v_sub (esz : Nat) (o : Bool) (xs : List (List V)) (k k' : IntKind) (l h : Nat) (he : eszOk esz xs = true) (h1 : l ≤ h) (h2 : h ≤ xs.length) : vSliceVV esz (.sl o xs) (some (.int k (l : Int))) (some (.int k' (h : Int))) = some (.sl false (stripLL ((xs.drop l).take (h - l)))) := by
  simp only [vSliceVV, bndV, Option.bind_some]
  rw [if_pos ⟨he, by omega⟩]; simp
theorem v_pre (esz : Nat) (o : Bool) (xs : List (List V)) (k : IntKind) (h : Nat) (he : eszOk esz xs = true) (h2 : h ≤ xs.length) : vSliceVV esz (.sl o xs) none (some (.int k (h : Int))) = some (.sl false (stripLL (xs.take h))) := by
  simp only [vSliceVV, bndV, Option.bind_some]
  rw [if_pos ⟨he, by omega⟩]; simp
theorem v_suf (esz : Nat) (o : Bool) (xs : List (List V)) (k : IntKind) (l : Nat) (he : eszOk esz xs = true) (h2 : l ≤ xs.length) : vSliceVV esz (.sl o xs) (some (.int k (l : Int))) none = some (.sl false (stripLL (xs.drop l))) := by
  simp only [vSliceVV, bndV, Option.bind_some]
  rw [if_pos ⟨he, by omega⟩]
  simp
  rw [List.take_of_length_le (by simp)]

theorem v_app (esz bytes : Nat) (xs : List (List V)) (o : Bool) (ys : List (List V)) (h1 : eszOk esz xs = true) (h2 : eszOk esz ys = true) (h3 : (xs.length + ys.length) * bytes ≤ 140737488355328) : appV false esz bytes xs (.sl o ys) = some (.sl true (xs ++ ys)) := by
  simp only [appV]; rw [if_pos ⟨h1, h2, h3⟩]

/-! ### Calls that see nothing of the heap -/
theorem pc_of {call : CallV} {f : FuncId} {args : List V} {r : V} {H : VH} (h : call f args [] = some (r, H)) (h1 : noPtrL args = true) (h2 : data r = true) : pcall call f args = some r := by
  simp only [pcall, h1, h, Option.bind_some, h2]
theorem qc_of {call : CallV} {f : FuncId} {args : List V} {r : V} {H : VH} (h : call f args [] = some (r, H)) (h1 : noPtrL args = true) (h2 : scalV r = true) : qpcall call f args = some r := by
  simp only [qpcall, h1, h, Option.bind_some, h2]

/-! ### Rows of texts and numbers, as values -/
/-- A row of texts. -/
def vT (l : List (List UInt8)) : List (List V) := l.map fun s => [.str s]
/-- A row of numbers. -/
def vI (k : IntKind) (l : List Int) : List (List V) := l.map fun n => [.int k n]
/-- Bytes. -/
def vB (l : List UInt8) : List (List V) := l.map fun b => [.int .u8 b.toNat]

theorem vT_len (l : List (List UInt8)) : (vT l).length = l.length := by simp [vT]
theorem vB_len (l : List UInt8) : (vB l).length = l.length := by simp [vB]
theorem vI_len (k : IntKind) (l : List Int) : (vI k l).length = l.length := by simp [vI]
theorem vT_strip (l : List (List UInt8)) : stripLL (vT l) = vT l := by
  induction l with
  | nil => rfl
  | cons a l ih => simp only [vT, List.map_cons, stripLL, stripL, strip] at ih ⊢; rw [ih]
theorem vB_strip (l : List UInt8) : stripLL (vB l) = vB l := by
  induction l with
  | nil => rfl
  | cons a l ih => simp only [vB, List.map_cons, stripLL, stripL, strip] at ih ⊢; rw [ih]
theorem vI_strip (k : IntKind) (l : List Int) : stripLL (vI k l) = vI k l := by
  induction l with
  | nil => rfl
  | cons a l ih => simp only [vI, List.map_cons, stripLL, stripL, strip] at ih ⊢; rw [ih]
theorem vT_np (l : List (List UInt8)) : noPtrLL (vT l) = true := by
  induction l with
  | nil => rfl
  | cons a l ih => simp only [vT, List.map_cons, noPtrLL, noPtrL, noPtr, Bool.and_self, Bool.true_and] at ih ⊢; exact ih
theorem vB_np (l : List UInt8) : noPtrLL (vB l) = true := by
  induction l with
  | nil => rfl
  | cons a l ih => simp only [vB, List.map_cons, noPtrLL, noPtrL, noPtr, Bool.and_self, Bool.true_and] at ih ⊢; exact ih
theorem vI_np (k : IntKind) (l : List Int) : noPtrLL (vI k l) = true := by
  induction l with
  | nil => rfl
  | cons a l ih => simp only [vI, List.map_cons, noPtrLL, noPtrL, noPtr, Bool.and_self, Bool.true_and] at ih ⊢; exact ih
theorem vT_data (l : List (List UInt8)) : dataLL (vT l) = true := by
  induction l with
  | nil => rfl
  | cons a l ih => simp only [vT, List.map_cons, dataLL, dataL, data, Bool.and_self, Bool.true_and] at ih ⊢; exact ih
theorem vB_data (l : List UInt8) : dataLL (vB l) = true := by
  induction l with
  | nil => rfl
  | cons a l ih => simp only [vB, List.map_cons, dataLL, dataL, data, Bool.and_self, Bool.true_and] at ih ⊢; exact ih
theorem vI_data (k : IntKind) (l : List Int) : dataLL (vI k l) = true := by
  induction l with
  | nil => rfl
  | cons a l ih => simp only [vI, List.map_cons, dataLL, dataL, data, Bool.and_self, Bool.true_and] at ih ⊢; exact ih
theorem vT_esz (l : List (List UInt8)) : eszOk 1 (vT l) = true := by simp [eszOk, vT]
theorem vB_esz (l : List UInt8) : eszOk 1 (vB l) = true := by simp [eszOk, vB]
theorem vI_esz (k : IntKind) (l : List Int) : eszOk 1 (vI k l) = true := by simp [eszOk, vI]
theorem vT_get (l : List (List UInt8)) (i : Nat) (h : i < l.length) : (vT l)[i]? = some [.str l[i]] := by simp [vT, List.getElem?_eq_getElem h]
theorem vB_get (l : List UInt8) (i : Nat) (h : i < l.length) : (vB l)[i]? = some [.int .u8 (l[i].toNat : Int)] := by simp [vB, List.getElem?_eq_getElem h]
theorem vI_get (k : IntKind) (l : List Int) (i : Nat) (h : i < l.length) : (vI k l)[i]? = some [.int k l[i]] := by simp [vI, List.getElem?_eq_getElem h]
theorem vT_app (l m : List (List UInt8)) : vT l ++ vT m = vT (l ++ m) := by simp [vT]
theorem vT_drop (l : List (List UInt8)) (n : Nat) : (vT l).drop n = vT (l.drop n) := by simp [vT]
theorem vT_take (l : List (List UInt8)) (n : Nat) : (vT l).take n = vT (l.take n) := by simp [vT]
theorem vB_take (l : List UInt8) (n : Nat) : (vB l).take n = vB (l.take n) := by simp [vB]

/-- Reading an element of a row of texts. -/
theorem vT_idx (o : Bool) (l : List (List UInt8)) (k : IntKind) (i : Nat) (h : i < l.length) : vIdxV 1 (.sl o (vT l)) (.int k (i : Int)) = some (.elt [.str l[i]] 0) := by
  rw [v_idx 1 o (vT l) k i _ (vT_get l i h) rfl]; rfl
theorem vB_idx (o : Bool) (l : List UInt8) (k : IntKind) (i : Nat) (h : i < l.length) : vIdxV 1 (.sl o (vB l)) (.int k (i : Int)) = some (.elt [.int .u8 (l[i].toNat : Int)] 0) := by
  rw [v_idx 1 o (vB l) k i _ (vB_get l i h) rfl]; rfl
theorem vI_idx (o : Bool) (k' : IntKind) (l : List Int) (k : IntKind) (i : Nat) (h : i < l.length) : vIdxV 1 (.sl o (vI k' l)) (.int k (i : Int)) = some (.elt [.int k' l[i]] 0) := by
  rw [v_idx 1 o (vI k' l) k i _ (vI_get k' l i h) rfl]; rfl

end Go.AM

/- What Go's assembly functions hand back in the machine of values: the place of a byte in a text, the count of a byte in a text. No condition. -/
namespace Go.AM
set_option linter.unusedSimpArgs false
set_option linter.unusedVariables false

def extA : Nat → List Value → Option Value
  | 0, [.string s, .int .u8 c] => some (.int .i64 (Go.Lib.indexByte s.data.toList c.toNat.toUInt8))
  | 1, [.string s, .int .u8 c] => some (.int .i64 (Go.Lib.countByte s.data.toList c.toNat.toUInt8))
  | _, _ => none

/-- A call of such a function, and what is done with its answer. -/
def extB {R : Type} (n : Nat) (vs : List V) (K : V → Option R) : Option R :=
  (vs.mapM toA).bind fun as => (extA n as).bind fun r => (ofA r).bind fun v => K v

theorem extB_index {R : Type} (s : List UInt8) (c : Int) (K : V → Option R) : extB 0 [.str s, .int .u8 c] K = K (.int .i64 (Go.Lib.indexByte s c.toNat.toUInt8)) := by
  simp [extB, toA, extA, ofA]
theorem extB_count {R : Type} (s : List UInt8) (c : Int) (K : V → Option R) : extB 1 [.str s, .int .u8 c] K = K (.int .i64 (Go.Lib.countByte s c.toNat.toUInt8)) := by
  simp [extB, toA, extA, ofA]

def kindX (l m : List Nat) (e : List (Nat × Nat)) (f : FuncId) : Nat := match look e f with | some n => n + 3 | none => kindOf l m f

def ExtFn (P : Program) (f n : Nat) : Prop := match n with
  | 0 => ∀ args w, (callFunc f args).run P w = ((Extern.BytealgIndexByte.indexByte args).run P w).andThen fun v w' => .ok (.value v) w'
  | 1 => ∀ args w, (callFunc f args).run P w = ((Extern.BytealgCount.count args).run P w).andThen fun v w' => .ok (.value v) w'
  | _ => True
def ExtFns (P : Program) : List (Nat × Nat) → Prop
  | [] => True
  | (f, n) :: l => ExtFn P f n ∧ ExtFns P l

theorem ExtFns.at {P : Program} : ∀ {l : List (Nat × Nat)} {f n : Nat}, ExtFns P l → look l f = some n → ExtFn P f n
  | [], f, n, _, h => by cases h
  | (g, m) :: l, f, n, h, hl => by
    unfold look at hl
    split at hl
    · rename_i e
      have : g = f := by simpa using e
      cases hl
      subst this
      exact h.1
    · exact h.2.at hl

theorem kindOf_le (l m : List Nat) (f : FuncId) : kindOf l m f ≤ 2 := by
  unfold kindOf; split
  · omega
  · split <;> omega

theorem ext_ok {P : Program} {l m : List Nat} {e : List (Nat × Nat)} (h : ExtFns P e) : ExtOk P (kindX l m e) extA := by
  intro f n vs v hk hx ι vs' w hv
  have hf : look e f = some n := by
    unfold kindX at hk
    split at hk
    · rename_i k hk'; rw [hk']; congr 1; omega
    · have := kindOf_le l m f; omega
  have hF := h.at hf
  match n, vs, hx with
  | 0, [.string s, .int .u8 c], hx =>
    cases hx
    obtain ⟨x, y, h1, h2⟩ : ∃ x y, vs' = #[x, y] ∧ VR ι (.string s) x ∧ VR ι (.int .u8 c) y := by
      rcases vs' with ⟨l⟩
      cases hv with
      | cons a hv => cases hv with
        | cons b hv => cases hv; exact ⟨_, _, rfl, a, b⟩
    obtain ⟨h2, h3⟩ := h2
    cases h2; cases h3
    subst h1
    refine ⟨_, ?_, .int _ _⟩
    rw [hF, Go.Lib.run_indexByteString]; rfl
  | 1, [.string s, .int .u8 c], hx =>
    cases hx
    obtain ⟨x, y, h1, h2⟩ : ∃ x y, vs' = #[x, y] ∧ VR ι (.string s) x ∧ VR ι (.int .u8 c) y := by
      rcases vs' with ⟨l⟩
      cases hv with
      | cons a hv => cases hv with
        | cons b hv => cases hv; exact ⟨_, _, rfl, a, b⟩
    obtain ⟨h2, h3⟩ := h2
    cases h2; cases h3
    subst h1
    refine ⟨_, ?_, .int _ _⟩
    rw [hF, Go.Lib.run_countString]; rfl
end Go.AM

/- Objects: loading and storing through known pointers; the block that draws. -/
namespace Go.AM
set_option linter.unusedSimpArgs false
set_option linter.unusedVariables false

theorem set_same {α : Type} {l : List α} {k : Nat} {a : α} (h : l[k]? = some a) : l.set k a = l := by
  apply List.ext_getElem?
  intro i
  rw [List.getElem?_set]
  split
  · rename_i e
    subst e
    rw [h, if_pos (List.getElem?_eq_some_iff.1 h).1]
  · rfl

theorem lp_cell {g : Nat → Option (List V)} {n k off : Nat} {H : VH} {cs : List V} {v u : V} (h : H[k]? = some cs) (hv : cs[off]? = some v) (hu : strip v = u) : ldO g false false n (.ptr k off) H = some (u, H) := by
  rw [← hu]
  simp only [ldO, h, loadC, hv, Option.bind_some, Option.map_some, set_same h]

theorem sp_cell {k off : Nat} {H : VH} {cs : List V} {v : V} (h : H[k]? = some cs) (ho : off < cs.length) : stO (.ptr k off) [v] H = some (H.set k (cs.set off v)) := by
  have hb : Nat.ble (off + [v].length) cs.length = true := Nat.ble_eq_true_of_le (by simp; omega)
  simp only [stO, h, hb]
  have : gseg cs off [v] = cs.set off v := by
    simp only [gseg]
    rw [List.set_eq_take_append_cons_drop, if_pos ho]; simp
  rw [this]

theorem get_last {α : Type} (H : List α) (a : α) : (H ++ [a])[H.length]? = some a := by simp

/-- The drawn number: below n, when 1 ≤ n. -/
def pickN (xs : List UInt8) (p n : Nat) : Nat :=
  if xs.length = 0 then 0
  else if p < xs.length then (xs.getD p 0).toNat % n
  else
    let x := (xs.getD (p % xs.length) 0).toNat * 131 + (xs.getD ((p * 7 + 3) % xs.length) 0).toNat * 1117 + p * 29 + p / xs.length * 53
    (x ^^^ x / 64) % n

theorem pickN_lt (xs : List UInt8) (p n : Nat) (h : 1 ≤ n) : pickN xs p n < n := by
  unfold pickN
  split
  · omega
  · split
    · exact Nat.mod_lt _ (by omega)
    · exact Nat.mod_lt _ (by omega)

/-- The object that draws from the bytes xs, p of them drawn. -/
def rdr (o : Bool) (xs : List UInt8) (p : Nat) : List V := [.sl o (vB xs), .int .i64 (p : Int)]

end Go.AM

/- What comes in: arguments read as data, as values of the machines. -/
namespace Go.AM
set_option linter.unusedSimpArgs false
set_option linter.unusedVariables false

/-- Kinds of plain data. -/
inductive Ty where
  | bool
  | int (k : IntKind)
  | str
  | sl (e : Ty)
  | st (fs : List Ty)

mutual
def tySz : Ty → Nat
  | .st fs => tySzs fs
  | _ => 1
termination_by structural t => t
def tySzs : List Ty → Nat
  | [] => 0
  | t :: ts => tySz t + tySzs ts
termination_by structural l => l
end

mutual
/-- The program's type t is of this kind. -/
def tyIs (P : Program) : Ty → TypeId → Bool
  | .bool, t => (match P.underlying t with | some .bool => true | _ => false)
  | .int k, t => (match P.underlying t with | some (.int k') => decide (k' = k) | _ => false)
  | .str, t => (match P.underlying t with | some .string => true | _ => false)
  | .sl e, t => (match P.underlying t with | some (.slice e') => tyIs P e e' && decide (P.cellsOf e' = tySz e) && decide (0 < tySz e) | _ => false)
  | .st fs, t => (match P.underlying t with | some (.struct fields) => tysIs P fs fields.toList 0 && decide (P.cellsOf t = tySzs fs) | _ => false)
termination_by structural t => t
def tysIs (P : Program) : List Ty → List Field → Nat → Bool
  | [], fs, _ => (match fs with | [] => true | _ => false)
  | t :: ts, fs, off => (match fs with | f :: fs => tyIs P t f.type && decide (f.offset = off) && decide (P.cellsOf f.type = tySz t) && tysIs P ts fs (off + tySz t) | [] => false)
termination_by structural l => l
end

mutual
/-- Cells of a value of this kind. -/
def HasTy : Ty → List V → Prop
  | .bool, vs => ∃ b, vs = [.bool b]
  | .int k, vs => ∃ n, vs = [.int k n] ∧ (Lit.int k n).wf = true
  | .str, vs => ∃ s : List UInt8, vs = [.str s] ∧ s.length ≤ maxLen
  | .sl e, vs => ∃ xs : List (List V), vs = [.sl false xs] ∧ xs.length ≤ maxLen ∧ ∀ x ∈ xs, HasTy e x
  | .st fs, vs => HasTys fs vs
termination_by structural t => t
def HasTys : List Ty → List V → Prop
  | [], vs => vs = []
  | t :: ts, vs => ∃ a b, vs = a ++ b ∧ HasTy t a ∧ HasTys ts b
termination_by structural l => l
end

/-- A heap of blocks that are only read, and what stands for them in the world. -/
structure InOk (ι : Inj) (hp : Heap) (w : World) : Prop where
  ro : ∀ (b : Nat) (k : Blk), hp[b]? = some k → k.md = .ro ∧ k.fam = b
  dom : ∀ b x, ι b = some x → b < hp.length
  ok : ∀ b x k, ι b = some x → hp[b]? = some k → BlkR ι x k w w.heap.size ∧ k.sz = x.sz

theorem InOk.rel {ι : Inj} {hp : Heap} {w : World} (h : InOk ι hp w) : Rel 0 ι hp w w.heap.size where
  glob := fun g hg => by omega
  szs := fun b x k hx hk => (h.ok b x k hx hk).2
  dom := h.dom
  base := Nat.le_refl _
  ok := fun b x k hx hk => (h.ok b x k hx (blkAt_some hk).1).1
  sep := fun b x k b' x' k' hx hk hm => by
    have := (h.ro b k (blkAt_some hk).1).1
    rw [this] at hm; cases hm

theorem InOk.hw {ι : Inj} {hp : Heap} {w : World} (h : InOk ι hp w) : HW ⟨hp, [], []⟩ where
  obj := fun b hb => by cases hb
  one := fun b hb => by cases hb
  fam := fun c k hk => by
    rw [(h.ro c k hk).2]; exact (List.getElem?_eq_some_iff.1 hk).1
  fbl := fun b hb => by cases hb
  sub := fun b hb => by cases hb
  nd := List.nodup_nil

theorem InOk.noRw {ι : Inj} {hp : Heap} {w : World} (h : InOk ι hp w) : ∀ b k, blkAt hp b = some k → k.md ≠ .rw := fun b k hk e => by
  rw [(h.ro b k (blkAt_some hk).1).1] at e; cases e

theorem InOk.nil (w : World) : InOk (fun _ => none) [] w where
  ro := fun b k h => by simp at h
  dom := fun b x h => by cases h
  ok := fun b x k h => by cases h

theorem BlkR.sub {ι ι' : Inj} (hs : Sub ι ι') {x : Img} {k : Blk} {w : World} {B : Nat} (h : BlkR ι x k w B) : BlkR ι' x k w B := by
  obtain ⟨cs, el, fr, h1, h2, h3, h4, h5⟩ := h
  exact ⟨cs, el, fr, h1, h2, h3, h4.mono hs, h5⟩

/-- One more block. -/
theorem InOk.push {ι : Inj} {hp : Heap} {w : World} (h : InOk ι hp w) {x : Img} {cells : List Value} {sz : Nat} (hb : BlkR ι x ⟨cells, sz, .ro, hp.length⟩ w w.heap.size) (hsz : sz = x.sz) :
    ∃ ι', InOk ι' (hp ++ [⟨cells, sz, .ro, hp.length⟩]) w ∧ Sub ι ι' ∧ ι' hp.length = some x := by
  have hsub : Sub ι (fun b => if b = hp.length then some x else ι b) := fun b y hy => by
    have := h.dom b y hy
    show (if b = hp.length then some x else ι b) = some y
    rw [if_neg (by omega)]; exact hy
  refine ⟨fun b => if b = hp.length then some x else ι b, ⟨fun b k hk => ?_, fun b y hy => ?_, fun b y k hy hk => ?_⟩, hsub, by simp⟩
  · rcases get_push hk with ⟨_, hk⟩ | ⟨rfl, rfl⟩
    · exact h.ro b k hk
    · exact ⟨rfl, rfl⟩
  · have hy' : (if b = hp.length then some x else ι b) = some y := hy
    simp only [List.length_append, List.length_cons, List.length_nil]
    split at hy'
    · omega
    · have := h.dom b y hy'; omega
  · have hy' : (if b = hp.length then some x else ι b) = some y := hy
    rcases get_push hk with ⟨hl, hk⟩ | ⟨rfl, rfl⟩
    · rw [if_neg (by omega)] at hy'
      obtain ⟨a, b'⟩ := h.ok b y k hy' hk
      exact ⟨a.sub hsub, b'⟩
    · rw [if_pos rfl] at hy'
      cases hy'
      exact ⟨hb.sub hsub, hsz⟩

theorem VRs.len' {ι : Inj} {xs ys : List Value} (h : VRs ι xs ys) : xs.length = ys.length := by
  induction h with
  | nil => rfl
  | cons _ _ ih => simp [ih]

theorem VRs.get' {ι : Inj} {xs ys : List Value} (h : VRs ι xs ys) : ∀ (i : Nat) (x : Value), xs[i]? = some x → ∃ y, ys[i]? = some y ∧ VR ι x y := by
  induction h with
  | nil => intro i x h; simp at h
  | cons h1 _ ih =>
    intro i z hz
    cases i with
    | zero => simp at hz; subst hz; exact ⟨_, by simp, h1⟩
    | succ i => simp at hz; simpa using ih i z hz

theorem ext_new (hp new : Heap) : Ext ⟨hp, [], []⟩ ⟨hp ++ new, [], []⟩ (fun _ => True) := by
  refine ⟨fun b kb hb hn => ⟨kb, ?_, by simp, by simp, rfl, rfl, fun _ => rfl⟩, fun k b h => h, fun k b kb h => by simp at h⟩
  show blkAt (hp ++ new) b = _
  have hb' : blkAt hp b = some kb := hb
  rw [blkAt_append _ (blkAt_some hb').2.2]; exact hb'

theorem RVs.push {hp new : Heap} {vs : List V} {xs : List Value} (h : RVs ⟨hp, [], []⟩ vs xs (fun _ => 0)) : RVs ⟨hp ++ new, [], []⟩ vs xs (fun _ => 0) :=
  RVs.mono (ext_new hp new) vs h (fun _ _ => trivial)

theorem RVss.push {hp new : Heap} {vs : List (List V)} {xs : List Value} {sz : Nat} (h : RVss ⟨hp, [], []⟩ vs xs sz (fun _ => 0)) : RVss ⟨hp ++ new, [], []⟩ vs xs sz (fun _ => 0) :=
  RVss.mono (ext_new hp new) vs h (fun _ _ => trivial)

mutual
theorem HasTy.len : ∀ (τ : Ty) {vs : List V}, HasTy τ vs → vs.length = tySz τ
  | .bool, vs, h => by simp only [HasTy] at h; obtain ⟨_, rfl⟩ := h; rfl
  | .int k, vs, h => by simp only [HasTy] at h; obtain ⟨_, rfl, _⟩ := h; rfl
  | .str, vs, h => by simp only [HasTy] at h; obtain ⟨_, rfl, _⟩ := h; rfl
  | .sl e, vs, h => by simp only [HasTy] at h; obtain ⟨_, rfl, _⟩ := h; rfl
  | .st fs, vs, h => by simp only [HasTy] at h; simp only [tySz]; exact HasTys.len fs h
theorem HasTys.len : ∀ (τ : List Ty) {vs : List V}, HasTys τ vs → vs.length = tySzs τ
  | [], vs, h => by simp only [HasTys] at h; rw [h]; rfl
  | t :: ts, vs, h => by
    simp only [HasTys] at h
    obtain ⟨a, b, rfl, h1, h2⟩ := h
    simp only [List.length_append, tySzs, HasTy.len t h1, HasTys.len ts h2]
end

section
variable {H : Type} {enc : TypeId × Value → H} {P : Program} {w : World}

/-- A place that is read lies in a block of cells, at no byte within a cell. -/
theorem cell_block {a : Addr} {v : Value} (h : w.cell? a = some v) : ∃ cs el fr, w.heap[a.block]? = some (.cells cs el fr) ∧ a.spot = none ∧ cs[a.off]? = some v := by
  unfold World.cell? at h
  split at h
  · rename_i c el fr hc
    split at h
    · cases h
    · rename_i hs
      refine ⟨c, el, fr, hc, ?_, h⟩
      cases e : a.spot with
      | none => rfl
      | some _ => rw [e] at hs; simp at hs
  · cases h

theorem add_block (a : Addr) (n : Nat) : (a.add n).block = a.block := by unfold Addr.add; split <;> rfl
theorem add_off (a : Addr) (n : Nat) : (a.add n).off = a.off + n := by
  unfold Addr.add; split
  · rename_i h; subst h; simp
  · rfl
theorem add_add (a : Addr) (m n : Nat) : (a.add m).add n = a.add (m + n) ∨ (a.add m).add n = a.add (m + n) := by
  left
  unfold Addr.add
  by_cases hm : m = 0
  · subst hm; simp
  · by_cases hn : n = 0
    · subst hn; simp
    · simp only [hm, hn, if_false, Nat.add_eq_zero_iff, and_self, Nat.add_assoc]

mutual
theorem conv : ∀ (τ : Ty) {t : TypeId} {n : Nat} {cs : List Value} {x : DataW H × List MemPlace} {hp : Heap} {ι : Inj}, tyIs P τ t = true → DataW.trod enc P w 0 (fun _ => true) true n t cs = some x → InOk ι hp w →
    ∃ new ι' xs vs, InOk ι' (hp ++ new) w ∧ Sub ι ι' ∧ VRs ι' xs cs ∧ (∀ u ∈ xs, u.oneCell' = true) ∧ RVs ⟨hp ++ new, [], []⟩ vs xs (fun _ => 0) ∧ HasTy τ vs
  | .bool, t, n, cs, x, hp, ι, ht, h, hi => by
    simp only [tyIs] at ht
    split at ht
    · rename_i hu
      obtain ⟨b, rfl, rfl⟩ := DataW.trod_bool hu h
      exact ⟨[], ι, [.bool b], [.bool b], by simpa using hi, Sub.refl ι, .cons (.bool b) .nil, by simp [Value.oneCell'], RVs.one (by simp [RV]), by simp [HasTy]⟩
    · cases ht
  | .int k, t, n, cs, x, hp, ι, ht, h, hi => by
    simp only [tyIs] at ht
    split at ht
    · rename_i k' hu
      have := of_decide_eq_true ht
      subst this
      obtain ⟨b, rfl, rfl, hw⟩ := DataW.trod_int hu h
      exact ⟨[], ι, [.int k' b], [.int k' b], by simpa using hi, Sub.refl ι, .cons (.int k' b) .nil, by simp [Value.oneCell'], RVs.one (by simp [RV]), by simp only [HasTy]; exact ⟨b, rfl, hw⟩⟩
    · cases ht
  | .str, t, n, cs, x, hp, ι, ht, h, hi => by
    simp only [tyIs] at ht
    split at ht
    · rename_i hu
      obtain ⟨b, rfl, rfl, hw⟩ := DataW.trod_string hu h
      exact ⟨[], ι, [.string b], [.str b.data.toList], by simpa using hi, Sub.refl ι, .cons (.str b) .nil, by simp [Value.oneCell'], RVs.one (by simp [RV]), by simp only [HasTy]; exact ⟨_, rfl, by have e : b.data.toList.length = b.size := rfl; rw [e]; exact hw⟩⟩
    · cases ht
  | .sl e, t, n, cs, x, hp, ι, ht, h, hi => by
    simp only [tyIs] at ht
    split at ht
    · rename_i e' hu
      simp only [Bool.and_eq_true, decide_eq_true_eq] at ht
      obtain ⟨⟨hte, hsz⟩, hpos⟩ := ht
      rcases DataW.trod_slice hu h with ⟨rfl, rfl⟩ | ⟨a, len, cap, elems, rest, m, rfl, rfl, rfl, _, hlc, hcap, hel, hget, hsp, _⟩
      · refine ⟨[], ι, [.slice none 0 0], [.sl false []], by simpa using hi, Sub.refl ι, .cons .nils .nil, by simp [Value.oneCell'], RVs.one (by simp only [RV]; exact .inl ⟨trivial, ⟨none, 0, rfl, by simp⟩, by simp⟩), ?_⟩
        simp only [HasTy]
        exact ⟨[], rfl, by simp, by simp⟩
      · by_cases h0 : len = 0
        · subst h0
          refine ⟨[], ι, [.slice (some ⟨0, 0, none⟩) 0 1], [.sl false []], by simpa using hi, Sub.refl ι, .cons (.slz _ _ _ _ (by omega)) .nil, by simp [Value.oneCell'], RVs.one (by simp only [RV]; exact .inl ⟨trivial, ⟨_, 1, rfl, by simp⟩, by simp⟩), ?_⟩
          simp only [HasTy]
          exact ⟨[], rfl, by simp, by simp⟩
        · -- the elements, one after the other
          have elem : ∀ (j : Nat) {hp : Heap} {ι : Inj}, j ≤ len → InOk ι hp w → ∃ new ι' xs vs, InOk ι' (hp ++ new) w ∧ Sub ι ι' ∧ xs.length = j * tySz e ∧ (∀ (i : Nat) (v : Value), xs[i]? = some v → v.oneCell' = true ∧ ∃ v', w.cell? (a.add i) = some v' ∧ VR ι' v v') ∧
              RVss ⟨hp ++ new, [], []⟩ vs xs (tySz e) (fun _ => 0) ∧ vs.length = j ∧ ∀ y ∈ vs, HasTy e y := by
            intro j
            induction j with
            | zero => intro hp ι _ hi; exact ⟨[], ι, [], [], by simpa using hi, Sub.refl ι, by simp, by simp, by simp [RVss], rfl, by simp⟩
            | succ j ih =>
              intro hp ι hj hi
              obtain ⟨new1, ι1, xs1, vs1, i1, s1, l1, r1, q1, n1, t1⟩ := ih (by omega) hi
              have hg := hget j (by omega)
              have hej : ∃ y, elems[j]? = some y := ⟨elems[j]'(by omega), List.getElem?_eq_getElem (by omega)⟩
              obtain ⟨y, hy⟩ := hej
              rw [hy, Option.bind_eq_some_iff] at hg
              obtain ⟨ecs, hec, hey⟩ := hg
              obtain ⟨new2, ι2, xs2, vs2, i2, s2, r2, o2, q2, t2⟩ := conv e hte hey i1
              obtain ⟨_, hlen2, hcell⟩ := World.cells?_some hec
              have hx2 : xs2.length = tySz e := by rw [r2.len', hlen2, hsz]
              refine ⟨new1 ++ new2, ι2, xs1 ++ xs2, vs1 ++ [vs2], by rw [← List.append_assoc]; exact i2, s1.trans s2, by simp [l1, hx2, Nat.succ_mul], fun i v hv => ?_, ?_, by simp [n1], fun z hz => ?_⟩
              · by_cases hlt : i < xs1.length
                · rw [List.getElem?_append_left hlt] at hv
                  obtain ⟨g1, v', g2, g3⟩ := r1 i v hv
                  exact ⟨g1, v', g2, g3.mono s2⟩
                · rw [List.getElem?_append_right (by omega)] at hv
                  obtain ⟨v', g2, g3⟩ := r2.get' _ _ hv
                  refine ⟨o2 v (List.mem_of_getElem? hv), v', ?_, g3⟩
                  have hi2 : i - xs1.length < P.cellsOf e' := by
                    have := (List.getElem?_eq_some_iff.1 g2).1; omega
                  have := hcell (i - xs1.length) hi2
                  rw [g2] at this
                  rw [← this]
                  have e1 : (a.add (j * P.cellsOf e')).add (i - xs1.length) = a.add (j * P.cellsOf e' + (i - xs1.length)) := (add_add a _ _).elim id id
                  have e2 : j * P.cellsOf e' + (i - xs1.length) = i := by rw [hsz, ← l1]; omega
                  rw [e1, e2]
              · rw [← List.append_assoc]
                refine (RVss.app (RVss.push q1) (b := fun _ => 0) ?_).congr (by simp)
                simp only [RVss]
                exact ⟨xs2, [], fun _ => 0, fun _ => 0, by simp, HasTy.len e t2, q2, ⟨rfl, by simp⟩, by simp⟩
              · rcases List.mem_append.1 hz with hz | hz
                · exact t1 z hz
                · simp at hz; subst hz; exact t2
          obtain ⟨new, ι1, xs, vs, i1, s1, l1, r1, q1, n1, t1⟩ := elem len (Nat.le_refl _) hi
          -- the block in the world
          have hxl : 0 < xs.length := by rw [l1]; exact Nat.mul_pos (by omega) hpos
          obtain ⟨_, v0, hv0, _⟩ := r1 0 xs[0] (List.getElem?_eq_getElem hxl)
          have ha0 : a.add 0 = a := by simp [Addr.add]
          rw [ha0] at hv0
          obtain ⟨c, el, fr, hc, hspot, _⟩ := cell_block hv0
          have inb : ∀ i v, w.cell? (a.add i) = some v → a.off + i < c.size ∧ c[a.off + i]? = some v := fun i v hv => by
            obtain ⟨c', el', fr', hc', _, hx⟩ := cell_block hv
            rw [add_block] at hc'
            rw [hc] at hc'
            cases hc'
            rw [add_off] at hx
            exact ⟨(Array.getElem?_eq_some_iff.1 hx).1, hx⟩
          have hroom : a.off + cap * tySz e ≤ c.size := by
            -- the last element up to the capacity
            have hlast : ∃ ecs, w.cells? 0 (a.add ((cap - 1) * P.cellsOf e')) (P.cellsOf e') = some ecs := by
              by_cases hcl : cap = len
              · have hg := hget (cap - 1) (by omega)
                have : ∃ y, elems[cap - 1]? = some y := ⟨elems[cap - 1]'(by omega), List.getElem?_eq_getElem (by omega)⟩
                obtain ⟨y, hy⟩ := this
                rw [hy, Option.bind_eq_some_iff] at hg
                exact ⟨_, hg.choose_spec.1⟩
              · obtain ⟨hrl, hr⟩ := hsp rfl
                have hg := hr (cap - 1 - len) (by omega)
                have : ∃ y, rest[cap - 1 - len]? = some y := ⟨rest[cap - 1 - len]'(by omega), List.getElem?_eq_getElem (by omega)⟩
                obtain ⟨y, hy⟩ := this
                rw [show len + (cap - 1 - len) = cap - 1 by omega, hy, Option.bind_eq_some_iff] at hg
                exact ⟨_, hg.choose_spec.1⟩
            obtain ⟨ecs, hec⟩ := hlast
            obtain ⟨_, hl2, hcell⟩ := World.cells?_some hec
            rw [hsz] at *
            have hlt : tySz e - 1 < ecs.length := by omega
            have := hcell (tySz e - 1) (by omega)
            rw [List.getElem?_eq_getElem hlt, (add_add a _ _).elim id id] at this
            have := (inb _ _ this).1
            have hm : (cap - 1) * tySz e + tySz e = cap * tySz e := by
              rw [← Nat.succ_mul]; congr 1; omega
            omega
          have hblk : BlkR ι1 ⟨a.block, a.off, c.size - a.off, tySz e⟩ ⟨xs, tySz e, .ro, (hp ++ new).length⟩ w w.heap.size := by
            refine ⟨c, el, fr, hc, by simp only; omega, ?_, fun i v hv => ?_, fun h => by cases h⟩
            · simp only; rw [l1]
              have := Nat.mul_le_mul_right (tySz e) hlc
              omega
            · obtain ⟨g1, v', g2, g3⟩ := r1 i v hv
              exact ⟨g1, v', (inb i v' g2).2, g3⟩
          obtain ⟨ι2, i2, s2, hat⟩ := i1.push hblk rfl
          refine ⟨new ++ [⟨xs, tySz e, .ro, (hp ++ new).length⟩], ι2, [.slice (some ⟨(hp ++ new).length, 0, none⟩) len (len + 1)], [.sl false vs], by rw [← List.append_assoc]; exact i2, s1.trans s2, ?_, by simp [Value.oneCell'], ?_, ?_⟩
          · refine .cons ?_ .nil
            have := VR.slc (ι := ι2) (o := 0) (n := len) (c := len + 1) (c' := cap) hat (by omega) hlc (by omega) (by simp only; omega)
            have ea : (⟨a.block, a.off + 0, none⟩ : Addr) = a := by
              obtain ⟨b, o, s⟩ := a
              simp only at hspot
              subst hspot; rfl
            simp only at this
            rw [ea] at this; exact this
          · refine RVs.one ?_
            rw [← List.append_assoc]
            have hne : vs ≠ [] := fun e => by rw [e] at n1; simp at n1; omega
            simp only [RV]
            refine .inr ⟨hne, (hp ++ new).length, 0, ⟨xs, tySz e, .ro, (hp ++ new).length⟩, xs, len + 1, fun _ => 0, newBlkV (by simp), by simp, by simp, by rw [n1], hpos, ?_, RVss.push q1, .inl ⟨trivial, by simp, by simp⟩⟩
            show gcut xs 0 (vs.length * tySz e) = some xs
            rw [gcut_mk (by rw [n1, l1]; omega), List.drop_zero, List.take_of_length_le (by rw [n1, l1]; omega)]
          · simp only [HasTy]
            exact ⟨vs, rfl, by rw [n1]; omega, t1⟩
    · cases ht
  | .st fs, t, n, cs, x, hp, ι, ht, h, hi => by
    simp only [tyIs] at ht
    split at ht
    · rename_i fields hu
      simp only [Bool.and_eq_true, decide_eq_true_eq] at ht
      obtain ⟨ht1, ht2⟩ := ht
      obtain ⟨xs, m, rfl, rfl, hlen, hxl, hget⟩ := DataW.trod_struct hu h
      obtain ⟨new, ι', ys, vs, g1, g2, g3, g4, g5, g6⟩ := convs fs (fields := fields.toList) (off := 0) (cs := cs) (m := m) ht1 (by rw [hlen, ht2]; omega) (fun i f hf => by
        have := hget i f (by simpa using hf)
        have hi : i < xs.length := by rw [hxl]; have := (List.getElem?_eq_some_iff.1 hf).1; simpa using this
        exact ⟨xs[i], by rw [this, List.getElem?_eq_getElem hi]⟩) hi
      refine ⟨new, ι', ys, vs, g1, g2, ?_, g4, g5, by simp only [HasTy]; exact g6⟩
      have : (cs.drop 0).take (tySzs fs) = cs := by rw [List.drop_zero, List.take_of_length_le (by omega)]
      rw [this] at g3; exact g3
    · cases ht
theorem convs : ∀ (fs : List Ty) {fields : List Field} {off m : Nat} {cs : List Value} {hp : Heap} {ι : Inj}, tysIs P fs fields off = true → off + tySzs fs ≤ cs.length →
    (∀ (i : Nat) (f : Field), fields[i]? = some f → ∃ y, DataW.trod enc P w 0 (fun _ => true) true m f.type ((cs.drop f.offset).take (P.cellsOf f.type)) = some y) → InOk ι hp w →
    ∃ new ι' xs vs, InOk ι' (hp ++ new) w ∧ Sub ι ι' ∧ VRs ι' xs ((cs.drop off).take (tySzs fs)) ∧ (∀ u ∈ xs, u.oneCell' = true) ∧ RVs ⟨hp ++ new, [], []⟩ vs xs (fun _ => 0) ∧ HasTys fs vs
  | [], fields, off, m, cs, hp, ι, ht, hl, hg, hi => ⟨[], ι, [], [], by simpa using hi, Sub.refl ι, by simp [tySzs]; exact .nil, by simp, by simp [RVs], by simp [HasTys]⟩
  | t :: ts, fields, off, m, cs, hp, ι, ht, hl, hg, hi => by
    cases fields with
    | nil => simp only [tysIs] at ht; cases ht
    | cons f fields =>
      simp only [tysIs, Bool.and_eq_true, decide_eq_true_eq] at ht
      obtain ⟨⟨⟨h1, h2⟩, h3⟩, h4⟩ := ht
      simp only [tySzs] at hl
      obtain ⟨y, hy⟩ := hg 0 f (by simp)
      rw [h2, h3] at hy
      obtain ⟨new1, ι1, xs1, vs1, i1, s1, r1, o1, q1, t1⟩ := conv t h1 hy hi
      obtain ⟨new2, ι2, xs2, vs2, i2, s2, r2, o2, q2, t2⟩ := convs ts (fields := fields) (off := off + tySz t) (cs := cs) (m := m) h4 (by omega) (fun i g hgi => hg (i + 1) g (by simpa using hgi)) i1
      refine ⟨new1 ++ new2, ι2, xs1 ++ xs2, vs1 ++ vs2, by rw [← List.append_assoc]; exact i2, s1.trans s2, ?_, fun u hu => ?_, ?_, by simp only [HasTys]; exact ⟨vs1, vs2, rfl, t1, t2⟩⟩
      · have e : (cs.drop off).take (tySzs (t :: ts)) = (cs.drop off).take (tySz t) ++ (cs.drop (off + tySz t)).take (tySzs ts) := by
          simp only [tySzs]
          rw [← List.drop_drop, List.take_add]
        rw [e]
        exact (r1.mono s2).append r2
      · rcases List.mem_append.1 hu with hu | hu
        · exact o1 u hu
        · exact o2 u hu
      · rw [← List.append_assoc]
        exact ((RVs.push q1).app q2).congr (by simp)
end
end

end Go.AM

/- Arguments: each as a value of the machines. -/
namespace Go.AM
open Go.WideShapes
set_option linter.unusedSimpArgs false
set_option linter.unusedVariables false

/-- An argument of this kind. -/
def HasArg : Ty → V → Prop
  | .st fs, u => ∃ vs, u = .agg vs ∧ HasTys fs vs
  | τ, u => HasTy τ [u]

theorem arg_in {H : Type} {enc : TypeId × Value → H} {P : Program} {w : World} {τ : Ty} {t : TypeId} {v : Value} {d : DataW H} {ps : List MemPlace} {base : Nat} {r : Reach} {hp : Heap} {ι : Inj} (ht : tyIs P τ t = true)
    (h : DataW.Trod enc P w 0 (fun _ => true) true t v d ps) (hv : Value.okWide P w r base t v) (hi : InOk ι hp w) :
    ∃ new ι' x u, InOk ι' (hp ++ new) w ∧ Sub ι ι' ∧ VR ι' x v ∧ RV ⟨hp ++ new, [], []⟩ u x (fun _ => 0) ∧ HasArg τ u := by
  obtain ⟨fuel, hf⟩ := h
  obtain ⟨new, ι', xs, vs, h1, h2, h3, h4, h5, h6⟩ := conv τ ht hf hi
  have single : ∀ {c : Value}, v.cells.toList = [c] → c = v → (∀ u, HasTy τ [u] → HasArg τ u) → ∃ new ι' x u, InOk ι' (hp ++ new) w ∧ Sub ι ι' ∧ VR ι' x v ∧ RV ⟨hp ++ new, [], []⟩ u x (fun _ => 0) ∧ HasArg τ u := by
    intro c hc hcv hA
    rw [hc] at h3
    cases h3 with
    | cons g1 g2 =>
      cases g2
      rename_i x
      match vs, h5 with
      | [u], h5 =>
        simp only [RVs] at h5
        obtain ⟨x', ys, c1, c2, e1, k1, ⟨e2, k2⟩, k3⟩ := h5
        cases e1
        exact ⟨new, ι', x, u, h1, h2, by rw [← hcv]; exact g1, k1.congr (fun i => by have := k3 i; omega), hA u h6⟩
      | [], h5 => simp only [RVs] at h5; exact absurd h5.1 (by simp)
      | u :: u2 :: l, h5 =>
        simp only [RVs] at h5
        obtain ⟨x', ys, c1, c2, e1, k1, ⟨x2, ys2, d1, d2, e2, _⟩, k3⟩ := h5
        cases e1; cases e2
  cases τ with
  | bool =>
    simp only [tyIs] at ht
    split at ht
    · rename_i hu
      obtain ⟨b, rfl⟩ := okWide_bool hu hv
      exact single rfl rfl (fun _ h => h)
    · cases ht
  | int k =>
    simp only [tyIs] at ht
    split at ht
    · rename_i hu
      obtain ⟨b, rfl⟩ := okWide_int hu hv
      exact single rfl rfl (fun _ h => h)
    · cases ht
  | str =>
    simp only [tyIs] at ht
    split at ht
    · rename_i hu
      obtain ⟨b, rfl⟩ := okWide_string hu hv
      exact single rfl rfl (fun _ h => h)
    · cases ht
  | sl e =>
    simp only [tyIs] at ht
    split at ht
    · rename_i hu
      obtain ⟨a, l, c, rfl⟩ := okWide_slice hu hv
      exact single rfl rfl (fun _ h => h)
    · cases ht
  | st fs =>
    simp only [tyIs] at ht
    split at ht
    · rename_i hu
      obtain ⟨⟨cs⟩, rfl, hsz⟩ := okWide_struct hu hv
      have h3' : VRs ι' xs cs := h3
      refine ⟨new, ι', .agg ⟨xs⟩, .agg vs, h1, h2, ?_, ?_, ?_⟩
      · refine .agg (by simp [h3'.len']) (fun i a b ha hb => ?_) (fun i a ha => h4 a (List.mem_of_getElem? (by simpa using ha)))
        obtain ⟨y, g1, g2⟩ := h3'.get' i a (by simpa using ha)
        have : cs[i]? = some b := by simpa using hb
        rw [this] at g1; cases g1; exact g2
      · simp only [RV]; exact ⟨xs, rfl, h5⟩
      · simp only [HasTy] at h6; exact ⟨vs, rfl, h6⟩
    · cases ht

/-- An argument that is a row of bytes. -/
theorem arg_bytes {u : V} (h : HasArg (.sl (.int .u8)) u) : ∃ xs : List UInt8, u = .sl false (vB xs) ∧ xs.length ≤ maxLen := by
  simp only [HasArg, HasTy] at h
  obtain ⟨ys, h1, h2, h3⟩ := h
  cases h1
  have : ∀ {l : List (List V)}, (∀ x ∈ l, ∃ n, x = [.int .u8 n] ∧ (Lit.int .u8 n).wf = true) → ∃ xs : List UInt8, l = vB xs := by
    intro l
    induction l with
    | nil => intro _; exact ⟨[], rfl⟩
    | cons a l ih =>
      intro hl
      obtain ⟨n, rfl, hn⟩ := hl a (by simp)
      obtain ⟨xs, rfl⟩ := ih (fun x hx => hl x (by simp [hx]))
      have hn' : 0 ≤ n ∧ n ≤ 255 := by
        simp [Lit.wf, IntKind.min, IntKind.max, IntKind.signed, IntKind.bits] at hn
        omega
      refine ⟨UInt8.ofNat n.toNat :: xs, ?_⟩
      simp only [vB, List.map_cons]
      congr 2
      have e : (UInt8.ofNat n.toNat).toNat = n.toNat := by rw [UInt8.toNat_ofNat']; omega
      rw [e, Int.toNat_of_nonneg hn'.1]
  obtain ⟨xs, rfl⟩ := this h3
  exact ⟨xs, rfl, by rw [vB_len] at h2; exact h2⟩

theorem RV.more {hp new : Heap} {u : V} {x : Value} (h : RV ⟨hp, [], []⟩ u x (fun _ => 0)) : RV ⟨hp ++ new, [], []⟩ u x (fun _ => 0) :=
  RV.mono (ext_new hp new) u h (fun _ _ => trivial)

end Go.AM

/- Rows of values of a kind; mails, sessions, mailboxes as values. -/
namespace Go.AM
set_option linter.unusedSimpArgs false
set_option linter.unusedVariables false

abbrev Bs := List UInt8

/-- How values of a kind lie in cells. -/
structure Ec (α : Type) where
  e : α → List V
  n : Nat
  len : ∀ a, (e a).length = n
  st : ∀ a, stripL (e a) = e a
  np : ∀ a, noPtrL (e a) = true
  dt : ∀ a, dataL (e a) = true

/-- A row of them. -/
def vR {α : Type} (E : Ec α) (l : List α) : List (List V) := l.map E.e

section
variable {α : Type} (E : Ec α) (l m : List α)
theorem vR_len : (vR E l).length = l.length := by simp [vR]
theorem vR_strip : stripLL (vR E l) = vR E l := by
  induction l with
  | nil => rfl
  | cons a l ih => simp only [vR, List.map_cons, stripLL, E.st] at ih ⊢; rw [ih]
theorem vR_np : noPtrLL (vR E l) = true := by
  induction l with
  | nil => rfl
  | cons a l ih => simp only [vR, List.map_cons, noPtrLL, E.np, Bool.true_and] at ih ⊢; exact ih
theorem vR_data : dataLL (vR E l) = true := by
  induction l with
  | nil => rfl
  | cons a l ih => simp only [vR, List.map_cons, dataLL, E.dt, Bool.true_and] at ih ⊢; exact ih
theorem vR_esz : eszOk E.n (vR E l) = true := by simp [eszOk, vR, E.len]
theorem vR_app : vR E l ++ vR E m = vR E (l ++ m) := by simp [vR]
theorem vR_nil : vR E [] = [] := rfl
theorem vR_get (i : Nat) (h : i < l.length) : (vR E l)[i]? = some (E.e l[i]) := by simp [vR, List.getElem?_eq_getElem h]
theorem vR_idx (o : Bool) (k : IntKind) (i : Nat) (h : i < l.length) : vIdxV E.n (.sl o (vR E l)) (.int k (i : Int)) = some (.elt (E.e l[i]) 0) := by
  rw [v_idx E.n o (vR E l) k i _ (vR_get E l i h) (E.len _), E.st]
end

def eT : Ec Bs := ⟨fun s => [.str s], 1, fun _ => rfl, fun _ => rfl, fun _ => rfl, fun _ => rfl⟩
theorem vR_T (l : List Bs) : vR eT l = vT l := rfl

structure Mail where
  from_ : Bs
  to : List Bs
  lines : List Bs
  deriving DecidableEq

structure Session where
  state : Int
  host : Bs
  draft : Mail
  done : List Mail
  deriving DecidableEq

structure Box where
  path : Bs
  mails : List Mail
  deriving DecidableEq

/-- A mail's cells. -/
def cM (m : Mail) : List V := [.str m.from_, .sl false (vT m.to), .sl false (vT m.lines)]
def eM : Ec Mail where
  e := cM
  n := 3
  len := fun _ => rfl
  st := fun m => by simp only [cM, stripL, strip, vT_strip]
  np := fun m => by simp only [cM, noPtrL, noPtr, vT_np, Bool.and_self]
  dt := fun m => by simp only [cM, dataL, data, vT_data, Bool.and_self]
def cS (s : Session) : List V := [.int .i64 s.state, .str s.host, .str s.draft.from_, .sl false (vT s.draft.to), .sl false (vT s.draft.lines), .sl false (vR eM s.done)]
def eS : Ec Session where
  e := cS
  n := 6
  len := fun _ => rfl
  st := fun m => by simp only [cS, stripL, strip, vT_strip, vR_strip]
  np := fun m => by simp only [cS, noPtrL, noPtr, vT_np, vR_np, Bool.and_self]
  dt := fun m => by simp only [cS, dataL, data, vT_data, vR_data, Bool.and_self]
def cX (b : Box) : List V := [.str b.path, .sl false (vR eM b.mails)]
def eX : Ec Box where
  e := cX
  n := 2
  len := fun _ => rfl
  st := fun m => by simp only [cX, stripL, strip, vR_strip]
  np := fun m => by simp only [cX, noPtrL, noPtr, vR_np, Bool.and_self]
  dt := fun m => by simp only [cX, dataL, data, vR_data, Bool.and_self]

/-! ### Words of structs -/
theorem ag_2 (a b : V) : aggNV 2 (.agg [a, b]) = some [a, b] := by exact id rfl
theorem ag_3 (a b c : V) : aggNV 3 (.agg [a, b, c]) = some [a, b, c] := by exact id rfl
theorem ag_6 (a b c d e f : V) : aggNV 6 (.agg [a, b, c, d, e, f]) = some [a, b, c, d, e, f] := by exact id rfl
theorem ag_7 (a b c d e f g : V) : aggNV 7 (.agg [a, b, c, d, e, f, g]) = some [a, b, c, d, e, f, g] := by exact id rfl
theorem le_2 (g : Nat → Option (List V)) (t : Bool) (a b : V) (H : VH) : ldO g t true 2 (.elt [a, b] 0) H = some (.agg [a, b], H) := by exact id rfl
theorem le_3 (g : Nat → Option (List V)) (t : Bool) (a b c : V) (H : VH) : ldO g t true 3 (.elt [a, b, c] 0) H = some (.agg [a, b, c], H) := by exact id rfl
theorem le_6 (g : Nat → Option (List V)) (t : Bool) (a b c d e f : V) (H : VH) : ldO g t true 6 (.elt [a, b, c, d, e, f] 0) H = some (.agg [a, b, c, d, e, f], H) := by exact id rfl
theorem le_at0 (g : Nat → Option (List V)) (t : Bool) (n : Nat) (a : V) (l : List V) (H : VH) : ldO g t false n (.elt (a :: l) 0) H = some (a, H) := by exact id rfl
theorem le_at1 (g : Nat → Option (List V)) (t : Bool) (n : Nat) (a b : V) (l : List V) (H : VH) : ldO g t false n (.elt (a :: b :: l) 1) H = some (b, H) := by exact id rfl
theorem le_at2 (g : Nat → Option (List V)) (t : Bool) (n : Nat) (a b c : V) (l : List V) (H : VH) : ldO g t false n (.elt (a :: b :: c :: l) 2) H = some (c, H) := by exact id rfl
theorem em_e (m : Mail) : eM.e m = [.str m.from_, .sl false (vT m.to), .sl false (vT m.lines)] := by exact id rfl
theorem es_e (s : Session) : eS.e s = [.int .i64 s.state, .str s.host, .str s.draft.from_, .sl false (vT s.draft.to), .sl false (vT s.draft.lines), .sl false (vR eM s.done)] := by exact id rfl
theorem ex_e (b : Box) : eX.e b = [.str b.path, .sl false (vR eM b.mails)] := by exact id rfl
theorem cM_e (m : Mail) : cM m = [.str m.from_, .sl false (vT m.to), .sl false (vT m.lines)] := by exact id rfl
theorem cS_e (s : Session) : cS s = [.int .i64 s.state, .str s.host, .str s.draft.from_, .sl false (vT s.draft.to), .sl false (vT s.draft.lines), .sl false (vR eM s.done)] := by exact id rfl
theorem cX_e (b : Box) : cX b = [.str b.path, .sl false (vR eM b.mails)] := by exact id rfl
theorem em_n : eM.n = 3 := by exact id rfl
theorem es_n : eS.n = 6 := by exact id rfl
theorem ex_n : eX.n = 2 := by exact id rfl
theorem vR_esz3 (l : List Mail) : eszOk 3 (vR eM l) = true := vR_esz eM l
theorem vR_esz2 (l : List Box) : eszOk 2 (vR eX l) = true := vR_esz eX l
theorem vM_idx (o : Bool) (l : List Mail) (k : IntKind) (i : Nat) (h : i < l.length) : vIdxV 3 (.sl o (vR eM l)) (.int k (i : Int)) = some (.elt (eM.e l[i]) 0) := vR_idx eM l o k i h
theorem vX_idx (o : Bool) (l : List Box) (k : IntKind) (i : Nat) (h : i < l.length) : vIdxV 2 (.sl o (vR eX l)) (.int k (i : Int)) = some (.elt (eX.e l[i]) 0) := vR_idx eX l o k i h

/-! ### Filling a slice in an object -/

/-- The object's cells when i of the n elements are laid. -/
def fillC {α : Type} (E : Ec α) (l : List α) (z : List V) (i : Nat) : List V := (vR E (l.take i)).flatten ++ repV (l.length - i) z

theorem flat_len {α : Type} (E : Ec α) : ∀ l : List α, (vR E l).flatten.length = l.length * E.n
  | [] => by simp [vR]
  | a :: l => by
    have := flat_len E l
    simp only [vR, List.map_cons, List.flatten_cons, List.length_append, E.len, List.length_cons, Nat.succ_mul] at this ⊢
    omega

theorem fill_step {α : Type} (E : Ec α) {l : List α} {z : List V} (hz : z.length = E.n) {i : Nat} (h : i < l.length) : gseg (fillC E l z i) (i * E.n) (E.e l[i]) = fillC E l z (i + 1) ∧ i * E.n + E.n ≤ (fillC E l z i).length := by
  have h1 : (vR E (l.take i)).flatten.length = i * E.n := by rw [flat_len, List.length_take, Nat.min_eq_left (by omega)]
  obtain ⟨k, hk⟩ : ∃ k, l.length - i = k + 1 := ⟨l.length - i - 1, by omega⟩
  have hk2 : l.length - (i + 1) = k := by omega
  have e1 : fillC E l z i = (vR E (l.take i)).flatten ++ z ++ repV k z := by simp only [fillC, hk, repV, List.append_assoc]
  have e2 : fillC E l z (i + 1) = (vR E (l.take i)).flatten ++ E.e l[i] ++ repV k z := by
    simp only [fillC, hk2]
    rw [List.take_succ_eq_append_getElem h]
    simp only [vR, List.map_append, List.map_cons, List.map_nil, List.flatten_append, List.flatten_cons, List.flatten_nil, List.append_nil]
  constructor
  · rw [e1, e2, ← h1]
    exact gseg_app _ _ _ _ (by rw [hz, E.len])
  · rw [e1]; simp only [List.length_append, h1, hz]; omega

theorem fill_end {α : Type} (E : Ec α) (l : List α) (z : List V) : fillC E l z l.length = (vR E l).flatten := by simp [fillC, repV]

theorem chunk_flat {α : Type} (E : Ec α) : ∀ l : List α, chunkV E.n l.length (vR E l).flatten = vR E l
  | [] => rfl
  | a :: l => by
    have := chunk_flat E l
    simp only [vR, List.map_cons, List.flatten_cons, List.length_cons, chunkV] at this ⊢
    have h := E.len a
    rw [← h, List.take_left, List.drop_left, h, this]

/-- The slice in a filled object, as a row. -/
theorem unobs_fill {α : Type} (E : Ec α) {H : VH} {k : Nat} {l : List α} (h : H[k]? = some (vR E l).flatten) : unobs H (.obs k 0 l.length E.n) = some (.sl false (vR E l)) := by
  simp only [unobs, unobs1, h, Option.bind_some]
  rw [gcut_mk (by rw [flat_len]; omega), List.drop_zero, List.take_of_length_le (by rw [flat_len]; omega)]
  simp only [Option.map_some, chunk_flat, vR_strip]

theorem ob_len (k o n e : Nat) : vLenVV (.obs k o n e) = some (.int .i64 n) := by exact id rfl
theorem ob_idx (k off n e : Nat) (q : IntKind) (i : Nat) (h : i < n) : vIdxV e (.obs k off n e) (.int q (i : Int)) = some (.ptr k (off + i * e)) := by
  have hc : (0 : Int) ≤ (i : Int) ∧ (i : Int) < (n : Int) ∧ e = e := ⟨by omega, by omega, rfl⟩
  simp only [vIdxV]
  rw [if_pos (by simpa using hc)]; simp
theorem st_obs (k o n e : Nat) : strip (.obs k o n e) = .obs k o n e := by exact id rfl
theorem np_obs (k o n e : Nat) : noPtr (.obs k o n e) = false := by exact id rfl
theorem mk_len (b : Nat) (n : Nat) (h : n * b ≤ 140737488355328) (h2 : n ≤ 9223372036854775807) : mkLenV b (.int .i64 (n : Int)) (.int .i64 (n : Int)) = some (n, n) := by
  simp only [mkLenV]
  rw [if_pos ⟨by omega, by omega, by simpa using h, by omega⟩]; simp

theorem so_seg {k off : Nat} {H : VH} {cs c : List V} (h : H[k]? = some cs) (ho : off + c.length ≤ cs.length) : stO (.ptr k off) c H = some (H.set k (gseg cs off c)) := by
  have hb : Nat.ble (off + c.length) cs.length = true := Nat.ble_eq_true_of_le ho
  simp only [stO, h, hb]

/-- One round of a loop that fills. -/
theorem fill_store {α : Type} (E : Ec α) {H : VH} {k : Nat} {l : List α} {z : List V} (hz : z.length = E.n) {i : Nat} (hi : i < l.length) (h : H[k]? = some (fillC E l z i)) : stO (.ptr k (0 + i * E.n)) (E.e l[i]) H = some (H.set k (fillC E l z (i + 1))) := by
  obtain ⟨h1, h2⟩ := fill_step E hz hi
  rw [Nat.zero_add, so_seg h (by rw [E.len]; exact h2), h1]

theorem pc_obs {α : Type} (E : Ec α) {call : CallV} {f : FuncId} {args : List V} {H : VH} {k : Nat} {l : List α} (h : call f args [] = some (.obs k 0 l.length E.n, H)) (h1 : noPtrL args = true) (hk : H[k]? = some (vR E l).flatten) : pcall call f args = some (.sl false (vR E l)) := by
  simp only [pcall, h1, h, Option.bind_some, data, unobs_fill E hk, vR_data]

end Go.AM

/- Loops of common kinds. -/
namespace Go.AM
set_option linter.unusedSimpArgs false
set_option linter.unusedVariables false

abbrev LB := List V → VH → Option (Option Nat × List V × VH)

section
variable {B : LB} {S : Nat → List V} {H : VH}

/-- Two rows, element by element: equal or not. -/
theorem lv_eq {α : Type} [DecidableEq α] {m0 m1 : Nat} {vs0 vs1 : List V} (xs ys : List α) (hl : xs.length = ys.length) (hr : ∀ (i : Nat) (h : i < xs.length), B (S i) H = if xs[i] = ys[i]'(by omega) then some (none, S (i + 1), H) else some (some m1, vs1, H))
    (he : B (S xs.length) H = some (some m0, vs0, H)) : lpW' B (S 0) H = if xs = ys then some (m0, vs0, H) else some (m1, vs1, H) := by
  have key : ∀ (n i : Nat), xs.length - i = n → i ≤ xs.length → lpW' B (S i) H = if xs.drop i = ys.drop i then some (m0, vs0, H) else some (m1, vs1, H) := by
    intro n
    induction n with
    | zero =>
      intro i hn hi
      have : i = xs.length := by omega
      subst this
      rw [lv_stop he, if_pos (by rw [List.drop_eq_nil_of_le (Nat.le_refl _), List.drop_eq_nil_of_le (by omega)])]
    | succ n ih =>
      intro i hn hi
      have h1 : i < xs.length := by omega
      have h2 : i < ys.length := by omega
      have hb := hr i h1
      have key : (xs.drop i = ys.drop i) = (xs[i] = ys[i] ∧ xs.drop (i + 1) = ys.drop (i + 1)) := by
        rw [List.drop_eq_getElem_cons h1, List.drop_eq_getElem_cons h2, List.cons.injEq]
      by_cases e : xs[i] = ys[i]
      · rw [if_pos e] at hb
        rw [lv_more hb, ih (i + 1) (by omega) (by omega)]
        simp only [key, e, true_and]
      · rw [if_neg e] at hb
        rw [lv_stop hb, if_neg (by rw [key]; exact fun h => e h.1)]
  have := key xs.length 0 (by omega) (by omega)
  simpa using this

/-- The first element that does something ends the loop. -/
theorem lv_any {α : Type} {m0 m1 : Nat} {vs0 vs1 : List V} (xs : List α) (p : α → Bool) (hr : ∀ (i : Nat) (h : i < xs.length), B (S i) H = if p xs[i] = true then some (some m1, vs1, H) else some (none, S (i + 1), H))
    (he : B (S xs.length) H = some (some m0, vs0, H)) : lpW' B (S 0) H = if xs.any p = true then some (m1, vs1, H) else some (m0, vs0, H) := by
  have key : ∀ (n i : Nat), xs.length - i = n → i ≤ xs.length → lpW' B (S i) H = if (xs.drop i).any p = true then some (m1, vs1, H) else some (m0, vs0, H) := by
    intro n
    induction n with
    | zero =>
      intro i hn hi
      have : i = xs.length := by omega
      subst this
      rw [lv_stop he, List.drop_eq_nil_of_le (Nat.le_refl _)]; rfl
    | succ n ih =>
      intro i hn hi
      have h1 : i < xs.length := by omega
      have hb := hr i h1
      rw [List.drop_eq_getElem_cons h1, List.any_cons]
      by_cases e : p xs[i] = true
      · rw [if_pos e] at hb
        rw [lv_stop hb, e]; rfl
      · rw [if_neg e] at hb
        rw [lv_more hb, ih (i + 1) (by omega) (by omega)]
        have : p xs[i] = false := by simpa using e
        rw [this, Bool.false_or]
  have := key xs.length 0 (by omega) (by omega)
  simpa using this

/-- A slice in an object is filled. -/
theorem lv_fill {α : Type} (E : Ec α) {l : List α} {k : Nat} {z : List V} {H0 : VH} {m : Nat} {vs : List V} (h0 : H0[k]? = some (fillC E l z 0)) (hr : ∀ (i : Nat) (h : i < l.length) (H : VH), H[k]? = some (fillC E l z i) → B (S i) H = some (none, S (i + 1), H.set k (fillC E l z (i + 1))))
    (he : ∀ H, B (S l.length) H = some (some m, vs, H)) : ∃ H1, lpW' B (S 0) H0 = some (m, vs, H1) ∧ H1[k]? = some (vR E l).flatten := by
  have key : ∀ (n i : Nat) (H : VH), l.length - i = n → i ≤ l.length → H[k]? = some (fillC E l z i) → ∃ H1, lpW' B (S i) H = some (m, vs, H1) ∧ H1[k]? = some (vR E l).flatten := by
    intro n
    induction n with
    | zero =>
      intro i H hn hi hk
      have : i = l.length := by omega
      subst this
      exact ⟨H, lv_stop (he H), by rw [hk, fill_end]⟩
    | succ n ih =>
      intro i H hn hi hk
      have h1 : i < l.length := by omega
      rw [lv_more (hr i h1 H hk)]
      exact ih (i + 1) _ (by omega) (by omega) (by rw [List.getElem?_set, if_pos rfl, if_pos (List.getElem?_eq_some_iff.1 hk).1])
  exact key l.length 0 H0 (by omega) (by omega) h0

/-- A number that goes down with each element, and ends the loop when it would be below 0. -/
def szGo {α : Type} (f : α → Int → Int) : List α → Int → Int
  | [], n => n
  | a :: l, n => if f a n < 0 then -1 else szGo f l (f a n)

theorem lv_sz {α : Type} {f : α → Int → Int} {m0 m1 : Nat} (S : Int → Nat → List V) (l : List α) (hf : ∀ a ∈ l, ∀ n, 0 ≤ n → f a n ≤ n)
    (hr : ∀ (i : Nat) (h : i < l.length) (n : Int), 0 ≤ n → n ≤ 1048576 → B (S n i) H = if f l[i] n < 0 then some (some m1, [.int .i64 (-1)], H) else some (none, S (f l[i] n) (i + 1), H))
    (he : ∀ n, B (S n l.length) H = some (some m0, [.int .i64 n], H)) (n : Int) (hn : 0 ≤ n) (hn2 : n ≤ 1048576) : ∃ m, lpW' B (S n 0) H = some (m, [.int .i64 (szGo f l n)], H) ∧ (m = m0 ∨ m = m1) := by
  have key : ∀ (k i : Nat) (n : Int), l.length - i = k → i ≤ l.length → 0 ≤ n → n ≤ 1048576 → ∃ m, lpW' B (S n i) H = some (m, [.int .i64 (szGo f (l.drop i) n)], H) ∧ (m = m0 ∨ m = m1) := by
    intro k
    induction k with
    | zero =>
      intro i n hk hi h1 h2
      have : i = l.length := by omega
      subst this
      rw [List.drop_eq_nil_of_le (Nat.le_refl _)]
      exact ⟨m0, lv_stop (he n), .inl rfl⟩
    | succ k ih =>
      intro i n hk hi h1 h2
      have hi' : i < l.length := by omega
      have hb := hr i hi' n h1 h2
      rw [List.drop_eq_getElem_cons hi']
      simp only [szGo]
      by_cases e : f l[i] n < 0
      · rw [if_pos e] at hb ⊢
        exact ⟨m1, lv_stop hb, .inr rfl⟩
      · rw [if_neg e] at hb ⊢
        rw [lv_more hb]
        have := hf l[i] (List.getElem_mem hi') n h1
        exact ih (i + 1) _ (by omega) (by omega) (by omega) (by omega)
  have := key l.length 0 n (by omega) (by omega) hn hn2
  simpa using this

theorem szGo_le {α : Type} {f : α → Int → Int} {l : List α} (hf : ∀ a ∈ l, ∀ n, 0 ≤ n → f a n ≤ n) : ∀ {n : Int}, 0 ≤ n → szGo f l n ≤ n := by
  induction l with
  | nil => intro n _; exact Int.le_refl _
  | cons a l ih =>
    intro n hn
    simp only [szGo]
    have := hf a (by simp) n hn
    split
    · omega
    · have := ih (fun b hb => hf b (by simp [hb])) (n := f a n) (by omega)
      omega

/-- What is left at the end tells of each element. -/
theorem szGo_mem {α : Type} {f : α → Int → Int} {l : List α} (hf : ∀ a ∈ l, ∀ n, 0 ≤ n → f a n ≤ n) : ∀ {n : Int}, 0 ≤ n → 0 ≤ szGo f l n → ∀ a ∈ l, ∃ k, 0 ≤ k ∧ k ≤ n ∧ 0 ≤ f a k := by
  induction l with
  | nil => intro n _ _ a ha; cases ha
  | cons b l ih =>
    intro n hn h a ha
    simp only [szGo] at h
    split at h
    · omega
    · rename_i hb
      rcases List.mem_cons.1 ha with rfl | ha
      · exact ⟨n, hn, Int.le_refl _, by omega⟩
      · have := hf b (by simp) n hn
        obtain ⟨k, h1, h2, h3⟩ := ih (fun b hb => hf b (by simp [hb])) (n := f b n) (by omega) h a ha
        exact ⟨k, h1, by omega, h3⟩
end
end Go.AM

/- More loops of common kinds, texts cut at a byte, and runs of which a part is known. -/
namespace Go.AM
set_option linter.unusedSimpArgs false
set_option linter.unusedVariables false
set_option maxRecDepth 10000

/-- A case in a term. -/
theorem ite_case {α : Type} {c : Prop} [Decidable c] {x y z : α} (h1 : c → x = z) (h2 : ¬ c → y = z) : (if c then x else y) = z := by
  by_cases h : c
  · rw [if_pos h]; exact h1 h
  · rw [if_neg h]; exact h2 h

/-! ### Loops -/
section
variable {B : LB} {S : Nat → List V} {H : VH}

/-- The first element that does something ends the loop, with its place. -/
theorem lv_first {α : Type} {m0 m1 : Nat} {vs0 : List V} (xs : List α) (p : α → Bool) (hr : ∀ (i : Nat) (h : i < xs.length), B (S i) H = if p xs[i] = true then some (some m1, [.int .i64 (i : Nat)], H) else some (none, S (i + 1), H))
    (he : B (S xs.length) H = some (some m0, vs0, H)) : lpW' B (S 0) H = if xs.any p = true then some (m1, [.int .i64 (xs.findIdx p : Nat)], H) else some (m0, vs0, H) := by
  have key : ∀ (n i : Nat), xs.length - i = n → i ≤ xs.length → lpW' B (S i) H = if (xs.drop i).any p = true then some (m1, [.int .i64 (i + (xs.drop i).findIdx p : Nat)], H) else some (m0, vs0, H) := by
    intro n
    induction n with
    | zero =>
      intro i hn hi
      have : i = xs.length := by omega
      subst this
      rw [lv_stop he, List.drop_eq_nil_of_le (Nat.le_refl _)]; rfl
    | succ n ih =>
      intro i hn hi
      have h1 : i < xs.length := by omega
      have hb := hr i h1
      rw [List.drop_eq_getElem_cons h1, List.any_cons, List.findIdx_cons]
      by_cases e : p xs[i] = true
      · rw [if_pos e] at hb
        rw [lv_stop hb, e]; rfl
      · rw [if_neg e] at hb
        rw [lv_more hb, ih (i + 1) (by omega) (by omega)]
        have : p xs[i] = false := by simpa using e
        rw [this, Bool.false_or]
        simp only [cond_false, Nat.add_assoc, Nat.add_comm 1]
  have := key xs.length 0 (by omega) (by omega)
  simpa using this

/-- A slice in an object is filled, up to a place. -/
theorem lv_fillTo {α : Type} (E : Ec α) {l : List α} {k t : Nat} {z : List V} {H0 : VH} {m : Nat} {vs : List V} (ht : t ≤ l.length) (h0 : H0[k]? = some (fillC E l z 0)) (hr : ∀ (i : Nat) (h : i < t) (H : VH), H[k]? = some (fillC E l z i) → B (S i) H = some (none, S (i + 1), H.set k (fillC E l z (i + 1))))
    (he : ∀ H, H[k]? = some (fillC E l z t) → B (S t) H = some (some m, vs, H)) : ∃ H1, lpW' B (S 0) H0 = some (m, vs, H1) ∧ H1[k]? = some (fillC E l z t) := by
  have key : ∀ (n i : Nat) (H : VH), t - i = n → i ≤ t → H[k]? = some (fillC E l z i) → ∃ H1, lpW' B (S i) H = some (m, vs, H1) ∧ H1[k]? = some (fillC E l z t) := by
    intro n
    induction n with
    | zero =>
      intro i H hn hi hk
      have : i = t := by omega
      subst this
      exact ⟨H, lv_stop (he H hk), hk⟩
    | succ n ih =>
      intro i H hn hi hk
      have h1 : i < t := by omega
      rw [lv_more (hr i h1 H hk)]
      exact ih (i + 1) _ (by omega) (by omega) (by rw [List.getElem?_set, if_pos rfl, if_pos (List.getElem?_eq_some_iff.1 hk).1])
  exact key t 0 H0 (by omega) (by omega) h0
end

theorem ob_pre (esz k o n h : Nat) (q : IntKind) (hh : h ≤ n) : vSliceVV esz (.obs k o n esz) none (some (.int q (h : Int))) = some (.obs k o h esz) := by
  simp only [vSliceVV, bndV, Option.bind_some]
  rw [if_pos ⟨trivial, by omega, by omega, by omega⟩]
  simp
theorem n_min (k : IntKind) (a b : Int) (h : a ≤ b) : vMinV (.int k a) (.int k b) = some (.int k a) := by
  simp only [vMinV, if_true]
  rw [if_neg (by omega)]

/-! ### Bytes in an object -/
def cB (s : Bs) : List V := s.map fun b => .int .u8 (b.toNat : Int)
theorem s2b_c (s : Bs) : s2bV (.str s) = some (cB s) := rfl
theorem cB_len (s : Bs) : (cB s).length = s.length := by simp [cB]
theorem b2sL_vB : ∀ s : Bs, b2sL (vB s) = some s
  | [] => rfl
  | b :: l => by
    have ih := b2sL_vB l
    show (b2sL (vB l)).map _ = _
    rw [ih]; simp
theorem chunk_cB : ∀ s : Bs, chunkV 1 s.length (cB s) = vB s
  | [] => rfl
  | b :: l => by
    have ih := chunk_cB l
    show [V.int .u8 (b.toNat : Int)] :: chunkV 1 l.length (cB l) = _
    rw [ih]; rfl
theorem b2s_c {H : VH} {k : Nat} {t : Bs} (h : H[k]? = some (cB t)) : b2sV (.obs k 0 t.length 1) H = some (.str t) := by
  simp only [b2sV, if_true, h, Option.bind_some]
  rw [gcut_mk (by rw [cB_len]; omega), List.drop_zero, List.take_of_length_le (by rw [cB_len]; omega)]
  simp only [Option.bind_some, chunk_cB, b2sL_vB, Option.map_some]
theorem ld_c {g : Nat → Option (List V)} {H : VH} {k i : Nat} {t : Bs} (h : H[k]? = some (cB t)) (hi : i < t.length) : ldO g false false 1 (.ptr k i) H = some (.int .u8 (t[i].toNat : Int), H) :=
  lp_cell (v := .int .u8 (t[i].toNat : Int)) h (by simp [cB, List.getElem?_eq_getElem hi]) rfl
theorem st_c {H : VH} {k i : Nat} {t : Bs} (b : UInt8) (h : H[k]? = some (cB t)) (hi : i < t.length) : stO (.ptr k i) [.int .u8 (b.toNat : Int)] H = some (H.set k (cB (t.set i b))) := by
  rw [sp_cell h (by rw [cB_len]; exact hi)]
  simp [cB, List.map_set]
theorem n_add8 (tk : TK) (a b : Int) (h1 : 0 ≤ a + b) (h2 : a + b ≤ 255) : vBinV tk .add (.int .u8 a) (.int .u8 b) = some (.int .u8 (a + b)) := by
  simp [vBinV, toA, vBin, vIntOp, ofA, IntWalk.u8_in _ ⟨h1, h2⟩]

/-! ### Runs of which a part is known -/

def Gets {R : Type} (e : Option R) (Q : R → Prop) : Prop := ∃ r, e = some r ∧ Q r
theorem Gets.here {R : Type} {Q : R → Prop} {r : R} (h : Q r) : Gets (some r) Q := ⟨r, rfl, h⟩
theorem Gets.bind {R T : Type} {e : Option R} {P : R → Prop} {K : R → Option T} {Q : T → Prop} (h : Gets e P) (k : ∀ r, P r → Gets (K r) Q) : Gets (e.bind K) Q := by
  obtain ⟨r, rfl, hr⟩ := h
  exact k r hr
theorem Gets.mono {R : Type} {e : Option R} {P Q : R → Prop} (h : Gets e P) (k : ∀ r, P r → Q r) : Gets e Q := by
  obtain ⟨r, e, hr⟩ := h
  exact ⟨r, e, k r hr⟩
theorem Gets.ite {R : Type} {c : Prop} [Decidable c] {x y : Option R} {Q : R → Prop} (h1 : c → Gets x Q) (h2 : ¬ c → Gets y Q) : Gets (if c then x else y) Q := by
  split
  · exact h1 ‹_›
  · exact h2 ‹_›
/-- A loop with something that holds in each round; n: how many rounds at most are left. -/
theorem Gets.loop {B : LB} {I : Nat → List V → VH → Prop} {Q : Nat × List V × VH → Prop}
    (hr : ∀ n s H, I n s H → Gets (B s H) fun r => match r.1 with | some m => Q (m, r.2) | none => ∃ n', n' < n ∧ I n' r.2.1 r.2.2) :
    ∀ (n : Nat) (s : List V) (H : VH), I n s H → Gets (lpW' B s H) Q := by
  intro n
  induction n using Nat.strongRecOn with
  | _ n ih =>
    intro s H hI
    obtain ⟨⟨m, vs, H'⟩, e, hq⟩ := hr n s H hI
    cases m with
    | some m => exact ⟨_, lv_stop e, hq⟩
    | none =>
      obtain ⟨n', hn, hI'⟩ := hq
      rw [lv_more e]
      exact ih n' hn _ _ hI'

/-- A call of which a part is known. -/
def Gets2 (e : Option (V × VH)) (P : V → VH → Prop) : Prop := ∃ v H, e = some (v, H) ∧ P v H
theorem Gets2.bind {T : Type} {e : Option (V × VH)} {P : V → VH → Prop} {K : V × VH → Option T} {Q : T → Prop} (h : Gets2 e P) (k : ∀ v H, P v H → Gets (K (v, H)) Q) : Gets (e.bind K) Q := by
  obtain ⟨v, H, rfl, hr⟩ := h
  exact k v H hr
theorem Gets2.of {e : Option (V × VH)} {P : V → VH → Prop} (h : Gets e fun r => P r.1 r.2) : Gets2 e P := by
  obtain ⟨⟨v, H⟩, h1, h2⟩ := h
  exact ⟨v, H, h1, h2⟩
theorem Gets.loop2 {B : LB} {T : Type} {I : Nat → List V → VH → Prop} {P : Nat → List V → VH → Prop} {n : Nat} {s : List V} {H : VH} {K : Nat × List V × VH → Option T} {Q : T → Prop}
    (hr : ∀ n s H, I n s H → Gets (B s H) fun r => (∃ m, r.1 = some m ∧ P m r.2.1 r.2.2) ∨ (r.1 = none ∧ ∃ n', n' < n ∧ I n' r.2.1 r.2.2))
    (h0 : I n s H) (k : ∀ m vs H', P m vs H' → Gets (K (m, vs, H')) Q) : Gets ((lpW' B s H).bind K) Q := by
  refine (Gets.loop (I := I) (Q := fun r => P r.1 r.2.1 r.2.2) (fun n s H hI => (hr n s H hI).mono fun r h => ?_) n s H h0).bind fun r h => k r.1 r.2.1 r.2.2 h
  obtain ⟨r1, r2⟩ := r
  rcases h with ⟨m, h1, h2⟩ | ⟨h1, h2⟩
  · cases h1; exact h2
  · cases h1; exact h2

/-- The object at k draws; at most b bytes were drawn. -/
def Rd (k b : Nat) (H : VH) : Prop := ∃ o xs p, H[k]? = some (rdr o xs p) ∧ p ≤ b ∧ xs.length ≤ 2000
theorem Rd.le {k b b' : Nat} {H : VH} (h : Rd k b H) (hb : b ≤ b') : Rd k b' H := by
  obtain ⟨o, xs, p, h1, h2, h3⟩ := h
  exact ⟨o, xs, p, h1, by omega, h3⟩

/-- Rows of texts written in the program: at least one, each short. -/
def unT : List (List V) → List Bs
  | [.str s] :: l => s :: unT l
  | _ => []
def okT (xs : List (List V)) : Bool := (unT xs).length == xs.length && (unT xs).all (fun s => decide (s.length ≤ 200)) && decide (1 ≤ xs.length) && decide (xs.length ≤ 1000)
theorem unT_eq : ∀ {xs : List (List V)}, (unT xs).length = xs.length → vT (unT xs) = xs
  | [], _ => rfl
  | x :: l, h => by
    unfold unT at h ⊢
    split at h
    · rename_i s l' e
      cases e
      have := unT_eq (xs := l) (by simpa using h)
      show [V.str s] :: vT (unT l) = _
      rw [this]
    · simp at h
def unI : List (List V) → List Int
  | [.int .i64 s] :: l => s :: unI l
  | _ => []
def okI (xs : List (List V)) : Bool := (unI xs).length == xs.length && decide (1 ≤ xs.length) && decide (xs.length ≤ 1000)
theorem unI_eq : ∀ {xs : List (List V)}, (unI xs).length = xs.length → vI .i64 (unI xs) = xs
  | [], _ => rfl
  | x :: l, h => by
    unfold unI at h ⊢
    split at h
    · rename_i s l' e
      cases e
      have := unI_eq (xs := l) (by simpa using h)
      show [V.int .i64 s] :: vI .i64 (unI l) = _
      rw [this]
    · simp at h

/-! ### Texts cut at a byte -/
theorem ix_eq (s : Bs) (c : UInt8) : Go.Lib.indexByte s c = if c ∈ s then ((s.idxOf c : Nat) : Int) else -1 := by
  induction s with
  | nil => rfl
  | cons b l ih =>
    unfold Go.Lib.indexByte
    rw [ih, List.idxOf_cons]
    by_cases h : b = c
    · subst h; simp
    · have h' : ¬ c = b := fun e => h e.symm
      by_cases hm : c ∈ l
      · have : (b == c) = false := by simpa using h
        simp only [this, hm, if_true, List.mem_cons, or_true, cond_false]
        have hn : ((l.idxOf c : Nat) : Int) ≠ -1 := by omega
        simp [hn]
      · have : (b == c) = false := by simpa using h
        simp [this, hm, h', h]

def cutA (c : UInt8) (s : Bs) : Bs := if c ∈ s then s.take (s.idxOf c) else s
def cutZ (c : UInt8) (s : Bs) : Bs := if c ∈ s then s.drop (s.idxOf c + 1) else []
def splitB (c : UInt8) : Bs → List Bs
  | [] => [[]]
  | b :: l => if b = c then [] :: splitB c l else match splitB c l with | [] => [[b]] | x :: r => (b :: x) :: r
theorem splitB_ne (c : UInt8) (s : Bs) : splitB c s ≠ [] := by
  cases s with
  | nil => simp [splitB]
  | cons b l =>
    unfold splitB
    split
    · simp
    · split <;> simp
theorem splitB_len (c : UInt8) (s : Bs) : (splitB c s).length = s.count c + 1 := by
  induction s with
  | nil => rfl
  | cons b l ih =>
    unfold splitB
    rw [List.count_cons]
    by_cases h : b = c
    · simp [h, ih]
    · have : (b == c) = false := by simpa using h
      rw [if_neg h, this]
      split
      · rename_i e; exact absurd e (splitB_ne c l)
      · rename_i x r e; rw [e] at ih; simpa using ih
theorem splitB_no (c : UInt8) (s : Bs) (h : c ∉ s) : splitB c s = [s] := by
  induction s with
  | nil => rfl
  | cons b l ih =>
    unfold splitB
    have h1 : ¬ b = c := fun e => h (by simp [e])
    rw [if_neg h1, ih (fun e => h (by simp [e]))]
theorem splitB_cut (c : UInt8) (s : Bs) (h : c ∈ s) : splitB c s = s.take (s.idxOf c) :: splitB c (s.drop (s.idxOf c + 1)) := by
  induction s with
  | nil => cases h
  | cons b l ih =>
    rw [List.idxOf_cons]
    conv => lhs; unfold splitB
    by_cases h1 : b = c
    · subst h1; simp
    · have h2 : c ∈ l := by rcases List.mem_cons.1 h with e | e; exact absurd e.symm h1; exact e
      have : (b == c) = false := by simpa using h1
      rw [if_neg h1, ih h2, this]
      simp
theorem splitB_small (c : UInt8) (s : Bs) : ∀ t ∈ splitB c s, t.length ≤ s.length := by
  induction s with
  | nil => intro t ht; simp [splitB] at ht; subst ht; simp
  | cons b l ih =>
    intro t ht
    unfold splitB at ht
    split at ht
    · rcases List.mem_cons.1 ht with rfl | ht
      · simp
      · have := ih t ht; simp; omega
    · split at ht
      · simp at ht; subst ht; simp
      · rename_i x r e
        rcases List.mem_cons.1 ht with rfl | ht
        · have := ih x (by rw [e]; simp); simp; omega
        · have := ih t (by rw [e]; simp [ht]); simp; omega
/-- What is left after i cuts. -/
def restB (c : UInt8) (s : Bs) : Nat → Bs
  | 0 => s
  | i + 1 => (restB c s i).drop ((restB c s i).idxOf c + 1)
theorem restB_split (c : UInt8) (s : Bs) : ∀ i, i < (splitB c s).length → splitB c (restB c s i) = (splitB c s).drop i
  | 0, _ => rfl
  | i + 1, h => by
    have ih := restB_split c s i (by omega)
    have hm : c ∈ restB c s i := by
      by_cases hm : c ∈ restB c s i
      · exact hm
      · rw [splitB_no c _ hm] at ih
        have := congrArg List.length ih
        simp at this; omega
    rw [splitB_cut c _ hm] at ih
    have := congrArg List.tail ih
    simpa [restB] using this
theorem restB_len (c : UInt8) (s : Bs) : ∀ i, (restB c s i).length ≤ s.length
  | 0 => Nat.le_refl _
  | i + 1 => by have := restB_len c s i; simp only [restB, List.length_drop]; omega

/-- All the words' rewritings at once (a conjunction: simp takes each part). -/
theorem evv : type_of% (And.intro @if_ub (And.intro @ig_bool (And.intro @ig_t (And.intro @ig_f (And.intro @st_ub (And.intro @st_bool (And.intro @st_int (And.intro @st_str (And.intro @st_nilp (And.intro @st_ptr (And.intro @st_elt (And.intro @st_fn (And.intro @st_sl (And.intro @st_agg (And.intro @st_tup (And.intro @stL_nil (And.intro @stL_cons (And.intro @stLL_nil (And.intro @stLL_cons (And.intro @strip_strip (And.intro @stripL_stripL (And.intro @stripLL_stripLL (And.intro @fz_bool (And.intro @fz_int (And.intro @fz_str (And.intro @fz_sl (And.intro @fz_agg (And.intro @fz_fn0 (And.intro @fz_fn (And.intro @fz_ptr (And.intro @fz_elt (And.intro @fz1_ptr (And.intro @map_nil' (And.intro @map_cons' (And.intro @app_nil' (And.intro @app_cons' (And.intro @np_bool (And.intro @np_int (And.intro @np_str (And.intro @np_sl (And.intro @np_agg (And.intro @np_elt (And.intro @np_fn (And.intro @npL_nil (And.intro @npL_cons (And.intro @npLL_nil (And.intro @npLL_cons (And.intro @d_bool (And.intro @d_int (And.intro @d_str (And.intro @d_sl (And.intro @d_agg (And.intro @d_tup (And.intro @dL_nil (And.intro @dL_cons (And.intro @dLL_nil (And.intro @dLL_cons (And.intro @sc_bool (And.intro @sc_int (And.intro @sc_str (And.intro @sc_tup (And.intro @s1_bool (And.intro @s1_int (And.intro @s1_str (And.intro @al_nil (And.intro @al_cons (And.intro @an_tt (And.intro @bind_s (And.intro @id_s (And.intro @if_bool (And.intro @if_t (And.intro @if_f (And.intro @in_0 (And.intro @in_1 (And.intro @in_2 (And.intro @in_3 (And.intro @in_4 (And.intro @gt_0 (And.intro @gt_1 (And.intro @gt_2 (And.intro @gt_3 (And.intro @gt_4 (And.intro @gt_5 (And.intro @gt_6 (And.intro @gt_7 (And.intro @gt_8 (And.intro @gt_9 (And.intro @gt_10 (And.intro @gd_z (And.intro @gd_1 (And.intro @gd_2 (And.intro @gd_3 (And.intro @gd_4 (And.intro @gd_5 (And.intro @gd_6 (And.intro @gd_7 (And.intro @gd_8 (And.intro @gd_9 (And.intro @gt_11 (And.intro @gt_12 (And.intro @gt_13 (And.intro @gt_14 (And.intro @gt_15 (And.intro @gd_10 (And.intro @gd_11 (And.intro @gd_12 (And.intro @gd_13 (And.intro @gd_14 (And.intro @gd_15 (And.intro @n_lss (And.intro @n_leq (And.intro @n_gtr (And.intro @n_geq (And.intro @n_eql (And.intro @n_neq (And.intro @n_not (And.intro @b_eql (And.intro @b_neq (And.intro @t_eql (And.intro @t_neq (And.intro @t_len (And.intro @v_len (And.intro @t_str (And.intro @ld_elt (And.intro @extB_index (And.intro @extB_count (And.intro @v_nilf (And.intro @v_nilp (And.intro @v_nile (And.intro @v_offp (And.intro @v_offe (And.intro @o_int (And.intro @o_bool (And.intro @o_str (And.intro @o_sl (And.intro @o_ptr (And.intro @o_fn (And.intro @ow_t (And.intro @cl_fn (And.intro @ex_0 (And.intro @ex_1 (And.intro @ex_2 (And.intro @sa_0 (And.intro @sa_1 (And.intro @sa_2 (And.intro @vT_len (And.intro @vB_len (And.intro @vI_len (And.intro @vT_strip (And.intro @vB_strip (And.intro @vI_strip (And.intro @vT_np (And.intro @vB_np (And.intro @vI_np (And.intro @vT_data (And.intro @vB_data (And.intro @vI_data (And.intro @vT_esz (And.intro @vB_esz (And.intro @vI_esz (And.intro @ag_2 (And.intro @ag_3 (And.intro @ag_6 (And.intro @ag_7 (And.intro @le_2 (And.intro @le_3 (And.intro @le_6 (And.intro @le_at0 (And.intro @le_at1 (And.intro @le_at2 (And.intro @em_e (And.intro @es_e (And.intro @ex_e (And.intro @cM_e (And.intro @cS_e (And.intro @cX_e (And.intro @vR_len (And.intro @vR_strip (And.intro @vR_np (And.intro @vR_data (And.intro @vR_esz3 (And.intro @vR_esz2 (And.intro @ob_len (And.intro @st_obs @np_obs)))))))))))))))))))))))))))))))))))))))))))))))))))))))))))))))))))))))))))))))))))))))))))))))))))))))))))))))))))))))))))))))))))))))))))))))))))))))))))))))))))))))))))))))))))))))) := And.intro @if_ub (And.intro @ig_bool (And.intro @ig_t (And.intro @ig_f (And.intro @st_ub (And.intro @st_bool (And.intro @st_int (And.intro @st_str (And.intro @st_nilp (And.intro @st_ptr (And.intro @st_elt (And.intro @st_fn (And.intro @st_sl (And.intro @st_agg (And.intro @st_tup (And.intro @stL_nil (And.intro @stL_cons (And.intro @stLL_nil (And.intro @stLL_cons (And.intro @strip_strip (And.intro @stripL_stripL (And.intro @stripLL_stripLL (And.intro @fz_bool (And.intro @fz_int (And.intro @fz_str (And.intro @fz_sl (And.intro @fz_agg (And.intro @fz_fn0 (And.intro @fz_fn (And.intro @fz_ptr (And.intro @fz_elt (And.intro @fz1_ptr (And.intro @map_nil' (And.intro @map_cons' (And.intro @app_nil' (And.intro @app_cons' (And.intro @np_bool (And.intro @np_int (And.intro @np_str (And.intro @np_sl (And.intro @np_agg (And.intro @np_elt (And.intro @np_fn (And.intro @npL_nil (And.intro @npL_cons (And.intro @npLL_nil (And.intro @npLL_cons (And.intro @d_bool (And.intro @d_int (And.intro @d_str (And.intro @d_sl (And.intro @d_agg (And.intro @d_tup (And.intro @dL_nil (And.intro @dL_cons (And.intro @dLL_nil (And.intro @dLL_cons (And.intro @sc_bool (And.intro @sc_int (And.intro @sc_str (And.intro @sc_tup (And.intro @s1_bool (And.intro @s1_int (And.intro @s1_str (And.intro @al_nil (And.intro @al_cons (And.intro @an_tt (And.intro @bind_s (And.intro @id_s (And.intro @if_bool (And.intro @if_t (And.intro @if_f (And.intro @in_0 (And.intro @in_1 (And.intro @in_2 (And.intro @in_3 (And.intro @in_4 (And.intro @gt_0 (And.intro @gt_1 (And.intro @gt_2 (And.intro @gt_3 (And.intro @gt_4 (And.intro @gt_5 (And.intro @gt_6 (And.intro @gt_7 (And.intro @gt_8 (And.intro @gt_9 (And.intro @gt_10 (And.intro @gd_z (And.intro @gd_1 (And.intro @gd_2 (And.intro @gd_3 (And.intro @gd_4 (And.intro @gd_5 (And.intro @gd_6 (And.intro @gd_7 (And.intro @gd_8 (And.intro @gd_9 (And.intro @gt_11 (And.intro @gt_12 (And.intro @gt_13 (And.intro @gt_14 (And.intro @gt_15 (And.intro @gd_10 (And.intro @gd_11 (And.intro @gd_12 (And.intro @gd_13 (And.intro @gd_14 (And.intro @gd_15 (And.intro @n_lss (And.intro @n_leq (And.intro @n_gtr (And.intro @n_geq (And.intro @n_eql (And.intro @n_neq (And.intro @n_not (And.intro @b_eql (And.intro @b_neq (And.intro @t_eql (And.intro @t_neq (And.intro @t_len (And.intro @v_len (And.intro @t_str (And.intro @ld_elt (And.intro @extB_index (And.intro @extB_count (And.intro @v_nilf (And.intro @v_nilp (And.intro @v_nile (And.intro @v_offp (And.intro @v_offe (And.intro @o_int (And.intro @o_bool (And.intro @o_str (And.intro @o_sl (And.intro @o_ptr (And.intro @o_fn (And.intro @ow_t (And.intro @cl_fn (And.intro @ex_0 (And.intro @ex_1 (And.intro @ex_2 (And.intro @sa_0 (And.intro @sa_1 (And.intro @sa_2 (And.intro @vT_len (And.intro @vB_len (And.intro @vI_len (And.intro @vT_strip (And.intro @vB_strip (And.intro @vI_strip (And.intro @vT_np (And.intro @vB_np (And.intro @vI_np (And.intro @vT_data (And.intro @vB_data (And.intro @vI_data (And.intro @vT_esz (And.intro @vB_esz (And.intro @vI_esz (And.intro @ag_2 (And.intro @ag_3 (And.intro @ag_6 (And.intro @ag_7 (And.intro @le_2 (And.intro @le_3 (And.intro @le_6 (And.intro @le_at0 (And.intro @le_at1 (And.intro @le_at2 (And.intro @em_e (And.intro @es_e (And.intro @ex_e (And.intro @cM_e (And.intro @cS_e (And.intro @cX_e (And.intro @vR_len (And.intro @vR_strip (And.intro @vR_np (And.intro @vR_data (And.intro @vR_esz3 (And.intro @vR_esz2 (And.intro @ob_len (And.intro @st_obs @np_obs)))))))))))))))))))))))))))))))))))))))))))))))))))))))))))))))))))))))))))))))))))))))))))))))))))))))))))))))))))))))))))))))))))))))))))))))))))))))))))))))))))))))))))))))))))))))

end Go.AM

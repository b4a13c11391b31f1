/- Part 2 of the machines: what is proved is told at each theorem; no condition. -/
import Derived.Test.YtncekccimhohgaaGreatDoorFnScriptClearK1
import Derived.Below
import Derived.Shelf.Spec.SlicesInsertGrow
import Derived.Shelf.SlGeneric
import Derived.Deep.RegionLaw
import Derived.Shelf.RegionOpenPlain
import Derived.Shelf.SlicesE.DeleteFunc
/- What an operation asks of the calls behind it. -/
namespace Go.AM
set_option linter.unusedSimpArgs false
set_option linter.unusedVariables false
abbrev CallT := FuncId -> List Value -> Heap -> Option (Value × Heap)
abbrev LpT := (List Value -> Heap -> Option (Option Nat × List Value × Heap)) -> List Value -> Heap -> Option (Nat × List Value × Heap)
def Ctx.over (X : Ctx) (call : CallT) (lp : LpT) : Ctx := { X with call := call, lp := lp }
section
variable {R : Type} {X : Ctx} {st : St} {r : R}
theorem evK_eq {x : Operand} {K : EV -> Option R} (h : evK X st x K = some r) : ∃ e, K e = some r /\ ∀ (c : CallT) (l : LpT) (R' : Type) (K' : EV -> Option R'), evK (X.over c l) st x K' = K' e := by
 cases x with
 | tmp t =>
   simp only [evK] at h
   cases e : look st.env t with
   | none => rw [e] at h; cases h
   | some e' => rw [e] at h; exact ⟨e', h, fun c l R' K' => by simp only [evK, e]⟩
 | const v =>
   simp only [evK] at h
   cases e : pureV v with
   | true => rw [e] at h; exact ⟨_, h, fun c l R' K' => by simp only [evK, e]⟩
   | false => rw [e] at h; cases h
 | global g =>
   simp only [evK] at h
   cases e : Nat.blt g X.ng with
   | true => rw [e] at h; exact ⟨_, h, fun c l R' K' => by show evK _ _ _ _ = _; simp only [evK, Ctx.over, e]⟩
   | false => rw [e] at h; cases h
 | func f => exact ⟨_, h, fun c l R' K' => rfl⟩
theorem vaK_eq {x : Operand} {K : Value -> Option R} (h : vaK X st x K = some r) : ∃ v, K v = some r /\ ∀ (c : CallT) (l : LpT) (R' : Type) (K' : Value -> Option R'), vaK (X.over c l) st x K' = K' v := by
 obtain ⟨e, hk, he⟩ := evK_eq h
 cases e with
 | val v => exact ⟨v, hk, fun c l R' K' => by unfold vaK; rw [he]⟩
 | loc k o => cases hk
 | skp => cases hk
theorem vasK_eq : ∀ {xs : List Operand} {K : List Value -> Option R}, vasK X st xs K = some r -> ∃ vs, K vs = some r /\ ∀ (c : CallT) (l : LpT) (R' : Type) (K' : List Value -> Option R'), vasK (X.over c l) st xs K' = K' vs
 | [], K, h => ⟨[], h, fun _ _ _ _ => rfl⟩
 | x :: xs, K, h => by
   obtain ⟨v, h, hv⟩ := vaK_eq h
   obtain ⟨vs, h, hvs⟩ := vasK_eq h
   exact ⟨v :: vs, h, fun c l R' K' => by simp only [vasK, hv, hvs]⟩
theorem voK_eq {x : Option Operand} {K : Option Value -> Option R} (h : voK X st x K = some r) : ∃ v, K v = some r /\ ∀ (c : CallT) (l : LpT) (R' : Type) (K' : Option Value -> Option R'), voK (X.over c l) st x K' = K' v := by
 cases x with
 | none => exact ⟨none, h, fun _ _ _ _ => rfl⟩
 | some x =>
   obtain ⟨v, h, hv⟩ := vaK_eq h
   exact ⟨some v, h, fun c l R' K' => by simp only [voK, hv]⟩
theorem cellsK_eq {agg : Bool} {n : Nat} {v : Value} {K : List Value -> Option R} (h : cellsK agg n v K = some r) : ∃ cs, K cs = some r /\ ∀ (R' : Type) (K' : List Value -> Option R'), cellsK agg n v K' = K' cs := by
 cases agg with
 | true =>
   simp only [cellsK] at h
   obtain ⟨cs, h1, h⟩ := bind_some' h
   exact ⟨_, h, fun R' K' => by simp only [cellsK, h1, Option.bind_some]⟩
 | false =>
   simp only [cellsK] at h
   obtain ⟨u, h1, h⟩ := bind_some' h
   exact ⟨_, h, fun R' K' => by simp only [cellsK, h1, Option.bind_some]⟩
theorem partsK_eq {place : Nat -> Option (Nat × Nat × Bool)} : ∀ {ps : List (Nat × Operand)} {cells : List Value} {K : List Value -> Option R}, partsK X st place ps cells K = some r →
 ∃ cs, K cs = some r /\ ∀ (c : CallT) (l : LpT) (R' : Type) (K' : List Value -> Option R'), partsK (X.over c l) st place ps cells K' = K' cs
 | [], cells, K, h => ⟨cells, h, fun _ _ _ _ => rfl⟩
 | (i, x) :: rest, cells, K, h => by
   simp only [partsK] at h
   cases e : place i with
   | none => rw [e] at h; cases h
   | some p =>
     obtain ⟨off, n, agg⟩ := p
     rw [e] at h
     simp only at h
     cases hb : Nat.ble (off + n) cells.length with
     | false => rw [hb] at h; cases h
     | true =>
       rw [hb] at h
       obtain ⟨v, h, hv⟩ := vaK_eq h
       obtain ⟨cs, h, hcs⟩ := cellsK_eq h
       obtain ⟨cells', h, hp⟩ := partsK_eq h
       exact ⟨cells', h, fun c l R' K' => by simp only [partsK, e, hb, hv, hcs, hp]⟩
end
def OpCont (X : Ctx) (A : Ann) (o : Oper) (st : St) {R : Type} (K : EV -> List (Nat × List Value) -> Heap -> Cls -> Option R) (r : R) : Prop :=
 (∃ e loc hp c, K e loc hp c = some r /\ ∀ (cl : CallT) (l : LpT) (R' : Type) (K' : EV -> List (Nat × List Value) -> Heap -> Cls -> Option R'), opK (X.over cl l) A o st K' = K' e loc hp c) ∨
 (∃ f vs res, X.call f vs st.hp = some res /\ K (.val res.1) st.loc res.2 .W = some r /\ ∀ (cl : CallT) (l : LpT) (R' : Type) (K' : EV -> List (Nat × List Value) -> Heap -> Cls -> Option R'), opK (X.over cl l) A o st K' = (cl f vs st.hp).bind fun r => K' (.val r.1) st.loc r.2 .W) ∨
 (∃ f vs v, qcall X.call f vs st.hp = some v /\ K (.val v) st.loc st.hp .H = some r /\ ∀ (cl : CallT) (l : LpT) (R' : Type) (K' : EV -> List (Nat × List Value) -> Heap -> Cls -> Option R'), opK (X.over cl l) A o st K' = (qcall cl f vs st.hp).bind fun v => K' (.val v) st.loc st.hp .H) ∨
 (∃ f vs res, acall X.call f vs st.hp = some res /\ K (.val res.1) st.loc res.2 .A = some r /\ ∀ (cl : CallT) (l : LpT) (R' : Type) (K' : EV -> List (Nat × List Value) -> Heap -> Cls -> Option R'), opK (X.over cl l) A o st K' = (acall cl f vs st.hp).bind fun r => K' (.val r.1) st.loc r.2 .A)
section
variable {X : Ctx} {A : Ann} {R : Type} {K : EV -> List (Nat × List Value) -> Heap -> Cls -> Option R} {r : R} {o : Oper} {st : St}
theorem over_tab (X : Ctx) (c : CallT) (l : LpT) : (X.over c l).tab = X.tab := rfl
theorem over_kind (X : Ctx) (c : CallT) (l : LpT) : (X.over c l).kind = X.kind := rfl
theorem over_ext (X : Ctx) (c : CallT) (l : LpT) : (X.over c l).ext = X.ext := rfl
theorem over_call (X : Ctx) (c : CallT) (l : LpT) : (X.over c l).call = c := rfl
set_option maxHeartbeats 2000000 in
theorem opK_cont (h : opK X A o st K = some r) : OpCont X A o st K r := by
 unfold opK at h
 cases hop : o.op with
 | move x =>
   simp only [hop] at h
   obtain ⟨e, h, he⟩ := evK_eq h
   exact .inl ⟨_, _, _, _, h, fun cl l R' K' => by unfold opK; simp only [hop, he]⟩
 | assign x =>
   simp only [hop] at h
   obtain ⟨e, h, he⟩ := evK_eq h
   exact .inl ⟨_, _, _, _, h, fun cl l R' K' => by unfold opK; simp only [hop, he]⟩
 | pick c x y =>
   simp only [hop] at h
   obtain ⟨vc, h, hc⟩ := vaK_eq h
   obtain ⟨ex, h, hx⟩ := evK_eq h
   obtain ⟨ey, h, hy⟩ := evK_eq h
   split at h
   ·obtain ⟨v, hv, h⟩ := bind_some' h
    exact .inl ⟨_, _, _, _, h, fun cl l R' K' => by unfold opK; simp only [hop, hc, hx, hy, hv, Option.bind_some]⟩
   ·have hv : ifV (R := R) vc none (K (.val _) st.loc st.hp .P) = some r := h
    unfold ifV at h
    split at h
    ·cases h
    ·exact .inl ⟨_, _, _, _, h, fun cl l R' K' => by unfold opK; simp only [hop, hc, hx, hy, ifV]⟩
    ·cases h
   ·unfold ifV at h
    split at h
    ·exact .inl ⟨_, _, _, _, h, fun cl l R' K' => by unfold opK; simp only [hop, hc, hx, hy, ifV]⟩
    ·cases h
    ·cases h
   ·cases h
 | alloc elem =>
   simp only [hop] at h
   split at h
   ·rename_i ti d ht hd
    split at h
    ·rename_i hm
     split at h
     ·rename_i hl
      exact .inl ⟨_, _, _, _, h, fun cl l R' K' => by unfold opK; simp only [hop, over_tab, ht, hd, hm, hl]⟩
     ·cases h
    ·rename_i hm
     exact .inl ⟨_, _, _, _, h, fun cl l R' K' => by unfold opK; simp only [hop, over_tab, ht, hd, hm]⟩
   ·cases h
 | box elem x =>
   simp only [hop] at h
   split at h
   ·rename_i ti d ht hd
    obtain ⟨v, h, hv⟩ := vaK_eq h
    obtain ⟨cs, h, hcs⟩ := cellsK_eq h
    split at h
    ·rename_i hm
     split at h
     ·rename_i hl
      exact .inl ⟨_, _, _, _, h, fun cl l R' K' => by unfold opK; simp only [hop, over_tab, ht, hd, hm, hl, hv, hcs]⟩
     ·cases h
    ·rename_i hm
     exact .inl ⟨_, _, _, _, h, fun cl l R' K' => by unfold opK; simp only [hop, over_tab, ht, hd, hm, hv, hcs]⟩
   ·cases h
 | build t parts =>
   simp only [hop] at h
   split at h
   ·rename_i fs z _ _ ht
    obtain ⟨cells', h, hp⟩ := partsK_eq h
    exact .inl ⟨_, _, _, _, h, fun cl l R' K' => by unfold opK; simp only [hop, over_tab, ht, hp]⟩
   ·rename_i n esz z _ _ ht
    obtain ⟨cells', h, hp⟩ := partsK_eq h
    exact .inl ⟨_, _, _, _, h, fun cl l R' K' => by unfold opK; simp only [hop, over_tab, ht, hp]⟩
   ·cases h
 | buildSlice t len parts =>
   simp only [hop] at h
   split at h
   ·rename_i e esz eb z _ _ _ ht
    split at h
    ·rename_i te hte
     split at h
     ·rename_i hb
      obtain ⟨cells', h, hp⟩ := partsK_eq h
      exact .inl ⟨_, _, _, _, h, fun cl l R' K' => by unfold opK; simp only [hop, over_tab, ht, hte, hb, hp]⟩
     ·cases h
    ·cases h
   ·cases h
 | load t x =>
   simp only [hop] at h
   split at h
   ·rename_i ti ht
    obtain ⟨e, h, he⟩ := evK_eq h
    split at h
    ·rename_i k off
     split at h
     ·rename_i cs hk
      split at h
      ·rename_i hag
       obtain ⟨c, hc, h⟩ := bind_some' h
       exact .inl ⟨_, _, _, _, h, fun cl l R' K' => by unfold opK; simp only [hop, over_tab, ht, he, hk, hag, hc, Option.bind_some]⟩
      ·rename_i hag
       obtain ⟨v, hv, h⟩ := bind_some' h
       exact .inl ⟨_, _, _, _, h, fun cl l R' K' => by unfold opK; simp only [hop, over_tab, ht, he, hk, hag, hv, Option.bind_some]⟩
     ·cases h
    ·obtain ⟨v, hv, h⟩ := bind_some' h
     exact .inl ⟨_, _, _, _, h, fun cl l R' K' => by unfold opK; simp only [hop, over_tab, ht, he, hv, Option.bind_some]⟩
    ·cases h
   ·cases h
 | store t x y =>
   simp only [hop] at h
   split at h
   ·rename_i ti ht
    obtain ⟨e, h, he⟩ := evK_eq h
    obtain ⟨v, h, hv⟩ := vaK_eq h
    obtain ⟨cs, h, hcs⟩ := cellsK_eq h
    split at h
    ·rename_i k off
     split at h
     ·rename_i old hk
      split at h
      ·rename_i hb
       exact .inl ⟨_, _, _, _, h, fun cl l R' K' => by unfold opK; simp only [hop, over_tab, ht, he, hv, hcs, hk, hb]⟩
      ·cases h
     ·cases h
    ·obtain ⟨hp', hh, h⟩ := bind_some' h
     exact .inl ⟨_, _, _, _, h, fun cl l R' K' => by unfold opK; simp only [hop, over_tab, ht, he, hv, hcs, hh, Option.bind_some]⟩
    ·cases h
   ·cases h
 | nilCheck x =>
   simp only [hop] at h
   obtain ⟨e, h, he⟩ := evK_eq h
   split at h
   ·exact .inl ⟨_, _, _, _, h, fun cl l R' K' => by unfold opK; simp only [hop, he]⟩
   ·obtain ⟨v, hv, h⟩ := bind_some' h
    exact .inl ⟨_, _, _, _, h, fun cl l R' K' => by unfold opK; simp only [hop, he, hv, Option.bind_some]⟩
   ·cases h
 | binOp op t x y yt =>
   simp only [hop] at h
   split at h
   ·rename_i ti ht
    obtain ⟨a, h, ha⟩ := vaK_eq h
    obtain ⟨b, h, hb⟩ := vaK_eq h
    obtain ⟨v, hv, h⟩ := bind_some' h
    exact .inl ⟨_, _, _, _, h, fun cl l R' K' => by unfold opK; simp only [hop, over_tab, ht, ha, hb, hv, Option.bind_some]⟩
   ·cases h
 | unOp op t x =>
   simp only [hop] at h
   obtain ⟨a, h, ha⟩ := vaK_eq h
   obtain ⟨v, hv, h⟩ := bind_some' h
   exact .inl ⟨_, _, _, _, h, fun cl l R' K' => by unfold opK; simp only [hop, ha, hv, Option.bind_some]⟩
 | convert src dst x =>
   simp only [hop] at h
   split at h
   ·rename_i ts td hts htd
    obtain ⟨va, h, ha⟩ := vaK_eq h
    split at h
    ·rename_i k k' hk hk'
     obtain ⟨v, hv, h⟩ := bind_some' h
     exact .inl ⟨_, _, _, _, h, fun cl l R' K' => by unfold opK; simp only [hop, over_tab, hts, htd, ha, hk, hk', hv, Option.bind_some]⟩
    ·rename_i hk hk'
     obtain ⟨v, hv, h⟩ := bind_some' h
     exact .inl ⟨_, _, _, _, h, fun cl l R' K' => by unfold opK; simp only [hop, over_tab, hts, htd, ha, hk, hk', hv, Option.bind_some]⟩
    ·rename_i hk hk'
     split at h
     ·rename_i e _ _ _ s hk2
      split at h
      ·rename_i hte
       exact .inl ⟨_, _, _, _, h, fun cl l R' K' => by unfold opK; simp only [hop, over_tab, hts, htd, ha, hk', hk2, hte]⟩
      ·cases h
     ·cases h
    ·rename_i e _ _ _ hk hk'
     split at h
     ·rename_i hte
      obtain ⟨v, hv, h⟩ := bind_some' h
      exact .inl ⟨_, _, _, _, h, fun cl l R' K' => by unfold opK; simp only [hop, over_tab, hts, htd, ha, hk, hk', hte, hv, Option.bind_some]⟩
     ·cases h
    ·cases h
   ·cases h
 | makeFunc fn first captured =>
   simp only [hop] at h
   split at h
   ·rename_i hz
    obtain ⟨vs, h, hvs⟩ := vasK_eq h
    exact .inl ⟨_, _, _, _, h, fun cl l R' K' => by unfold opK; simp only [hop, hz, hvs]⟩
   ·cases h
 | makeSlice t l c =>
   simp only [hop] at h
   split at h
   ·rename_i e esz eb z _ _ _ ht
    obtain ⟨vl, h, hl⟩ := vaK_eq h
    obtain ⟨vc, h, hc⟩ := vaK_eq h
    obtain ⟨n, hn, h⟩ := bind_some' h
    exact .inl ⟨_, _, _, _, h, fun cl l R' K' => by unfold opK; simp only [hop, over_tab, ht, hl, hc, hn, Option.bind_some]⟩
   ·cases h
 | slice t x lo hi mx =>
   simp only [hop] at h
   split at h
   ·rename_i ht
    obtain ⟨v, h, hv⟩ := vaK_eq h
    obtain ⟨l, h, hl⟩ := voK_eq h
    obtain ⟨k, h, hk⟩ := voK_eq h
    split at h
    ·obtain ⟨u, hu, h⟩ := bind_some' h
     exact .inl ⟨_, _, _, _, h, fun cl l R' K' => by unfold opK; simp only [hop, over_tab, ht, hv, hl, hk, hu, Option.bind_some]⟩
    ·cases h
   ·rename_i e esz eb z _ _ _ ht
    obtain ⟨v, h, hv⟩ := vaK_eq h
    obtain ⟨l, h, hl⟩ := voK_eq h
    obtain ⟨k, h, hk⟩ := voK_eq h
    obtain ⟨m, h, hm⟩ := voK_eq h
    obtain ⟨u, hu, h⟩ := bind_some' h
    exact .inl ⟨_, _, _, _, h, fun cl l R' K' => by unfold opK; simp only [hop, over_tab, ht, hv, hl, hk, hm, hu, Option.bind_some]⟩
   ·rename_i n _ _ _ ht
    split at h
    ·obtain ⟨v, h, hv⟩ := vaK_eq h
     obtain ⟨u, hu, h⟩ := bind_some' h
     exact .inl ⟨_, _, _, _, h, fun cl l R' K' => by unfold opK; simp only [hop, over_tab, ht, hv, hu, Option.bind_some]⟩
    ·cases h
   ·cases h
 | fieldAddr t x f =>
   simp only [hop] at h
   split at h
   ·rename_i fs _ _ _ ht
    split at h
    ·rename_i off n agg hf
     obtain ⟨e, h, he⟩ := evK_eq h
     split at h
     ·exact .inl ⟨_, _, _, _, h, fun cl l R' K' => by unfold opK; simp only [hop, over_tab, ht, hf, he]⟩
     ·obtain ⟨v, hv, h⟩ := bind_some' h
      exact .inl ⟨_, _, _, _, h, fun cl l R' K' => by unfold opK; simp only [hop, over_tab, ht, hf, he, hv, Option.bind_some]⟩
     ·cases h
    ·cases h
   ·cases h
 | field t x f =>
   simp only [hop] at h
   split at h
   ·rename_i fs n _ _ ht
    split at h
    ·rename_i off m agg hf
     obtain ⟨v, h, hv⟩ := vaK_eq h
     obtain ⟨cs, hcs, h⟩ := bind_some' h
     split at h
     ·obtain ⟨c, hc, h⟩ := bind_some' h
      exact .inl ⟨_, _, _, _, h, fun cl l R' K' => by unfold opK; simp only [hop, over_tab, ht, hf, hv, hcs, hc, Option.bind_some]⟩
     ·obtain ⟨c, hc, h⟩ := bind_some' h
      exact .inl ⟨_, _, _, _, h, fun cl l R' K' => by unfold opK; simp only [hop, over_tab, ht, hf, hv, hcs, hc, Option.bind_some]⟩
    ·cases h
   ·cases h
 | indexAddr t x i =>
   simp only [hop] at h
   split at h
   ·rename_i e esz eb z _ _ _ ht
    obtain ⟨v, h, hv⟩ := vaK_eq h
    obtain ⟨j, h, hj⟩ := vaK_eq h
    obtain ⟨u, hu, h⟩ := bind_some' h
    exact .inl ⟨_, _, _, _, h, fun cl l R' K' => by unfold opK; simp only [hop, over_tab, ht, hv, hj, hu, Option.bind_some]⟩
   ·rename_i n esz _ _ _ ht
    obtain ⟨v, h, hv⟩ := vaK_eq h
    obtain ⟨j, h, hj⟩ := vaK_eq h
    obtain ⟨u, hu, h⟩ := bind_some' h
    exact .inl ⟨_, _, _, _, h, fun cl l R' K' => by unfold opK; simp only [hop, over_tab, ht, hv, hj, hu, Option.bind_some]⟩
   ·cases h
 | index t x i =>
   simp only [hop] at h
   split at h
   ·rename_i ht
    obtain ⟨v, h, hv⟩ := vaK_eq h
    obtain ⟨j, h, hj⟩ := vaK_eq h
    obtain ⟨u, hu, h⟩ := bind_some' h
    exact .inl ⟨_, _, _, _, h, fun cl l R' K' => by unfold opK; simp only [hop, over_tab, ht, hv, hj, hu, Option.bind_some]⟩
   ·rename_i ht
    obtain ⟨v, h, hv⟩ := vaK_eq h
    obtain ⟨j, h, hj⟩ := vaK_eq h
    obtain ⟨u, hu, h⟩ := bind_some' h
    exact .inl ⟨_, _, _, _, h, fun cl l R' K' => by unfold opK; simp only [hop, over_tab, ht, hv, hj, hu, Option.bind_some]⟩
   ·cases h
 | extract x i =>
   simp only [hop] at h
   obtain ⟨v, h, hv⟩ := vaK_eq h
   obtain ⟨u, hu, h⟩ := bind_some' h
   exact .inl ⟨_, _, _, _, h, fun cl l R' K' => by unfold opK; simp only [hop, hv, hu, Option.bind_some]⟩
 | call c =>
   simp only [hop] at h
   split at h
   ·rename_i hcal
    split at h
    ·rename_i x t hargs htys
     split at h
     ·rename_i ht
      obtain ⟨v, h, hv⟩ := vaK_eq h
      obtain ⟨u, hu, h⟩ := bind_some' h
      exact .inl ⟨_, _, _, _, h, fun cl l R' K' => by unfold opK; simp only [hop, over_tab, hcal, hargs, htys, ht, hv, hu, Option.bind_some]⟩
     ·rename_i ht
      obtain ⟨v, h, hv⟩ := vaK_eq h
      obtain ⟨u, hu, h⟩ := bind_some' h
      exact .inl ⟨_, _, _, _, h, fun cl l R' K' => by unfold opK; simp only [hop, over_tab, hcal, hargs, htys, ht, hv, hu, Option.bind_some]⟩
     ·cases h
    ·cases h
   ·rename_i hcal
    split at h
    ·rename_i x y hargs
     obtain ⟨v, h, hv⟩ := vaK_eq h
     obtain ⟨u, h, hu⟩ := vaK_eq h
     obtain ⟨m, hm, h⟩ := bind_some' h
     exact .inl ⟨_, _, _, _, h, fun cl l R' K' => by unfold opK; simp only [hop, over_tab, hcal, hargs, hv, hu, hm, Option.bind_some]⟩
    ·cases h
   ·rename_i hcal
    split at h
    ·rename_i x y t u d hargs htys hdst
     split at h
     ·rename_i ht hu
      obtain ⟨s, h, hs⟩ := vaK_eq h
      obtain ⟨v, h, hv⟩ := vaK_eq h
      obtain ⟨v', hv', h⟩ := bind_some' h
      split at h
      ·rename_i hm
       obtain ⟨q, hq, h⟩ := bind_some' h
       exact .inl ⟨_, _, _, _, h, fun cl l R' K' => by unfold opK; simp only [hop, over_tab, hcal, hargs, htys, hdst, ht, hu, hs, hv, hv', hm, hq, Option.bind_some]⟩
      ·rename_i hm
       obtain ⟨q, hq, h⟩ := bind_some' h
       exact .inl ⟨_, _, _, _, h, fun cl l R' K' => by unfold opK; simp only [hop, over_tab, hcal, hargs, htys, hdst, ht, hu, hs, hv, hv', hm, hq, Option.bind_some]⟩
     ·rename_i ht hu
      obtain ⟨s, h, hs⟩ := vaK_eq h
      obtain ⟨v, h, hv⟩ := vaK_eq h
      obtain ⟨v', hv', h⟩ := bind_some' h
      split at h
      ·rename_i hm
       obtain ⟨q, hq, h⟩ := bind_some' h
       exact .inl ⟨_, _, _, _, h, fun cl l R' K' => by unfold opK; simp only [hop, over_tab, hcal, hargs, htys, hdst, ht, hu, hs, hv, hv', hm, hq, Option.bind_some]⟩
      ·rename_i hm
       obtain ⟨q, hq, h⟩ := bind_some' h
       exact .inl ⟨_, _, _, _, h, fun cl l R' K' => by unfold opK; simp only [hop, over_tab, hcal, hargs, htys, hdst, ht, hu, hs, hv, hv', hm, hq, Option.bind_some]⟩
     ·cases h
    ·cases h
   ·rename_i f hcal
    obtain ⟨vs, h, hvs⟩ := vasK_eq h
    split at h
    ·rename_i hk
     obtain ⟨q, hq, h⟩ := bind_some' h
     exact .inr (.inl ⟨_, _, _, hq, h, fun cl l R' K' => by unfold opK; simp only [hop, hcal, hvs, over_kind, hk, over_call]⟩)
    ·rename_i hk
     obtain ⟨q, hq, h⟩ := bind_some' h
     exact .inr (.inr (.inl ⟨_, _, _, hq, h, fun cl l R' K' => by unfold opK; simp only [hop, hcal, hvs, over_kind, hk, over_call]⟩))
    ·rename_i hk
     obtain ⟨q, hq, h⟩ := bind_some' h
     exact .inr (.inr (.inr ⟨_, _, _, hq, h, fun cl l R' K' => by unfold opK; simp only [hop, hcal, hvs, over_kind, hk, over_call]⟩))
    ·rename_i n hk
     obtain ⟨q, hq, h⟩ := bind_some' h
     exact .inl ⟨_, _, _, _, h, fun cl l R' K' => by unfold opK; simp only [hop, hcal, hvs, over_kind, hk, over_ext, hq, Option.bind_some]⟩
   ·rename_i fv hne hcal
    obtain ⟨f, h, hf⟩ := vaK_eq h
    obtain ⟨vs, h, hvs⟩ := vasK_eq h
    obtain ⟨p, hp, h⟩ := bind_some' h
    split at h
    ·rename_i hq'
     obtain ⟨q, hq, h⟩ := bind_some' h
     refine .inr (.inr (.inl ⟨_, _, _, hq, h, fun cl l R' K' => ?_⟩))
     unfold opK
     cases fv with
     | func f => exact absurd rfl (hne f)
     | _ => simp only [hop, hcal, hf, hvs, hp, hq', over_call, Option.bind_some]
    ·rename_i hq'
     obtain ⟨q, hq, h⟩ := bind_some' h
     refine .inr (.inl ⟨_, _, _, hq, h, fun cl l R' K' => ?_⟩)
     unfold opK
     cases fv with
     | func f => exact absurd rfl (hne f)
     | _ => simp only [hop, hcal, hf, hvs, hp, hq', over_call, Option.bind_some]
   ·cases h
 | _ => simp only [hop] at h; cases h
end
end Go.AM

/- The abstract call without a count of steps. -/
namespace Go.AM
set_option linter.unusedSimpArgs false
set_option linter.unusedVariables false
def Evt (p : Nat -> Prop) : Prop := ∃ n, ∀ m, n <= m -> p m
theorem Evt.and {p q : Nat -> Prop} (h : Evt p) (k : Evt q) : Evt fun m => p m /\ q m := by
 obtain ⟨n1, h1⟩ := h
 obtain ⟨n2, h2⟩ := k
 exact ⟨max n1 n2, fun m hm => ⟨h1 m (by omega), h2 m (by omega)⟩⟩
theorem Evt.imp {p q : Nat -> Prop} (h : Evt p) (k : ∀ m, p m -> q m) : Evt q := by
 obtain ⟨n, h⟩ := h
 exact ⟨n, fun m hm => k m (h m hm)⟩
theorem Evt.of {p : Nat -> Prop} (h : ∀ m, p m) : Evt p := ⟨0, fun m _ => h m⟩
theorem Evt.const {p : Prop} (h : Evt fun _ => p) : p := by
 obtain ⟨n, h⟩ := h
 exact h n (Nat.le_refl _)
theorem saveK_eq {R : Type} {kp : Keep} {st : St} {K : List Value -> Heap -> Option R} {r : R} (h : saveK kp st K = some r) : ∃ vs, K vs st.hp = some r /\ ∀ (R' : Type) (K' : List Value -> Heap -> Option R'), saveK kp st K' = K' vs st.hp := by
 have hv : ∀ {ss : List Nat} {R : Type} {K : List Value -> Option R} {r : R}, valsK st.env ss K = some r -> ∃ vs, K vs = some r /\ ∀ (R' : Type) (K' : List Value -> Option R'), valsK st.env ss K' = K' vs := by
  intro ss
  induction ss with
  | nil => intro R K r h; exact ⟨[], h, fun _ _ => rfl⟩
  | cons s ss ih =>
    intro R K r h
    simp only [valsK] at h
    split at h
    ·rename_i v hl
     obtain ⟨vs, h1, h2⟩ := ih h
     exact ⟨v :: vs, h1, fun R' K' => by simp only [valsK, hl, h2]⟩
    ·cases h
 have hc : ∀ {ks : List (Nat × Nat)} {R : Type} {K : List Value -> Option R} {r : R}, csK st.loc ks K = some r -> ∃ vs, K vs = some r /\ ∀ (R' : Type) (K' : List Value -> Option R'), csK st.loc ks K' = K' vs := by
  intro ks
  induction ks with
  | nil => intro R K r h; exact ⟨[], h, fun _ _ => rfl⟩
  | cons s ks ih =>
    intro R K r h
    obtain ⟨k, n⟩ := s
    simp only [csK] at h
    split at h
    ·rename_i cs hl
     split at h
     ·rename_i hb
      obtain ⟨vs, h1, h2⟩ := ih h
      exact ⟨cs ++ vs, h1, fun R' K' => by simp only [csK, hl, hb, h2]⟩
     ·cases h
    ·cases h
 unfold saveK at h
 split at h
 ·rename_i hl
  obtain ⟨vs, h, h1⟩ := hv h
  obtain ⟨cs, h, h2⟩ := hc h
  exact ⟨_, h, fun R' K' => by simp only [saveK, hl, h1, h2]⟩
 ·cases h
theorem loadK_eq {R : Type} {kp : Keep} {vs : List Value} {hp : Heap} {K : St -> Option R} {r : R} (h : loadK kp vs hp K = some r) : K (loadSt kp vs hp) = some r /\ ∀ (R' : Type) (K' : St -> Option R'), loadK kp vs hp K' = K' (loadSt kp vs hp) := by
 refine ⟨loadK_st h, fun R' K' => ?_⟩
 unfold loadK at h ⊢
 split at h
 ·split at h
  ·rename_i hl; simp only [hl, if_true]; rfl
  ·cases h
 ·cases h
theorem inK_eq {R : Type} {vs : List Value} {hp : Heap} {K : Exit -> St -> Option R} {r : R} : ∀ {outs : List (Exit × Keep)} {n : Nat}, inK outs n vs hp K = some r -> ∃ e st, K e st = some r /\ ∀ (R' : Type) (K' : Exit -> St -> Option R'), inK outs n vs hp K' = K' e st
 | [], _, h => by cases h
 | (x, kp) :: l, 0, h => ⟨x, _, loadK_st h, fun R' K' => by simp only [inK, (loadK_eq h).2]⟩
 | (x, kp) :: l, n + 1, h => by
   obtain ⟨e, st, h1, h2⟩ := inK_eq (outs := l) (n := n) h
   exact ⟨e, st, h1, fun R' K' => by simp only [inK, h2]⟩
theorem guardK_eq {R : Type} {ops : Array Oper} {o : Oper} {env : List (Nat × EV)} {run pass : List (Nat × EV) -> Option R} {r : R} (h : guardK ops o env run pass = some r) :
 ∃ env', (run env' = some r /\ ∀ (R' : Type) (run' pass' : List (Nat × EV) -> Option R'), guardK ops o env run' pass' = run' env') ∨ (pass env' = some r /\ ∀ (R' : Type) (run' pass' : List (Nat × EV) -> Option R'), guardK ops o env run' pass' = pass' env') := by
 unfold guardK at h
 split at h
 ·rename_i hg
  exact ⟨_, .inl ⟨h, fun R' run' pass' => by simp only [guardK, hg]⟩⟩
 ·rename_i j want hg
  split at h
  ·cases h
  ·rename_i d hd
   split at h
   ·rename_i v hl
    have hv : v = .bool true ∨ v = .bool false := by
     cases v with
     | bool b => cases b <;> simp
     | _ => cases want <;> cases h
    rcases hv with rfl | rfl <;> cases want <;> simp only [ifV] at h <;>
     first
      | exact ⟨_, .inl ⟨h, fun R' run' pass' => by simp only [guardK, hg, hd, hl, ifV]⟩⟩
      | exact ⟨_, .inr ⟨h, fun R' run' pass' => by simp only [guardK, hg, hd, hl, ifV]⟩⟩
   ·rename_i hl
    exact ⟨_, .inr ⟨h, fun R' run' pass' => by simp only [guardK, hg, hd, hl]⟩⟩
   ·cases h
structure Near (X : Ctx) (c : Nat -> CallT) (l : Nat -> LpT) : Prop where
 call : ∀ f vs hp res, X.call f vs hp = some res -> Evt fun m => c m f vs hp = some res
 lp : ∀ (B : List Value -> Heap -> Option (Option Nat × List Value × Heap)) (Bm : Nat -> List Value -> Heap -> Option (Option Nat × List Value × Heap)), (∀ vs hp res, B vs hp = some res -> Evt fun m => Bm m vs hp = some res) →
  ∀ vs hp res, X.lp B vs hp = some res -> Evt fun m => l m (Bm m) vs hp = some res
theorem qcall_eq {c c' : CallT} {f : FuncId} {vs : List Value} {hp : Heap} {v : Value} (h : qcall c f vs hp = some v) : ∃ res, c f vs hp = some res /\ (c' f vs hp = some res -> qcall c' f vs hp = some v) := by
 unfold qcall at h ⊢
 obtain ⟨res, h1, h2⟩ := bind_some' h
 exact ⟨res, h1, fun h3 => by rw [h3]; exact h2⟩
theorem acall_eq {c c' : CallT} {f : FuncId} {vs : List Value} {hp : Heap} {v : Value × Heap} (h : acall c f vs hp = some v) : ∃ res, c f vs hp = some res /\ (c' f vs hp = some res -> acall c' f vs hp = some v) := by
 unfold acall at h ⊢
 obtain ⟨res, h1, h2⟩ := bind_some' h
 exact ⟨res, h1, fun h3 => by rw [h3]; exact h2⟩
section
variable {X : Ctx} {c : Nat -> CallT} {l : Nat -> LpT} {A : Ann}
theorem opK_app (hN : Near X c l) {R : Type} {r : R} {o : Oper} {st : St} {K : EV -> List (Nat × List Value) -> Heap -> Cls -> Option R} {Km : Nat -> EV -> List (Nat × List Value) -> Heap -> Cls -> Option R}
 (h : opK X A o st K = some r) (hK : ∀ e loc hp cl, K e loc hp cl = some r -> Evt fun m => Km m e loc hp cl = some r) : Evt fun m => opK (X.over (c m) (l m)) A o st (Km m) = some r := by
 rcases opK_cont h with ⟨e, loc, hp, cl, h1, h2⟩ | ⟨f, vs, res, h1, h2, h3⟩ | ⟨f, vs, v, h1, h2, h3⟩ | ⟨f, vs, v, h1, h2, h3⟩
 ·exact (hK _ _ _ _ h1).imp fun m hm => by rw [h2]; exact hm
 ·exact ((hN.call _ _ _ _ h1).and (hK _ _ _ _ h2)).imp fun m ⟨a, b⟩ => by rw [h3, a]; exact b
 ·obtain ⟨res, g1, _⟩ := qcall_eq (c' := X.call) h1
  refine ((hN.call _ _ _ _ g1).and (hK _ _ _ _ h2)).imp fun m ⟨a, b⟩ => ?_
  obtain ⟨res', g2, g3⟩ := qcall_eq (c' := c m) h1
  rw [g1] at g2; cases g2
  rw [h3, g3 a]; exact b
 ·obtain ⟨res, g1, _⟩ := acall_eq (c' := X.call) h1
  refine ((hN.call _ _ _ _ g1).and (hK _ _ _ _ h2)).imp fun m ⟨a, b⟩ => ?_
  obtain ⟨res', g2, g3⟩ := acall_eq (c' := c m) h1
  rw [g1] at g2; cases g2
  rw [h3, g3 a]; exact b
theorem regK_app (hN : Near X c l) {R : Type} {r : R} {ops : Array Oper} : ∀ {os : List Oper} {cl : List Cls} {st : St} {K : List Cls -> St -> Option R} {Km : Nat -> List Cls -> St -> Option R},
 regK X A ops os cl st K = some r -> (∀ cl st, K cl st = some r -> Evt fun m => Km m cl st = some r) -> Evt fun m => regK (X.over (c m) (l m)) A ops os cl st (Km m) = some r
 | [], cl, st, K, Km, h, hK => hK _ _ h
 | o :: os, cl, st, K, Km, h, hK => by
   simp only [regK] at h ⊢
   obtain ⟨env', ⟨h1, h2⟩ | ⟨h1, h2⟩⟩ := guardK_eq h
   ·refine (opK_app hN h1 (Km := fun m e loc hp c' => regK (X.over (c m) (l m)) A ops os (c' :: cl) ⟨putE env' o.dst e, loc, hp⟩ (Km m)) fun e loc hp cl' h3 => regK_app hN h3 hK).imp fun m hm => ?_
    rw [h2]; exact hm
   ·exact (regK_app hN h1 hK).imp fun m hm => by rw [h2]; exact hm
theorem codeK_app (hN : Near X c l) : ∀ (x : Code) {R : Type} {r : R} {st : St} {K : Exit -> St -> Option R} {Km : Nat -> Exit -> St -> Option R},
 codeK X A x st K = some r -> (∀ e st, K e st = some r -> Evt fun m => Km m e st = some r) -> Evt fun m => codeK (X.over (c m) (l m)) A x st (Km m) = some r
 | .skip, R, r, st, K, Km, h, hK => hK _ _ h
 | .exit id, R, r, st, K, Km, h, hK => hK _ _ h
 | .ret, R, r, st, K, Km, h, hK => hK _ _ h
 | .region id ops draw, R, r, st, K, Km, h, hK => by
   cases draw with
   | false =>
     simp only [codeK] at h ⊢
     exact regK_app hN h fun cl st h => hK _ _ h
   | true =>
     simp only [codeK] at h ⊢
     refine regK_app hN h fun cl st h => ?_
     split at h
     ·exact hK _ _ h
     ·cases h
 | .cond y a b, R, r, st, K, Km, h, hK => by
   simp only [codeK] at h ⊢
   obtain ⟨v, h, hv⟩ := vaK_eq h
   have hb : (v = .bool true /\ codeK X A a st K = some r) ∨ (v = .bool false /\ codeK X A b st K = some r) := by
    ·unfold ifV at h
     split at h
     ·exact .inl ⟨rfl, h⟩
     ·exact .inr ⟨rfl, h⟩
     ·cases h
   rcases hb with ⟨rfl, h⟩ | ⟨rfl, h⟩
   ·exact (codeK_app hN a h hK).imp fun m hm => by rw [hv]; exact hm
   ·exact (codeK_app hN b h hK).imp fun m hm => by rw [hv]; exact hm
 | .block id a, R, r, st, K, Km, h, hK => by
   simp only [codeK] at h ⊢
   refine codeK_app hN a h fun e st h => ?_
   cases e with
   | exit i =>
     simp only at h ⊢
     split at h
     ·rename_i hb; exact (hK _ _ h).imp fun m hm => by first | exact hm | (rw [hb]; exact hm)
     ·rename_i hb; exact (hK _ _ h).imp fun m hm => by first | exact hm | (rw [hb]; exact hm)
   | _ => exact hK _ _ h
 | .seq a b, R, r, st, K, Km, h, hK => by
   simp only [codeK] at h ⊢
   have behind : ∀ (e : Exit) (st : St), (match e with | .normal => codeK X A b st K | e => K e st) = some r -> Evt fun m => (match e with | .normal => codeK (X.over (c m) (l m)) A b st (Km m) | e => Km m e st) = some r := by
    intro e st h
    cases e with
    | normal => exact codeK_app hN b h hK
    | _ => exact hK _ _ h
   split at h
   ·rename_i hj
    exact (codeK_app hN a h (Km := fun m e st => match e with | .normal => codeK (X.over (c m) (l m)) A b st (Km m) | e => Km m e st) behind).imp fun m hm => hm
   ·rename_i outs hj
    obtain ⟨s, hs, h⟩ := bind_some' h
    obtain ⟨e, st', h1, h2⟩ := inK_eq h
    refine ((codeK_app hN a hs (Km := fun _ e st => outK outs e st fun n vs hp => some (n, vs, hp)) fun e st h => Evt.of fun _ => h).and (behind e st' h1)).imp fun m ⟨g1, g2⟩ => ?_
    show (Option.bind _ _) = some r
    rw [g1]
    simp only [Option.bind_some]
    rw [h2]; exact g2
 | .loop a, R, r, st, K, Km, h, hK => by
   simp only [codeK] at h ⊢
   split at h
   ·cases h
   ·rename_i li hli
    obtain ⟨vs, h, h0⟩ := saveK_eq h
    obtain ⟨res, hres, h⟩ := bind_some' h
    obtain ⟨e, st', h1, h2⟩ := inK_eq h
    have hB := hN.lp (roundB X A li a) (fun m => roundB (X.over (c m) (l m)) A li a) (fun vs hp res hr => by
     obtain ⟨g1, g2⟩ := loadK_eq hr
     exact (codeK_app hN a g1 (Km := fun _ e st => match e with
      | .normal => saveK li.ks st fun vs hp => some (none, vs, hp)
      | e => outK li.outs e st fun n vs hp => some (some n, vs, hp)) fun e st h => Evt.of fun _ => h).imp fun m hm => by unfold roundB; rw [g2]; exact hm) _ _ _ hres
    refine (hB.and (hK e st' h1)).imp fun m ⟨g1, g2⟩ => ?_
    rw [h0]
    have g1' : (X.over (c m) (l m)).lp (roundB (X.over (c m) (l m)) A li a) vs st.hp = some res := g1
    show Option.bind ((X.over (c m) (l m)).lp (roundB (X.over (c m) (l m)) A li a) vs st.hp) _ = some r
    rw [g1']
    simp only [Option.bind_some]
    rw [h2]; exact g2
 | .rangeFunc .., R, r, st, K, Km, h, hK => by cases h
 | .scope .., R, r, st, K, Km, h, hK => by cases h
 | .label .., R, r, st, K, Km, h, hK => by cases h
 | .goto .., R, r, st, K, Km, h, hK => by cases h
 | .refuse .., R, r, st, K, Km, h, hK => by cases h
theorem resK_over {R : Type} (X : Ctx) (c : CallT) (l : LpT) (st : St) : ∀ (rs : List ResultVar) (K : List Value -> Option R), resK (X.over c l) rs st K = resK X rs st K
 | [], K => rfl
 | .tmp t :: rs, K => by
   simp only [resK, resK_over X c l st rs]
 | .cell a t :: rs, K => by
   simp only [resK, over_tab, resK_over X c l st rs]
theorem bodyK_app (hN : Near X c l) {f : FuncId} {args : List Value} {hp : Heap} {r : Value × Heap} (h : bodyK X f args hp = some r) : Evt fun m => bodyK (X.over (c m) (l m)) f args hp = some r := by
 unfold bodyK at h ⊢
 have e1 : ∀ m, (X.over (c m) (l m)).fn f = X.fn f := fun _ => rfl
 have e2 : ∀ m, (X.over (c m) (l m)).ann f = X.ann f := fun _ => rfl
 simp only [e1, e2]
 split at h
 ·cases h
 ·rename_i fn hf
  split at h
  ·cases h
  ·rename_i x hx
   split at h
   ·rename_i hd
    try simp only [hf, hx, hd]
    refine (codeK_app hN x h (Km := fun m e st => match e with
     | .normal | .ret => resK (X.over (c m) (l m)) fn.results.toList st fun vs => some (one vs, st.hp)
     | _ => none) fun e st h => Evt.of fun m => ?_).imp fun m hm => hm
    cases e <;> first | (simp only [resK_over]; exact h) | exact h
   ·cases h
end
structure Base where
 ng : Nat
 tab : List (Nat × TI)
 fn : FuncId -> Option Func
 ann : FuncId -> Ann
 kind : FuncId -> Nat
 ext : Nat -> List Value -> Option Value
 prim : FuncId -> Option (List Value -> Heap -> Option (Value × Heap))
def Base.ctx (b : Base) (call : CallT) (lp : LpT) : Ctx := ⟨b.ng, b.tab, b.fn, b.ann, b.kind, b.ext, call, lp⟩
def lpN : Nat -> LpT
 | 0, _, _, _ => none
 | n + 1, B, vs, hp => match B vs hp with
   | none => none
   | some (none, vs, hp) => lpN n B vs hp
   | some (some m, vs, hp) => some (m, vs, hp)
noncomputable def callN (b : Base) : Nat -> CallT
 | 0, _, _, _ => none
 | n + 1, f, args, hp => match b.prim f with
   | some g => g args hp
   | none => bodyK (b.ctx (callN b n) (lpN n)) f args hp
noncomputable def limO {α : Type} (g : Nat -> Option α) : Option α := @dite _ (∃ a, Evt fun n => g n = some a) (Classical.propDecidable _) (fun h => some (Classical.choose h)) (fun _ => none)
theorem limO_some {α : Type} {g : Nat -> Option α} {a : α} : limO g = some a ↔ Evt fun n => g n = some a := by
 unfold limO
 constructor
 ·intro h
  split at h
  ·rename_i hex
   have := Classical.choose_spec hex
   cases h; exact this
  ·cases h
 ·intro h
  have hex : ∃ a, Evt fun n => g n = some a := ⟨a, h⟩
  rw [dif_pos hex]
  obtain ⟨n1, h1⟩ := Classical.choose_spec hex
  obtain ⟨n2, h2⟩ := h
  have e1 : g (max n1 n2) = _ := h1 (max n1 n2) (by omega)
  have e2 : g (max n1 n2) = _ := h2 (max n1 n2) (by omega)
  rw [<- e1, e2]
noncomputable def lpW : LpT := fun B vs hp => limO fun n => lpN n B vs hp
noncomputable def callW (b : Base) : CallT := fun f args hp => limO fun n => callN b n f args hp
theorem lpN_LpN {B : List Value -> Heap -> Option (Option Nat × List Value × Heap)} : ∀ {n : Nat} {vs : List Value} {hp : Heap} {res : Nat × List Value × Heap}, lpN n B vs hp = some res -> ∃ m, LpN B m vs hp res
 | 0, _, _, _, h => by cases h
 | n + 1, vs, hp, res, h => by
   simp only [lpN] at h
   split at h
   ·cases h
   ·rename_i hb
    obtain ⟨m, hm⟩ := lpN_LpN h
    exact ⟨m + 1, .more hb hm⟩
   ·rename_i hb
    cases h
    exact ⟨0, .stop hb⟩
theorem LpN_lpN {B : List Value -> Heap -> Option (Option Nat × List Value × Heap)} {Bm : Nat -> List Value -> Heap -> Option (Option Nat × List Value × Heap)} (hB : ∀ vs hp res, B vs hp = some res -> Evt fun m => Bm m vs hp = some res)
 {n : Nat} {vs : List Value} {hp : Heap} {res : Nat × List Value × Heap} (h : LpN B n vs hp res) : Evt fun m => ∀ k, n < k -> lpN k (Bm m) vs hp = some res := by
 induction h with
 | stop h =>
   refine (hB _ _ _ h).imp fun m hm k hk => ?_
   obtain ⟨k, rfl⟩ : ∃ j, k = j + 1 := ⟨k - 1, by omega⟩
   simp only [lpN, hm]
 | more h _ ih =>
   refine ((hB _ _ _ h).and ih).imp fun m ⟨g1, g2⟩ k hk => ?_
   obtain ⟨k, rfl⟩ : ∃ j, k = j + 1 := ⟨k - 1, by omega⟩
   simp only [lpN, g1]
   exact g2 k (by omega)
theorem lpOk_N (n : Nat) : LpOk (lpN n) := fun _ _ _ _ h => lpN_LpN h
theorem lpOk_W : LpOk lpW := fun B vs hp res h => by
 obtain ⟨n, hn⟩ := limO_some.1 h
 exact lpN_LpN (hn n (Nat.le_refl _))
theorem near_lpW (B : List Value -> Heap -> Option (Option Nat × List Value × Heap)) (Bm : Nat -> List Value -> Heap -> Option (Option Nat × List Value × Heap)) (hB : ∀ vs hp res, B vs hp = some res -> Evt fun m => Bm m vs hp = some res)
 (vs : List Value) (hp : Heap) (res : Nat × List Value × Heap) {lp : LpT} (hl : LpOk lp) (h : lp B vs hp = some res) : Evt fun m => lpN m (Bm m) vs hp = some res := by
 obtain ⟨n, hn⟩ := hl _ _ _ _ h
 obtain ⟨n1, h1⟩ := LpN_lpN hB hn
 exact ⟨max n1 (n + 1), fun m hm => h1 m (by omega) m (by omega)⟩
theorem callN_mono (b : Base) : ∀ (n : Nat) (f : FuncId) (args : List Value) (hp : Heap) (r : Value × Heap), callN b n f args hp = some r -> ∀ m, n <= m -> callN b m f args hp = some r := by
 intro n
 induction n with
 | zero => intro f args hp r h; cases h
 | succ n ih =>
   intro f args hp r h m hm
   obtain ⟨m, rfl⟩ : ∃ j, m = j + 1 := ⟨m - 1, by omega⟩
   simp only [callN] at h ⊢
   split at h
   ·rename_i g hg; first | exact h | (simp only [hg]; exact h)
   ·rename_i hg
    try simp only [hg]
    have hN : Near (b.ctx (callN b n) (lpN n)) (fun _ => callN b m) (fun _ => lpN m) := by
     refine ⟨fun f vs hp res h => Evt.of fun _ => ih f vs hp res h m (by omega), fun B Bm hB vs hp res h => ?_⟩
     have h' : lpN n B vs hp = some res := h
     clear h
     have : ∀ (n m : Nat) (vs : List Value) (hp : Heap), n <= m -> lpN n B vs hp = some res -> Evt fun k => lpN m (Bm k) vs hp = some res := by
      intro n
      induction n with
      | zero => intro m vs hp _ h; cases h
      | succ n ihn =>
        intro m vs hp hm h
        obtain ⟨m, rfl⟩ : ∃ j, m = j + 1 := ⟨m - 1, by omega⟩
        simp only [lpN] at h
        split at h
        ·cases h
        ·rename_i hb
         exact ((hB _ _ _ hb).and (ihn m _ _ (by omega) h)).imp fun k ⟨g1, g2⟩ => by simp only [lpN, g1]; exact g2
        ·rename_i hb
         cases h
         exact (hB _ _ _ hb).imp fun k g1 => by simp only [lpN, g1]
     exact this n m vs hp (by omega) h'
    exact (bodyK_app hN h).const
theorem callW_of {b : Base} {n : Nat} {f : FuncId} {args : List Value} {hp : Heap} {r : Value × Heap} (h : callN b n f args hp = some r) : callW b f args hp = some r :=
 limO_some.2 ⟨n, fun m hm => callN_mono b n f args hp r h m hm⟩
theorem lpW_of {n : Nat} {B : List Value -> Heap -> Option (Option Nat × List Value × Heap)} {vs : List Value} {hp : Heap} {r : Nat × List Value × Heap} (h : lpN n B vs hp = some r) : lpW B vs hp = some r := by
 obtain ⟨m, hm⟩ := lpN_LpN h
 obtain ⟨n1, h1⟩ := LpN_lpN (Bm := fun _ => B) (fun _ _ _ h => Evt.of fun _ => h) hm
 exact limO_some.2 ⟨m + 1, fun k hk => h1 n1 (Nat.le_refl _) k (by omega)⟩
theorem callW_eq (b : Base) (f : FuncId) (args : List Value) (hp : Heap) (hp' : b.prim f = none) : callW b f args hp = bodyK (b.ctx (callW b) lpW) f args hp := by
 have to : ∀ r, callW b f args hp = some r -> bodyK (b.ctx (callW b) lpW) f args hp = some r := by
  intro r h
  obtain ⟨n, hn⟩ := limO_some.1 h
  have := hn (n + 1) (by omega)
  simp only [callN, hp'] at this
  have hN : Near (b.ctx (callN b n) (lpN n)) (fun _ => callW b) (fun _ => lpW) := by
   refine ⟨fun f vs hp res h => Evt.of fun _ => callW_of h, fun B Bm hB vs hp res h => ?_⟩
   obtain ⟨m, hm⟩ := lpN_LpN (n := n) h
   exact (LpN_lpN hB hm).imp fun k hk => lpW_of (hk (m + 1) (by omega))
  exact (bodyK_app hN this).const
 have back : ∀ r, bodyK (b.ctx (callW b) lpW) f args hp = some r -> callW b f args hp = some r := by
  intro r h
  have hN : Near (b.ctx (callW b) lpW) (callN b) lpN := by
   refine ⟨fun f vs hp res h => limO_some.1 h, fun B Bm hB vs hp res h => near_lpW B Bm hB vs hp res lpOk_W h⟩
  obtain ⟨n, hn⟩ := bodyK_app hN h
  have h1 : callN b (n + 1) f args hp = some r := by
   simp only [callN, hp']
   exact hn n (Nat.le_refl _)
  exact callW_of h1
 cases h1 : callW b f args hp with
 | some r => exact (to r h1).symm
 | none =>
   cases h2 : bodyK (b.ctx (callW b) lpW) f args hp with
   | none => rfl
   | some r => rw [back r h2] at h1; cases h1
theorem lpW_eq (B : List Value -> Heap -> Option (Option Nat × List Value × Heap)) (vs : List Value) (hp : Heap) :
 lpW B vs hp = match B vs hp with | none => none | some (none, vs, hp) => lpW B vs hp | some (some m, vs, hp) => some (m, vs, hp) := by
 cases hb : B vs hp with
 | none =>
   simp only
   cases h : lpW B vs hp with
   | none => rfl
   | some r =>
     obtain ⟨n, hn⟩ := limO_some.1 h
     have := hn (n + 1) (by omega)
     simp only [lpN, hb] at this; cases this
 | some x =>
   obtain ⟨o, vs1, hp1⟩ := x
   cases o with
   | some m => exact lpW_of (n := 1) (by simp only [lpN, hb])
   | none =>
     simp only
     cases h : lpW B vs1 hp1 with
     | some r =>
       obtain ⟨n, hn⟩ := limO_some.1 h
       exact lpW_of (n := n + 1) (by simp only [lpN, hb]; exact hn n (Nat.le_refl _))
     | none =>
       cases h2 : lpW B vs hp with
       | none => rfl
       | some r =>
         obtain ⟨n, hn⟩ := limO_some.1 h2
         have := hn (n + 1) (by omega)
         simp only [lpN, hb] at this
         rw [lpW_of this] at h; cases h
end Go.AM

/- A region that draws its order: what the orders have in common. -/
namespace Go.AM
set_option linter.unusedSimpArgs false
set_option linter.unusedVariables false
theorem befA_bit {acc : List Nat} {i : Nat} : ∀ {es : List Edge}, (befA acc es).testBit i = true -> ∃ e ∈ es, Region.binds .any e = true /\ (e.on = i ∨ (acc.getD e.on 0).testBit i = true)
 | [], h => by simp [befA] at h
 | e :: es, h => by
   simp only [befA] at h
   split at h
   ·rename_i hb
    rw [Nat.testBit_or, Nat.testBit_or, Bool.or_eq_true, Bool.or_eq_true] at h
    rcases h with (h | h) | h
    ·obtain ⟨e', h1, h2⟩ := befA_bit h
     exact ⟨e', by simp [h1], h2⟩
    ·rw [Nat.testBit_two_pow] at h
     exact ⟨e, by simp, hb, .inl (by simpa using h)⟩
    ·exact ⟨e, by simp, hb, .inr h⟩
   ·obtain ⟨e', h1, h2⟩ := befA_bit h
    exact ⟨e', by simp [h1], h2⟩
theorem befL_len : ∀ (os : List Oper) (acc : List Nat), (befL os acc).length = acc.length + os.length
 | [], acc => rfl
 | o :: os, acc => by rw [befL, befL_len os]; simp; omega
theorem befL_old : ∀ (os : List Oper) (acc : List Nat) (j : Nat), j < acc.length -> (befL os acc)[j]? = acc[j]?
 | [], acc, j, h => rfl
 | o :: os, acc, j, h => by rw [befL, befL_old os _ j (by simp; omega), List.getElem?_append_left h]
theorem befL_get : ∀ (os : List Oper) (acc : List Nat) (k : Nat) (o : Oper), os[k]? = some o -> ∃ acc', acc'.length = acc.length + k /\ (befL os acc)[acc.length + k]? = some (befA acc' o.after.toList) /\ ∀ j, j < acc.length + k -> acc'[j]? = (befL os acc)[j]?
 | [], acc, k, o, h => by simp at h
 | o' :: os, acc, 0, o, h => by
   simp at h; subst h
   refine ⟨acc, rfl, ?_, fun j hj => ?_⟩
   ·rw [befL, befL_old os _ _ (by simp), Nat.add_zero, List.getElem?_append_right (Nat.le_refl _)]; simp
   ·rw [befL, befL_old os _ j (by simp at hj ⊢; omega), List.getElem?_append_left (by simpa using hj)]
 | o' :: os, acc, k + 1, o, h => by
   simp at h
   obtain ⟨acc', h1, h2, h3⟩ := befL_get os (acc ++ [befA acc o'.after.toList]) k o h
   simp only [List.length_append, List.length_cons, List.length_nil] at h1 h2 h3
   refine ⟨acc', by omega, ?_, fun j hj => ?_⟩
   ·rw [befL, <- h2]; congr 1; omega
   ·rw [befL]; exact h3 j (by omega)
def Before (ops : Array Oper) (i j : Nat) : Prop := ((befL ops.toList []).getD j 0).testBit i = true
theorem before_edge {ops : Array Oper} {i j : Nat} (h : Before ops i j) : ∃ o, ops[j]? = some o /\ ∃ e ∈ o.after, Region.binds .any e = true /\ (e.on = i ∨ (e.on < j /\ Before ops i e.on) ∨ ¬ e.on < j) := by
 unfold Before at h
 have hj : j < ops.toList.length := by
  rcases Nat.lt_or_ge j ops.toList.length with h' | h'
  ·exact h'
  ·rw [List.getD_eq_getElem?_getD, List.getElem?_eq_none (by rw [befL_len]; simp; simpa using h')] at h
   simp at h
 obtain ⟨acc', h1, h2, h3⟩ := befL_get ops.toList [] j ops.toList[j] (List.getElem?_eq_getElem hj)
 simp only [List.length_nil, Nat.zero_add] at h1 h2 h3
 rw [List.getD_eq_getElem?_getD, h2] at h
 simp only [Option.getD_some] at h
 obtain ⟨e, he, hb, hc⟩ := befA_bit h
 refine ⟨ops.toList[j], by simp at hj ⊢, e, by simpa using he, hb, ?_⟩
 rcases hc with hc | hc
 ·exact .inl hc
 ·by_cases hl : e.on < j
  ·refine .inr (.inl ⟨hl, ?_⟩)
   unfold Before
   rw [List.getD_eq_getElem?_getD, <- h3 e.on hl, <- List.getD_eq_getElem?_getD]
   exact hc
  ·exact .inr (.inr hl)
theorem edgesOk_lt {ops : Array Oper} (h : edgesOk ops = true) {j : Nat} {o : Oper} (ho : ops[j]? = some o) {e : Edge} (he : e ∈ o.after) (hb : Region.binds .any e = true) : e.on < j := by
 unfold edgesOk at h
 rw [List.all_eq_true] at h
 have hm : (o, j) ∈ ops.toList.zipIdx := by
  rw [List.mem_zipIdx_iff_getElem?]
  simpa using ho
 have := h _ hm
 simp only [Array.all_eq_true'] at this
 have := this e he
 simp [hb] at this
 exact this
def Down (ops : Array Oper) (D : Nat -> Prop) : Prop := ∀ j o, ops[j]? = some o -> D j -> ∀ e ∈ o.after, Region.binds .any e = true -> D e.on
theorem Down.before {ops : Array Oper} {D : Nat -> Prop} (hd : Down ops D) (he : edgesOk ops = true) : ∀ (j i : Nat), Before ops i j -> D j -> D i := by
 intro j
 induction j using Nat.strongRecOn with
 | _ j ih =>
   intro i hb hj
   obtain ⟨o, ho, e, hem, hbd, hc⟩ := before_edge hb
   have hlt := edgesOk_lt he ho hem hbd
   have hDe := hd j o ho hj e hem hbd
   rcases hc with rfl | ⟨hl, hb'⟩ | hn
   ·exact hDe
   ·exact ih e.on hl i hb' hDe
   ·exact absurd hlt hn
theorem ready_before {ops : Array Oper} {D : Nat -> Prop} (hd : Down ops D) (he : edgesOk ops = true) {j : Nat} {o : Oper} (ho : ops[j]? = some o) (hr : ∀ e ∈ o.after, Region.binds .any e = true -> D e.on) {i : Nat} (hb : Before ops i j) : D i := by
 obtain ⟨o', ho', e, hem, hbd, hc⟩ := before_edge hb
 rw [ho] at ho'; cases ho'
 rcases hc with rfl | ⟨hl, hb'⟩ | hn
 ·exact hr e hem hbd
 ·exact hd.before he e.on i hb' (hr e hem hbd)
 ·exact absurd (edgesOk_lt he ho hem hbd) hn
structure Run (P : Program) (X : Ctx) (ops : Array Oper) (S : Nat -> St) (E : Nat -> EV) (C : Nat -> Cls) (G : Nat -> Bool) (k m : Nat) : Prop where
 env : ∀ i o, k <= i -> i < m -> ops[i]? = some o -> ∀ t, look (S (i + 1)).env t = if o.dst = some t then some (E i) else look (S i).env t
 run : ∀ i o, k <= i -> i < m -> ops[i]? = some o -> G i = true -> OpSpec P X o (S i) (E i) (S (i + 1)).loc (S (i + 1)).hp (C i)
 pass : ∀ i o, k <= i -> i < m -> ops[i]? = some o -> G i = false -> E i = .skp /\ C i = .P /\ (S (i + 1)).loc = (S i).loc /\ (S (i + 1)).hp = (S i).hp
 guard : ∀ i o, k <= i -> i < m -> ops[i]? = some o -> match o.guard with
  | none => G i = true
  | some (j, want) => ∃ d, dstOf ops j = some d /\ ((∃ b, look (S i).env d = some (.val (.bool b)) /\ G i = (b == want)) ∨ (look (S i).env d = some .skp /\ G i = false))
def LookEq (a b : List (Nat × EV)) : Prop := ∀ t, look a t = look b t
theorem OpSpec.look {P : Program} {X : Ctx} {o : Oper} {st : St} {env : List (Nat × EV)} {e : EV} {loc' : List (Nat × List Value)} {hp' : Heap} {c : Cls} (h : OpSpec P X o ⟨env, st.loc, st.hp⟩ e loc' hp' c) (he : LookEq env st.env) : OpSpec P X o st e loc' hp' c := by
 have hop : ∀ ι ρ a, OperR X ι ρ st a o -> OperR X ι ρ ⟨env, st.loc, st.hp⟩ a o := fun ι ρ a hr => ⟨hr.1, hr.2.1, fun t e hm hl => hr.2.2 t e hm (by rw [<- he t]; exact hl)⟩
 cases c with
 | P =>
   obtain ⟨h1, h2, h3, h4⟩ := h
   exact ⟨h1, h2, fun k d hk => by obtain ⟨t, d', h, hm⟩ := h3 k d hk; exact ⟨t, d', by rw [<- he t]; exact h, hm⟩, fun ι ρ a w hr => h4 ι ρ a w (hop _ _ _ hr)⟩
 | L k =>
   obtain ⟨h1, h2, v, cells, h3, h4, h5⟩ := h
   exact ⟨h1, h2, v, cells, h3, h4, fun ι ρ a w hr => h5 ι ρ a w (hop _ _ _ hr)⟩
 | S k =>
   obtain ⟨h1, h2, old, cells, h3, h4, h5, h6⟩ := h
   exact ⟨h1, h2, old, cells, h3, h4, h5, fun ι ρ a w hr => h6 ι ρ a w (hop _ _ _ hr)⟩
 | N k =>
   obtain ⟨h1, h2, h3, h4, cells, h5, h6⟩ := h
   exact ⟨h1, h2, h3, h4, cells, h5, fun ι ρ a w hr => h6 ι ρ a w (hop _ _ _ hr)⟩
 | H =>
   obtain ⟨h1, h2, v, h3, h4⟩ := h
   exact ⟨h1, h2, v, h3, fun ι ρ a w B Nx Q hr => h4 ι ρ a w B Nx Q (hop _ _ _ hr)⟩
 | A =>
   obtain ⟨h1, h2, v, h3, h4⟩ := h
   exact ⟨h1, h2, v, h3, fun ι ρ a w B Nx Q hr => h4 ι ρ a w B Nx Q (hop _ _ _ hr)⟩
 | W =>
   obtain ⟨h1, h2, h3, h4⟩ := h
   exact ⟨h1, h2, h3, fun ι ρ a w B Nx Q hr => h4 ι ρ a w B Nx Q (hop _ _ _ hr)⟩
theorem guard_run {R : Type} {ops : Array Oper} {o : Oper} {env : List (Nat × EV)} {run pass : List (Nat × EV) -> Option R} {r : R} (h : guardK ops o env run pass = some r) :
 ∃ env' g, LookEq env' env /\ (if g then run env' else pass env') = some r /\ (match o.guard with
 | none => g = true
 | some (j, want) => ∃ d, dstOf ops j = some d /\ ((∃ b, look env d = some (.val (.bool b)) /\ g = (b == want)) ∨ (look env d = some .skp /\ g = false))) := by
 unfold guardK at h
 cases hg : o.guard with
 | none => rw [hg] at h; exact ⟨env, true, fun _ => rfl, h, rfl⟩
 | some p =>
   obtain ⟨j, want⟩ := p
   rw [hg] at h
   simp only at h
   cases hd : dstOf ops j with
   | none => rw [hd] at h; cases h
   | some d =>
     rw [hd] at h
     simp only at h
     cases hl : look env d with
     | none => rw [hl] at h; cases h
     | some e =>
       cases e with
       | loc k o => rw [hl] at h; cases h
       | skp => rw [hl] at h; exact ⟨env, false, fun _ => rfl, h, d, hd, .inr ⟨hl, rfl⟩⟩
       | val v =>
         rw [hl] at h
         simp only at h
         have hv : ∃ b, v = .bool b := by
          cases v with
          | bool b => exact ⟨b, rfl⟩
          | _ => cases want <;> cases h
         obtain ⟨b, rfl⟩ := hv
         refine ⟨(d, .val (.bool b)) :: env, b == want, fun t => ?_, ?_, d, hd, .inl ⟨b, hl, rfl⟩⟩
         ·rw [look_cons]; split
          ·rename_i e; subst e; exact hl.symm
          ·rfl
         ·cases b <;> cases want <;> simp only [ifV] at h <;> exact h
theorem regK_run {P : Program} {X : Ctx} {A : Ann} (hX : XOk P X) {R : Type} {r : R} {ops : Array Oper} : ∀ {os : List Oper} {k : Nat} {cl : List Cls} {st : St} {K : List Cls -> St -> Option R}, (∀ j, os[j]? = ops[k + j]?) -> regK X A ops os cl st K = some r →
 ∃ S E C G, Run P X ops S E C G k (k + os.length) /\ S k = st /\ ∃ cl', K cl' (S (k + os.length)) = some r /\ cl'.reverse = cl.reverse ++ (List.range' k os.length).map C
 | [], k, cl, st, K, _, h => ⟨fun _ => st, fun _ => .skp, fun _ => .P, fun _ => true, ⟨fun i o h1 h2 => by simp at h2; omega, fun i o h1 h2 => by simp at h2; omega, fun i o h1 h2 => by simp at h2; omega, fun i o h1 h2 => by simp at h2; omega⟩, rfl, cl, h, by simp⟩
 | o :: os, k, cl, st, K, hos, h => by
   simp only [regK] at h
   have ho : ops[k]? = some o := by simpa using (hos 0).symm
   obtain ⟨env', g, hle, hrun, hgd⟩ := guard_run h
   have hos' : ∀ j, os[j]? = ops[(k + 1) + j]? := fun j => by have := hos (j + 1); simpa [Nat.add_assoc, Nat.add_comm 1 j] using this
   have key : ∃ e loc' hp' c S E C G, Run P X ops S E C G (k + 1) (k + 1 + os.length) /\ S (k + 1) = ⟨putE env' o.dst e, loc', hp'⟩ /\ (g = true -> OpSpec P X o st e loc' hp' c) /\ (g = false -> e = .skp /\ c = .P /\ loc' = st.loc /\ hp' = st.hp) ∧
    ∃ cl', K cl' (S (k + 1 + os.length)) = some r /\ cl'.reverse = (c :: cl).reverse ++ (List.range' (k + 1) os.length).map C := by
    cases g with
    | true =>
      simp only [if_true] at hrun
      obtain ⟨e, loc', hp', c, hk, hs⟩ := opK_sound hX hrun
      obtain ⟨S, E, C, G, h1, h2, h3⟩ := regK_run hX hos' hk
      exact ⟨e, loc', hp', c, S, E, C, G, h1, h2, fun _ => hs.look hle, fun h => by (cases h), h3⟩
    | false =>
      simp only [Bool.false_eq_true, if_false] at hrun
      obtain ⟨S, E, C, G, h1, h2, h3⟩ := regK_run hX hos' hrun
      exact ⟨.skp, st.loc, st.hp, .P, S, E, C, G, h1, h2, fun h => by (cases h), fun _ => ⟨rfl, rfl, rfl, rfl⟩, h3⟩
   obtain ⟨e, loc', hp', c, S, E, C, G, h1, h2, h3, h4, cl', h5, h6⟩ := key
   have sk : ∀ (n : Nat) (x y : St), (if n + 1 = n then x else y) = y := fun n x y => if_neg (by omega)
   refine ⟨fun i => if i = k then st else S i, fun i => if i = k then e else E i, fun i => if i = k then c else C i, fun i => if i = k then g else G i, ⟨fun i o' hi1 hi2 ho' t => ?_, fun i o' hi1 hi2 ho' hg => ?_, fun i o' hi1 hi2 ho' hg => ?_, fun i o' hi1 hi2 ho' => ?_⟩, if_pos rfl, cl', ?_, ?_⟩
   ·by_cases hik : i = k
    ·subst hik
     rw [ho] at ho'; cases ho'
     simp only [if_true, sk, h2, putE_look]
     rw [hle t]
    ·rw [if_neg hik, if_neg hik, if_neg (by omega)]
     exact h1.env i o' (by omega) (by simp at hi2; omega) ho' t
   ·by_cases hik : i = k
    ·subst hik
     rw [ho] at ho'; cases ho'
     simp only [if_true] at hg
     simp only [if_true, sk, h2]
     exact h3 hg
    ·simp only [if_neg hik, if_neg (show ¬ i + 1 = k by omega)] at hg ⊢
     exact h1.run i o' (by omega) (by simp at hi2; omega) ho' hg
   ·by_cases hik : i = k
    ·subst hik
     simp only [if_true] at hg
     simp only [if_true, sk, h2]
     exact h4 hg
    ·simp only [if_neg hik, if_neg (show ¬ i + 1 = k by omega)] at hg ⊢
     exact h1.pass i o' (by omega) (by simp at hi2; omega) ho' hg
   ·by_cases hik : i = k
    ·subst hik
     rw [ho] at ho'; cases ho'
     simp only [if_true]
     exact hgd
    ·simp only [if_neg hik]
     exact h1.guard i o' (by omega) (by simp at hi2; omega) ho'
   ·have : k + (o :: os).length = k + 1 + os.length := by simp; omega
    rw [this]
    show K cl' (if k + 1 + os.length = k then st else S (k + 1 + os.length)) = some r
    rw [if_neg (by omega)]
    exact h5
   ·rw [h6]
    simp only [List.reverse_cons, List.append_assoc, List.length_cons, List.range'_succ, List.map_cons, if_true, List.singleton_append, List.cons_append, List.nil_append]
    congr 2
    refine List.map_congr_left fun i hi => ?_
    have : k + 1 <= i := (List.mem_range'_1.1 hi).1
    rw [if_neg (by omega)]
end Go.AM

/- A region that draws its order: every order comes to what the text's order comes to. -/
namespace Go.AM
set_option linter.unusedSimpArgs false
set_option linter.unusedVariables false
def cutI (ι : Inj) (hp : Heap) : Inj := fun b => if b < hp.length then ι b else none
theorem cutI_some {ι : Inj} {hp : Heap} {b : Nat} {x : Img} : cutI ι hp b = some x ↔ b < hp.length /\ ι b = some x := by
 unfold cutI
 by_cases h : b < hp.length
 ·rw [if_pos h]; exact ⟨fun h' => ⟨h, h'⟩, fun h' => h'.2⟩
 ·rw [if_neg h]; exact ⟨fun h' => (by cases h'), fun h' => absurd h'.1 h⟩
theorem cutI_sub {ι : Inj} {hp hp' : Heap} (h : hp.length <= hp'.length) : Sub (cutI ι hp) (cutI ι hp') := fun b x hb => by
 obtain ⟨h1, h2⟩ := cutI_some.1 hb
 exact cutI_some.2 ⟨by omega, h2⟩
section
variable (ops : Array Oper) (S : Nat -> St) (C : Nat -> Cls)
def ClE (D : Nat -> Prop) (i t : Nat) : Prop := ∀ j o, ops[j]? = some o -> o.dst = some t -> (D j ↔ j < i)
def ClL (D : Nat -> Prop) (i k : Nat) : Prop := ∀ j, j < ops.size -> (C j = .S k ∨ C j = .N k) -> (D j ↔ j < i)
def ClW (D : Nat -> Prop) (i : Nat) : Prop := ∀ j, j < ops.size -> C j = .W -> (D j ↔ j < i)
def Kn (D : Nat -> Prop) (k : Nat) : Prop := (look (S 0).loc k).isSome = true ∨ ∃ j, j < ops.size /\ C j = .N k /\ D j
end
structure Inv (X : Ctx) (E0 : Entry) (ops : Array Oper) (S : Nat -> St) (C : Nat -> Cls) (sz : Nat) (ι0 : Inj) (ρ : Nat -> Nat) (D : Nat -> Prop) (ι : Inj) (a : Act) (w : World) : Prop where
 size : a.tmps.size = sz
 defers : a.defers = []
 old : ∀ b, b < (S 0).hp.length -> ι b = ι0 b
 dom : ∀ b x, ι b = some x -> b < (S 0).hp.length ∨ ∃ j, j < ops.size /\ D j /\ (S j).hp.length <= b /\ b < (S (j + 1)).hp.length
 env : ∀ i t e, i <= ops.size -> ClE ops D i t -> look (S i).env t = some e -> ER (cutI ι (S i).hp) ρ e (a.eval (.tmp t))
 loc : ∀ i k c, i <= ops.size -> ClL ops C D i k -> look (S i).loc k = some c -> LocR (cutI ι (S i).hp) c w (ρ k)
 szs : ∀ i, i <= ops.size -> SzOk (cutI ι (S i).hp) (S i).hp
 rel : ∀ i, i <= ops.size -> ClW ops C D i -> Rel X.ng (cutI ι (S i).hp) (S i).hp w E0.B
 envl : ∀ i t k d, i <= ops.size -> ClE ops D i t -> look (S i).env t = some (.loc k d) -> Kn ops S C D k
 llt : ∀ k, Kn ops S C D k -> ρ k < w.heap.size
 lsep : ∀ i, i <= ops.size -> ClW ops C D i -> ∀ k b x q, Kn ops S C D k -> cutI ι (S i).hp b = some x -> blkAt (S i).hp b = some q -> x.blk ≠ ρ k
 ldist : ∀ k k', Kn ops S C D k -> Kn ops S C D k' -> ρ k = ρ k' -> k = k'
 lbase : ∀ k, Kn ops S C D k -> E0.w.heap.size <= ρ k
 fr : Fr E0.ι E0.hp E0.w w
 own : ∀ i, i <= ops.size -> ClW ops C D i -> Own E0.ι E0.hp E0.w (cutI ι (S i).hp) (S i).hp
structure Fix (P : Program) (X : Ctx) (E0 : Entry) (ops : Array Oper) (S : Nat -> St) (E : Nat -> EV) (C : Nat -> Cls) (G : Nat -> Bool) (sz : Nat) (ι0 : Inj) : Prop where
 run : Run P X ops S E C G 0 ops.size
 edges : edgesOk ops = true
 free : ∀ (i j : Nat), i < j -> j < ops.size -> Before ops i j ∨ (apartB ops i j = true /\ free2 (C i) (C j) = true)
 dst : ∀ (i : Nat) (o : Oper), ops[i]? = some o -> ∀ d, o.dst = some d -> d < sz
 mono : ∀ (i j : Nat), i <= j -> j <= ops.size -> SzKeep (S i).hp (S j).hp
 keys : ∀ (i k : Nat), i <= ops.size -> (look (S i).loc k).isSome = true -> (look (S 0).loc k).isSome = true ∨ ∃ j, j < i /\ C j = .N k
 newN : ∀ (j k : Nat), j < ops.size -> C j = .N k -> look (S 0).loc k = none /\ ∀ j', j' < ops.size -> C j' = .N k -> j' = j
 glob : GOk X.ng ι0
 gdom : ∀ b x, ι0 b = some x -> b < (S 0).hp.length
 e0 : E0.hp.length <= (S 0).hp.length
 ext0 : ExtN E0.hp.length E0.ι ι0
section
variable {P : Program} {X : Ctx} {E0 : Entry} {ops : Array Oper} {S : Nat -> St} {E : Nat -> EV} {C : Nat -> Cls} {G : Nat -> Bool} {sz : Nat} {ι0 : Inj} {ρ : Nat -> Nat}
theorem opAt {i : Nat} (h : i < ops.size) : ops[i]? = some ops[i] := Array.getElem?_eq_getElem h
theorem Fix.len (F : Fix P X E0 ops S E C G sz ι0) {i j : Nat} (h : i <= j) (hj : j <= ops.size) : (S i).hp.length <= (S j).hp.length := (F.mono i j h hj).len
theorem Fix.step (F : Fix P X E0 ops S E C G sz ι0) {i : Nat} (h : i < ops.size) : C i ≠ .W -> ∃ new, (S (i + 1)).hp = (S i).hp ++ new := by
 intro hw
 cases hg : G i with
 | false => exact ⟨[], by rw [(F.run.pass i _ (Nat.zero_le _) h (opAt h) hg).2.2.2]; simp⟩
 | true =>
   have hs := F.run.run i _ (Nat.zero_le _) h (opAt h) hg
   generalize hc : C i = c at hs
   cases c with
   | P => exact ⟨[], by rw [hs.2.1]; simp⟩
   | L k => exact ⟨[], by rw [hs.2.1]; simp⟩
   | S k => exact ⟨[], by rw [hs.2.1]; simp⟩
   | N k => exact ⟨[], by rw [hs.2.2.1]; simp⟩
   | H => exact ⟨[], by rw [hs.2.1]; simp⟩
   | A => exact hs.2.1
   | W => exact absurd hc hw
theorem Fix.longer (F : Fix P X E0 ops S E C G sz ι0) {i j : Nat} (h : i <= j) (hj : j <= ops.size) (hn : ∀ k, i <= k -> k < j -> C k ≠ .W) : ∃ new, (S j).hp = (S i).hp ++ new := by
 induction j with
 | zero => have : i = 0 := by omega
           subst this; exact ⟨[], by simp⟩
 | succ j ih =>
   by_cases hij : i = j + 1
   ·subst hij; exact ⟨[], by simp⟩
   ·obtain ⟨new, h1⟩ := ih (by omega) (by omega) (fun k h1 h2 => hn k h1 (by omega))
    obtain ⟨new', h2⟩ := F.step (i := j) (by omega) (hn j (by omega) (by omega))
    exact ⟨new ++ new', by rw [h2, h1, List.append_assoc]⟩
theorem ClW.same {D : Nat -> Prop} {i j : Nat} (h1 : ClW ops C D i) (h2 : ClW ops C D j) (hij : i <= j) (hj : j <= ops.size) : ∀ k, i <= k -> k < j -> C k ≠ .W := by
 intro k hk1 hk2 hc
 have a := h1 k (by omega) hc
 have b := h2 k (by omega) hc
 have := b.2 hk2
 have := a.1 this
 omega
theorem Fix.blk (F : Fix P X E0 ops S E C G sz ι0) {D : Nat -> Prop} {i j : Nat} (h1 : ClW ops C D i) (h2 : ClW ops C D j) (hi : i <= ops.size) (hj : j <= ops.size) {b : Nat} (hb1 : b < (S i).hp.length) (hb2 : b < (S j).hp.length) : blkAt (S i).hp b = blkAt (S j).hp b := by
 rcases Nat.le_total i j with h | h
 ·obtain ⟨new, e⟩ := F.longer h hj (h1.same h2 h hj)
  rw [e, blkAt_append _ hb1]
 ·obtain ⟨new, e⟩ := F.longer h hi (h2.same h1 h hi)
  rw [e, blkAt_append _ hb2]
theorem Fix.order (F : Fix P X E0 ops S E C G sz ι0) {D : Nat -> Prop} (hd : Down ops D) {i : Nat} (hi : i < ops.size) (hni : ¬ D i) (hr : ∀ e ∈ ops[i].after, Region.binds .any e = true -> D e.on) {j : Nat} (hj : j < ops.size) (hne : j ≠ i)
 (hc : apartB ops (min i j) (max i j) = false ∨ free2 (C (min i j)) (C (max i j)) = false) : D j ↔ j < i := by
 rcases Nat.lt_or_gt_of_ne hne with h | h
 ·rw [Nat.min_eq_right (by omega), Nat.max_eq_left (by omega)] at hc
  have hb : Before ops j i := (F.free j i h hi).resolve_right fun ⟨a, b⟩ => by
   rcases hc with hc | hc
   ·rw [a] at hc; cases hc
   ·rw [b] at hc; cases hc
  exact ⟨fun _ => h, fun _ => ready_before hd F.edges (opAt hi) hr hb⟩
 ·rw [Nat.min_eq_left (by omega), Nat.max_eq_right (by omega)] at hc
  have hb : Before ops i j := (F.free i j h hj).resolve_right fun ⟨a, b⟩ => by
   rcases hc with hc | hc
   ·rw [a] at hc; cases hc
   ·rw [b] at hc; cases hc
  exact ⟨fun hDj => absurd (hd.before F.edges j i hb hDj) hni, fun h' => by omega⟩
theorem apart_false {i j : Nat} (hij : i ≠ j) {oi oj : Oper} (hi : ops[i]? = some oi) (hj : ops[j]? = some oj) (h : (∃ d, oi.dst = some d /\ d ∈ oj.looksAt ops) ∨ (∃ d, oj.dst = some d /\ d ∈ oi.looksAt ops) ∨ (∃ d, oi.dst = some d /\ oj.dst = some d)) :
 apartB ops (min i j) (max i j) = false := by
 cases hb : apartB ops (min i j) (max i j) with
 | false => rfl
 | true =>
   exfalso
   rcases Nat.lt_or_gt_of_ne hij with hlt | hlt
   ·rw [Nat.min_eq_left (by omega), Nat.max_eq_right (by omega)] at hb
    simp only [apartB, hi, hj] at hb
    obtain ⟨h1, h2, h3⟩ := Oper.apart_spec hb
    rcases h with ⟨d, a, b⟩ | ⟨d, a, b⟩ | ⟨d, a, b⟩
    ·exact h1 d a b
    ·exact h3 d a b
    ·exact h2 d a b
   ·rw [Nat.min_eq_right (by omega), Nat.max_eq_left (by omega)] at hb
    simp only [apartB, hi, hj] at hb
    obtain ⟨h1, h2, h3⟩ := Oper.apart_spec hb
    rcases h with ⟨d, a, b⟩ | ⟨d, a, b⟩ | ⟨d, a, b⟩
    ·exact h3 d a b
    ·exact h1 d a b
    ·exact h2 d b a
theorem free2_comm (a b : Cls) : free2 a b = free2 b a := by
 cases a <;> cases b <;> simp [free2] <;> rename_i k k' <;> (cases h : Nat.beq k k' <;> cases h' : Nat.beq k' k <;> first | rfl | (have := Nat.eq_of_beq_eq_true h; subst this; rw [Nat.beq_refl] at h'; cases h') | (have := Nat.eq_of_beq_eq_true h'; subst this; rw [Nat.beq_refl] at h; cases h))
theorem free_false {i j : Nat} (h : free2 (C i) (C j) = false) : free2 (C (min i j)) (C (max i j)) = false := by
 rcases Nat.le_total i j with hh | hh
 ·rw [Nat.min_eq_left hh, Nat.max_eq_right hh]; exact h
 ·rw [Nat.min_eq_right hh, Nat.max_eq_left hh, free2_comm]; exact h
theorem Fix.look_same (F : Fix P X E0 ops S E C G sz ι0) {t i j : Nat} (h : i <= j) (hj : j <= ops.size) (hn : ∀ k o, i <= k -> k < j -> ops[k]? = some o -> o.dst ≠ some t) : look (S j).env t = look (S i).env t := by
 induction j with
 | zero => have : i = 0 := by omega
           subst this; rfl
 | succ j ih =>
   by_cases hij : i = j + 1
   ·subst hij; rfl
   ·rw [F.run.env j _ (Nat.zero_le _) (by omega) (opAt (by omega)), if_neg (hn j _ (by omega) (by omega) (opAt (by omega)))]
    exact ih (by omega) (by omega) fun k o h1 h2 => hn k o h1 (by omega)
theorem Fix.loc_same (F : Fix P X E0 ops S E C G sz ι0) {k i j : Nat} (h : i <= j) (hj : j <= ops.size) (hn : ∀ l, i <= l -> l < j -> ¬ (C l = .S k ∨ C l = .N k)) : look (S j).loc k = look (S i).loc k := by
 induction j with
 | zero => have : i = 0 := by omega
           subst this; rfl
 | succ j ih =>
   by_cases hij : i = j + 1
   ·subst hij; rfl
   ·have hstep : look (S (j + 1)).loc k = look (S j).loc k := by
     have hjs : j < ops.size := by omega
     cases hg : G j with
     | false => rw [(F.run.pass j _ (Nat.zero_le _) hjs (opAt hjs) hg).2.2.1]
     | true =>
       have hs := F.run.run j _ (Nat.zero_le _) hjs (opAt hjs) hg
       generalize hc : C j = c at hs
       cases c with
       | P => rw [hs.1]
       | L _ => rw [hs.1]
       | S k' =>
         obtain ⟨_, _, old, cells, h1, h2, _⟩ := hs
         rw [h2, look_setL, if_neg]
         rintro rfl
         exact hn j (by omega) (by omega) (.inl hc)
       | N k' =>
         obtain ⟨_, _, _, _, cells, h1, _⟩ := hs
         rw [h1, look_cons, if_neg]
         rintro rfl
         exact hn j (by omega) (by omega) (.inr hc)
       | H => rw [hs.1]
       | A => rw [hs.1]
       | W => rw [hs.1]
    rw [hstep]
    exact ih (by omega) (by omega) fun l h1 h2 => hn l h1 (by omega)
theorem Fix.operands (F : Fix P X E0 ops S E C G sz ι0) {D : Nat -> Prop} (hd : Down ops D) {ι : Inj} {a : Act} {w : World} (I : Inv X E0 ops S C sz ι0 ρ D ι a w) {i : Nat} (hi : i < ops.size) (hni : ¬ D i) (hr : ∀ e ∈ ops[i].after, Region.binds .any e = true -> D e.on) :
 (∀ t ∈ ops[i].looksAt ops, ClE ops D i t) /\ OperR X (cutI ι (S i).hp) ρ (S i) a ops[i] := by
 have hcl : ∀ t ∈ ops[i].looksAt ops, ClE ops D i t := by
  intro t ht j o hj hdst
  by_cases hji : j = i
  ·subst hji; exact ⟨fun h => absurd h hni, fun h => by omega⟩
  ·exact F.order hd hi hni hr (Array.getElem?_eq_some_iff.1 hj).1 hji (.inl (apart_false (Ne.symm hji) (opAt hi) hj (.inr (.inl ⟨t, hdst, ht⟩))))
 refine ⟨hcl, fun g hg => ?_, I.szs i (by omega), fun t e hm hl => I.env i t e (by omega) (hcl t ?_) hl⟩
 ·obtain ⟨x, h1, h2⟩ := F.glob g hg
  have hdm := F.gdom g x h1
  exact ⟨x, cutI_some.2 ⟨Nat.lt_of_lt_of_le hdm (F.len (Nat.zero_le _) (by omega)), by rw [I.old g hdm]; exact h1⟩, h2⟩
 ·unfold Oper.looksAt
  refine List.mem_append_left _ (List.mem_filterMap.2 ⟨.tmp t, by simpa using hm, rfl⟩)
theorem ER.re {ι : Inj} {ρ ρ' : Nat -> Nat} {e : EV} {v : Value} (h : ER ι ρ e v) (hl : ∀ k d, e = .loc k d -> ρ' k = ρ k) : ER ι ρ' e v := by
 cases h with
 | val h => exact .val h
 | loc k o => have := hl k o rfl; rw [<- this]; exact .loc k o
 | skp => exact .skp
theorem Fix.known (F : Fix P X E0 ops S E C G sz ι0) {D : Nat -> Prop} {i k : Nat} {c : List Value} (hi : i <= ops.size) (hc : ClL ops C D i k) (hl : look (S i).loc k = some c) : Kn ops S C D k := by
 rcases F.keys i k hi (by rw [hl]; rfl) with h | ⟨j, hj, hn⟩
 ·exact .inl h
 ·exact .inr ⟨j, by omega, hn, (hc j (by omega) (.inr hn)).2 hj⟩
theorem Fix.env_next' (F : Fix P X E0 ops S E C G sz ι0) {D : Nat -> Prop} (hd : Down ops D) {ι ι' : Inj} {a : Act} {w : World} (I : Inv X E0 ops S C sz ι0 ρ D ι a w) {i : Nat} (hi : i < ops.size) (hni : ¬ D i) (hr : ∀ e ∈ ops[i].after, Region.binds .any e = true -> D e.on)
 (hsub : Sub ι ι') {ρ' : Nat -> Nat} (hρ : ∀ k, Kn ops S C D k -> ρ' k = ρ k) {v' : Value} (hv : ER (cutI ι' (S (i + 1)).hp) ρ' (E i) v') :
 ∀ i0 t e, i0 <= ops.size -> ClE ops (fun j => D j ∨ j = i) i0 t -> look (S i0).env t = some e -> ER (cutI ι' (S i0).hp) ρ' e ((a.put ops[i].dst v').eval (.tmp t)) := by
 intro i0 t e h0 hc hl
 have hsubc : Sub (cutI ι (S i0).hp) (cutI ι' (S i0).hp) := fun b x hb => by
  obtain ⟨h1, h2⟩ := cutI_some.1 hb
  exact cutI_some.2 ⟨h1, hsub _ _ h2⟩
 rw [eval_put a _ v' t (fun d hd' => by rw [I.size]; exact F.dst i _ (opAt hi) d hd')]
 by_cases hdt : ops[i].dst = some t
 ·rw [if_pos hdt]
  have hlt : i < i0 := (hc i _ (opAt hi) hdt).1 (.inr rfl)
  have hsame : look (S i0).env t = look (S (i + 1)).env t := F.look_same (by omega) h0 fun k o h1 h2 hk hdk => by
   have hDk : D k := ((hc k o hk hdk).2 h2).resolve_right (by omega)
   have := (F.order hd hi hni hr (Array.getElem?_eq_some_iff.1 hk).1 (show k ≠ i by omega) (.inl (apart_false (by omega) (opAt hi) hk (.inr (.inr ⟨t, hdt, hdk⟩))))).1 hDk
   omega
  rw [hsame, F.run.env i _ (Nat.zero_le _) hi (opAt hi), if_pos hdt] at hl
  cases hl
  exact hv.mono (cutI_sub (F.len (by omega) h0))
 ·rw [if_neg hdt]
  have hcd : ClE ops D i0 t := fun j o hj hdj => by
   have := hc j o hj hdj
   constructor
   ·intro h; exact this.1 (.inl h)
   ·intro h
    refine (this.2 h).resolve_right ?_
    rintro rfl
    rw [opAt hi] at hj; cases hj
    exact hdt hdj
  exact ((I.env i0 t e h0 hcd hl).mono hsubc).re fun k d he => hρ k (I.envl i0 t k d h0 hcd (by rw [hl, he]))
theorem Fix.env_next (F : Fix P X E0 ops S E C G sz ι0) {D : Nat -> Prop} (hd : Down ops D) {ι ι' : Inj} {a : Act} {w : World} (I : Inv X E0 ops S C sz ι0 ρ D ι a w) {i : Nat} (hi : i < ops.size) (hni : ¬ D i) (hr : ∀ e ∈ ops[i].after, Region.binds .any e = true -> D e.on)
 (hsub : Sub ι ι') {v' : Value} (hv : ER (cutI ι' (S (i + 1)).hp) ρ (E i) v') :
 ∀ i0 t e, i0 <= ops.size -> ClE ops (fun j => D j ∨ j = i) i0 t -> look (S i0).env t = some e -> ER (cutI ι' (S i0).hp) ρ e ((a.put ops[i].dst v').eval (.tmp t)) :=
 F.env_next' hd I hi hni hr hsub (fun _ _ => rfl) hv
theorem Kn.mono {D D' : Nat -> Prop} (h : ∀ j, D j -> D' j) {k : Nat} (hk : Kn ops S C D k) : Kn ops S C D' k := by
 rcases hk with hk | ⟨j, h1, h2, h3⟩
 ·exact .inl hk
 ·exact .inr ⟨j, h1, h2, h j h3⟩
theorem kn_next {D : Nat -> Prop} {i k : Nat} (hn : ∀ k, C i ≠ .N k) (hk : Kn ops S C (fun j => D j ∨ j = i) k) : Kn ops S C D k := by
 rcases hk with hk | ⟨j, h1, h2, h3⟩
 ·exact .inl hk
 ·refine .inr ⟨j, h1, h2, h3.resolve_right ?_⟩
  rintro rfl
  exact hn k h2
theorem Fix.envl_next (F : Fix P X E0 ops S E C G sz ι0) {D : Nat -> Prop} (hd : Down ops D) {ι : Inj} {a : Act} {w : World} (I : Inv X E0 ops S C sz ι0 ρ D ι a w) {i : Nat} (hi : i < ops.size) (hni : ¬ D i) (hr : ∀ e ∈ ops[i].after, Region.binds .any e = true -> D e.on)
 (hE : ∀ k d, E i = .loc k d -> Kn ops S C (fun j => D j ∨ j = i) k) :
 ∀ i0 t k d, i0 <= ops.size -> ClE ops (fun j => D j ∨ j = i) i0 t -> look (S i0).env t = some (.loc k d) -> Kn ops S C (fun j => D j ∨ j = i) k := by
 intro i0 t k d h0 hc hl
 by_cases hdt : ops[i].dst = some t
 ·have hlt : i < i0 := (hc i _ (opAt hi) hdt).1 (.inr rfl)
  have hsame : look (S i0).env t = look (S (i + 1)).env t := F.look_same (by omega) h0 fun k o h1 h2 hk hdk => by
   have hDk : D k := ((hc k o hk hdk).2 h2).resolve_right (by omega)
   have := (F.order hd hi hni hr (Array.getElem?_eq_some_iff.1 hk).1 (show k ≠ i by omega) (.inl (apart_false (by omega) (opAt hi) hk (.inr (.inr ⟨t, hdt, hdk⟩))))).1 hDk
   omega
  rw [hsame, F.run.env i _ (Nat.zero_le _) hi (opAt hi), if_pos hdt] at hl
  exact hE k d (Option.some.inj hl)
 ·refine (I.envl i0 t k d h0 (fun j o hj hdj => ?_) hl).mono fun j h => .inl h
  have := hc j o hj hdj
  constructor
  ·intro h; exact this.1 (.inl h)
  ·intro h
   refine (this.2 h).resolve_right ?_
   rintro rfl
   rw [opAt hi] at hj; cases hj
   exact hdt hdj
theorem clw_next {D : Nat -> Prop} {i i0 : Nat} (hw : C i ≠ .W) : ClW ops C (fun j => D j ∨ j = i) i0 ↔ ClW ops C D i0 := by
 constructor
 ·intro h j hj hc
  have := h j hj hc
  have hne : j ≠ i := by rintro rfl; exact hw hc
  exact ⟨fun hD => this.1 (.inl hD), fun hl => (this.2 hl).resolve_right hne⟩
 ·intro h j hj hc
  have := h j hj hc
  have hne : j ≠ i := by rintro rfl; exact hw hc
  exact ⟨fun hD => this.1 (hD.resolve_right hne), fun hl => .inl (this.2 hl)⟩
theorem cll_next {D : Nat -> Prop} {i i0 k : Nat} (hs : C i ≠ .S k) (hn : C i ≠ .N k) : ClL ops C (fun j => D j ∨ j = i) i0 k ↔ ClL ops C D i0 k := by
 constructor
 ·intro h j hj hc
  have := h j hj hc
  have hne : j ≠ i := by rintro rfl; exact hc.elim hs hn
  exact ⟨fun hD => this.1 (.inl hD), fun hl => (this.2 hl).resolve_right hne⟩
 ·intro h j hj hc
  have := h j hj hc
  have hne : j ≠ i := by rintro rfl; exact hc.elim hs hn
  exact ⟨fun hD => this.1 (hD.resolve_right hne), fun hl => .inl (this.2 hl)⟩
theorem dom_next {D : Nat -> Prop} {i : Nat} {b : Nat} (h : b < (S 0).hp.length ∨ ∃ j, j < ops.size /\ D j /\ (S j).hp.length <= b /\ b < (S (j + 1)).hp.length) :
 b < (S 0).hp.length ∨ ∃ j, j < ops.size /\ (D j ∨ j = i) /\ (S j).hp.length <= b /\ b < (S (j + 1)).hp.length := by
 rcases h with h | ⟨j, h1, h2, h3⟩
 ·exact .inl h
 ·exact .inr ⟨j, h1, .inl h2, h3⟩
theorem Fr.chain {ι0 ι : Inj} {hp0 hp : Heap} {w0 w w' : World} (h : Fr ι0 hp0 w0 w) (ho : Own ι0 hp0 w0 ι hp) (h3 : Fr ι hp w w') : Fr ι0 hp0 w0 w' := by
 refine ⟨h3.os.trans h.os, h3.tape.trans h.tape, h3.output.trans h.output, Nat.le_trans h.size h3.size, fun j hj hno => ?_⟩
 rw [<- h.block j hj hno]
 refine h3.block j (Nat.lt_of_lt_of_le hj h.size) fun b x k hb hk hrw he => ?_
 obtain ⟨b0, x0, k0, g1, g2, _, g3, g4⟩ := ho b x k hb hk (by omega)
 exact hno b0 x0 k0 g1 g2 (g3 hrw) (by omega)
theorem clw_at (F : Fix P X E0 ops S E C G sz ι0) {D : Nat -> Prop} (hd : Down ops D) {i : Nat} (hi : i < ops.size) (hni : ¬ D i) (hr : ∀ e ∈ ops[i].after, Region.binds .any e = true -> D e.on) (hc : free2 (C i) .W = false) : ClW ops C D i := by
 intro j hj hcj
 by_cases hji : j = i
 ·subst hji; exact ⟨fun h => absurd h hni, fun h => by omega⟩
 ·refine F.order hd hi hni hr hj hji (.inr ?_)
  rw [Nat.min_comm, Nat.max_comm]
  refine free_false (i := j) (j := i) ?_
  rw [free2_comm, hcj]; exact hc
theorem cll_at (F : Fix P X E0 ops S E C G sz ι0) {D : Nat -> Prop} (hd : Down ops D) {i k : Nat} (hi : i < ops.size) (hni : ¬ D i) (hr : ∀ e ∈ ops[i].after, Region.binds .any e = true -> D e.on) (hc : free2 (C i) (.S k) = false) (hc2 : free2 (C i) (.N k) = false) : ClL ops C D i k := by
 intro j hj hcj
 by_cases hji : j = i
 ·subst hji; exact ⟨fun h => absurd h hni, fun h => by omega⟩
 ·refine F.order hd hi hni hr hj hji (.inr ?_)
  rw [Nat.min_comm, Nat.max_comm]
  refine free_false (i := j) (j := i) ?_
  rcases hcj with hcj | hcj
  ·rw [free2_comm, hcj]; exact hc
  ·rw [free2_comm, hcj]; exact hc2
theorem free2_SS (k : Nat) : free2 (.S k) (.S k) = false := by simp [free2, Nat.beq_refl]
theorem free2_LS (k : Nat) : free2 (.L k) (.S k) = false := by simp [free2, Nat.beq_refl]
theorem free2_SN (k : Nat) : free2 (.S k) (.N k) = false := by simp [free2, Nat.beq_refl]
theorem free2_LN (k : Nat) : free2 (.L k) (.N k) = false := by simp [free2, Nat.beq_refl]
theorem free2_NS (k : Nat) : free2 (.N k) (.S k) = false := by simp [free2, Nat.beq_refl]
theorem free2_NN (k : Nat) : free2 (.N k) (.N k) = false := by simp [free2, Nat.beq_refl]
theorem Fix.still (F : Fix P X E0 ops S E C G sz ι0) {D : Nat -> Prop} (hd : Down ops D) {ι : Inj} {a : Act} {w : World} (I : Inv X E0 ops S C sz ι0 ρ D ι a w) {i : Nat} (hi : i < ops.size) (hni : ¬ D i) (hr : ∀ e ∈ ops[i].after, Region.binds .any e = true -> D e.on)
 (hw : C i ≠ .W) (hs : ∀ k, C i ≠ .S k) (hN : ∀ k, C i ≠ .N k) (hE : ∀ k d, E i = .loc k d -> Kn ops S C (fun j => D j ∨ j = i) k) {v' : Value} (hv : ER (cutI ι (S (i + 1)).hp) ρ (E i) v') : Inv X E0 ops S C sz ι0 ρ (fun j => D j ∨ j = i) ι (a.put ops[i].dst v') w where
 size := by rw [put_size]; exact I.size
 defers := by cases hdd : ops[i].dst <;> simp [Act.put, I.defers]
 old := I.old
 dom := fun b x hb => dom_next (I.dom b x hb)
 env := F.env_next hd I hi hni hr (Sub.refl _) hv
 envl := F.envl_next hd I hi hni hr hE
 loc := fun i0 k c h0 hc hl => I.loc i0 k c h0 ((cll_next (hs k) (hN k)).1 hc) hl
 szs := I.szs
 rel := fun i0 h0 hc => I.rel i0 h0 ((clw_next hw).1 hc)
 llt := fun k hk => I.llt k (kn_next hN hk)
 lsep := fun i0 h0 hc k b x q hk => I.lsep i0 h0 ((clw_next hw).1 hc) k b x q (kn_next hN hk)
 ldist := fun k k' hk hk' => I.ldist k k' (kn_next hN hk) (kn_next hN hk')
 lbase := fun k hk => I.lbase k (kn_next hN hk)
 fr := I.fr
 own := fun i0 h0 hc => I.own i0 h0 ((clw_next hw).1 hc)
theorem Fix.sets (F : Fix P X E0 ops S E C G sz ι0) {D : Nat -> Prop} (hd : Down ops D) {ι : Inj} {a : Act} {w w' : World} (I : Inv X E0 ops S C sz ι0 ρ D ι a w) {i : Nat} (hi : i < ops.size) (hni : ¬ D i) (hr : ∀ e ∈ ops[i].after, Region.binds .any e = true -> D e.on)
 {k : Nat} (hs : C i = .S k) (hE : ∀ k d, E i = .loc k d -> Kn ops S C (fun j => D j ∨ j = i) k) {v' : Value} (hv : ER (cutI ι (S (i + 1)).hp) ρ (E i) v') {old cells : List Value} (hold : look (S i).loc k = some old) (hnew : look (S (i + 1)).loc k = some cells)
 (h1 : LocR (cutI ι (S i).hp) cells w' (ρ k)) (e1 : w'.os = w.os) (e2 : w'.tape = w.tape) (e3 : w'.output = w.output) (e4 : w'.heap.size = w.heap.size) (e5 : ∀ j, j ≠ ρ k -> w'.heap[j]? = w.heap[j]?) :
 Inv X E0 ops S C sz ι0 ρ (fun j => D j ∨ j = i) ι (a.put ops[i].dst v') w' := by
 have hw : C i ≠ .W := by rw [hs]; intro h; cases h
 have hN : ∀ k, C i ≠ .N k := fun k => by rw [hs]; intro h; cases h
 have hkn : Kn ops S C D k := F.known (by omega) (cll_at F hd hi hni hr (by rw [hs]; exact free2_SS k) (by rw [hs]; exact free2_SN k)) hold
 exact {
  size := by rw [put_size]; exact I.size
  defers := by cases hdd : ops[i].dst <;> simp [Act.put, I.defers]
  old := I.old
  dom := fun b x hb => dom_next (I.dom b x hb)
  env := F.env_next hd I hi hni hr (Sub.refl _) hv
  loc := fun i0 k' c h0 hc hl => by
   by_cases hkk : k' = k
   ·subst hkk
    have hlt : i < i0 := (hc i hi (.inl hs)).1 (.inr rfl)
    have hsame : look (S i0).loc k' = look (S (i + 1)).loc k' := F.loc_same (by omega) h0 fun l hl1 hl2 hcl => by
     have hDl : D l := ((hc l (by omega) hcl).2 hl2).resolve_right (by omega)
     have := cll_at F hd hi hni hr (k := k') (by rw [hs]; exact free2_SS k') (by rw [hs]; exact free2_SN k') l (by omega) hcl
     have := this.1 hDl; omega
    rw [hsame, hnew] at hl; cases hl
    exact h1.mono (cutI_sub (F.len (by omega) h0))
   ·have hcd := (cll_next (by rw [hs]; intro h; cases h; exact hkk rfl) (hN k')).1 hc
    exact (I.loc i0 k' c h0 hcd hl).keep (e5 _ fun he => hkk (I.ldist k' k (F.known h0 hcd hl) hkn he))
  szs := I.szs
  rel := fun i0 h0 hc => (I.rel i0 h0 ((clw_next hw).1 hc)).keep (by omega) fun b x q hb hq => e5 _ (I.lsep i0 h0 ((clw_next hw).1 hc) k b x q hkn hb hq)
  llt := fun k h => by rw [e4]; exact I.llt k (kn_next hN h)
  lsep := fun i0 h0 hc k b x q hk => I.lsep i0 h0 ((clw_next hw).1 hc) k b x q (kn_next hN hk)
  ldist := fun k k' hk hk' => I.ldist k k' (kn_next hN hk) (kn_next hN hk')
  lbase := fun k hk => I.lbase k (kn_next hN hk)
  envl := F.envl_next hd I hi hni hr hE
  fr := ⟨e1.trans I.fr.os, e2.trans I.fr.tape, e3.trans I.fr.output, by have := I.fr.size; omega, fun j hj hno => by rw [e5 j (by have := I.lbase k hkn; omega)]; exact I.fr.block j hj hno⟩
  own := fun i0 h0 hc => I.own i0 h0 ((clw_next hw).1 hc) }
theorem CellsR.back {ι ι' : Inj} (hs : Sub ι ι') {cells : List Value} {cs cs' : Array Value} {off : Nat} (h : CellsR ι cells cs off) (h' : CellsR ι' cells cs' off) : CellsR ι cells cs' off := fun j v e => by
 obtain ⟨g1, x, g2, g3⟩ := h j v e
 obtain ⟨_, y, f2, f3⟩ := h' j v e
 exact ⟨g1, y, f2, g3.back hs f3⟩
theorem BlkR.mono {ι ι' : Inj} (hs : Sub ι ι') {x : Img} {k : Blk} {w : World} {B : Nat} (h : BlkR ι x k w B) : BlkR ι' x k w B := by
 obtain ⟨cs, el, fr, h1, h2, h3, h4, h5⟩ := h
 exact ⟨cs, el, fr, h1, h2, h3, h4.mono hs, h5⟩
theorem BlkR.back {ι ι' : Inj} (hs : Sub ι ι') {x : Img} {k : Blk} {w w' : World} {B : Nat} (h : BlkR ι x k w B) (h' : BlkR ι' x k w' B) : BlkR ι x k w' B := by
 obtain ⟨cs, el, fr, h1, h2, h3, h4, h5⟩ := h
 obtain ⟨cs', el', fr', g1, g2, g3, g4, g5⟩ := h'
 exact ⟨cs', el', fr', g1, g2, g3, h4.back hs g4, g5⟩
theorem BlkR.keep {ι : Inj} {x : Img} {k : Blk} {w w' : World} {B : Nat} (h : BlkR ι x k w B) (e : w'.heap[x.blk]? = w.heap[x.blk]?) : BlkR ι x k w' B := by
 obtain ⟨cs, el, fr, h1, h2⟩ := h
 exact ⟨cs, el, fr, by rw [e]; exact h1, h2⟩
theorem BlkR.lt {ι : Inj} {x : Img} {k : Blk} {w : World} {B : Nat} (h : BlkR ι x k w B) : x.blk < w.heap.size := by
 obtain ⟨cs, el, fr, h1, h2⟩ := h
 exact (Array.getElem?_eq_some_iff.1 h1).1
def withN (ι ι1 : Inj) (n m : Nat) : Inj := fun b => if n <= b /\ b < m then ι1 b else ι b
theorem Fix.fresh (F : Fix P X E0 ops S E C G sz ι0) {D : Nat -> Prop} {ι : Inj} {a : Act} {w : World} (I : Inv X E0 ops S C sz ι0 ρ D ι a w) {i : Nat} (hi : i < ops.size) (hni : ¬ D i) {b : Nat} (h1 : (S i).hp.length <= b) (h2 : b < (S (i + 1)).hp.length) : ι b = none := by
 cases hb : ι b with
 | none => rfl
 | some x =>
   exfalso
   have h0 := F.len (Nat.zero_le i) (by omega)
   rcases I.dom b x hb with h | ⟨j, hj, hD, g1, g2⟩
   ·omega
   ·rcases Nat.lt_trichotomy j i with h | h | h
    ·have := F.len (show j + 1 <= i by omega) (by omega); omega
    ·subst h; exact hni hD
    ·have := F.len (show i + 1 <= j by omega) (by omega); omega
theorem Fix.withSub (F : Fix P X E0 ops S E C G sz ι0) {D : Nat -> Prop} {ι : Inj} {a : Act} {w : World} (I : Inv X E0 ops S C sz ι0 ρ D ι a w) {i : Nat} (hi : i < ops.size) (hni : ¬ D i) (ι1 : Inj) : Sub ι (withN ι ι1 (S i).hp.length (S (i + 1)).hp.length) := fun b x hb => by
 unfold withN
 by_cases h : (S i).hp.length <= b /\ b < (S (i + 1)).hp.length
 ·rw [F.fresh I hi hni h.1 h.2] at hb; cases hb
 ·rw [if_neg h]; exact hb
theorem Fix.withCut (F : Fix P X E0 ops S E C G sz ι0) {i : Nat} (hi : i < ops.size) {ι ι1 : Inj} (h1 : ExtN (S i).hp.length (cutI ι (S i).hp) ι1) (h2 : ∀ b x, ι1 b = some x -> b < (S (i + 1)).hp.length) : cutI (withN ι ι1 (S i).hp.length (S (i + 1)).hp.length) (S (i + 1)).hp = ι1 := by
 funext b
 have hl := F.len (show i <= i + 1 by omega) (by omega)
 unfold cutI withN
 by_cases hb : b < (S (i + 1)).hp.length
 ·rw [if_pos hb]
  by_cases hb2 : (S i).hp.length <= b
  ·rw [if_pos ⟨hb2, hb⟩]
  ·rw [if_neg (by omega), h1 b (by omega)]
   unfold cutI
   rw [if_pos (by omega)]
 ·rw [if_neg hb]
  cases he : ι1 b with
  | none => rfl
  | some x => exact absurd (h2 b x he) hb
theorem Fix.withSz (F : Fix P X E0 ops S E C G sz ι0) {D : Nat -> Prop} {ι : Inj} {a : Act} {w : World} (I : Inv X E0 ops S C sz ι0 ρ D ι a w) {i : Nat} (hi : i < ops.size) {ι1 : Inj} (h1 : SzOk ι1 (S (i + 1)).hp) :
 ∀ i0, i0 <= ops.size -> SzOk (cutI (withN ι ι1 (S i).hp.length (S (i + 1)).hp.length) (S i0).hp) (S i0).hp := by
 intro i0 h0 b x k hb hk
 obtain ⟨hb1, hb2⟩ := cutI_some.1 hb
 unfold withN at hb2
 by_cases h : (S i).hp.length <= b /\ b < (S (i + 1)).hp.length
 ·rw [if_pos h] at hb2
  have hle : i + 1 <= i0 := by
   rcases Nat.lt_or_ge i i0 with hh | hh
   ·omega
   ·have := F.len hh (by omega); omega
  obtain ⟨k', g1, g2⟩ := F.mono (i + 1) i0 hle h0 b _ (List.getElem?_eq_getElem h.2)
  rw [hk] at g1; cases g1
  rw [g2]
  exact h1 b x _ hb2 (List.getElem?_eq_getElem h.2)
 ·rw [if_neg h] at hb2
  exact I.szs i0 h0 b x k (cutI_some.2 ⟨hb1, hb2⟩) hk
theorem Fix.gl (F : Fix P X E0 ops S E C G sz ι0) {ι : Inj} (h : ∀ b, b < (S 0).hp.length -> ι b = ι0 b) {i : Nat} (hi : i <= ops.size) : GOk X.ng (cutI ι (S i).hp) := fun g hg => by
 obtain ⟨x, h1, h2⟩ := F.glob g hg
 have hdm := F.gdom g x h1
 exact ⟨x, cutI_some.2 ⟨Nat.lt_of_lt_of_le hdm (F.len (Nat.zero_le _) hi), by rw [h g hdm]; exact h1⟩, h2⟩
theorem Fix.withOld (F : Fix P X E0 ops S E C G sz ι0) {ι ι1 : Inj} {i : Nat} (hi : i < ops.size) (h : ∀ b, b < (S 0).hp.length -> ι b = ι0 b) : ∀ b, b < (S 0).hp.length -> withN ι ι1 (S i).hp.length (S (i + 1)).hp.length b = ι0 b := fun b hb => by
 have := F.len (Nat.zero_le i) (by omega)
 unfold withN
 rw [if_neg (by omega)]; exact h b hb
theorem Fix.withDom (F : Fix P X E0 ops S E C G sz ι0) {D : Nat -> Prop} {ι ι1 : Inj} {a : Act} {w : World} (I : Inv X E0 ops S C sz ι0 ρ D ι a w) {i : Nat} (hi : i < ops.size) : ∀ b x, withN ι ι1 (S i).hp.length (S (i + 1)).hp.length b = some x →
 b < (S 0).hp.length ∨ ∃ j, j < ops.size /\ (D j ∨ j = i) /\ (S j).hp.length <= b /\ b < (S (j + 1)).hp.length := fun b x hb => by
 unfold withN at hb
 by_cases h : (S i).hp.length <= b /\ b < (S (i + 1)).hp.length
 ·exact .inr ⟨i, hi, .inr rfl, h⟩
 ·rw [if_neg h] at hb; exact dom_next (I.dom b x hb)
theorem Fix.adds (F : Fix P X E0 ops S E C G sz ι0) {D : Nat -> Prop} (hd : Down ops D) {ι : Inj} {a : Act} {w w' : World} (I : Inv X E0 ops S C sz ι0 ρ D ι a w) {i : Nat} (hi : i < ops.size) (hni : ¬ D i) (hr : ∀ e ∈ ops[i].after, Region.binds .any e = true -> D e.on)
 (hw : C i ≠ .W) (hs : ∀ k, C i ≠ .S k) (hN : ∀ k, C i ≠ .N k) (hE : ∀ k d, E i = .loc k d -> Kn ops S C (fun j => D j ∨ j = i) k) (hcw : ClW ops C D i) {ι1 : Inj} {v' : Value} (h1 : ExtN (S i).hp.length (cutI ι (S i).hp) ι1) (h2 : ∀ b x k, (S i).hp.length <= b -> ι1 b = some x -> blkAt (S (i + 1)).hp b = some k -> w.heap.size <= x.blk)
 (h3 : Rel X.ng ι1 (S (i + 1)).hp w' E0.B) (h4 : Fr (cutI ι (S i).hp) (S i).hp w w') (hv : ER ι1 ρ (E i) v') :
 Inv X E0 ops S C sz ι0 ρ (fun j => D j ∨ j = i) (withN ι ι1 (S i).hp.length (S (i + 1)).hp.length) (a.put ops[i].dst v') w' := by
 have hsub := F.withSub I hi hni ι1
 have hcut := F.withCut hi h1 h3.dom
 have hcw' : ClW ops C D (i + 1) := fun j hj hc => by
  have := hcw j hj hc
  have hne : j ≠ i := by rintro rfl; exact hw hc
  rw [this]; omega
 have hsubc : ∀ i0, Sub (cutI ι (S i0).hp) (cutI (withN ι ι1 (S i).hp.length (S (i + 1)).hp.length) (S i0).hp) := fun i0 b x hb => by
  obtain ⟨g1, g2⟩ := cutI_some.1 hb
  exact cutI_some.2 ⟨g1, hsub _ _ g2⟩
 have hll := F.len (show i <= i + 1 by omega) (by omega)
 exact {
  size := by rw [put_size]; exact I.size
  defers := by cases hdd : ops[i].dst <;> simp [Act.put, I.defers]
  old := F.withOld hi I.old
  dom := F.withDom I hi
  env := F.env_next hd I hi hni hr hsub (by rw [hcut]; exact hv)
  loc := fun i0 k c h0 hc hl => by
   have hcd := (cll_next (hs k) (hN k)).1 hc
   have hL := I.loc i0 k c h0 hcd hl
   exact (hL.mono (hsubc i0)).keep (h4.block _ hL.lt fun b x q hb hq _ => I.lsep i (by omega) hcw k b x q (F.known h0 hcd hl) hb hq)
  envl := F.envl_next hd I hi hni hr hE
  szs := F.withSz I hi h3.szs
  rel := fun i0 h0 hc => by
   have hc0 := (clw_next hw).1 hc
   have R0 := I.rel i0 h0 hc0
   refine ⟨F.gl (F.withOld hi I.old) h0, F.withSz I hi h3.szs i0 h0, fun b x hb => (cutI_some.1 hb).1, Nat.le_trans R0.base h4.size, fun b x k hb hk => ?_, fun b x k b' x' k' hb hk hrw hb' hk' he => ?_⟩
   ·obtain ⟨g1, g2⟩ := cutI_some.1 hb
    by_cases hlt : b < (S (i + 1)).hp.length
    ·have hb1 : ι1 b = some x := by rw [<- hcut]; exact cutI_some.2 ⟨hlt, g2⟩
     have hbk : blkAt (S (i + 1)).hp b = some k := by rw [<- hk]; exact F.blk hcw' hc0 (by omega) h0 hlt g1
     have B1 := h3.ok b x k hb1 hbk
     rcases Nat.lt_or_ge i i0 with hh | hh
     ·have : Sub ι1 (cutI (withN ι ι1 (S i).hp.length (S (i + 1)).hp.length) (S i0).hp) := by
       have := cutI_sub (ι := withN ι ι1 (S i).hp.length (S (i + 1)).hp.length) (F.len (show i + 1 <= i0 by omega) h0)
       rwa [hcut] at this
      exact B1.mono this
     ·have hlb : b < (S i).hp.length := Nat.lt_of_lt_of_le g1 (F.len hh (by omega))
      have hb0 : ι b = some x := by unfold withN at g2; rwa [if_neg (by omega)] at g2
      have B0 := R0.ok b x k (cutI_some.2 ⟨g1, hb0⟩) hk
      refine (B0.back ?_ B1).mono (hsubc i0)
      have := (hsubc i0).trans (cutI_sub (ι := withN ι ι1 (S i).hp.length (S (i + 1)).hp.length) (F.len (show i0 <= i + 1 by omega) (by omega)))
      rwa [hcut] at this
    ·have hb0 : ι b = some x := by unfold withN at g2; rwa [if_neg (by omega)] at g2
     have B0 := R0.ok b x k (cutI_some.2 ⟨g1, hb0⟩) hk
     refine (B0.mono (hsubc i0)).keep (h4.block _ B0.lt fun b1 x1 k1 f1 f2 f3 f4 => ?_)
     obtain ⟨f5, f6⟩ := cutI_some.1 f1
     have hbk : blkAt (S i0).hp b1 = some k1 := by rw [<- f2]; exact F.blk hc0 hcw h0 (by omega) (by omega) f5
     rcases R0.sep b1 x1 k1 b x k (cutI_some.2 ⟨by omega, f6⟩) hbk f3 (cutI_some.2 ⟨g1, hb0⟩) hk f4 with h | ⟨h, _⟩ <;> omega
   ·obtain ⟨g1, g2⟩ := cutI_some.1 hb
    obtain ⟨f1, f2⟩ := cutI_some.1 hb'
    have hone : ∀ b x k, b < (S i0).hp.length -> withN ι ι1 (S i).hp.length (S (i + 1)).hp.length b = some x -> blkAt (S i0).hp b = some k →
     (((S i).hp.length <= b /\ b < (S (i + 1)).hp.length) /\ ι1 b = some x /\ blkAt (S (i + 1)).hp b = some k /\ w.heap.size <= x.blk) ∨ (cutI ι (S i0).hp b = some x /\ x.blk < w.heap.size) := by
     intro b x k g1 g2 g3
     by_cases h : (S i).hp.length <= b /\ b < (S (i + 1)).hp.length
     ·have hb1 : ι1 b = some x := by unfold withN at g2; rwa [if_pos h] at g2
      have hbk : blkAt (S (i + 1)).hp b = some k := by rw [<- g3]; exact F.blk hcw' hc0 (by omega) h0 h.2 g1
      exact .inl ⟨h, hb1, hbk, h2 b x k h.1 hb1 hbk⟩
     ·have hb0 : ι b = some x := by unfold withN at g2; rwa [if_neg h] at g2
      have hb0' := cutI_some.2 ⟨g1, hb0⟩
      exact .inr ⟨hb0', (R0.ok b x k hb0' g3).lt⟩
    rcases hone b x k g1 g2 hk with ⟨m1, m2, m3, m4⟩ | ⟨m1, m2⟩ <;> rcases hone b' x' k' f1 f2 hk' with ⟨n1, n2, n3, n4⟩ | ⟨n1, n2⟩
    ·exact h3.sep b x k b' x' k' m2 m3 hrw n2 n3 he
    ·omega
    ·omega
    ·exact R0.sep b x k b' x' k' m1 hk hrw n1 hk' he
  llt := fun k h => Nat.lt_of_lt_of_le (I.llt k (kn_next hN h)) h4.size
  ldist := fun k k' hk hk' => I.ldist k k' (kn_next hN hk) (kn_next hN hk')
  lbase := fun k hk => I.lbase k (kn_next hN hk)
  lsep := fun i0 h0 hc k b x q hk' hb hq => by
   have hk := kn_next hN hk'
   obtain ⟨g1, g2⟩ := cutI_some.1 hb
   by_cases h : (S i).hp.length <= b /\ b < (S (i + 1)).hp.length
   ·have hb1 : ι1 b = some x := by unfold withN at g2; rwa [if_pos h] at g2
    have := h2 b x q h.1 hb1 (by rw [<- hq]; exact F.blk hcw' ((clw_next hw).1 hc) (by omega) h0 h.2 g1)
    have := I.llt k hk
    omega
   ·have hb0 : ι b = some x := by unfold withN at g2; rwa [if_neg h] at g2
    exact I.lsep i0 h0 ((clw_next hw).1 hc) k b x q hk (cutI_some.2 ⟨g1, hb0⟩) hq
  fr := I.fr.chain (I.own i (by omega) hcw) h4
  own := fun i0 h0 hc b x q hb hq hlt => by
   obtain ⟨g1, g2⟩ := cutI_some.1 hb
   by_cases h : (S i).hp.length <= b /\ b < (S (i + 1)).hp.length
   ·have hb1 : ι1 b = some x := by unfold withN at g2; rwa [if_pos h] at g2
    have := h2 b x q h.1 hb1 (by rw [<- hq]; exact F.blk hcw' ((clw_next hw).1 hc) (by omega) h0 h.2 g1)
    have := I.fr.size
    omega
   ·have hb0 : ι b = some x := by unfold withN at g2; rwa [if_neg h] at g2
    exact I.own i0 h0 ((clw_next hw).1 hc) b x q (cutI_some.2 ⟨g1, hb0⟩) hq hlt }
theorem Fix.writes (F : Fix P X E0 ops S E C G sz ι0) {D : Nat -> Prop} (hd : Down ops D) {ι : Inj} {a : Act} {w w' : World} (I : Inv X E0 ops S C sz ι0 ρ D ι a w) {i : Nat} (hi : i < ops.size) (hni : ¬ D i) (hr : ∀ e ∈ ops[i].after, Region.binds .any e = true -> D e.on)
 (hw : C i = .W) (hE : ∀ k d, E i = .loc k d -> Kn ops S C (fun j => D j ∨ j = i) k) (hcw : ClW ops C D i) {ι1 : Inj} {v' : Value} (h1 : ExtN (S i).hp.length (cutI ι (S i).hp) ι1)
 (h3 : Rel X.ng ι1 (S (i + 1)).hp w' E0.B) (h4 : Fr (cutI ι (S i).hp) (S i).hp w w') (h5 : Own (cutI ι (S i).hp) (S i).hp w ι1 (S (i + 1)).hp) (hv : ER ι1 ρ (E i) v') :
 Inv X E0 ops S C sz ι0 ρ (fun j => D j ∨ j = i) (withN ι ι1 (S i).hp.length (S (i + 1)).hp.length) (a.put ops[i].dst v') w' := by
 have hsub := F.withSub I hi hni ι1
 have hcut := F.withCut hi h1 h3.dom
 have hs : ∀ k, C i ≠ .S k := fun k h => by rw [hw] at h; cases h
 have hN : ∀ k, C i ≠ .N k := fun k h => by rw [hw] at h; cases h
 have hsubc : ∀ i0, Sub (cutI ι (S i0).hp) (cutI (withN ι ι1 (S i).hp.length (S (i + 1)).hp.length) (S i0).hp) := fun i0 b x hb => by
  obtain ⟨g1, g2⟩ := cutI_some.1 hb
  exact cutI_some.2 ⟨g1, hsub _ _ g2⟩
 have hll := F.len (show i <= i + 1 by omega) (by omega)
 have hdom : ∀ b x, ι b = some x -> b < (S i).hp.length := fun b x hb => by
  rcases I.dom b x hb with h | ⟨j, hj, hD, g1, g2⟩
  ·exact Nat.lt_of_lt_of_le h (F.len (Nat.zero_le i) (by omega))
  ·have hne : j ≠ i := by rintro rfl; exact hni hD
   have hlt : j < i := by
    have hq : free2 (C j) .W = false := by
     cases hg : G j with
     | false => rw [(F.run.pass j _ (Nat.zero_le _) hj (opAt hj) hg).2.2.2] at g2; omega
     | true =>
       have hs := F.run.run j _ (Nat.zero_le _) hj (opAt hj) hg
       generalize C j = c at hs
       cases c with
       | P => rw [hs.2.1] at g2; omega
       | L k => rw [hs.2.1] at g2; omega
       | S k => rw [hs.2.1] at g2; omega
       | N k => have := hs.2.2.1; rw [this] at g2; omega
       | H => rw [hs.2.1] at g2; omega
       | A => rfl
       | W => rfl
    refine (F.order hd hi hni hr hj hne (.inr ?_)).1 hD
    rw [Nat.min_comm, Nat.max_comm]
    refine free_false (i := j) (j := i) ?_
    rw [hw]; exact hq
   have := F.len (show j + 1 <= i by omega) (by omega); omega
 have hwd : ∀ b x, withN ι ι1 (S i).hp.length (S (i + 1)).hp.length b = some x -> b < (S (i + 1)).hp.length /\ ι1 b = some x := fun b x hb => by
  have hlt : b < (S (i + 1)).hp.length := by
   unfold withN at hb
   by_cases h : (S i).hp.length <= b /\ b < (S (i + 1)).hp.length
   ·exact h.2
   ·rw [if_neg h] at hb; have := hdom b x hb; omega
  exact ⟨hlt, by rw [<- hcut]; exact cutI_some.2 ⟨hlt, hb⟩⟩
 have hcl : ∀ i0, i0 <= ops.size -> ClW ops C (fun j => D j ∨ j = i) i0 -> i + 1 <= i0 /\ ∃ new, (S i0).hp = (S (i + 1)).hp ++ new := fun i0 h0 hc => by
  have hlt : i < i0 := (hc i hi hw).1 (.inr rfl)
  refine ⟨hlt, F.longer hlt h0 fun k hk1 hk2 hck => ?_⟩
  have := ((hc k (by omega) hck).2 hk2).resolve_right (by omega)
  have := (hcw k (by omega) hck).1 this
  omega
 have hbk : ∀ i0, i0 <= ops.size -> ClW ops C (fun j => D j ∨ j = i) i0 -> ∀ b, b < (S (i + 1)).hp.length -> blkAt (S i0).hp b = blkAt (S (i + 1)).hp b := fun i0 h0 hc b hb => by
  obtain ⟨_, new, e⟩ := hcl i0 h0 hc
  rw [e, blkAt_append _ hb]
 exact {
  size := by rw [put_size]; exact I.size
  defers := by cases hdd : ops[i].dst <;> simp [Act.put, I.defers]
  old := F.withOld hi I.old
  dom := F.withDom I hi
  env := F.env_next hd I hi hni hr hsub (by rw [hcut]; exact hv)
  loc := fun i0 k c h0 hc hl => by
   have hcd := (cll_next (hs k) (hN k)).1 hc
   have hL := I.loc i0 k c h0 hcd hl
   exact (hL.mono (hsubc i0)).keep (h4.block _ hL.lt fun b x q hb hq _ => I.lsep i (by omega) hcw k b x q (F.known h0 hcd hl) hb hq)
  envl := F.envl_next hd I hi hni hr hE
  szs := F.withSz I hi h3.szs
  rel := fun i0 h0 hc => by
   obtain ⟨hle, _⟩ := hcl i0 h0 hc
   have hsb : Sub ι1 (cutI (withN ι ι1 (S i).hp.length (S (i + 1)).hp.length) (S i0).hp) := by
    have := cutI_sub (ι := withN ι ι1 (S i).hp.length (S (i + 1)).hp.length) (F.len hle h0)
    rwa [hcut] at this
   refine ⟨F.gl (F.withOld hi I.old) h0, F.withSz I hi h3.szs i0 h0, fun b x hb => (cutI_some.1 hb).1, h3.base, fun b x k hb hk => ?_, fun b x k b' x' k' hb hk hrw hb' hk' he => ?_⟩
   ·obtain ⟨g1, g2⟩ := cutI_some.1 hb
    obtain ⟨m1, m2⟩ := hwd b x g2
    rw [hbk i0 h0 hc b m1] at hk
    exact (h3.ok b x k m2 hk).mono hsb
   ·obtain ⟨m1, m2⟩ := hwd b x (cutI_some.1 hb).2
    obtain ⟨n1, n2⟩ := hwd b' x' (cutI_some.1 hb').2
    rw [hbk i0 h0 hc b m1] at hk
    rw [hbk i0 h0 hc b' n1] at hk'
    exact h3.sep b x k b' x' k' m2 hk hrw n2 hk' he
  llt := fun k h => Nat.lt_of_lt_of_le (I.llt k (kn_next hN h)) h4.size
  ldist := fun k k' hk hk' => I.ldist k k' (kn_next hN hk) (kn_next hN hk')
  lbase := fun k hk => I.lbase k (kn_next hN hk)
  lsep := fun i0 h0 hc k b x q hk' hb hq he => by
   have hk := kn_next hN hk'
   obtain ⟨m1, m2⟩ := hwd b x (cutI_some.1 hb).2
   rw [hbk i0 h0 hc b m1] at hq
   have := I.llt k hk
   obtain ⟨b0, x0, k0, g1, g2, _, g3, g4⟩ := h5 b x q m2 hq (by omega)
   exact I.lsep i (by omega) hcw k b0 x0 k0 hk g1 g2 (by omega)
  fr := I.fr.chain (I.own i (by omega) hcw) h4
  own := fun i0 h0 hc b x q hb hq hlt => by
   obtain ⟨m1, m2⟩ := hwd b x (cutI_some.1 hb).2
   rw [hbk i0 h0 hc b m1] at hq
   obtain ⟨b1, x1, k1, g1, g2, g5, g3, g4⟩ := h5 b x q m2 hq (Nat.lt_of_lt_of_le hlt I.fr.size)
   obtain ⟨b0, x0, k0, f1, f2, f5, f3, f4⟩ := I.own i (by omega) hcw b1 x1 k1 g1 g2 (by omega)
   refine ⟨b0, x0, k0, f1, f2, ?_, fun hrw => f3 (g3 hrw), by omega⟩
   rcases g5 with rfl | g5
   ·exact f5
   ·exact .inr (f3 g5) }
def updR (ρ : Nat -> Nat) (k n : Nat) : Nat -> Nat := fun q => if q = k then n else ρ q
theorem Fix.news (F : Fix P X E0 ops S E C G sz ι0) {D : Nat -> Prop} (hd : Down ops D) {ι : Inj} {a : Act} {w : World} (I : Inv X E0 ops S C sz ι0 ρ D ι a w) {i : Nat} (hi : i < ops.size) (hni : ¬ D i) (hr : ∀ e ∈ ops[i].after, Region.binds .any e = true -> D e.on)
 {k : Nat} (hs : C i = .N k) {cells : List Value} (hEi : E i = .loc k 0) (hnew : look (S (i + 1)).loc k = some cells) {obj : Obj} (h1 : LocR (cutI ι (S i).hp) cells (w.alloc obj) w.heap.size) :
 Inv X E0 ops S C sz ι0 (updR ρ k w.heap.size) (fun j => D j ∨ j = i) ι (a.put ops[i].dst (.pointer (some ⟨w.heap.size, 0, none⟩))) (w.alloc obj) := by
 have hw : C i ≠ .W := by rw [hs]; intro h; cases h
 have hS : ∀ k', C i ≠ .S k' := fun k' => by rw [hs]; intro h; cases h
 obtain ⟨hk0, huni⟩ := F.newN i k hi hs
 have hnk : ¬ Kn ops S C D k := by
  rintro (h | ⟨j, g1, g2, g3⟩)
  ·rw [hk0] at h; cases h
  ·have := huni j g1 g2; subst this; exact hni g3
 have hρ : ∀ q, Kn ops S C D q -> updR ρ k w.heap.size q = ρ q := fun q hq => by
  unfold updR
  rw [if_neg]
  rintro rfl
  exact hnk hq
 have hρk : updR ρ k w.heap.size k = w.heap.size := by unfold updR; rw [if_pos rfl]
 have hkn : ∀ q, Kn ops S C (fun j => D j ∨ j = i) q -> q = k ∨ (q ≠ k /\ Kn ops S C D q) := fun q hq => by
  by_cases hqk : q = k
  ·exact .inl hqk
  ·refine .inr ⟨hqk, ?_⟩
   rcases hq with hq | ⟨j, g1, g2, g3⟩
   ·exact .inl hq
   ·refine .inr ⟨j, g1, g2, g3.resolve_right ?_⟩
    rintro rfl
    rw [hs] at g2; cases g2; exact hqk rfl
 have hold : ∀ j, j < w.heap.size -> (w.alloc obj).heap[j]? = w.heap[j]? := fun j hj => by
  show (w.heap.push obj)[j]? = _
  rw [Array.getElem?_push, if_neg (by omega)]
 have hsz : (w.alloc obj).heap.size = w.heap.size + 1 := by show (w.heap.push obj).size = _; simp
 exact {
  size := by rw [put_size]; exact I.size
  defers := by cases hdd : ops[i].dst <;> simp [Act.put, I.defers]
  old := I.old
  dom := fun b x hb => dom_next (I.dom b x hb)
  env := F.env_next' hd I hi hni hr (Sub.refl _) hρ (by
   have h := ER.loc (ι := cutI ι (S (i + 1)).hp) (ρ := updR ρ k w.heap.size) k 0
   rw [hρk] at h
   rw [hEi]; exact h)
  envl := F.envl_next hd I hi hni hr fun q d hq => by rw [hEi] at hq; cases hq; exact .inr ⟨i, hi, hs, .inr rfl⟩
  loc := fun i0 k' c h0 hc hl => by
   by_cases hkk : k' = k
   ·subst hkk
    have hlt : i < i0 := (hc i hi (.inr hs)).1 (.inr rfl)
    have hsame : look (S i0).loc k' = look (S (i + 1)).loc k' := F.loc_same (by omega) h0 fun l hl1 hl2 hcl => by
     have hDl : D l := ((hc l (by omega) hcl).2 hl2).resolve_right (by omega)
     have := cll_at F hd hi hni hr (k := k') (by rw [hs]; exact free2_NS k') (by rw [hs]; exact free2_NN k') l (by omega) hcl
     have := this.1 hDl; omega
    rw [hsame, hnew] at hl; cases hl
    rw [hρk]
    exact h1.mono (cutI_sub (F.len (by omega) h0))
   ·have hcd := (cll_next (hS k') (by rw [hs]; intro h; cases h; exact hkk rfl)).1 hc
    have hL := I.loc i0 k' c h0 hcd hl
    rw [hρ k' (F.known h0 hcd hl)]
    exact hL.keep (hold _ hL.lt)
  szs := I.szs
  rel := fun i0 h0 hc => by
   have R0 := I.rel i0 h0 ((clw_next hw).1 hc)
   exact R0.keep (by omega) fun b x q hb hq => hold _ (R0.ok b x q hb hq).lt
  llt := fun q hq => by
   rcases hkn q hq with rfl | ⟨_, h⟩
   ·rw [hρk]; omega
   ·rw [hρ q h]; have := I.llt q h; omega
  lsep := fun i0 h0 hc q b x y hq hb hy => by
   have hc0 := (clw_next hw).1 hc
   rcases hkn q hq with rfl | ⟨_, h⟩
   ·rw [hρk]; have := ((I.rel i0 h0 hc0).ok b x y hb hy).lt; omega
   ·rw [hρ q h]; exact I.lsep i0 h0 hc0 q b x y h hb hy
  ldist := fun q q' hq hq' he => by
   rcases hkn q hq with rfl | ⟨_, h⟩ <;> rcases hkn q' hq' with rfl | ⟨_, h'⟩
   ·rfl
   ·rw [hρk, hρ q' h'] at he; have := I.llt q' h'; omega
   ·rw [hρk, hρ q h] at he; have := I.llt q h; omega
   ·rw [hρ q h, hρ q' h'] at he; exact I.ldist q q' h h' he
  lbase := fun q hq => by
   rcases hkn q hq with rfl | ⟨_, h⟩
   ·rw [hρk]; exact I.fr.size
   ·rw [hρ q h]; exact I.lbase q h
  fr := ⟨I.fr.os, I.fr.tape, I.fr.output, by have := I.fr.size; omega, fun j hj hno => by rw [hold j (by have := I.fr.size; omega)]; exact I.fr.block j hj hno⟩
  own := fun i0 h0 hc => I.own i0 h0 ((clw_next hw).1 hc) }
end
end Go.AM

/- A region that draws its order, joined: every order comes to the text's end. -/
namespace Go.AM
set_option linter.unusedSimpArgs false
set_option linter.unusedVariables false
section
variable {P : Program} {X : Ctx} {E0 : Entry} {ops : Array Oper} {S : Nat -> St} {E : Nat -> EV} {C : Nat -> Cls} {G : Nat -> Bool} {sz : Nat} {ι0 : Inj} {ρ : Nat -> Nat}
theorem Fix.guardAt (F : Fix P X E0 ops S E C G sz ι0) {D : Nat -> Prop} {ι : Inj} {a : Act} {w : World} (I : Inv X E0 ops S C sz ι0 ρ D ι a w) {i : Nat} (hi : i < ops.size) (hcl : ∀ t ∈ ops[i].looksAt ops, ClE ops D i t) :
 Region.wanted ops[i] (yielded ops a.tmps) = G i := by
 have hg := F.run.guard i _ (Nat.zero_le _) hi (opAt hi)
 cases hgd : ops[i].guard with
 | none => rw [hgd] at hg; simp [Region.wanted, hgd, hg]
 | some p =>
   obtain ⟨j, want⟩ := p
   rw [hgd] at hg
   obtain ⟨d, hd, hc⟩ := hg
   have hm : d ∈ ops[i].looksAt ops := by
    unfold Oper.looksAt
    refine List.mem_append_right _ ?_
    rw [hgd]
    unfold dstOf at hd
    simp [hd]
   have hev := fun e he => I.env i d e (by omega) (hcl d hm) he
   rcases hc with ⟨b, h1, h2⟩ | ⟨h1, h2⟩
   ·have := hev _ h1
    have hb : a.eval (.tmp d) = .bool b := by
     generalize a.eval (.tmp d) = q at *
     cases this with | val h => cases h; rfl
    simp [Region.wanted, hgd, yielded_of hd, hb, boolOf, h2]
   ·have := hev _ h1
    have hu : a.eval (.tmp d) = undef := by generalize a.eval (.tmp d) = q at *; cases this; rfl
    simp [Region.wanted, hgd, yielded_of hd, hu, undef, boolOf, h2]
theorem Fix.next (F : Fix P X E0 ops S E C G sz ι0) {D : Nat -> Prop} (hd : Down ops D) {ι : Inj} {a : Act} {w : World} (I : Inv X E0 ops S C sz ι0 ρ D ι a w) {i : Nat} (hi : i < ops.size) (hni : ¬ D i) (hr : ∀ e ∈ ops[i].after, Region.binds .any e = true -> D e.on)
 {K : Act -> World -> Prop} {Q : Exit -> Act -> World -> Prop} (hK : ∀ ρ' ι' a' w', Inv X E0 ops S C sz ι0 ρ' (fun j => D j ∨ j = i) ι' a' w' -> K a' w') : wpOp P ops Q i K a w := by
 obtain ⟨hcl, hop⟩ := F.operands hd I hi hni hr
 have hgd := F.guardAt I hi hcl
 unfold wpOp
 rw [opAt hi]
 simp only
 rw [hgd]
 cases hg : G i with
 | false =>
   simp only [Bool.false_eq_true, if_false]
   obtain ⟨e1, e2, e3, e4⟩ := F.run.pass i _ (Nat.zero_le _) hi (opAt hi) hg
   exact hK ρ ι _ w (F.still hd I hi hni hr (by rw [e2]; intro h; cases h) (fun k => by rw [e2]; intro h; cases h) (fun k => by rw [e2]; intro h; cases h) (fun k d h => by rw [e1] at h; cases h) (by rw [e1]; exact .skp))
 | true =>
   simp only [if_true]
   refine .inl ?_
   have hs := F.run.run i _ (Nat.zero_le _) hi (opAt hi) hg
   generalize hc : C i = c at hs
   have hnw : ∀ {c'}, C i = c' -> c' ≠ .W -> C i ≠ .W := fun h h' => by rw [h]; exact h'
   cases c with
   | P =>
     obtain ⟨e1, e2, e3, hrun⟩ := hs
     obtain ⟨v', h1, h2⟩ := hrun _ ρ a w hop
     refine wp_of_run h1 (hK ρ ι _ w (F.still hd I hi hni hr (by rw [hc]; intro h; cases h) (fun k => by rw [hc]; intro h; cases h) (fun k => by rw [hc]; intro h; cases h) (fun k d h => ?_) ?_))
     ·obtain ⟨t, d', g1, g2⟩ := e3 k d h
      refine (I.envl i t k d' (by omega) (hcl t ?_) g1).mono fun j h => .inl h
      unfold Oper.looksAt
      exact List.mem_append_left _ (List.mem_filterMap.2 ⟨.tmp t, by simpa using g2, rfl⟩)
     ·rw [e2]; exact h2
   | L k =>
     obtain ⟨e1, e2, v, cells, e3, hk, hrun⟩ := hs
     obtain ⟨v', h1, h2⟩ := hrun _ ρ a w hop (I.loc i k cells (by omega) (cll_at F hd hi hni hr (by rw [hc]; exact free2_LS k) (by rw [hc]; exact free2_LN k)) hk)
     refine wp_of_run h1 (hK ρ ι _ w (F.still hd I hi hni hr (by rw [hc]; intro h; cases h) (fun k => by rw [hc]; intro h; cases h) (fun k => by rw [hc]; intro h; cases h) (fun k d h => by rw [e3] at h; cases h) ?_))
     rw [e2, e3]; exact .val h2
   | S k =>
     obtain ⟨e1, e2, old, cells, hk, e3, e4, hrun⟩ := hs
     obtain ⟨w', h1, h2, f1, f2, f3, f4, f5⟩ := hrun _ ρ a w hop (I.loc i k old (by omega) (cll_at F hd hi hni hr (by rw [hc]; exact free2_SS k) (by rw [hc]; exact free2_SN k)) hk)
     refine wp_of_skip h1 (hK ρ ι _ w' (F.sets hd I hi hni hr hc (fun k d h => by rw [e1] at h; cases h) ?_ hk (cells := cells) ?_ h2 f1 f2 f3 f4 f5))
     ·rw [e1]; exact .skp
     ·rw [e3, look_setL, if_pos rfl, hk]; rfl
   | N k =>
     obtain ⟨e1, e2, e3, e4, cells, e5, hrun⟩ := hs
     obtain ⟨obj, h1, h2⟩ := hrun _ ρ a w hop
     exact wp_of_run h1 (hK _ ι _ _ (F.news hd I hi hni hr hc e1 (by rw [e5, look_cons, if_pos rfl]) h2))
   | H =>
     obtain ⟨e1, e2, v, e3, hrun⟩ := hs
     have hcw := clw_at F hd hi hni hr (by rw [hc]; rfl)
     have hRi := I.rel i (by omega) hcw
     refine hrun _ ρ a w E0.B K Q hop hRi fun v' w' h1 h2 h3 => hK ρ _ _ w' (F.adds hd I hi hni hr (by rw [hc]; intro h; cases h) (fun k => by rw [hc]; intro h; cases h) (fun k => by rw [hc]; intro h; cases h) (fun k d h => by rw [e3] at h; cases h) hcw (ι1 := cutI ι (S i).hp) (fun _ _ => rfl) (fun b x _ hb hx _ => ?_) ?_ h2 ?_)
     ·have := (cutI_some.1 hx).1; omega
     ·rw [e2]; exact h1
     ·rw [e3]; exact .val h3
   | A =>
     obtain ⟨e1, ⟨new, e2⟩, v, e3, hrun⟩ := hs
     have hcw := clw_at F hd hi hni hr (by rw [hc]; rfl)
     exact hrun _ ρ a w E0.B K Q hop (I.rel i (by omega) hcw) fun ι1 v' w' h1 h2 h3 h4 h5 => hK ρ _ _ w' (F.adds hd I hi hni hr (by rw [hc]; intro h; cases h) (fun k => by rw [hc]; intro h; cases h) (fun k => by rw [hc]; intro h; cases h) (fun k d h => by rw [e3] at h; cases h) hcw h1 h2 h3 h4 (by rw [e3]; exact .val h5))
   | W =>
     obtain ⟨e1, e2, e3, hrun⟩ := hs
     have hcw := clw_at F hd hi hni hr (by rw [hc]; rfl)
     exact hrun _ ρ a w E0.B K Q hop (I.rel i (by omega) hcw) fun ι1 v' w' h1 h2 h3 h4 h5 => hK ρ _ _ w' (F.writes hd I hi hni hr hc (fun k d h => absurd h (e3 k d)) hcw h1 h2 h3 h4 h5)
def left (n : Nat) (listed : Array Bool) : Nat := (List.range n).countP fun j => !listed.getD j false
theorem left_set {n i : Nat} {listed : Array Bool} (hi : i < n) (hn : listed.getD i false = false) (hs : i < listed.size) : left n (listed.setIfInBounds i true) < left n listed := by
 unfold left
 have h1 : ∀ j, listed.getD j false = true -> (listed.setIfInBounds i true).getD j false = true := fun j h => getD_set_true h
 have h2 : (listed.setIfInBounds i true).getD i false = true := by simp [hs]
 generalize (listed.setIfInBounds i true) = l2 at *
 have hm : i ∈ List.range n := List.mem_range.2 hi
 generalize List.range n = l at *
 induction l with
 | nil => cases hm
 | cons j l ih =>
   rw [List.countP_cons, List.countP_cons]
   have hle : ∀ l : List Nat, l.countP (fun j => !l2.getD j false) <= l.countP (fun j => !listed.getD j false) := fun l => List.countP_mono_left fun j _ h => by
    cases hj : listed.getD j false with
    | false => rfl
    | true => rw [h1 j hj] at h; cases h
   rcases List.mem_cons.1 hm with rfl | hm
   ·rw [hn, h2]
    have := hle l
    simp only [Bool.not_true, Bool.not_false, if_true, Bool.false_eq_true, if_false]
    omega
   ·have := ih hm
    cases hj : listed.getD j false with
    | true => rw [h1 j hj]; omega
    | false => cases l2.getD j false <;> simp only [Bool.not_true, Bool.not_false, if_true, Bool.false_eq_true, if_false] <;> omega
theorem all_listed {ops : Array Oper} {listed : Array Bool} (he : edgesOk ops = true) (hs : listed.size = ops.size) (hr : Region.ready .any ops listed = []) : ∀ j, j < ops.size -> listed.getD j false = true := by
 intro j
 induction j using Nat.strongRecOn with
 | _ j ih =>
   intro hj
   cases hl : listed.getD j false with
   | true => rfl
   | false =>
     exfalso
     have : j ∈ Region.ready .any ops listed := by
      rw [mem_ready]
      refine ⟨?_, ops[j], opAt hj, fun e hem hb => ?_⟩
      ·have : j < listed.size := by omega
       simp [this] at hl ⊢; exact hl
      ·have := edgesOk_lt he (opAt hj) hem hb
       exact ih e.on this (by omega)
     rw [hr] at this; cases this
theorem left_zero {n : Nat} {listed : Array Bool} (h : left n listed = 0) : ∀ j, j < n -> listed.getD j false = true := fun j hj => by
 unfold left at h
 rw [List.countP_eq_zero] at h
 have := h j (List.mem_range.2 hj)
 simpa using this
theorem ready_nil {ops : Array Oper} {listed : Array Bool} (hs : listed.size = ops.size) (h : ∀ j, j < ops.size -> listed.getD j false = true) : Region.ready .any ops listed = [] := by
 rw [List.eq_nil_iff_forall_not_mem]
 intro j hj
 rw [mem_ready] at hj
 obtain ⟨h1, o, ho, _⟩ := hj
 have hlt := (Array.getElem?_eq_some_iff.1 ho).1
 have h2 := h j hlt
 have : j < listed.size := by omega
 simp [this] at h1 h2
 rw [h1] at h2; cases h2
theorem Fix.any (F : Fix P X E0 ops S E C G sz ι0) {Q : Exit -> Act -> World -> Prop} (hQ : ∀ ρ ι a w D, (∀ j, j < ops.size -> D j) -> Inv X E0 ops S C sz ι0 ρ D ι a w -> Q .normal a w) :
 ∀ (fuel : Nat) (listed : Array Bool) (ρ : Nat -> Nat) (ι : Inj) (a : Act) (w : World), listed.size = ops.size -> Down ops (fun j => listed.getD j false = true) -> Inv X E0 ops S C sz ι0 ρ (fun j => listed.getD j false = true) ι a w -> left ops.size listed <= fuel -> wpAny P .any ops Q fuel listed a w
 | 0, listed, ρ, ι, a, w, hs, hd, I, hf => by
   have hall := left_zero (Nat.le_zero.1 hf)
   exact ⟨ready_nil hs hall, hQ ρ ι a w _ hall I⟩
 | fuel + 1, listed, ρ, ι, a, w, hs, hd, I, hf => by
   refine ⟨fun hr => hQ ρ ι a w _ (all_listed F.edges hs hr) I, fun i hi => ?_⟩
   rw [mem_ready] at hi
   obtain ⟨h1, o, ho, hr⟩ := hi
   obtain ⟨hlt, rfl⟩ := Array.getElem?_eq_some_iff.1 ho
   have hls : i < listed.size := by omega
   have h1' : listed.getD i false = false := by simp [hls] at h1 ⊢; exact h1
   refine F.next hd I hlt (by rw [h1']; intro h; cases h) hr fun ρ' ι' a' w' I' => ?_
   have hD : (fun j => listed.getD j false = true ∨ j = i) = fun j => (listed.setIfInBounds i true).getD j false = true := by
    funext j
    apply propext
    by_cases hji : j = i
    ·subst hji; simp [hls]
    ·rw [getD_set_ne false (Ne.symm hji)]; simp [hji]
   rw [hD] at I'
   refine F.any hQ fuel _ ρ' ι' a' w' (by simp [hs]) ?_ I' (by have := left_set hlt h1' hls; omega)
   intro j o hj hDj e hem hb
   have hDj : listed.getD j false = true ∨ j = i := by have := congrFun hD j; exact this ▸ hDj
   show (listed.setIfInBounds i true).getD e.on false = true
   rcases hDj with hDj | rfl
   ·exact getD_set_true (hd j o hj hDj e hem hb)
   ·rw [ho] at hj; cases hj
    exact getD_set_true (hr e hem hb)
theorem SRel.drawn {ι : Inj} {ρ : Nat -> Nat} {st : St} {a : Act} {w : World} (h : SRel X E0 ι ρ st a w) (n : Nat) : SRel X E0 ι ρ st a { w with drawn := n } :=
 ⟨h.env, h.envl, fun k c hk => h.loc k c hk, h.ldist, h.lsep, ⟨h.rel.glob, h.rel.szs, h.rel.dom, h.rel.base, h.rel.ok, h.rel.sep⟩,
  ⟨h.cum.ext, h.cum.sz, ⟨h.cum.fr.os, h.cum.fr.tape, h.cum.fr.output, h.cum.fr.size, h.cum.fr.block⟩, h.cum.own⟩, h.defers⟩
theorem Run.mono (hr : Run P X ops S E C G 0 ops.size) : ∀ i j, i <= j -> j <= ops.size -> SzKeep (S i).hp (S j).hp := by
 intro i j
 induction j with
 | zero => intro h _; have : i = 0 := by omega
           subst this; exact SzKeep.refl _
 | succ j ih =>
   intro h hj
   by_cases hij : i = j + 1
   ·subst hij; exact SzKeep.refl _
   ·refine (ih (by omega) (by omega)).trans ?_
    have hlt : j < ops.size := by omega
    cases hg : G j with
    | false => rw [(hr.pass j _ (Nat.zero_le _) hlt (opAt hlt) hg).2.2.2]; exact SzKeep.refl _
    | true =>
      have hs := hr.run j _ (Nat.zero_le _) hlt (opAt hlt) hg
      generalize C j = c at hs
      cases c with
      | P => rw [hs.2.1]; exact SzKeep.refl _
      | L k => rw [hs.2.1]; exact SzKeep.refl _
      | S k => rw [hs.2.1]; exact SzKeep.refl _
      | N k => have := hs.2.2.1; rw [this]; exact SzKeep.refl _
      | H => rw [hs.2.1]; exact SzKeep.refl _
      | A => obtain ⟨new, e⟩ := hs.2.1; rw [e]; exact (SzKeep.refl _).append _
      | W => exact hs.2.1
theorem Run.kstep (hr : Run P X ops S E C G 0 ops.size) {i : Nat} (hlt : i < ops.size) :
 (∀ k, (look (S i).loc k).isSome = true -> (look (S (i + 1)).loc k).isSome = true) /\ (∀ k, (look (S (i + 1)).loc k).isSome = true -> (look (S i).loc k).isSome = true ∨ C i = .N k) ∧
 (∀ k, C i = .N k -> look (S i).loc k = none /\ (look (S (i + 1)).loc k).isSome = true) ∧
 (∀ k d, E i = .loc k d -> C i = .N k ∨ ∃ t d', look (S i).env t = some (.loc k d')) := by
 cases hg : G i with
 | false =>
   obtain ⟨e1, e2, e3, e4⟩ := hr.pass i _ (Nat.zero_le _) hlt (opAt hlt) hg
   exact ⟨fun k h => by rw [e3]; exact h, fun k h => .inl (by rw [<- e3]; exact h), fun k h => (by rw [e2] at h; cases h), fun k d h => (by rw [e1] at h; cases h)⟩
 | true =>
   have hs := hr.run i _ (Nat.zero_le _) hlt (opAt hlt) hg
   generalize hc : C i = c at hs
   cases c with
   | P =>
     refine ⟨fun k h => by rw [hs.1]; exact h, fun k h => .inl (by rw [<- hs.1]; exact h), fun k h => (by cases h), fun k d h => ?_⟩
     obtain ⟨t, d', h', _⟩ := hs.2.2.1 k d h
     exact .inr ⟨t, d', h'⟩
   | L k' =>
     obtain ⟨e1, _, v, _, e2, _⟩ := hs
     exact ⟨fun k h => by rw [e1]; exact h, fun k h => .inl (by rw [<- e1]; exact h), fun k h => (by cases h), fun k d h => by rw [e2] at h; cases h⟩
   | S k' =>
     obtain ⟨e1, _, old, cells, _, e2, _⟩ := hs
     have hq : ∀ k, (look (S (i + 1)).loc k).isSome = (look (S i).loc k).isSome := fun k => by rw [e2, look_setL]; split <;> simp
     exact ⟨fun k h => by rw [hq]; exact h, fun k h => .inl (by rw [<- hq]; exact h), fun k h => (by cases h), fun k d h => by rw [e1] at h; cases h⟩
   | N k' =>
     obtain ⟨e1, _, _, e4, cells, e5, _⟩ := hs
     refine ⟨fun k h => ?_, fun k h => ?_, fun k h => ?_, fun k d h => ?_⟩
     ·rw [e5, look_cons]; split
      ·rfl
      ·exact h
     ·rw [e5, look_cons] at h
      split at h
      ·rename_i e; subst e; exact .inr rfl
      ·exact .inl h
     ·cases h; exact ⟨e4, by rw [e5, look_cons, if_pos rfl]; rfl⟩
     ·rw [e1] at h; cases h; exact .inl rfl
   | H =>
     obtain ⟨e1, _, v, e2, _⟩ := hs
     exact ⟨fun k h => by rw [e1]; exact h, fun k h => .inl (by rw [<- e1]; exact h), fun k h => (by cases h), fun k d h => by rw [e2] at h; cases h⟩
   | A =>
     obtain ⟨e1, _, v, e2, _⟩ := hs
     exact ⟨fun k h => by rw [e1]; exact h, fun k h => .inl (by rw [<- e1]; exact h), fun k h => (by cases h), fun k d h => by rw [e2] at h; cases h⟩
   | W =>
     obtain ⟨e1, _, e2, _⟩ := hs
     exact ⟨fun k h => by rw [e1]; exact h, fun k h => .inl (by rw [<- e1]; exact h), fun k h => (by cases h), fun k d h => absurd h (e2 k d)⟩
theorem Run.kmono (hr : Run P X ops S E C G 0 ops.size) {k : Nat} : ∀ {i j : Nat}, i <= j -> j <= ops.size -> (look (S i).loc k).isSome = true -> (look (S j).loc k).isSome = true := by
 intro i j
 induction j with
 | zero => intro h _ hk; have : i = 0 := by omega
           subst this; exact hk
 | succ j ih =>
   intro h hj hk
   by_cases hij : i = j + 1
   ·subst hij; exact hk
   ·exact (hr.kstep (i := j) (by omega)).1 k (ih (by omega) (by omega) hk)
theorem Run.newN (hr : Run P X ops S E C G 0 ops.size) {j k i : Nat} (hj : j < ops.size) (hc : C j = .N k) (hi : i <= j) : look (S i).loc k = none := by
 cases h : look (S i).loc k with
 | none => rfl
 | some c =>
   have := hr.kmono (k := k) hi (by omega) (by rw [h]; rfl)
   rw [((hr.kstep hj).2.2.1 k hc).1] at this; cases this
theorem Run.once (hr : Run P X ops S E C G 0 ops.size) {j j' k : Nat} (hj : j < ops.size) (hj' : j' < ops.size) (hc : C j = .N k) (hc' : C j' = .N k) : j' = j := by
 rcases Nat.lt_trichotomy j' j with h | h | h
 ·have := hr.newN hj hc (i := j' + 1) (by omega)
  have h2 := ((hr.kstep hj').2.2.1 k hc').2
  rw [this] at h2; cases h2
 ·exact h
 ·have := hr.newN hj' hc' (i := j + 1) (by omega)
  have h2 := ((hr.kstep hj).2.2.1 k hc).2
  rw [this] at h2; cases h2
theorem Run.locals (hr : Run P X ops S E C G 0 ops.size) (h0 : ∀ t k d, look (S 0).env t = some (.loc k d) -> (look (S 0).loc k).isSome = true) : ∀ i, i <= ops.size →
 (∀ k, (look (S i).loc k).isSome = true -> (look (S 0).loc k).isSome = true ∨ ∃ j, j < i /\ C j = .N k) /\ ∀ t k d, look (S i).env t = some (.loc k d) -> (look (S i).loc k).isSome = true := by
 intro i
 induction i with
 | zero => intro _; exact ⟨fun k h => .inl h, h0⟩
 | succ i ih =>
   intro hi
   obtain ⟨i1, i2⟩ := ih (by omega)
   have hlt : i < ops.size := by omega
   obtain ⟨s1, s2, s3, s4⟩ := hr.kstep hlt
   refine ⟨fun k h => ?_, fun t k d ht => ?_⟩
   ·rcases s2 k h with h | h
    ·rcases i1 k h with h | ⟨j, hj, hn⟩
     ·exact .inl h
     ·exact .inr ⟨j, by omega, hn⟩
    ·exact .inr ⟨i, by omega, h⟩
   ·rw [hr.env i _ (Nat.zero_le _) hlt (opAt hlt)] at ht
    split at ht
    ·rcases s4 k d (Option.some.inj ht) with h | ⟨t', d', h⟩
     ·exact (s3 k h).2
     ·exact s1 k (i2 t' k d' h)
    ·exact s1 k (i2 t k d ht)
theorem orderOk_facts {cl : List Cls} (h : orderOk ops cl = true) : edgesOk ops = true /\ cl.length = ops.size /\ ∀ i j, i < j -> j < ops.size -> Before ops i j ∨ (apartB ops i j = true /\ free2 (cl.getD i .W) (cl.getD j .W) = true) := by
 unfold orderOk at h
 simp only [Bool.and_eq_true, List.all_eq_true, List.mem_range, Bool.or_eq_true] at h
 obtain ⟨⟨h1, h2⟩, h4⟩ := h
 refine ⟨h1, Nat.eq_of_beq_eq_true h2, fun i j hij hj => ?_⟩
 rcases h4 j hj i hij with h | h
 ·exact .inl h
 ·exact .inr h
end
theorem drawn_ok {P : Program} {X : Ctx} (hX : XOk P X) (hm : P.follows .mixedOrders = true) : DrawnOk P X := by
 intro A E0 R r id ops st K ι ρ a w Q hr h hd hQ
 obtain ⟨S, E, C, G, hrun, hS0, cl', hK, hcl⟩ := regK_run (os := ops.toList) (k := 0) hX (fun j => by simp) hr
 simp only [Nat.zero_add, Array.length_toList, List.reverse_nil, List.nil_append] at hrun hK hcl
 cases ho : orderOk ops cl'.reverse with
 | false => rw [ho] at hK; cases hK
 | true =>
   rw [ho] at hK
   simp only at hK
   obtain ⟨he, hlen, hfree⟩ := orderOk_facts ho
   have hC : ∀ i, i < ops.size -> cl'.reverse.getD i .W = C i := fun i hi => by
    rw [hcl, List.getD_eq_getElem?_getD, List.getElem?_map, List.getElem?_range' (by simpa using hi)]
    simp
   have hmono := hrun.mono
   have hloc := hrun.locals (by rw [hS0]; exact h.envl)
   subst hS0
   have F : Fix P X E0 ops S E C G a.tmps.size ι := {
    run := hrun
    edges := he
    free := fun i j hij hj => by
     have := hfree i j hij hj
     rwa [hC i (by omega), hC j hj] at this
    dst := fun i o hi d hdd => hd o (by
     have := Array.mem_of_getElem? hi
     simpa using this) d hdd
    mono := hmono
    keys := fun i k hi => (hloc i hi).1 k
    newN := fun j k hj hc => ⟨hrun.newN hj hc (Nat.zero_le j) , fun j' hj' hc' => hrun.once hj hj' hc hc'⟩
    glob := h.rel.glob
    gdom := h.rel.dom
    e0 := h.cum.sz.len
    ext0 := h.cum.ext }
   refine wp_region_any hm ?_
   have h' := h.drawn (w.drawn + 1)
   generalize ({ w with drawn := w.drawn + 1 } : World) = w1 at *
   have hno : ∀ j, ¬ ((Array.replicate ops.size false).getD j false = true) := fun j hj => by
    by_cases hlt : j < ops.size <;> simp [hlt] at hj
   have hkn0 : ∀ k, Kn ops S C (fun j => (Array.replicate ops.size false).getD j false = true) k -> ∃ c, look (S 0).loc k = some c := fun k hk => by
    rcases hk with hk | ⟨j, _, _, hj⟩
    ·exact Option.isSome_iff_exists.1 hk
    ·exact absurd hj (hno j)
   have hcut0 : cutI ι (S 0).hp = ι := by
    funext b
    unfold cutI
    split
    ·rfl
    ·cases hb : ι b with
     | none => rfl
     | some x => exact absurd (h.rel.dom b x hb) (by assumption)
   have hsub : ∀ i, i <= ops.size -> Sub ι (cutI ι (S i).hp) := fun i hi b x hb => cutI_some.2 ⟨Nat.lt_of_lt_of_le (h.rel.dom b x hb) (F.len (Nat.zero_le i) hi), hb⟩
   have hclw : ∀ i, i <= ops.size -> ClW ops C (fun j => (Array.replicate ops.size false).getD j false = true) i -> ∃ new, (S i).hp = (S 0).hp ++ new := fun i hi hc => F.longer (Nat.zero_le i) hi fun k _ hk hck => hno k ((hc k (by omega) hck).2 hk)
   have hbk : ∀ i, i <= ops.size -> ClW ops C (fun j => (Array.replicate ops.size false).getD j false = true) i -> ∀ b x, cutI ι (S i).hp b = some x -> ι b = some x /\ blkAt (S i).hp b = blkAt (S 0).hp b := fun i hi hc b x hb => by
    obtain ⟨new, e⟩ := hclw i hi hc
    have hb2 := (cutI_some.1 hb).2
    exact ⟨hb2, by rw [e, blkAt_append _ (h.rel.dom b x hb2)]⟩
   refine F.any ?_ ops.size _ ρ ι a w1 (by simp) (fun j o _ hDj => absurd hDj (hno j)) ?_ ?_
   ·intro ρ ι' a' w' D hall I
    have hcl' : ∀ k, ClL ops C D ops.size k := fun k j hj _ => ⟨fun _ => hj, fun _ => hall j hj⟩
    have hcw : ClW ops C D ops.size := fun j hj _ => ⟨fun _ => hj, fun _ => hall j hj⟩
    refine hQ cl' (S ops.size) (cutI ι' (S ops.size).hp) ρ a' w' hK ⟨fun t e ht => I.env ops.size t e (Nat.le_refl _) (fun j o hj _ => ?_) ht, (hloc ops.size (Nat.le_refl _)).2, fun k c hk => ?_, fun k k' c c' hk hk' he => ?_, fun k c b x q hk hb hq => ?_, I.rel ops.size (Nat.le_refl _) hcw, ⟨fun b hb => ?_, h.cum.sz.trans (hmono 0 ops.size (Nat.zero_le _) (Nat.le_refl _)), I.fr, I.own ops.size (Nat.le_refl _) hcw⟩, I.defers⟩ I.size
    ·have hjlt := (Array.getElem?_eq_some_iff.1 hj).1
     exact ⟨fun _ => hjlt, fun _ => hall j hjlt⟩
    ·exact ⟨I.loc ops.size k c (Nat.le_refl _) (hcl' k) hk, I.lbase k (F.known (Nat.le_refl _) (hcl' k) hk)⟩
    ·exact I.ldist k k' (F.known (Nat.le_refl _) (hcl' k) hk) (F.known (Nat.le_refl _) (hcl' k') hk') he
    ·exact I.lsep ops.size (Nat.le_refl _) hcw k b x q (F.known (Nat.le_refl _) (hcl' k) hk) hb hq
    ·have hb1 : b < (S 0).hp.length := Nat.lt_of_lt_of_le hb h.cum.sz.len
     have hb2 := F.len (Nat.zero_le ops.size) (Nat.le_refl _)
     unfold cutI
     rw [if_pos (by omega), I.old b hb1]
     exact h.cum.ext b hb
   ·exact {
     size := rfl
     defers := h.defers
     old := fun _ _ => rfl
     dom := fun b x hb => .inl (h.rel.dom b x hb)
     env := fun i t e hi hc ht => by
      have hs : look (S i).env t = look (S 0).env t := F.look_same (Nat.zero_le i) hi fun k o _ hk ho hdd => hno k ((hc k o ho hdd).2 hk)
      rw [hs] at ht
      exact (h'.env t e ht).mono (hsub i hi)
     loc := fun i k c hi hc hk => by
      have hs : look (S i).loc k = look (S 0).loc k := F.loc_same (Nat.zero_le i) hi fun l _ hl hcl => hno l ((hc l (by omega) hcl).2 hl)
      rw [hs] at hk
      exact ((h'.loc k c hk).1).mono (hsub i hi)
     szs := fun i hi b x k hb hk => by
      have hb2 := (cutI_some.1 hb).2
      have hlt := h.rel.dom b x hb2
      obtain ⟨k', g1, g2⟩ := hmono 0 i (Nat.zero_le i) hi b _ (List.getElem?_eq_getElem hlt)
      rw [hk] at g1; cases g1
      rw [g2]; exact h.rel.szs b x _ hb2 (List.getElem?_eq_getElem hlt)
     rel := fun i hi hc => by
      have R0 := h'.rel
      refine ⟨F.gl (fun _ _ => rfl) hi, ?_, fun b x hb => (cutI_some.1 hb).1, R0.base, fun b x k hb hk => ?_, fun b x k b' x' k' hb hk hrw hb' hk' he => ?_⟩
      ·intro b x k hb hk
       have hb2 := (cutI_some.1 hb).2
       have hlt := h.rel.dom b x hb2
       obtain ⟨k', g1, g2⟩ := hmono 0 i (Nat.zero_le i) hi b _ (List.getElem?_eq_getElem hlt)
       rw [hk] at g1; cases g1
       rw [g2]; exact h.rel.szs b x _ hb2 (List.getElem?_eq_getElem hlt)
      ·obtain ⟨g1, g2⟩ := hbk i hi hc b x hb
       rw [g2] at hk
       exact (R0.ok b x k g1 hk).mono (hsub i hi)
      ·obtain ⟨g1, g2⟩ := hbk i hi hc b x hb
       obtain ⟨f1, f2⟩ := hbk i hi hc b' x' hb'
       rw [g2] at hk; rw [f2] at hk'
       exact R0.sep b x k b' x' k' g1 hk hrw f1 hk' he
     envl := fun i t k d hi hc ht => by
      have hs : look (S i).env t = look (S 0).env t := F.look_same (Nat.zero_le i) hi fun k o _ hk ho hdd => hno k ((hc k o ho hdd).2 hk)
      rw [hs] at ht
      exact .inl (h'.envl t k d ht)
     llt := fun k hk => by
      obtain ⟨c, hk⟩ := hkn0 k hk
      exact (h'.loc k c hk).1.lt
     lsep := fun i hi hc k b x q hk hb hq => by
      obtain ⟨c, hk⟩ := hkn0 k hk
      obtain ⟨g1, g2⟩ := hbk i hi hc b x hb
      rw [g2] at hq
      exact h'.lsep k c b x q hk g1 hq
     ldist := fun k k' hk hk' he => by
      obtain ⟨c, hk⟩ := hkn0 k hk
      obtain ⟨c', hk'⟩ := hkn0 k' hk'
      exact h'.ldist k k' c c' hk hk' he
     lbase := fun k hk => by
      obtain ⟨c, hk⟩ := hkn0 k hk
      exact (h'.loc k c hk).2
     fr := h'.cum.fr
     own := fun i hi hc b x q hb hq hlt => by
      obtain ⟨g1, g2⟩ := hbk i hi hc b x hb
      rw [g2] at hq
      exact h'.cum.own b x q g1 hq hlt }
   ·unfold left
    exact Nat.le_trans List.countP_le_length (by simp)
end Go.AM

/- The abstract machine is sound: what it tells of a call holds of the program's call. -/
namespace Go.AM
open Go.RowKit
set_option linter.unusedSimpArgs false
set_option linter.unusedVariables false
def Owes (P : Program) (ng : Nat) (f : FuncId) (args : List Value) (hp : Heap) (r : Value) (hp' : Heap) : Prop :=
 Enters P f /\ SzKeep hp hp' ∧
  ∀ ι w B (args' : Array Value), Rel ng ι hp w B -> VRs ι args args'.toList →
    Calls P f args' w fun e w' => ∃ ι' r', e = .returned r' /\ ExtN hp.length ι ι' /\ Rel ng ι' hp' w' B /\ Fr ι hp w w' /\ Own ι hp w ι' hp' /\ VR ι' r r'
structure BaseOk (P : Program) (b : Base) : Prop where
 tab : ∀ t ti, look b.tab t = some ti -> TIok P t ti
 fn : ∀ f fn, b.fn f = some fn -> P.funcs[f]? = some fn /\ (fn.name == "runtime.NumGoroutine") = false
 ext : ExtOk P b.kind b.ext
 prim : ∀ f g args hp r hp', b.prim f = some g -> g args hp = some (r, hp') -> Owes P b.ng f args hp r hp'
 mixed : P.follows .mixedOrders = true
theorem callN_ok {P : Program} {b : Base} (hb : BaseOk P b) : ∀ n, CallOk P b.ng (callN b n)
 | 0 => fun f args hp r hp' h => by cases h
 | n + 1 => fun f args hp r hp' h => by
   simp only [callN] at h
   split at h
   ·rename_i g hg
    exact hb.prim f g args hp r hp' hg h
   ·have hX : XOk P (b.ctx (callN b n) (lpN n)) := ⟨hb.tab, callN_ok hb n, hb.ext⟩
    exact bodyK_sound hX (lpOk_N n) (drawn_ok hX hb.mixed) (fun fn hf => hb.fn f fn hf) h
theorem callW_ok {P : Program} {b : Base} (hb : BaseOk P b) : CallOk P b.ng (callW b) := fun f args hp r hp' h => by
 obtain ⟨n, hn⟩ := limO_some.1 h
 exact callN_ok hb n f args hp r hp' (hn n (Nat.le_refl _))
theorem fr_below {ι : Inj} {hp : Heap} {w w' : World} (h : Fr ι hp w w') (hro : ∀ b k, blkAt hp b = some k -> k.md ≠ .rw) : Below w.heap.size w w' :=
 ⟨h.os, h.tape, h.output, h.size, fun j hj => h.block j hj fun b x k _ hk hrw => absurd hrw (hro b k hk)⟩
theorem callW_top {P : Program} {b : Base} (hb : BaseOk P b) {f : FuncId} {args : List Value} {hp hp' : Heap} {r : Value} (h : callW b f args hp = some (r, hp')) {ι : Inj} {w : World} {args' : Array Value}
 (hR : Rel b.ng ι hp w w.heap.size) (ha : VRs ι args args'.toList) (hro : ∀ b k, blkAt hp b = some k -> k.md ≠ .rw) :
 Calls P f args' w fun e w' => ∃ ι' r', e = .returned r' /\ VR ι' r r' /\ ExtN hp.length ι ι' /\ Rel b.ng ι' hp' w' w.heap.size /\ Below w.heap.size w w' :=
 ((callW_ok hb f args hp r hp' h).2.2 ι w w.heap.size args' hR ha).mono fun e w' ⟨ι', r', h1, h2, h3, h4, h5, h6⟩ => ⟨ι', r', h1, h6, h2, h3, fr_below h4 hro⟩
theorem callW_true {P : Program} {b : Base} (hb : BaseOk P b) {f : FuncId} {args : List Value} {hp hp' : Heap} (h : callW b f args hp = some (.bool true, hp')) {ι : Inj} {w : World} {args' : Array Value}
 (hR : Rel b.ng ι hp w w.heap.size) (ha : VRs ι args args'.toList) (hro : ∀ b k, blkAt hp b = some k -> k.md ≠ .rw) :
 Calls P f args' w fun e w' => e = .returned (.bool true) /\ Below w.heap.size w w' :=
 (callW_top hb h hR ha hro).mono fun e w' ⟨ι', r', h1, h2, _, _, h5⟩ => by
  cases h2; exact ⟨h1, h5⟩
end Go.AM
#print axioms Go.AM.callW_true

/- Words for printed runs. -/
namespace Go.AM
def bs (l : List UInt8) : ByteArray := ⟨l.toArray⟩
def newP {R : Type} (hp : Heap) (cells : List Value) (sz : Nat) (K : Value -> Heap -> Option R) : Option R := K (.pointer (some ⟨hp.length, 0, none⟩)) (hp ++ [⟨cells, sz, .rw, hp.length, true⟩])
def newV {R : Type} (hp : Heap) (cells : List Value) (sz n c : Nat) (K : Value -> Heap -> Option R) : Option R := K (newSl hp n c) (hp ++ [⟨cells, sz, .rw, hp.length, true⟩])
def got {R : Type} (n : Nat) (vs : List Value) (K : (Nat -> Value) -> Option R) : Option R := if vs.length = n then K (fun i => vs.getD i undef) else none
def inN {R : Type} (n : Nat) (l : List (Option R)) : Option R :=
 match l with
 | [] => none
 | a :: l => match n with
   | 0 => a
   | n + 1 => inN n l
termination_by structural l
def loopAt : Code -> Nat -> Option Code
 | .seq a b, n => (loopAt a n).or (loopAt b n)
 | .cond _ a b, n => (loopAt a n).or (loopAt b n)
 | .block _ a, n => loopAt a n
 | .loop a, n => if firstR a = n then some a else loopAt a n
 | _, _ => none
def loopIn (f : Func) (n : Nat) : Code := ((f.body.bind fun c => loopAt c n).getD .skip)
def annOf (l : List (Nat × Ann)) (f : FuncId) : Ann := (look l f).getD {}
def kindOf (l m : List Nat) (f : FuncId) : Nat := match mem l f with | true => 1 | false => (match mem m f with | true => 2 | false => 0)
end Go.AM

/- The table of types: a check, and what it shows. -/
namespace Go.AM
set_option linter.unusedSimpArgs false
set_option linter.unusedVariables false
def eqV : Value -> Value -> Bool
 | .bool a, .bool b => a == b
 | .int k n, .int k' n' => decide (k = k') && decide (n = n')
 | .string s, .string s' => decide (s.data.toList = s'.data.toList)
 | .pointer none, .pointer none => true
 | .slice none 0 0, .slice none 0 0 => true
 | .nilFunc, .nilFunc => true
 | _, _ => false
theorem eqV_eq {a b : Value} (h : eqV a b = true) : a = b := by
 unfold eqV at h
 split at h
 ·rw [eq_of_beq h]
 ·simp at h; rw [h.1, h.2]
 ·rename_i s s'
  have := of_decide_eq_true h
  congr 1
  obtain ⟨⟨l⟩⟩ := s
  obtain ⟨⟨l'⟩⟩ := s'
  simp at this
  rw [this]
 ·rfl
 ·rfl
 ·rfl
 ·cases h
def eqVs : List Value -> List Value -> Bool
 | [], [] => true
 | a :: l, b :: m => eqV a b && eqVs l m
 | _, _ => false
theorem eqVs_eq : ∀ {a b : List Value}, eqVs a b = true -> a = b
 | [], [], _ => rfl
 | a :: l, b :: m, h => by
   simp only [eqVs, Bool.and_eq_true] at h
   rw [eqV_eq h.1, eqVs_eq h.2]
 | [], _ :: _, h => by cases h
 | _ :: _, [], h => by cases h
def fieldB (P : Program) (f : Field) (x : Nat × Nat × Bool) : Bool :=
 decide (f.offset = x.1) && (match P.info? f.type, P.underlying f.type with
  | some g, some u => decide (g.size = x.2.1) && decide (0 < x.2.1) && decide (isAggD u = x.2.2) && (x.2.2 || decide (x.2.1 = 1))
  | _, _ => false)
def fieldsB (P : Program) : List Field -> List (Nat × Nat × Bool) -> Bool
 | [], [] => true
 | f :: fs, x :: xs => fieldB P f x && fieldsB P fs xs
 | _, _ => false
theorem fieldsB_len {P : Program} : ∀ {fs : List Field} {xs : List (Nat × Nat × Bool)}, fieldsB P fs xs = true -> fs.length = xs.length
 | [], [], _ => rfl
 | f :: fs, x :: xs, h => by simp only [fieldsB, Bool.and_eq_true] at h; simp [fieldsB_len h.2]
 | [], _ :: _, h => by cases h
 | _ :: _, [], h => by cases h
theorem fieldsB_get {P : Program} : ∀ {fs : List Field} {xs : List (Nat × Nat × Bool)}, fieldsB P fs xs = true -> ∀ (i : Nat) x, xs[i]? = some x -> ∃ f, fs[i]? = some f /\ fieldB P f x = true
 | [], [], _, i, x, e => by simp at e
 | f :: fs, x :: xs, h, i, y, e => by
   simp only [fieldsB, Bool.and_eq_true] at h
   cases i with
   | zero => simp at e; subst e; exact ⟨f, by simp, h.1⟩
   | succ i => simp at e; simpa using fieldsB_get h.2 i y e
 | [], _ :: _, h, _, _, _ => by cases h
 | _ :: _, [], h, _, _, _ => by cases h
def tkB (P : Program) (d : TypeDesc) : TK -> Bool
 | .int k => (match d with | .int k' => decide (k' = k) | _ => false)
 | .bool => (match d with | .bool => true | _ => false)
 | .str => (match d with | .string => true | _ => false)
 | .slice e esz eb z => (match d with
   | .slice e' => decide (e' = e) && (match P.info? e with
     | some i => decide (i.size = esz) && decide (i.bytes = eb) && (match i.zero with | some v => eqVs v.cells.toList z | none => false) && decide (z.length = esz) && decide (0 < esz) && decide (0 < eb) && z.all pureV1
     | none => false)
   | _ => false)
 | .struct fs => (match d with | .struct fields => fieldsB P fields.toList fs | _ => false)
 | .arr n esz => (match d with | .array n' e => decide (n' = n) && (match P.info? e, P.underlying e with | some i, some u => decide (i.size = esz) && (!decide (esz = 1) || !isAggD u) | _, _ => false) | _ => false)
 | .other => true
theorem tkB_ok {P : Program} {d : TypeDesc} {k : TK} (h : tkB P d k = true) : TKok P d k := by
 cases k with
 | int k => cases d <;> simp [tkB] at h; exact congrArg _ h
 | bool => cases d <;> simp [tkB] at h; rfl
 | str => cases d <;> simp [tkB] at h; rfl
 | slice e esz eb z =>
   cases d <;> simp only [tkB] at h <;> try (cases h; done)
   rename_i e'
   simp only [Bool.and_eq_true, decide_eq_true_eq] at h
   obtain ⟨rfl, h⟩ := h
   split at h
   ·rename_i i hi
    simp only [Bool.and_eq_true, decide_eq_true_eq] at h
    obtain ⟨⟨⟨⟨⟨⟨h1, h2⟩, h3⟩, h4⟩, h5⟩, h6⟩, h7⟩ := h
    split at h3
    ·rename_i v hv
     exact ⟨rfl, i, v, hi, h1, h2, hv, eqVs_eq h3, h4, h5, h6, fun u hu => by rw [List.all_eq_true] at h7; exact h7 u hu⟩
    ·cases h3
   ·cases h
 | struct fs =>
   cases d <;> simp only [tkB] at h <;> try (cases h; done)
   rename_i fields
   refine ⟨fields, rfl, by simpa using fieldsB_len h, fun i off n agg e => ?_⟩
   obtain ⟨f, hf, hb⟩ := fieldsB_get h i _ e
   unfold fieldB at hb
   simp only [Bool.and_eq_true, decide_eq_true_eq] at hb
   obtain ⟨h1, hb⟩ := hb
   split at hb
   ·rename_i g u hg hu
    simp only [Bool.and_eq_true, Bool.or_eq_true, decide_eq_true_eq] at hb
    obtain ⟨⟨⟨h2, h3⟩, h4⟩, h5⟩ := hb
    exact ⟨f, g, u, by simpa using hf, h1, hg, h2, h3, hu, h4, fun ha => by rcases h5 with h5 | h5; (rw [ha] at h5; cases h5); exact h5⟩
   ·cases hb
 | arr n esz =>
   cases d <;> simp only [tkB] at h <;> try (cases h; done)
   rename_i n' e
   simp only [Bool.and_eq_true, decide_eq_true_eq] at h
   obtain ⟨rfl, h⟩ := h
   split at h
   ·rename_i i u hi hu
    simp only [Bool.and_eq_true, Bool.or_eq_true, decide_eq_true_eq, Bool.not_eq_true', decide_eq_false_iff_not] at h
    exact ⟨e, i, rfl, hi, h.1, u, hu, fun q => by rcases h.2 with h2 | h2; exact absurd q h2; exact h2⟩
   ·cases h
 | other => trivial
def tiB (P : Program) (t : TypeId) (ti : TI) : Bool :=
 (match P.info? t with
  | some i => decide (i.size = ti.size) && (match i.zero with | some v => eqVs v.cells.toList ti.zero | none => false)
  | none => false) && decide (ti.zero.length = ti.size) && ti.zero.all pureV1 &&
 (match P.underlying t with | some d => decide (isAggD d = ti.agg) && tkB P d ti.k | none => false) && (ti.agg || decide (ti.size = 1))
theorem tiB_ok {P : Program} {t : TypeId} {ti : TI} (h : tiB P t ti = true) : TIok P t ti := by
 unfold tiB at h
 simp only [Bool.and_eq_true, Bool.or_eq_true, decide_eq_true_eq] at h
 obtain ⟨⟨⟨⟨h1, h2⟩, h3⟩, h4⟩, h5⟩ := h
 split at h1
 ·rename_i i hi
  simp only [Bool.and_eq_true, decide_eq_true_eq] at h1
  obtain ⟨h6, h7⟩ := h1
  split at h7
  ·rename_i v hv
   split at h4
   ·rename_i d hd
    simp only [Bool.and_eq_true, decide_eq_true_eq] at h4
    exact ⟨⟨i, v, hi, h6, hv, eqVs_eq h7, h2, fun u hu => by rw [List.all_eq_true] at h3; exact h3 u hu⟩, ⟨d, hd, h4.1, tkB_ok h4.2⟩, fun ha => by rcases h5 with h5 | h5; (rw [ha] at h5; cases h5); exact h5⟩
   ·cases h4
  ·cases h7
 ·cases h1
def tabB? (P : Program) : List (Nat × TI) -> Bool
 | [] => true
 | (t, ti) :: l => tiB P t ti && tabB? P l
theorem tab_ok {P : Program} : ∀ {l : List (Nat × TI)}, tabB? P l = true -> ∀ t ti, look l t = some ti -> TIok P t ti
 | [], _, t, ti, e => by simp [look] at e
 | (s, si) :: l, h, t, ti, e => by
   simp only [tabB?, Bool.and_eq_true] at h
   rw [look_cons] at e
   split at e
   ·rename_i hs; subst hs; cases e; exact tiB_ok h.1
   ·exact tab_ok h.2 t ti e
def FnsOk (P : Program) : List (Nat × Func) -> Prop
 | [] => True
 | (i, f) :: l => (P.funcs[i]? = some f /\ (f.name == "runtime.NumGoroutine") = false) /\ FnsOk P l
theorem fns_ok {P : Program} : ∀ {l : List (Nat × Func)}, FnsOk P l -> ∀ i f, look l i = some f -> P.funcs[i]? = some f /\ (f.name == "runtime.NumGoroutine") = false
 | [], _, i, f, e => by simp [look] at e
 | (j, g) :: l, h, i, f, e => by
   rw [look_cons] at e
   split at e
   ·rename_i hs; subst hs; cases e; exact h.1
   ·exact fns_ok h.2 i f e
end Go.AM

/- slices.Insert at elements of any size: what a call does. -/
set_option linter.unusedVariables false
set_option linter.unusedSimpArgs false
namespace Go.AM
open Go Go.Proofs Go.Shelf Go.RowKit Go.Lib
variable {P : Program} {ρ : Ren}
theorem run_copyN {P : Program} (w : World) (dT sT ty elem : TypeId) (sz : Nat) (b o dLen dCap : Nat) (a : Addr) (sLen sCap : Nat) (cs : List Value)
 (hu : P.underlying dT = some (.slice elem)) (hs : (P.info? elem).map (·.size) = some sz) (hn : cs.length = Nat.min sLen dLen * sz)
 (hsrc : ∀ j v, cs[j]? = some v -> w.cell? (a.add j) = some v) (hc : ∀ j, j < cs.length -> (w.cell? ⟨b, o + j, none⟩).isSome = true) (hf : ∀ j, j < cs.length -> w.frozen? ⟨b, o + j, none⟩ = false) (h1 : ∀ v ∈ cs, v.oneCell' = true) :
 (Builtin.copy_ #[dT, sT] ty #[.slice (some ⟨b, o, none⟩) dLen dCap, .slice (some a) sLen sCap]).run P w = .ok (goInt (Nat.min sLen dLen)) (w.setCells b o cs) := by
 have hl := run_loadCells_list (P := P) w a cs hsrc
 have hst := run_storeCells_cells (P := P) b o cs 0 w (by simpa using hc) (by simpa using hf) h1
 cases hq : P.info? elem with
 | none => simp [hq] at hs
 | some i =>
   have hi : i.size = sz := by simpa [hq] using hs
   simp [Builtin.copy_, run_underlying hu, Builtin.lenOf, Builtin.firstCells, sizeOf, typeInfo, hq, hi, <- hn, hl, hst]
structure InsLay (P : Program) (ρ : Ren) (esz eb : Nat) (z : Value) : Prop where
 mixed : P.follows .mixedOrders = true
 f22 : Bears P (ρ.f 22) (Body2.n22 ρ)
 ov : ∀ (args : Array Value) (w : World), (callFunc (ρ.f 29) args).run P w = ((Extern.SlicesOverlaps.overlaps #[ρ.t 24, ρ.t 24] #[ρ.t 4] args).run P w).andThen fun v w' => .ok (.value v) w'
 t0 : P.underlying (ρ.t 0) = some (TypeDesc.tuple #[])
 a0 : ∀ w, (isAgg (ρ.t 0)).run P w = .ok false w
 z0 : ∀ w, (Go.sizeOf (ρ.t 0)).run P w = .ok 1 w
 v0 : ∀ w, (zeroValue (ρ.t 0)).run P w = .ok (Value.tuple #[]) w
 t3 : P.underlying (ρ.t 3) = some (TypeDesc.int IntKind.i64)
 a3 : ∀ w, (isAgg (ρ.t 3)).run P w = .ok false w
 z3 : ∀ w, (Go.sizeOf (ρ.t 3)).run P w = .ok 1 w
 v3 : ∀ w, (zeroValue (ρ.t 3)).run P w = .ok (Value.int IntKind.i64 0) w
 t4 : P.underlying (ρ.t 4) = some (TypeDesc.bool)
 a4 : ∀ w, (isAgg (ρ.t 4)).run P w = .ok false w
 z4 : ∀ w, (Go.sizeOf (ρ.t 4)).run P w = .ok 1 w
 v4 : ∀ w, (zeroValue (ρ.t 4)).run P w = .ok (Value.bool false) w
 t24 : P.underlying (ρ.t 24) = some (TypeDesc.slice (ρ.t 9))
 a24 : ∀ w, (isAgg (ρ.t 24)).run P w = .ok false w
 z24 : ∀ w, (Go.sizeOf (ρ.t 24)).run P w = .ok 1 w
 v24 : ∀ w, (zeroValue (ρ.t 24)).run P w = .ok (Value.slice none 0 0) w
 z9 : ∀ w, (Go.sizeOf (ρ.t 9)).run P w = .ok esz w
 v9 : ∀ w, (zeroValue (ρ.t 9)).run P w = .ok z w
 i9 : (P.info? (ρ.t 9)).map (fun i => (i.zero, i.size, i.bytes)) = some (some z, esz, eb)
 zs : z.cells.size = esz
 es0 : 0 < esz
 eb0 : 0 < eb
set_option maxHeartbeats 4000000 in
set_option maxRecDepth 100000 in
theorem ins_end_room {esz eb : Nat} {z : Value} (L : InsLay P ρ esz eb z) (b off n c vb voff m vc : Nat) (vs : List Value) (w : World) (hm : 0 < m) (hroom : n + m <= c)
 (hvl : vs.length = m * esz) (hsp : ∀ j, j < m * esz -> (w.cell? ⟨b, off + n * esz + j, none⟩).isSome = true) (hfz : ∀ j, j < m * esz -> w.frozen? ⟨b, off + n * esz + j, none⟩ = false)
 (hsrc : Src P esz (ρ.t 24) (.slice (some ⟨vb, voff, none⟩) m vc) m vs w) :
 Calls P (ρ.f 22) #[.slice (some ⟨b, off, none⟩) n c, .int .i64 n, .slice (some ⟨vb, voff, none⟩) m vc] w fun e w' =>
  e = .returned (.slice (some ⟨b, off, none⟩) (n + m) c) /\ w' = w.setCells b (off + n * esz) vs := by
 have t0 := L.t0; have a0 := L.a0; have z0 := L.z0; have v0 := L.v0; have t3 := L.t3; have a3 := L.a3; have z3 := L.z3; have v3 := L.v3; have t4 := L.t4; have a4 := L.a4; have z4 := L.z4; have v4 := L.v4; have z9 := L.z9; have v9 := L.v9; have t24 := L.t24; have a24 := L.a24; have z24 := L.z24; have v24 := L.v24
 have u0 := run_underlying L.t0; have u3 := run_underlying L.t3; have u4 := run_underlying L.t4; have u24 := run_underlying L.t24
 have mixed := L.mixed
 obtain ⟨i0, hi0, hz0, hzs, hzb⟩ := info_parts L.i9
 have hz1 : ¬ ((m : Int) = 0) := by omega
 have hrun : ∀ ty, (Builtin.append_ #[(ρ.t 24), (ρ.t 24)] ty #[.slice (some ⟨b, off, none⟩) n c, .slice (some ⟨vb, voff, none⟩) m vc]).run P w = .ok (.slice (some ⟨b, off, none⟩) (n + m) c) (w.setCells b (off + n * esz) vs) := fun ty => by
  have := run_append_room_src (P := P) w (ρ.t 24) (ρ.t 24) ty (ρ.t 9) i0 L.t24 hi0 b off n c (.slice (some ⟨vb, voff, none⟩) m vc) m vs (by rw [hzs]; exact hsrc) hroom (by rw [hzs, hvl]; exact hsp) (by rw [hzs, hvl]; exact hfz)
  rw [hzs] at this; exact this
 obtain ⟨_, _, FG⟩ := L.f22
 go_enter FG, Body2.n22_ntmps ρ
 go_wp2_with (at_builtin; refine Lib.wpList_append_run _ rfl _ _ _ _ rfl _ _ rfl rfl _ _ (hrun _) ?_)
 go_ret
 exact ⟨rfl, rfl⟩
end Go.AM

/- slices.Insert at elements of any size: at the end without room; in the midst with room. -/
set_option linter.unusedVariables false
set_option linter.unusedSimpArgs false
namespace Go.AM
open Go Go.Proofs Go.Shelf Go.RowKit Go.Lib
variable {P : Program} {ρ : Ren}
set_option maxHeartbeats 4000000 in
set_option maxRecDepth 100000 in
theorem ins_end_grow {esz eb : Nat} {z : Value} (L : InsLay P ρ esz eb z) (base : Option Addr) (n c vb voff m vc : Nat) (cs vs : List Value) (w : World) (hm : 0 < m) (hnc : n <= c) (hroom : c < n + m) (hbig : (n + m) * eb <= 140737488355328) (h63 : n + m <= 9223372036854775807)
 (hold : (Builtin.firstCells esz n (.slice base n c)).run P w.drew = .ok cs.toArray w.drew)
 (hsrc : Src P esz (ρ.t 24) (.slice (some ⟨vb, voff, none⟩) m vc) m vs w) :
 Calls P (ρ.f 22) #[.slice base n c, .int .i64 n, .slice (some ⟨vb, voff, none⟩) m vc] w fun e w' =>
  e = .returned (.slice (some ⟨w.heap.size, 0, none⟩) (n + m) (grownCap w (n + m) c (ρ.t 9))) ∧
  w' = w.drew.alloc (.cells ((cs ++ vs).toArray ++ Builtin.zeroCells z.cells (grownCap w (n + m) c (ρ.t 9) - (n + m))) (ρ.t 9)) := by
 have t0 := L.t0; have a0 := L.a0; have z0 := L.z0; have v0 := L.v0; have t3 := L.t3; have a3 := L.a3; have z3 := L.z3; have v3 := L.v3; have t4 := L.t4; have a4 := L.a4; have z4 := L.z4; have v4 := L.v4; have z9 := L.z9; have v9 := L.v9; have t24 := L.t24; have a24 := L.a24; have z24 := L.z24; have v24 := L.v24
 have u0 := run_underlying L.t0; have u3 := run_underlying L.t3; have u4 := run_underlying L.t4; have u24 := run_underlying L.t24
 have mixed := L.mixed
 obtain ⟨i0, hi0, hz0, hzs, hzb⟩ := info_parts L.i9
 have hz1 : ¬ ((m : Int) = 0) := by omega
 have hrun : ∀ ty, (Builtin.append_ #[(ρ.t 24), (ρ.t 24)] ty #[.slice base n c, .slice (some ⟨vb, voff, none⟩) m vc]).run P w = _ := fun ty =>
  run_append_grow_src w (ρ.t 24) (ρ.t 24) ty (ρ.t 9) i0 _ L.t24 hi0 hz0 base n c cs (by rw [hzs]; exact hold) _ m vs (by rw [hzs]; exact hsrc) hroom (by omega) (by rw [hzb]; exact growslice_fits hroom hbig)
 obtain ⟨ROW, hROW⟩ : ∃ ROW : Array Value, ROW = (cs ++ vs).toArray ++ Builtin.zeroCells z.cells (grownCap w (n + m) c (ρ.t 9) - (n + m)) := ⟨_, rfl⟩
 have hrun' : ∀ ty, (Builtin.append_ #[(ρ.t 24), (ρ.t 24)] ty #[.slice base n c, .slice (some ⟨vb, voff, none⟩) m vc]).run P w = .ok (.slice (some ⟨w.heap.size, 0, none⟩) (n + m) (grownCap w (n + m) c (ρ.t 9))) (w.drew.alloc (.cells ROW (ρ.t 9))) := fun ty => by
  rw [hrun ty, hROW]
 rw [<- hROW]
 clear hROW hrun
 obtain ⟨_, _, FG⟩ := L.f22
 go_enter FG, Body2.n22_ntmps ρ
 cases base with
 | none =>
   go_wp2_with (at_builtin; refine Lib.wpList_append_run _ rfl _ _ _ _ rfl _ _ rfl rfl _ _ (hrun' _) ?_)
   all_goals (go_ret; exact ⟨rfl, rfl⟩)
 | some a =>
   obtain ⟨ab, ao, asp⟩ := a
   go_wp2_with (at_builtin; refine Lib.wpList_append_run _ rfl _ _ _ _ rfl _ _ rfl rfl _ _ (hrun' _) ?_)
   all_goals (go_ret; exact ⟨rfl, rfl⟩)
set_option maxHeartbeats 4000000 in
set_option maxRecDepth 100000 in
theorem ins_shift {esz eb : Nat} {z : Value} (L : InsLay P ρ esz eb z) (b off n c i vb voff m vc : Nat) (cs vs : List Value) (w : World) (hi : i < n) (hm : 0 < m) (hroom : n + m <= c) (h63 : n + m <= 9223372036854775807) (hvb : vb ≠ b)
 (hcl : cs.length = n * esz) (hvl : vs.length = m * esz)
 (hcs : ∀ j v, cs[j]? = some v -> w.cell? ⟨b, off + j, none⟩ = some v) (hsp : ∀ j, j < (n + m) * esz -> (w.cell? ⟨b, off + j, none⟩).isSome = true) (hfz : ∀ j, j < (n + m) * esz -> w.frozen? ⟨b, off + j, none⟩ = false)
 (hvs : ∀ j v, vs[j]? = some v -> w.cell? ⟨vb, voff + j, none⟩ = some v) (h1c : ∀ v ∈ cs, v.oneCell' = true) (h1v : ∀ v ∈ vs, v.oneCell' = true)
 (hov : ∀ lb cb, (callFunc (ρ.f 29) #[.slice (some ⟨vb, voff, none⟩) m vc, .slice (some ⟨b, off + (i + m) * esz, none⟩) lb cb]).run P w = .ok (.value (.bool false)) w) :
 Calls P (ρ.f 22) #[.slice (some ⟨b, off, none⟩) n c, .int .i64 i, .slice (some ⟨vb, voff, none⟩) m vc] w fun e w' =>
  e = .returned (.slice (some ⟨b, off, none⟩) (n + m) c) /\ w' = (w.drew.setCells b (off + (i + m) * esz) (cs.drop (i * esz))).setCells b (off + i * esz) vs := by
 have t0 := L.t0; have a0 := L.a0; have z0 := L.z0; have v0 := L.v0; have t3 := L.t3; have a3 := L.a3; have z3 := L.z3; have v3 := L.v3; have t4 := L.t4; have a4 := L.a4; have z4 := L.z4; have v4 := L.v4; have z9 := L.z9; have v9 := L.v9; have t24 := L.t24; have a24 := L.a24; have z24 := L.z24; have v24 := L.v24
 have u0 := run_underlying L.t0; have u3 := run_underlying L.t3; have u4 := run_underlying L.t4; have u24 := run_underlying L.t24
 have hz1 : ¬ ((m : Int) = 0) := by omega
 have hz2 : ¬ ((i : Int) = (n : Int)) := by omega
 have hsz : (P.info? (ρ.t 9)).map (·.size) = some esz := by
  obtain ⟨i0, hi0, h0, h1, h2⟩ := info_parts L.i9
  rw [hi0]; simp [h1]
 have hdl : (cs.drop (i * esz)).length = (n - i) * esz := by rw [List.length_drop, hcl, Nat.sub_mul]
 have hmn : ∀ {a b : Nat}, a <= b -> a * esz <= b * esz := fun h => Nat.mul_le_mul_right _ h
 have e1 : (i + m) * esz = i * esz + m * esz := Nat.add_mul _ _ _
 have e2 : (n + m) * esz = n * esz + m * esz := Nat.add_mul _ _ _
 have e3 : (n - i) * esz = n * esz - i * esz := Nat.sub_mul _ _ _
 have e4 : i * esz <= n * esz := hmn (by omega)
 have mixed := L.mixed
 have hw1 : IntKind.i64.wrap ((i : Int) + (m : Int)) = (i : Int) + (m : Int) := by rw [IntKind.wrap_i64]; omega
 have hb1 : (0 : Int) <= (i : Int) + (m : Int) := by omega
 have hin : i <= n := by omega
 have htn : ((i : Int) + (m : Int)).toNat = i + m := by omega
 have hb2 : ¬ (c = i + m) := by omega
 have hb3 : (i : Int) <= (n : Int) + (m : Int) := by omega
 have hb4 : ¬ (c = i) := by omega
 have hcp1 : ∀ ty dc sc, (Builtin.copy_ #[(ρ.t 24), (ρ.t 24)] ty #[.slice (some ⟨b, off + (i + m) * esz, none⟩) (n + m - (i + m)) dc, .slice (some ⟨b, off + i * esz, none⟩) (n + m - i) sc]).run P w.drew = .ok (goInt ((n - i : Nat) : Int)) (w.drew.setCells b (off + (i + m) * esz) (cs.drop (i * esz))) := fun ty dc sc => by
  have hmin : Nat.min (n + m - i) (n + m - (i + m)) = n - i := by simp only [Nat.min_def]; split <;> omega
  have := run_copyN (P := P) w.drew (ρ.t 24) (ρ.t 24) ty (ρ.t 9) esz b (off + (i + m) * esz) (n + m - (i + m)) dc ⟨b, off + i * esz, none⟩ (n + m - i) sc (cs.drop (i * esz)) L.t24 hsz (by rw [hdl, hmin])
   (fun j v hj => by rw [Addr.add_lit, Nat.add_assoc]; exact hcs (i * esz + j) v (by rwa [List.getElem?_drop] at hj))
   (fun j hj => by rw [Nat.add_assoc]; exact hsp _ (by omega)) (fun j hj => by rw [Nat.add_assoc]; exact hfz _ (by omega)) (fun v hv => h1c v (List.mem_of_mem_drop hv))
  rw [hmin] at this; exact this
 obtain ⟨W1, hW1⟩ : ∃ W1, W1 = w.drew.setCells b (off + (i + m) * esz) (cs.drop (i * esz)) := ⟨_, rfl⟩
 have hsp1 : ∀ k, k < (n + m) * esz -> (W1.cell? ⟨b, off + k, none⟩).isSome = true := fun k hk => by
  rw [hW1]
  exact isSome_setCells b _ _ _ (fun j hj => by rw [Nat.add_assoc]; exact hsp _ (by omega)) _ (hsp k hk)
 have hcp2 : ∀ (W : World), (∀ x, W.cell? x = W1.cell? x) -> (∀ x, W.frozen? x = W1.frozen? x) -> ∀ ty dc, (Builtin.copy_ #[(ρ.t 24), (ρ.t 24)] ty #[.slice (some ⟨b, off + i * esz, none⟩) (n + m - i) dc, .slice (some ⟨vb, voff, none⟩) m vc]).run P W = .ok (goInt m) (W.setCells b (off + i * esz) vs) := fun W hWc hWf ty dc => by
  have hmin : Nat.min m (n + m - i) = m := by simp only [Nat.min_def]; split <;> omega
  have := run_copyN (P := P) W (ρ.t 24) (ρ.t 24) ty (ρ.t 9) esz b (off + i * esz) (n + m - i) dc ⟨vb, voff, none⟩ m vc vs L.t24 hsz (by rw [hvl, hmin])
   (fun j v hj => by
    rw [Addr.add_lit, hWc, hW1, World.cell?_setCells_out b _ _ _ _ (fun h _ => absurd h hvb)]
    exact hvs j v hj)
   (fun j hj => by rw [hWc, Nat.add_assoc]; exact hsp1 _ (by omega)) (fun j hj => by rw [hWf, hW1, World.frozen?_setCells, Nat.add_assoc]; exact hfz _ (by omega)) h1v
  rw [hmin] at this; exact this
 rw [<- hW1] at hcp1
 clear hmn e1 e2 e3 e4 hdl hcl hvl
 obtain ⟨_, _, FG⟩ := L.f22
 go_enter FG, Body2.n22_ntmps ρ
 go_wp2_with (simp only [hov])
 go_region_law_o (refine step_copy_runI rfl _ _ (ρ.t 24) (ρ.t 24) rfl _ _ (by simp [Act.eval, Act.put]) (by simp [Act.eval, Act.put]) (hcp1 _ _ _) ?_)
 go_wp2_with (at_builtin; refine wpList_copy_runI _ rfl _ _ (ρ.t 24) (ρ.t 24) rfl _ _ rfl rfl (hcp2 _ (fun _ => rfl) (fun _ => rfl) _ _) ?_)
 go_ret
 first | exact ⟨rfl, rfl⟩ | exact ⟨rfl, by rw [hW1]⟩
end Go.AM

/- slices.Insert at elements of any size: in the midst without room. -/
set_option linter.unusedVariables false
set_option linter.unusedSimpArgs false
namespace Go.AM
open Go Go.Proofs Go.Shelf Go.RowKit Go.Lib
variable {P : Program} {ρ : Ren}
set_option maxHeartbeats 4000000 in
set_option maxRecDepth 100000 in
theorem ins_grow {esz eb : Nat} {z : Value} (L : InsLay P ρ esz eb z) (b off n c i vb voff m vc : Nat) (cs vs : List Value) (w : World) (hi : i < n) (hm : 0 < m) (hnc : n <= c) (hroom : c < n + m) (hbig : (n + m) * eb <= 140737488355328) (h63 : n + m <= 140737488355328)
 (hcl : cs.length = n * esz) (hvl : vs.length = m * esz) (hbw : b < w.heap.size) (hvw : vb < w.heap.size)
 (hcs : ∀ j v, cs[j]? = some v -> w.cell? ⟨b, off + j, none⟩ = some v)
 (hvs : ∀ j v, vs[j]? = some v -> w.cell? ⟨vb, voff + j, none⟩ = some v) (h1c : ∀ v ∈ cs, v.oneCell' = true) (h1v : ∀ v ∈ vs, v.oneCell' = true) :
 Calls P (ρ.f 22) #[.slice (some ⟨b, off, none⟩) n c, .int .i64 i, .slice (some ⟨vb, voff, none⟩) m vc] w fun e w' =>
  ∃ G : Nat, ∃ ROW : Array Value, n + m <= G /\ ROW.size = G * esz /\ (∀ (j : Nat) (v : Value), (cs.take (i * esz))[j]? = some v -> ROW[j]? = some v) /\ e = .returned (.slice (some ⟨w.heap.size, 0, none⟩) (n + m) G) ∧
  w' = (((w.alloc (.cells ROW (ρ.t 9))).drew.setCells w.heap.size (i * esz) vs).drew).setCells w.heap.size ((i + m) * esz) (cs.drop (i * esz)) := by
 have t0 := L.t0; have a0 := L.a0; have z0 := L.z0; have v0 := L.v0; have t3 := L.t3; have a3 := L.a3; have z3 := L.z3; have v3 := L.v3; have t4 := L.t4; have a4 := L.a4; have z4 := L.z4; have v4 := L.v4; have z9 := L.z9; have v9 := L.v9; have t24 := L.t24; have a24 := L.a24; have z24 := L.z24; have v24 := L.v24
 have u0 := run_underlying L.t0; have u3 := run_underlying L.t3; have u4 := run_underlying L.t4; have u24 := run_underlying L.t24
 have mixed := L.mixed
 obtain ⟨i0, hi0, hz0, hzs, hzb⟩ := info_parts L.i9
 have hz1 : ¬ ((m : Int) = 0) := by omega
 have hz2 : ¬ ((i : Int) = (n : Int)) := by omega
 have hz3 : (c : Int) < (n : Int) + (m : Int) := by omega
 have hsz : (P.info? (ρ.t 9)).map (·.size) = some esz := by rw [hi0]; simp [hzs]
 have hkk : (n : Int) + (m : Int) - (i : Int) = ((n + m - i : Nat) : Int) := by omega
 have hik : i + (n + m - i) = n + m := by omega
 have hmn : ∀ {a b : Nat}, a <= b -> a * esz <= b * esz := fun h => Nat.mul_le_mul_right _ h
 have e1 : (i + m) * esz = i * esz + m * esz := Nat.add_mul _ _ _
 have e2 : (n + m) * esz = n * esz + m * esz := Nat.add_mul _ _ _
 have e3 : (n - i) * esz = n * esz - i * esz := Nat.sub_mul _ _ _
 have e4 : i * esz <= n * esz := hmn (by omega)
 have e5 : (n + m - i) * eb <= (n + m) * eb := Nat.mul_le_mul_right _ (by omega)
 have hold : (Builtin.firstCells esz i (.slice (some ⟨b, off, none⟩) i c)).run P w.drew = .ok (cs.take (i * esz)).toArray w.drew :=
  run_firstCells_some w.drew esz i ⟨b, off, none⟩ i c (cs.take (i * esz)) (by rw [List.length_take]; omega) (fun j v hj => by
   rw [Addr.add_lit]
   rw [List.getElem?_take] at hj
   split at hj
   ·exact hcs j v hj
   ·cases hj)
 have hrz : ∀ ty, (Builtin.append_ #[(ρ.t 24), (ρ.t 3)] ty #[.slice (some ⟨b, off, none⟩) i c, .int .i64 ((n : Int) + (m : Int) - (i : Int))]).run P w =
  .ok (.slice (some ⟨w.heap.size, 0, none⟩) (n + m) (grownCap w (n + m) c (ρ.t 9))) (w.drew.alloc (.cells ((cs.take (i * esz)).toArray ++ Builtin.zeroCells z.cells (n + m - i) ++ Builtin.zeroCells z.cells (grownCap w (n + m) c (ρ.t 9) - (n + m))) (ρ.t 9))) := fun ty => by
  have h := Lib.run_append_grow_zeros w (ρ.t 24) (ρ.t 3) ty (ρ.t 9) i0 _ .i64 .i64 L.t24 L.t3 hi0 hz0 (some ⟨b, off, none⟩) i c (cs.take (i * esz)) (by rw [hzs]; exact hold) (n + m - i) (by omega) (by rw [hzs]; exact L.es0) (by omega) (by omega) (by rw [hzb]; omega) (by rw [hzb, hik]; exact growslice_fits hroom hbig)
  rw [hik] at h
  rw [hkk]
  exact h
 obtain ⟨G, hG⟩ : ∃ G, G = grownCap w (n + m) c (ρ.t 9) := ⟨_, rfl⟩
 obtain ⟨ROW, hROW⟩ : ∃ ROW : Array Value, ROW = (cs.take (i * esz)).toArray ++ Builtin.zeroCells z.cells (n + m - i) ++ Builtin.zeroCells z.cells (G - (n + m)) := ⟨_, rfl⟩
 rw [<- hG] at hrz
 rw [<- hROW] at hrz
 have hGn : n + m <= G := by rw [hG]; exact grownCap_ge w _ _ _
 have hzcs : ∀ k, (Builtin.zeroCells z.cells k).size = k * esz := fun k => by simp [Builtin.zeroCells, L.zs]
 have hRs : ROW.size = G * esz := by
  have e6 : (n + m - i) * esz = (n + m) * esz - i * esz := Nat.sub_mul _ _ _
  have e7 : (G - (n + m)) * esz = G * esz - (n + m) * esz := Nat.sub_mul _ _ _
  have e8 := hmn hGn
  rw [hROW]
  simp only [Array.size_append, hzcs, List.size_toArray, List.length_take, hcl]
  omega
 have hRt : ∀ (j : Nat) (v : Value), (cs.take (i * esz))[j]? = some v -> ROW[j]? = some v := fun j v hj => by
  have hjl := (List.getElem?_eq_some_iff.1 hj).1
  rw [hROW, Array.getElem?_append_left (by simp only [Array.size_append, List.size_toArray]; omega), Array.getElem?_append_left (by simpa using hjl)]
  simpa using hj
 have hRl : (n + m) * esz <= ROW.size := by rw [hRs]; exact hmn hGn
 obtain ⟨W1, hW1⟩ : ∃ W1, W1 = w.drew.alloc (.cells ROW (ρ.t 9)) := ⟨_, rfl⟩
 rw [<- hW1] at hrz
 have hN : ∀ j, j < (n + m) * esz -> (W1.cell? ⟨w.heap.size, j, none⟩).isSome = true := fun j hj => by
  rw [hW1, World.cell?_alloc_at (w := w.drew) ROW _ w.heap.size j rfl, Array.getElem?_eq_getElem (by omega)]; rfl
 have hNf : ∀ j, W1.frozen? ⟨w.heap.size, j, none⟩ = false := fun j => by rw [hW1]; exact World.frozen?_alloc_at (w := w.drew) ROW _ w.heap.size j rfl
 have hOb : ∀ j v, w.cell? ⟨b, j, none⟩ = some v -> W1.cell? ⟨b, j, none⟩ = some v := fun j v h => by rw [hW1, World.cell?_alloc_past (w := w.drew) _ b j hbw]; exact h
 have hOv : ∀ j v, w.cell? ⟨vb, j, none⟩ = some v -> W1.cell? ⟨vb, j, none⟩ = some v := fun j v h => by rw [hW1, World.cell?_alloc_past (w := w.drew) _ vb j hvw]; exact h
 have hcpA : ∀ (W : World), (∀ x, W.cell? x = W1.cell? x) -> (∀ x, W.frozen? x = W1.frozen? x) -> ∀ ty dc, (Builtin.copy_ #[(ρ.t 24), (ρ.t 24)] ty #[.slice (some ⟨w.heap.size, i * esz, none⟩) (n + m - i) dc, .slice (some ⟨vb, voff, none⟩) m vc]).run P W = .ok (goInt m) (W.setCells w.heap.size (i * esz) vs) := fun W hWc hWf ty dc => by
  have hmin : Nat.min m (n + m - i) = m := by simp only [Nat.min_def]; split <;> omega
  have := run_copyN (P := P) W (ρ.t 24) (ρ.t 24) ty (ρ.t 9) esz w.heap.size (i * esz) (n + m - i) dc ⟨vb, voff, none⟩ m vc vs L.t24 hsz (by rw [hvl, hmin])
   (fun j v hj => by rw [Addr.add_lit, hWc]; exact hOv _ v (hvs j v hj))
   (fun j hj => by rw [hWc]; exact hN _ (by omega)) (fun j hj => by rw [hWf]; exact hNf _) h1v
  rw [hmin] at this; exact this
 have hG63 : G <= 9223372036854775807 := by
  have := grownCap_le_maxLen w (n + m) c (ρ.t 9) (by unfold maxLen; omega)
  rw [<- hG] at this
  unfold maxLen at this
  omega
 have hGi : ¬ (G = i) := by omega
 have hGim : ¬ (G = i + m) := by omega
 have hci : ¬ (c = i) := by omega
 have hbN : b ≠ w.heap.size := by omega
 have hdl : (cs.drop (i * esz)).length = (n - i) * esz := by rw [List.length_drop, hcl, Nat.sub_mul]
 have hcpB : ∀ (W : World), (∀ x, W.cell? x = (W1.setCells w.heap.size (i * esz) vs).cell? x) -> (∀ x, W.frozen? x = (W1.setCells w.heap.size (i * esz) vs).frozen? x) -> ∀ ty dc sc, (Builtin.copy_ #[(ρ.t 24), (ρ.t 24)] ty #[.slice (some ⟨w.heap.size, (i + m) * esz, none⟩) (n + m - (i + m)) dc, .slice (some ⟨b, off + i * esz, none⟩) (n - i) sc]).run P W = .ok (goInt ((n - i : Nat) : Int)) (W.setCells w.heap.size ((i + m) * esz) (cs.drop (i * esz))) := fun W hWc hWf ty dc sc => by
  have hmin : Nat.min (n - i) (n + m - (i + m)) = n - i := by simp only [Nat.min_def]; split <;> omega
  have := run_copyN (P := P) W (ρ.t 24) (ρ.t 24) ty (ρ.t 9) esz w.heap.size ((i + m) * esz) (n + m - (i + m)) dc ⟨b, off + i * esz, none⟩ (n - i) sc (cs.drop (i * esz)) L.t24 hsz (by rw [hdl, hmin])
   (fun j v hj => by
    rw [Addr.add_lit, hWc, World.cell?_setCells_out _ _ _ _ _ (fun h _ => absurd h hbN), Nat.add_assoc]
    exact hOb _ v (hcs (i * esz + j) v (by rwa [List.getElem?_drop] at hj)))
   (fun j hj => by rw [hWc]; exact isSome_setCells _ _ _ _ (fun t ht => hN _ (by omega)) _ (hN _ (by omega)))
   (fun j hj => by rw [hWf, World.frozen?_setCells]; exact hNf _) (fun v hv => h1c v (List.mem_of_mem_drop hv))
  rw [hmin] at this; exact this
 subst hW1
 have hE1 : ∀ x, ((w.alloc (.cells ROW (ρ.t 9))).drew).cell? x = (w.drew.alloc (.cells ROW (ρ.t 9))).cell? x := fun x => rfl
 have hE2 : ∀ x, ((w.alloc (.cells ROW (ρ.t 9))).drew).frozen? x = (w.drew.alloc (.cells ROW (ρ.t 9))).frozen? x := fun x => rfl
 have hF1 : ∀ x, (((w.alloc (.cells ROW (ρ.t 9))).drew.setCells w.heap.size (i * esz) vs).drew).cell? x = ((w.drew.alloc (.cells ROW (ρ.t 9))).setCells w.heap.size (i * esz) vs).cell? x := fun x => rfl
 have hF2 : ∀ x, (((w.alloc (.cells ROW (ρ.t 9))).drew.setCells w.heap.size (i * esz) vs).drew).frozen? x = ((w.drew.alloc (.cells ROW (ρ.t 9))).setCells w.heap.size (i * esz) vs).frozen? x := fun x => rfl
 have hw1 : IntKind.i64.wrap ((i : Int) + (m : Int)) = (i : Int) + (m : Int) := by rw [IntKind.wrap_i64]; omega
 have hb1 : (0 : Int) <= (i : Int) + (m : Int) := by omega
 have hin : i <= n := by omega
 have htn : ((i : Int) + (m : Int)).toNat = i + m := by omega
 have hb3 : (i : Int) <= (n : Int) := by omega
 clear hkk hik hold hROW hG hRl hmn e1 e2 e3 e4 e5 hzcs hdl
 obtain ⟨_, _, FG⟩ := L.f22
 go_enter FG, Body2.n22_ntmps ρ
 go_wp2_with (first
  | (at_builtin; refine Lib.wpList_append_run _ rfl _ _ _ _ rfl _ _ rfl rfl _ _ (hrz _) ?_)
  | (at_builtin; refine wpList_copy_runI _ rfl _ _ (ρ.t 24) (ρ.t 24) rfl _ _ rfl rfl (hcpA _ hE1 hE2 _ _) ?_)
  | (at_builtin; refine wpList_copy_runI _ rfl _ _ (ρ.t 24) (ρ.t 24) rfl _ _ rfl rfl (hcpB _ (fun _ => rfl) (fun _ => rfl) _ _ _) ?_))
 go_region_law_o (refine step_copy_runI rfl _ _ (ρ.t 24) (ρ.t 24) rfl (.slice (some ⟨w.heap.size, (i + m) * esz, none⟩) (n + m - (i + m)) (G - (i + m))) (.slice (some ⟨b, off + i * esz, none⟩) (n - i) (c - i)) (by simp [Act.eval, Act.put]) (by simp [Act.eval, Act.put]) (hcpB _ hF1 hF2 (ρ.t 3) (G - (i + m)) (c - i)) ?_)
 go_wp2
 go_ret
 exact ⟨G, ROW, hGn, hRs, hRt, rfl, rfl⟩
end Go.AM

/- slices.Insert in the abstract machine: what a call owes, for every element size. -/
namespace Go.AM
open Go.Proofs Go.Shelf Go.RowKit Go.Lib
set_option linter.unusedSimpArgs false
set_option linter.unusedVariables false
variable {P : Program} {ρ : Ren}
theorem blk_list {ι : Inj} {k : Blk} {y : Img} {w : World} {B : Nat} (h : BlkR ι y k w B) {len : Nat} (hle : len <= k.cells.length) :
 ∃ (cs : Array Value) (el : TypeId) (fr : Nat × Nat) (vs : List Value), w.heap[y.blk]? = some (.cells cs el fr) /\ cs.size = y.off + y.room /\ k.cells.length <= y.room /\ (k.md = .rw -> NoFr k.pl cs.size fr /\ B <= y.blk) /\ vs.length = len ∧
   (∀ (j : Nat) (v : Value), vs[j]? = some v -> w.cell? ⟨y.blk, y.off + j, none⟩ = some v) /\ (∀ j, j < len -> cs[y.off + j]? = vs[j]?) /\ VRs ι (k.cells.take len) vs /\ (∀ v ∈ vs, v.oneCell' = true) /\ (∀ u ∈ k.cells, u.oneCell' = true) := by
 obtain ⟨cs, el, fr, h1, h2, h3, h4, h5⟩ := h
 have hlen : ((cs.toList.drop y.off).take len).length = len := by simp; omega
 have hget : ∀ j, j < len -> cs[y.off + j]? = ((cs.toList.drop y.off).take len)[j]? := fun j hj => by
  rw [List.getElem?_take_of_lt hj, List.getElem?_drop]; simp
 have hones : ∀ u ∈ k.cells, u.oneCell' = true := fun u hu => by
  obtain ⟨i, hi, rfl⟩ := List.getElem_of_mem hu
  exact (h4 i _ (List.getElem?_eq_getElem hi)).1
 have hv : VRs ι (k.cells.take len) ((cs.toList.drop y.off).take len) := by
  refine VRs.of_get (by rw [hlen]; simp; omega) fun i v v' e e' => ?_
  have hi : i < len := by have := (List.getElem?_eq_some_iff.1 e').1; omega
  rw [<- hget i hi] at e'
  rw [List.getElem?_take_of_lt hi] at e
  obtain ⟨_, u, a, b⟩ := h4 i v e
  rw [a] at e'; cases e'; exact b
 refine ⟨cs, el, fr, _, h1, h2, h3, h5, hlen, fun j v e => ?_, hget, hv, fun v hv' => ?_, hones⟩
 ·have hj : j < len := by have := (List.getElem?_eq_some_iff.1 e).1; omega
  simp only [World.cell?, h1]
  rw [hget j hj]; exact e
 ·obtain ⟨i, hi, rfl⟩ := List.getElem_of_mem hv'
  have hi' : i < len := by omega
  have e' := hget i hi'
  rw [List.getElem?_eq_getElem hi] at e'
  obtain ⟨o, u, a, b⟩ := h4 i _ (List.getElem?_eq_getElem (by omega))
  rw [e'] at a; cases a
  exact b.one o
theorem cellsR_list {ι : Inj} {new L : List Value} {cs' : Array Value} {off : Nat} (h : VRs ι new L) (h1 : ∀ u ∈ new, u.oneCell' = true) (hc : ∀ j, j < new.length -> cs'[off + j]? = L[j]?) : CellsR ι new cs' off := fun i v e => by
 obtain ⟨q, hq, hv⟩ := h.get e
 exact ⟨h1 v (List.mem_of_getElem? e), q, by rw [hc i (List.getElem?_eq_some_iff.1 e).1]; exact hq, hv⟩
theorem VRs.app {ι : Inj} : ∀ {a a' b b' : List Value}, VRs ι a a' -> VRs ι b b' -> VRs ι (a ++ b) (a' ++ b') := fun h g => h.append g
theorem VRs.take' {ι : Inj} {a a' : List Value} (h : VRs ι a a') (n : Nat) : VRs ι (a.take n) (a'.take n) :=
 VRs.of_get (by simp [h.length]) fun i v v' e e' => by
  rw [List.getElem?_take] at e e'
  split at e
  ·rename_i hi
   rw [if_pos hi] at e'
   obtain ⟨u, a, b⟩ := h.get e
   rw [a] at e'; cases e'; exact b
  ·cases e
theorem VRs.drop' {ι : Inj} {a a' : List Value} (h : VRs ι a a') (n : Nat) : VRs ι (a.drop n) (a'.drop n) :=
 VRs.of_get (by simp [h.length]) fun i v v' e e' => by
  rw [List.getElem?_drop] at e e'
  obtain ⟨u, a, b⟩ := h.get e
  rw [a] at e'; cases e'; exact b
theorem rel_take {ng : Nat} {ι : Inj} {hp : Heap} {w w' : World} {B b : Nat} {k : Blk} {y : Img} {new : List Value} (hR : Rel ng ι hp w B) (hy : ι b = some y) (hk : blkAt hp b = some k) (hrw : k.md = .rw)
 {cs' : Array Value} {el : TypeId} {fr : Nat × Nat} (hb : w'.heap[y.blk]? = some (.cells cs' el fr)) (hfr : NoFr k.pl cs'.size fr) (hz : cs'.size = y.off + y.room) (hl : new.length <= y.room) (hc : CellsR ι new cs' y.off)
 (hrest : ∀ j, j ≠ y.blk -> w'.heap[j]? = w.heap[j]?) (hsize : w'.heap.size = w.heap.size) (ho : w'.os = w.os) (ht : w'.tape = w.tape) (hu : w'.output = w.output) (sz : Nat) :
 ∃ ι', ι' = (fun b' => if b' = hp.length then some ⟨y.blk, y.off, y.room, sz⟩ else ι b') /\ ExtN hp.length ι ι' /\ Rel ng ι' (killFam hp k.fam ++ [⟨new, sz, .rw, hp.length, k.pl⟩]) w' B /\ Fr ι hp w w' /\ Own ι hp w ι' (killFam hp k.fam ++ [⟨new, sz, .rw, hp.length, k.pl⟩]) := by
 obtain ⟨hk1, hk2, hbl⟩ := blkAt_some hk
 have hL : (killFam hp k.fam).length = hp.length := killFam_len _ _
 have hkill := rel_weak hR (weak_fam hp k.fam)
 have hB := (hR.ok b y k hy hk).choose_spec.choose_spec.choose_spec.2.2.2.2 hrw
 have hsub : Sub ι (fun b' => if b' = hp.length then some ⟨y.blk, y.off, y.room, sz⟩ else ι b') := fun b' x' hb' => by
  show (if b' = hp.length then _ else _) = _
  rw [if_neg (by have := hR.dom _ _ hb'; omega)]; exact hb'
 have hother : ∀ c x q, ι c = some x -> blkAt (killFam hp k.fam) c = some q -> x.blk ≠ y.blk := fun c x q hc' hq he => by
  obtain ⟨g1, g2⟩ := killFam_blk hq
  rcases hR.sep b y k c x q hy hk hrw hc' g1 he.symm with e | ⟨_, _, e, _⟩
  ·subst e; rw [hk] at g1; cases g1; exact g2 rfl
  ·exact g2 e
 have hnew : ∀ q, blkAt (killFam hp k.fam ++ [⟨new, sz, .rw, hp.length, k.pl⟩]) hp.length = some q -> q = ⟨new, sz, .rw, hp.length, k.pl⟩ := by
  intro q hq
  have := (blkAt_some hq).1
  rw [List.getElem?_append_right (by omega)] at this
  simp [hL] at this; exact this.symm
 refine ⟨_, rfl, fun b' hb' => by show (if b' = hp.length then _ else _) = _; rw [if_neg (by omega)], ⟨fun g hg => ?_, fun b' x' q' hb' hq' => ?_, fun b' x' hb' => ?_, by rw [hsize]; exact hR.base, fun b' x' q' hb' hq' => ?_, fun b1 x1 q1 b2 x2 q2 g1 g2 g3 g4 g5 g6 => ?_⟩, ⟨ho, ht, hu, by omega, fun j hj hno => hrest j fun h => hno _ _ _ hy hk hrw h.symm⟩, fun b' x' k' hb' hk' hx' => ?_⟩
 ·obtain ⟨x', a1, a2⟩ := hR.glob g hg; exact ⟨x', hsub _ _ a1, a2⟩
 ·by_cases hbb : b' = hp.length
  ·subst hbb
   rw [if_pos rfl] at hb'; cases hb'
   rw [List.getElem?_append_right (by omega)] at hq'
   simp [hL] at hq'; subst hq'; rfl
  ·rw [if_neg hbb] at hb'
   have := hR.dom _ _ hb'
   rw [List.getElem?_append_left (by omega)] at hq'
   exact hkill.szs _ _ _ hb' hq'
 ·by_cases hbb : b' = hp.length
  ·subst hbb; simp [hL]
  ·rw [if_neg hbb] at hb'; have := hR.dom _ _ hb'; simp [hL]; omega
 ·by_cases hbb : b' = hp.length
  ·subst hbb
   rw [if_pos rfl] at hb'; cases hb'
   rw [hnew q' hq']
   exact ⟨cs', el, fr, hb, hz, hl, hc.mono hsub, fun _ => ⟨hfr, hB.2⟩⟩
  ·rw [if_neg hbb] at hb'
   rw [blkAt_append _ (by have := hR.dom _ _ hb'; omega)] at hq'
   obtain ⟨cs2, el2, fr2, m1, m2, m3, m4, m5⟩ := hkill.ok b' x' q' hb' hq'
   exact ⟨cs2, el2, fr2, by rw [hrest _ (hother _ _ _ hb' hq')]; exact m1, m2, m3, m4.mono hsub, m5⟩
 ·by_cases hb1 : b1 = hp.length <;> by_cases hb2 : b2 = hp.length
  ·exact .inl (by omega)
  ·subst hb1
   rw [if_pos rfl] at g1; cases g1
   rw [if_neg hb2] at g4
   rw [blkAt_append _ (by have := hR.dom _ _ g4; omega)] at g5
   exact absurd g6.symm (hother _ _ _ g4 g5)
  ·subst hb2
   rw [if_pos rfl] at g4; cases g4
   rw [if_neg hb1] at g1
   rw [blkAt_append _ (by have := hR.dom _ _ g1; omega)] at g2
   exact absurd g6 (hother _ _ _ g1 g2)
  ·rw [if_neg hb1] at g1
   rw [if_neg hb2] at g4
   rw [blkAt_append _ (by have := hR.dom _ _ g1; omega)] at g2
   rw [blkAt_append _ (by have := hR.dom _ _ g4; omega)] at g5
   exact hkill.sep _ _ _ _ _ _ g1 g2 g3 g4 g5 g6
 ·change (if b' = hp.length then _ else _) = _ at hb'
  by_cases hbb : b' = hp.length
  ·subst hbb
   rw [if_pos rfl] at hb'; cases hb'
   exact ⟨b, y, k, hy, hk, .inr hrw, fun _ => hrw, rfl⟩
  ·rw [if_neg hbb] at hb'
   rw [blkAt_append _ (by have := hR.dom _ _ hb'; omega)] at hk'
   obtain ⟨g1, _⟩ := killFam_blk hk'
   exact ⟨b', x', k', hb', g1, .inl rfl, id, rfl⟩
theorem rel_fresh {ng : Nat} {ι : Inj} {hp : Heap} {w w' : World} {B f : Nat} (hR : Rel ng ι hp w B) (k : Blk) (cs : Array Value) (el : TypeId) (hw : w'.heap = w.heap.push (.cells cs el (0, 0))) (ho : w'.os = w.os) (ht : w'.tape = w.tape) (hu : w'.output = w.output)
 (hlen : k.cells.length <= cs.size) (hc : CellsR ι k.cells cs 0) : ∃ ι', ι' hp.length = some ⟨w.heap.size, 0, cs.size, k.sz⟩ /\ ExtN hp.length ι ι' /\ Rel ng ι' (killFam hp f ++ [k]) w' B /\ Fr ι hp w w' /\ Own ι hp w ι' (killFam hp f ++ [k]) := by
 have hkill := rel_weak hR (weak_fam hp f)
 obtain ⟨ι', h1, h2, h3, h4, h5⟩ := rel_push hkill k cs el (0, 0) (.inl (Nat.le_refl _)) hw ho ht hu hlen hc
 refine ⟨ι', by rw [h1]; simp [killFam_len], fun b hb => h2 b (by rw [killFam_len]; exact hb), h4, ⟨h5.os, h5.tape, h5.output, h5.size, fun j hj _ => ?_⟩, fun b' x' k' hb' hk' hx' => ?_⟩
 ·rw [hw, Array.getElem?_push, if_neg (by omega)]
 ·obtain ⟨b0, x0, k0, g1, g2, g5, g3, g4⟩ := own_new (new := [k]) hkill h2 (fun b x _ h1 h2 _ => h3 b x h1 h2) b' x' k' hb' hk' hx'
  exact ⟨b0, x0, k0, g1, (killFam_blk g2).1, g5, g3, g4⟩
def hIns (esz eb : Nat) : List Value -> Heap -> Option (Value × Heap)
 | [.slice a n c, .int .i64 i, .slice (some ⟨vb, 0, none⟩) m vc], hp =>
   (blkAt hp vb).bind fun kv =>
   if kv.sz = esz /\ m * esz <= kv.cells.length /\ 0 < m /\ (n + m) * eb <= 140737488355328 then
    match n with
    | 0 => if c = 0 /\ i = 0 then some (newSl hp m (m + 1), hp ++ [⟨kv.cells.take (m * esz), esz, .rw, hp.length, true⟩]) else none
    | n + 1 => match a with
      | some ⟨b, 0, none⟩ => (blkAt hp b).bind fun k =>
        if k.md = .rw /\ kv.md = .rw /\ b ≠ vb /\ k.sz = esz /\ k.cells.length = (n + 1) * esz /\ 0 <= i /\ i <= ((n + 1 : Nat) : Int) /\ (k.pl = true ∨ kv.pl = true) then
         some (newSl hp (n + 1 + m) (n + 1 + m + 1), killFam hp k.fam ++ [⟨k.cells.take (i.toNat * esz) ++ kv.cells.take (m * esz) ++ k.cells.drop (i.toNat * esz), esz, .rw, hp.length, k.pl⟩])
        else none
      | _ => none
   else none
 | _, _ => none
end Go.AM

/- slices.Insert in the abstract machine: the proof. -/
namespace Go.AM
open Go.Proofs Go.Shelf Go.RowKit Go.Lib
set_option linter.unusedSimpArgs false
set_option linter.unusedVariables false
variable {P : Program} {ρ : Ren}
theorem ones_app {a b : List Value} (h : ∀ u ∈ a, u.oneCell' = true) (g : ∀ u ∈ b, u.oneCell' = true) : ∀ u ∈ a ++ b, u.oneCell' = true := fun u hu => (List.mem_append.1 hu).elim (h u) (g u)
theorem frozen_no {w : World} {b : Nat} {cs : Array Value} {el : TypeId} {fr : Nat × Nat} {pl : Bool} (hb : w.heap[b]? = some (.cells cs el fr)) (hn : NoFr pl cs.size fr) (j : Nat) (hj : j < cs.size) : w.frozen? ⟨b, j, none⟩ = false := by
 simp only [World.frozen?, hb]
 obtain ⟨lo, hi⟩ := fr
 simp
 rcases hn with h | h <;> simp at h <;> omega
theorem frozen_pl {w : World} {b : Nat} {cs : Array Value} {el : TypeId} {fr : Nat × Nat} (hb : w.heap[b]? = some (.cells cs el fr)) (hn : NoFr true cs.size fr) (j : Nat) : w.frozen? ⟨b, j, none⟩ = false := by
 simp only [World.frozen?, hb]
 obtain ⟨lo, hi⟩ := fr
 simp
 rcases hn with h | h
 ·simp at h; omega
 ·cases h.2
theorem overlaps_no {w : World} {tS tR e : TypeId} (ht : P.underlying tS = some (.slice e)) {size : Nat} (hz : ∀ w, (Go.sizeOf e).run P w = .ok size w) {a b : Addr} {la ca lb cb : Nat} (hne : a.block ≠ b.block) {ca' cb' : Array Value} {ea eb : TypeId} {fa fb : Nat × Nat} {pa pb : Bool}
 (ha : w.heap[a.block]? = some (.cells ca' ea fa)) (hb : w.heap[b.block]? = some (.cells cb' eb fb)) (hfa : NoFr pa ca'.size fa) (hfb : NoFr pb cb'.size fb) (hpl : pa = true ∨ pb = true) (h0 : 0 < ca'.size) (h1 : 0 < cb'.size) (hao : a.off < ca'.size) (hbo : lb ≠ 0 -> size ≠ 0 -> b.off < cb'.size) (has : a.spot = none) (hbs : b.spot = none) :
 (Extern.SlicesOverlaps.overlaps #[tS, tS] #[tR] #[.slice (some a) la ca, .slice (some b) lb cb]).run P w = .ok (.bool false) w := by
 obtain ⟨ab, ao, asp⟩ := a
 obtain ⟨bb, bo, bsp⟩ := b
 simp only at has hbs hne ha hb hao hbo
 subst has; subst hbs
 have hnb : (ab != bb) = true := by simpa using hne
 have hnb' : (ab == bb) = false := by simpa using hne
 have hsa : w.shape? ab = some (ea, ca'.size) := by simp [World.shape?, ha]
 have hsb : w.shape? bb = some (eb, cb'.size) := by simp [World.shape?, hb]
 have q1 : w.frozen? ⟨ab, ao, none⟩ = false := frozen_no ha hfa ao hao
 change Sem.run P (α := Value) (do
  let some t := (#[tS, tS] : Array TypeId)[0]? | stuck "slices.overlaps: no parameter types"
  let .slice elem <- underlying t | stuck "slices.overlaps: slice type expected"
  let size <- sizeOf elem
  match (some ⟨ab, ao, none⟩ : Option Addr), (some ⟨bb, bo, none⟩ : Option Addr) with
  | some a, some b =>
    if la = 0 ∨ lb = 0 ∨ size = 0 then pure (Value.bool false)
    else if a.block != b.block && (<- frozen a) && (<- frozen b) then unsupported .addressObserved
    else do
     if a.block != b.block then do
      noView a; noView b
      if <- mayBeOne a b then return Value.bool ((<- choose (.extern "sameAddr.stringBytes" 2)) == 1)
     pure (Value.bool (a.block == b.block && a.off < b.off + lb * size && b.off < a.off + la * size))
  | _, _ => pure (Value.bool false)) w = _
 by_cases hd : la = 0 ∨ lb = 0 ∨ size = 0
 ·simp [run_underlying ht, hz, hd]
 ·have hd' := hd
  simp only [not_or] at hd'
  have q2 : w.frozen? ⟨bb, bo, none⟩ = false := frozen_no hb hfb bo (hbo hd'.2.1 hd'.2.2)
  obtain ⟨ka, hka⟩ : ∃ k, ca'.size = k + 1 := ⟨ca'.size - 1, by omega⟩
  obtain ⟨kb, hkb⟩ : ∃ k, cb'.size = k + 1 := ⟨cb'.size - 1, by omega⟩
  have q3 : w.frozen? ⟨ab, ca'.size, none⟩ = false ∨ w.frozen? ⟨bb, cb'.size, none⟩ = false := by
   rcases hpl with h | h
   ·subst h; exact .inl (frozen_pl ha hfa _)
   ·subst h; exact .inr (frozen_pl hb hfb _)
  rw [hka] at hsa q3
  rw [hkb] at hsb q3
  rcases q3 with q3 | q3 <;> simp [run_underlying ht, hz, hd, hnb, hnb', frozen, noView, viewAt, mayBeOne, stringish, shape, Sem.run, hsa, hsb, q1, q2, q3]
theorem szKeep_kill {hp : Heap} (f : Nat) (l : Heap) : SzKeep hp (killFam hp f ++ l) := ((weak_fam hp f).sz).append l
set_option maxHeartbeats 1000000 in
theorem ins_owes (ng : Nat) {esz eb : Nat} {z : Value} (L : InsLay P ρ esz eb z) {args : List Value} {hp hp' : Heap} {r : Value} (h : hIns esz eb args hp = some (r, hp')) : Owes P ng (ρ.f 22) args hp r hp' := by
 have he0 := L.es0
 have hent : Enters P (ρ.f 22) := by
  obtain ⟨nm, hn, hf⟩ := L.f22
  exact ⟨_, hf, hn, rfl⟩
 unfold hIns at h
 split at h
 ·rename_i a n c i vb m vc
  cases hkv : blkAt hp vb with
  | none => rw [hkv] at h; cases h
  | some kv =>
  rw [hkv] at h
  simp only [Option.bind_some] at h
  split at h
  ·rename_i hc0
   obtain ⟨hvs, hvl, hm, hbig⟩ := hc0
   have hnm := le_of_bytes L.eb0 hbig
   split at h
   ·-- an empty slice
    split at h
    ·rename_i hc1
     obtain ⟨rfl, rfl⟩ := hc1
     cases h
     refine ⟨hent, (SzKeep.refl _).append _, fun ι w B args' hR ha => ?_⟩
     obtain ⟨A, hA⟩ : ∃ A, args' = A := ⟨_, rfl⟩
     obtain ⟨al⟩ := args'
     simp only at ha
     cases ha with
     | cons g1 ha => cases ha with
       | cons g2 ha => cases ha with
         | cons g3 ha => cases ha with
           | nil =>
             cases g2
             cases g3 with
             | slz => omega
             | @slc _ _ _ _ vc' yv hyv _ hv1 hv2 hv3 =>
             obtain ⟨csv, elv, frv, vs, w1, w2, w3, w4, w5, w6, w7, w8, w9, w10⟩ := blk_list (hR.ok _ _ _ hyv hkv) (len := m * esz) hvl
             have hsrc : Src P esz (ρ.t 24) (.slice (some ⟨yv.blk, yv.off + 0, none⟩) m vc') m vs w := Src.ofSlice w L.t24 ⟨yv.blk, yv.off + 0, none⟩ m vc' vs w5 (fun j u hj => by rw [Addr.add_lit]; exact w6 j u hj) w9
             have main : ∀ base : Option Addr, (Builtin.firstCells esz 0 (.slice base 0 0)).run P w.drew = .ok ([] : List Value).toArray w.drew →
              Calls P (ρ.f 22) #[.slice base 0 0, .int .i64 0, .slice (some ⟨yv.blk, yv.off + 0, none⟩) m vc'] w fun e w' => ∃ ι' r', e = .returned r' /\ ExtN hp.length ι ι' /\ Rel ng ι' (hp ++ [⟨kv.cells.take (m * esz), esz, .rw, hp.length, true⟩]) w' B /\ Fr ι hp w w' /\ Own ι hp w ι' (hp ++ [⟨kv.cells.take (m * esz), esz, .rw, hp.length, true⟩]) /\ VR ι' (newSl hp m (m + 1)) r' := by
              intro base hold
              refine (ins_end_grow L base 0 0 yv.blk (yv.off + 0) m vc' [] vs w hm (Nat.le_refl _) (by omega) (by simpa using hbig) (by omega) hold hsrc).mono ?_
              rintro e w' ⟨rfl, rfl⟩
              have hge := grownCap_ge w (0 + m) 0 (ρ.t 9)
              generalize hG : grownCap w (0 + m) 0 (ρ.t 9) = G at *
              have hsz : (([] ++ vs).toArray ++ Builtin.zeroCells z.cells (G - (0 + m))).size = G * esz := by
               simp only [List.nil_append, Array.size_append, List.size_toArray, zeroCells_size, L.zs, w5, Nat.zero_add]
               rw [<- Nat.add_mul]; congr 1; omega
              obtain ⟨ι', e1, e2, e3, e4, e5⟩ := rel_push hR ⟨kv.cells.take (m * esz), esz, .rw, hp.length, true⟩ _ (ρ.t 9) (0, 0) (.inl (Nat.le_refl _)) (w' := w.drew.alloc (.cells (([] ++ vs).toArray ++ Builtin.zeroCells z.cells (G - (0 + m))) (ρ.t 9))) rfl rfl rfl rfl
               (by rw [hsz]; have := Nat.mul_le_mul_right esz (show m <= G by omega); simp; omega)
               (cellsR_list w8 (fun u hu => w10 u (List.mem_of_mem_take hu)) fun j hj => by
                have hj' : j < m * esz := by simp at hj; omega
                rw [Nat.zero_add, Array.getElem?_append_left (by simp [w5]; omega)]; simp)
              refine ⟨ι', _, rfl, e2, e4, e5, own_new hR e2 fun b x _ q1 q2 _ => e3 b x q1 q2, ?_⟩
              rw [Nat.zero_add]
              have e6 : ι' hp.length = some ⟨w.heap.size, 0, G * esz, esz⟩ := by rw [e1]; simp only [if_true]; rw [hsz]
              exact newSl_VR (w := w) e6 (by omega) (by omega) (Nat.le_refl _)
             cases g1 with
             | nils => exact main none (run_firstCells_none w.drew esz 0 0 0)
             | slz q q' _ c' hq =>
               have := hq rfl; subst this
               exact main (some q') (run_firstCells_zero esz q' 0 0 w.drew)
             | slc => omega
    ·cases h
   ·rename_i n
    split at h
    ·rename_i b
     cases hk : blkAt hp b with
     | none => rw [hk] at h; cases h
     | some k =>
     rw [hk] at h
     simp only [Option.bind_some] at h
     split at h
     ·rename_i hc1
      obtain ⟨hrw, hvrw, hbv, hksz, hkl, hi0, hin, hpl⟩ := hc1
      cases h
      obtain ⟨i, rfl⟩ := Int.eq_ofNat_of_zero_le hi0
      simp only [Int.toNat_natCast]
      have hin : i <= n + 1 := by omega
      refine ⟨hent, szKeep_kill _ _, fun ι w B args' hR ha => ?_⟩
      obtain ⟨al⟩ := args'
      simp only at ha
      cases ha with
      | cons g1 ha => cases ha with
        | cons g2 ha => cases ha with
          | cons g3 ha => cases ha with
            | nil =>
              cases g2
              cases g3 with
              | slz => omega
              | @slc _ _ _ _ vc' yv hyv _ hv1 hv2 hv3 =>
              cases g1 with
              | @slc _ _ _ _ c' y hy _ hc1 hc2 hc3 =>
              obtain ⟨csv, elv, frv, vs, w1, w2, w3, w4, w5, w6, w7, w8, w9, w10⟩ := blk_list (hR.ok _ _ _ hyv hkv) (len := m * esz) hvl
              obtain ⟨cs, el, fr, C, u1, u2, u3, u4, u5, u6, u7, u8, u9, u10⟩ := blk_list (hR.ok _ _ _ hy hk) (len := (n + 1) * esz) (by omega)
              have hysz : y.sz = esz := by rw [<- hR.szs b y k hy (blkAt_some hk).1]; exact hksz
              rw [hysz] at hc3
              have hroomc : c' * esz <= y.room := by omega
              have hne : yv.blk ≠ y.blk := fun e => by
               rcases hR.sep b y k vb yv kv hy hk hrw hyv hkv e.symm with q | ⟨_, q, _⟩
               ·exact hbv q
               ·rw [hvrw] at q; cases q
              have hktake : k.cells.take ((n + 1) * esz) = k.cells := List.take_of_length_le (by omega)
              rw [hktake] at u8
              have hsrc : Src P esz (ρ.t 24) (.slice (some ⟨yv.blk, yv.off + 0, none⟩) m vc') m vs w := Src.ofSlice w L.t24 ⟨yv.blk, yv.off + 0, none⟩ m vc' vs w5 (fun j u hj => by rw [Addr.add_lit]; exact w6 j u hj) w9
              have m1 : (n + 1 + m) * esz = (n + 1) * esz + m * esz := Nat.add_mul _ _ _
              have m2 : (i + m) * esz = i * esz + m * esz := Nat.add_mul _ _ _
              have m3 : i * esz <= (n + 1) * esz := Nat.mul_le_mul_right _ hin
              have m4 : 0 < (n + 1) * esz := Nat.mul_pos (by omega) he0
              have m5 : 0 < m * esz := Nat.mul_pos hm he0
              have hnewR : VRs ι (k.cells.take (i * esz) ++ kv.cells.take (m * esz) ++ k.cells.drop (i * esz)) (C.take (i * esz) ++ vs ++ C.drop (i * esz)) := ((u8.take' _).append w8).append (u8.drop' _)
              have hnew1 : ∀ u ∈ k.cells.take (i * esz) ++ kv.cells.take (m * esz) ++ k.cells.drop (i * esz), u.oneCell' = true := ones_app (ones_app (fun u hu => u10 u (List.mem_of_mem_take hu)) (fun u hu => w10 u (List.mem_of_mem_take hu))) (fun u hu => u10 u (List.mem_of_mem_drop hu))
              have hnewl : (k.cells.take (i * esz) ++ kv.cells.take (m * esz) ++ k.cells.drop (i * esz)).length = (n + 1 + m) * esz := by simp; omega
              have hL : ∀ j, j < (n + 1 + m) * esz -> (C.take (i * esz) ++ vs ++ C.drop (i * esz))[j]? = if j < i * esz then C[j]? else if j < (i + m) * esz then vs[j - i * esz]? else C[j - m * esz]? := fun j hj => by
               by_cases q1 : j < i * esz
               ·rw [if_pos q1, List.append_assoc, List.getElem?_append_left (by simp; omega), List.getElem?_take_of_lt q1]
               ·rw [if_neg q1]
                by_cases q2 : j < (i + m) * esz
                ·rw [if_pos q2, List.getElem?_append_left (by simp; omega), List.getElem?_append_right (by simp; omega)]
                 congr 1; simp; omega
                ·rw [if_neg q2, List.getElem?_append_right (by simp; omega), List.getElem?_drop]
                 congr 1; simp; omega
              have hinplace : ∀ (w' : World) (cs' : Array Value), n + 1 + m <= c' -> w'.heap[y.blk]? = some (.cells cs' el fr) -> cs'.size = cs.size -> (∀ j, j ≠ y.blk -> w'.heap[j]? = w.heap[j]?) -> w'.heap.size = w.heap.size -> w'.os = w.os -> w'.tape = w.tape -> w'.output = w.output →
               (∀ j, j < (n + 1 + m) * esz -> cs'[y.off + j]? = (C.take (i * esz) ++ vs ++ C.drop (i * esz))[j]?) →
               ∃ ι', ExtN hp.length ι ι' /\ Rel ng ι' (killFam hp k.fam ++ [⟨k.cells.take (i * esz) ++ kv.cells.take (m * esz) ++ k.cells.drop (i * esz), esz, .rw, hp.length, k.pl⟩]) w' B /\ Fr ι hp w w' ∧
                 Own ι hp w ι' (killFam hp k.fam ++ [⟨k.cells.take (i * esz) ++ kv.cells.take (m * esz) ++ k.cells.drop (i * esz), esz, .rw, hp.length, k.pl⟩]) /\ VR ι' (newSl hp (n + 1 + m) (n + 1 + m + 1)) (.slice (some ⟨y.blk, y.off + 0, none⟩) (n + 1 + m) c') := by
               intro w' cs' hrm hb' hsz' hrest hsize ho ht hu hcells
               have hroomL : (n + 1 + m) * esz <= c' * esz := Nat.mul_le_mul_right _ hrm
               have hB := u4 hrw
               obtain ⟨ι', e1, e2, e3, e4, e5⟩ := rel_take hR hy hk hrw hb' (by rw [hsz']; exact hB.1) (by rw [hsz']; exact u2) (by rw [hnewl]; omega) (cellsR_list hnewR hnew1 (fun j hj => hcells j (by rw [<- hnewl]; exact hj))) hrest hsize ho ht hu esz
               refine ⟨ι', e2, e3, e4, e5, ?_⟩
               have e6 : ι' hp.length = some ⟨y.blk, y.off, y.room, esz⟩ := by rw [e1]; simp
               have := VR.slc (ι := ι') (o := 0) (n := n + 1 + m) (c := n + 1 + m + 1) (c' := c') e6 (by omega) hrm (by omega) (by show 0 + c' * esz <= y.room; omega)
               exact this
              have hfresh : ∀ (w' : World) (cs' : Array Value) (G : Nat), n + 1 + m <= G -> w'.heap = w.heap.push (.cells cs' (ρ.t 9) (0, 0)) -> w'.os = w.os -> w'.tape = w.tape -> w'.output = w.output -> cs'.size = G * esz →
               (∀ j, j < (n + 1 + m) * esz -> cs'[j]? = (C.take (i * esz) ++ vs ++ C.drop (i * esz))[j]?) →
               ∃ ι', ExtN hp.length ι ι' /\ Rel ng ι' (killFam hp k.fam ++ [⟨k.cells.take (i * esz) ++ kv.cells.take (m * esz) ++ k.cells.drop (i * esz), esz, .rw, hp.length, k.pl⟩]) w' B /\ Fr ι hp w w' ∧
                 Own ι hp w ι' (killFam hp k.fam ++ [⟨k.cells.take (i * esz) ++ kv.cells.take (m * esz) ++ k.cells.drop (i * esz), esz, .rw, hp.length, k.pl⟩]) /\ VR ι' (newSl hp (n + 1 + m) (n + 1 + m + 1)) (.slice (some ⟨w.heap.size, 0, none⟩) (n + 1 + m) G) := by
               intro w' cs' G hG hw' ho ht hu hsz' hcells
               have hGL : (n + 1 + m) * esz <= G * esz := Nat.mul_le_mul_right _ hG
               obtain ⟨ι', e1, e2, e3, e4, e5⟩ := rel_fresh (f := k.fam) hR ⟨k.cells.take (i * esz) ++ kv.cells.take (m * esz) ++ k.cells.drop (i * esz), esz, .rw, hp.length, k.pl⟩ cs' (ρ.t 9) hw' ho ht hu (by show (_ : List Value).length <= _; rw [hnewl, hsz']; exact hGL)
                (cellsR_list hnewR hnew1 (fun j hj => by rw [Nat.zero_add]; exact hcells j (by rw [<- hnewl]; exact hj)))
               exact ⟨ι', e2, e3, e4, e5, newSl_VR (w := w) e1 (by omega) (by omega) (by rw [hsz']; exact Nat.le_refl _)⟩
              have hbw : y.blk < w.heap.size := (Array.getElem?_eq_some_iff.1 u1).1
              have hvw : yv.blk < w.heap.size := (Array.getElem?_eq_some_iff.1 w1).1
              by_cases hroom : n + 1 + m <= c'
              ·have hroomL : (n + 1 + m) * esz <= c' * esz := Nat.mul_le_mul_right _ hroom
               by_cases hie : i = n + 1
               ·subst hie
                refine (ins_end_room L y.blk (y.off + 0) (n + 1) c' yv.blk (yv.off + 0) m vc' vs w hm hroom w5 (fun j hj => by simp only [World.cell?, u1]; simp; omega) (fun j hj => frozen_no u1 (u4 hrw).1 _ (by omega)) hsrc).mono ?_
                rintro e w' ⟨rfl, rfl⟩
                obtain ⟨A', e1, e2, e3, e4, e5, e6, e7, e8⟩ := setCells_block vs (y.off + 0 + (n + 1) * esz) w y.blk cs el fr u1 (by omega)
                obtain ⟨ι', q⟩ := hinplace _ A' hroom e1 e2 e4 e5 e6 e7 e8 (fun j hj => by
                 rw [hL j hj, e3]
                 by_cases q1 : j < (n + 1) * esz
                 ·rw [if_pos q1, if_neg (by omega)]; exact u7 j q1
                 ·rw [if_neg q1, if_pos (by omega), if_pos (by omega)]; congr 1; omega)
                exact ⟨ι', _, rfl, q⟩
               ·have hlt : i < n + 1 := by omega
                have hov : ∀ lb cb, (callFunc (ρ.f 29) #[.slice (some ⟨yv.blk, yv.off + 0, none⟩) m vc', .slice (some ⟨y.blk, y.off + 0 + (i + m) * esz, none⟩) lb cb]).run P w = .ok (.value (.bool false)) w := fun lb cb => by
                 rw [L.ov]
                 rw [overlaps_no L.t24 L.z9 (a := ⟨yv.blk, yv.off + 0, none⟩) (b := ⟨y.blk, y.off + 0 + (i + m) * esz, none⟩) hne w1 u1 (w4 hvrw).1 (u4 hrw).1 (hpl.symm) (by omega) (by omega) (by show yv.off + 0 < _; omega) (fun _ _ => by show y.off + 0 + (i + m) * esz < _; have : (i + m) * esz < (n + 1 + m) * esz := Nat.mul_lt_mul_of_pos_right (by omega) he0; omega) rfl rfl]
                 rfl
                refine (ins_shift L y.blk (y.off + 0) (n + 1) c' i yv.blk (yv.off + 0) m vc' C vs w hlt hm hroom (by omega) hne u5 w5 (fun j v e => u6 j v e) (fun j hj => by simp only [World.cell?, u1]; simp; omega) (fun j hj => frozen_no u1 (u4 hrw).1 _ (by omega)) (fun j v e => w6 j v e) u9 w9 hov).mono ?_
                rintro e w' ⟨rfl, rfl⟩
                have hdl : (C.drop (i * esz)).length = (n + 1) * esz - i * esz := by rw [List.length_drop, u5]
                obtain ⟨A1, e1, e2, e3, e4, e5, e6, e7, e8⟩ := setCells_block (C.drop (i * esz)) (y.off + 0 + (i + m) * esz) w.drew y.blk cs el fr u1 (by omega)
                obtain ⟨A2, f1, f2, f3, f4, f5, f6, f7, f8⟩ := setCells_block vs (y.off + 0 + i * esz) (w.drew.setCells y.blk (y.off + 0 + (i + m) * esz) (C.drop (i * esz))) y.blk A1 el fr e1 (by omega)
                obtain ⟨ι', q⟩ := hinplace _ A2 hroom f1 (by rw [f2, e2]) (fun j hj => by rw [f4 j hj, e4 j hj]; rfl) (by rw [f5, e5]; rfl) (by rw [f6, e6]; rfl) (by rw [f7, e7]; rfl) (by rw [f8, e8]; rfl) (fun j hj => by
                 rw [hL j hj, f3, e3]
                 by_cases q1 : j < i * esz
                 ·rw [if_pos q1, if_neg (by omega), if_neg (by omega)]; exact u7 j (by omega)
                 ·rw [if_neg q1]
                  by_cases q2 : j < (i + m) * esz
                  ·rw [if_pos q2, if_pos (by omega)]; congr 1; omega
                  ·rw [if_neg q2, if_neg (by omega), if_pos (by omega), List.getElem?_drop]; congr 1; omega)
                exact ⟨ι', _, rfl, q⟩
              ·have hg : c' < n + 1 + m := by omega
               by_cases hie : i = n + 1
               ·subst hie
                refine (ins_end_grow L (some ⟨y.blk, y.off + 0, none⟩) (n + 1) c' yv.blk (yv.off + 0) m vc' C vs w hm hc1 hg hbig (by omega) (run_firstCells_some w.drew esz (n + 1) ⟨y.blk, y.off + 0, none⟩ (n + 1) c' C u5 (fun j v e => by rw [Addr.add_lit]; exact u6 j v e)) hsrc).mono ?_
                rintro e w' ⟨rfl, rfl⟩
                have hge := grownCap_ge w (n + 1 + m) c' (ρ.t 9)
                generalize grownCap w (n + 1 + m) c' (ρ.t 9) = G at *
                obtain ⟨ι', q⟩ := hfresh (w.drew.alloc (.cells ((C ++ vs).toArray ++ Builtin.zeroCells z.cells (G - (n + 1 + m))) (ρ.t 9))) _ G hge rfl rfl rfl rfl (by
                 simp only [Array.size_append, List.size_toArray, List.length_append, zeroCells_size, L.zs, w5, u5]
                 rw [<- Nat.add_mul, <- Nat.add_mul]; congr 1; omega) (fun j hj => by
                 rw [hL j hj, Array.getElem?_append_left (by simp [w5, u5]; omega)]
                 by_cases q1 : j < (n + 1) * esz
                 ·rw [if_pos q1]; simp; rw [List.getElem?_append_left (by omega)]
                 ·rw [if_neg q1, if_pos (by omega)]; simp; rw [List.getElem?_append_right (by omega)]; congr 1; omega)
                exact ⟨ι', _, rfl, q⟩
               ·have hlt : i < n + 1 := by omega
                refine (ins_grow L y.blk (y.off + 0) (n + 1) c' i yv.blk (yv.off + 0) m vc' C vs w hlt hm hc1 hg hbig hnm u5 w5 hbw hvw (fun j v e => u6 j v e) (fun j v e => w6 j v e) u9 w9).mono ?_
                rintro e w' ⟨G, ROW, r1, r2, r3, rfl, rfl⟩
                have hGL : (n + 1 + m) * esz <= G * esz := Nat.mul_le_mul_right _ r1
                have hdl : (C.drop (i * esz)).length = (n + 1) * esz - i * esz := by rw [List.length_drop, u5]
                obtain ⟨A1, e1, e2, e3, e4, e5, e6, e7, e8⟩ := setCells_block vs (i * esz) (w.alloc (.cells ROW (ρ.t 9))).drew w.heap.size ROW (ρ.t 9) (0, 0) (by show (w.heap.push _)[w.heap.size]? = _; simp) (by omega)
                obtain ⟨A2, f1, f2, f3, f4, f5, f6, f7, f8⟩ := setCells_block (C.drop (i * esz)) ((i + m) * esz) ((w.alloc (.cells ROW (ρ.t 9))).drew.setCells w.heap.size (i * esz) vs).drew w.heap.size A1 (ρ.t 9) (0, 0) e1 (by omega)
                obtain ⟨ι', q⟩ := hfresh (((w.alloc (.cells ROW (ρ.t 9))).drew.setCells w.heap.size (i * esz) vs).drew.setCells w.heap.size ((i + m) * esz) (C.drop (i * esz))) A2 G r1 (by
                 apply Array.ext_getElem?
                 intro j
                 rw [Array.getElem?_push]
                 by_cases q1 : j = w.heap.size
                 ·rw [if_pos q1, q1]; exact f1
                 ·rw [if_neg q1, f4 j q1]
                  show ((w.alloc (.cells ROW (ρ.t 9))).drew.setCells w.heap.size (i * esz) vs).heap[j]? = _
                  rw [e4 j q1]
                  show (w.heap.push _)[j]? = _
                  rw [Array.getElem?_push, if_neg q1]) (by rw [f6]; exact e6) (by rw [f7]; exact e7) (by rw [f8]; exact e8) (by rw [f2, e2, r2]) (fun j hj => by
                 rw [hL j hj, f3, e3]
                 by_cases q1 : j < i * esz
                 ·rw [if_pos q1, if_neg (by omega), if_neg (by omega)]
                  have hj' : j < C.length := by omega
                  rw [r3 j C[j] (by rw [List.getElem?_take_of_lt q1, List.getElem?_eq_getElem hj']), List.getElem?_eq_getElem hj']
                 ·rw [if_neg q1]
                  by_cases q2 : j < (i + m) * esz
                  ·rw [if_pos q2, if_neg (by omega), if_pos (by omega)]
                  ·rw [if_neg q2, if_pos (by omega), List.getElem?_drop]; congr 1; omega)
                exact ⟨ι', _, rfl, q⟩
     ·cases h
    ·cases h
  ·cases h
 ·cases h
end Go.AM

/- slices.Delete at elements of any size: what a call does. -/
set_option linter.unusedVariables false
set_option linter.unusedSimpArgs false
namespace Go.AM
open Go Go.Proofs Go.Shelf Go.RowKit Go.Lib
variable {P : Program} {ρ : Ren}
structure DelLay (P : Program) (ρ : Ren) (esz : Nat) (z : Value) : Prop where
 mixed : P.follows .mixedOrders = true
 f24 : Bears P (ρ.f 24) (Body2.n24 ρ)
 t0 : P.underlying (ρ.t 0) = some (TypeDesc.tuple #[])
 a0 : ∀ w, (isAgg (ρ.t 0)).run P w = .ok false w
 z0 : ∀ w, (Go.sizeOf (ρ.t 0)).run P w = .ok 1 w
 v0 : ∀ w, (zeroValue (ρ.t 0)).run P w = .ok (Value.tuple #[]) w
 t3 : P.underlying (ρ.t 3) = some (TypeDesc.int IntKind.i64)
 a3 : ∀ w, (isAgg (ρ.t 3)).run P w = .ok false w
 z3 : ∀ w, (Go.sizeOf (ρ.t 3)).run P w = .ok 1 w
 v3 : ∀ w, (zeroValue (ρ.t 3)).run P w = .ok (Value.int IntKind.i64 0) w
 t4 : P.underlying (ρ.t 4) = some (TypeDesc.bool)
 a4 : ∀ w, (isAgg (ρ.t 4)).run P w = .ok false w
 z4 : ∀ w, (Go.sizeOf (ρ.t 4)).run P w = .ok 1 w
 v4 : ∀ w, (zeroValue (ρ.t 4)).run P w = .ok (Value.bool false) w
 t24 : P.underlying (ρ.t 24) = some (TypeDesc.slice (ρ.t 9))
 a24 : ∀ w, (isAgg (ρ.t 24)).run P w = .ok false w
 z24 : ∀ w, (Go.sizeOf (ρ.t 24)).run P w = .ok 1 w
 v24 : ∀ w, (zeroValue (ρ.t 24)).run P w = .ok (Value.slice none 0 0) w
 z9 : ∀ w, (Go.sizeOf (ρ.t 9)).run P w = .ok esz w
 v9 : ∀ w, (zeroValue (ρ.t 9)).run P w = .ok z w
 i9 : (P.info? (ρ.t 9)).map (fun i => (i.zero, i.size)) = some (some z, esz)
 zs : z.cells.size = esz
 z1 : ∀ u ∈ z.cells, u.oneCell' = true
 es0 : 0 < esz
end Go.AM

/- slices.Delete in the abstract machine: what a call owes, for every element size. -/
namespace Go.AM
open Go.Proofs Go.Shelf Go.RowKit Go.Lib
set_option linter.unusedSimpArgs false
set_option linter.unusedVariables false
variable {P : Program} {ρ : Ren}
def hDel (esz : Nat) : List Value -> Heap -> Option (Value × Heap)
 | [.slice (some ⟨b, 0, none⟩) n c, .int .i64 i, .int .i64 j], hp =>
   (blkAt hp b).bind fun k =>
   if k.md = .rw /\ k.sz = esz /\ k.cells.length = n * esz /\ 0 <= i /\ i < j /\ j <= n then
    some (newSl hp (n - (j.toNat - i.toNat)) (n - (j.toNat - i.toNat) + 1), killFam hp k.fam ++ [⟨k.cells.take (i.toNat * esz) ++ k.cells.drop (j.toNat * esz), esz, .rw, hp.length, k.pl⟩])
   else none
 | _, _ => none
end Go.AM

/- slices.DeleteFunc in the abstract machine: of a row of texts, those that are empty are struck. -/
namespace Go.AM
open Go.Proofs Go.Shelf Go.RowKit Go.Lib Go.Sort
set_option linter.unusedSimpArgs false
set_option linter.unusedVariables false
variable {P : Program} {ρ : Ren}
structure DfLay (P : Program) (ρ : Ren) (g : Nat) : Prop where
 L : SlLaysH.n10 P ρ
 v23 : ∀ w, (zeroValue (ρ.t 23)).run P w = .ok (.string ⟨#[]⟩) w
 eg : ∀ args w, (callFunc g args).run P w = .ok (.enter g args) w
 pg : ∀ (s : ByteArray) (W : World), FnGives P g #[] #[.string s] (.bool (s.size == 0)) W
def strsL : List Value -> Option (List ByteArray)
 | [] => some []
 | .string s :: l => (strsL l).map fun t => s :: t
 | _ => none
theorem bs_empty (s : ByteArray) : s.toList.isEmpty = (s.size == 0) := by
 rw [Go.Lib.toList_data]
 cases s with | mk d => cases d with | mk l => cases l <;> rfl
theorem strsL_eq : ∀ {l : List Value} {ss : List ByteArray}, strsL l = some ss -> l = ss.map .string
 | [], ss, h => by cases h; rfl
 | v :: l, ss, h => by
   cases v with
   | string s =>
     simp only [strsL] at h
     cases hs : strsL l with
     | none => rw [hs] at h; cases h
     | some t => rw [hs] at h; cases h; rw [strsL_eq hs]; rfl
   | _ => cases h
def hDelF (g : Nat) : List Value -> Heap -> Option (Value × Heap)
 | [.slice (some ⟨b, 0, none⟩) n c, .func (.func g') fi cs], hp =>
   (blkAt hp b).bind fun k => (strsL k.cells).bind fun ss =>
   if g' = g /\ fi.size = 0 /\ cs.size = 0 /\ k.md = .rw /\ k.sz = 1 /\ k.cells.length = n /\ 0 < n /\ n <= 9223372036854775807 then
    some (newSl hp (ss.filter fun s => !(s.size == 0)).length ((ss.filter fun s => !(s.size == 0)).length + 1), killFam hp k.fam ++ [⟨(ss.filter fun s => !(s.size == 0)).map .string, 1, .rw, hp.length, k.pl⟩])
   else none
 | _, _ => none
theorem vrs_strs {ι : Inj} : ∀ {ss : List ByteArray} {C : List Value}, VRs ι (ss.map .string) C -> C = ss.map .string
 | [], C, h => by cases h; rfl
 | s :: ss, C, h => by
   cases h with
   | cons h1 h2 => cases h1; rw [vrs_strs h2]; rfl
theorem vrs_strs' {ι : Inj} : ∀ (ss : List ByteArray), VRs ι (ss.map .string) (ss.map .string)
 | [] => .nil
 | s :: ss => .cons (.str s) (vrs_strs' ss)
theorem delf_owes (ng : Nat) {g : Nat} (L : DfLay P ρ g) {args : List Value} {hp hp' : Heap} {r : Value} (h : hDelF g args hp = some (r, hp')) : Owes P ng (ρ.f 10) args hp r hp' := by
 have hent : Enters P (ρ.f 10) := by
  obtain ⟨nm, hn, hf⟩ := L.L.f10
  exact ⟨_, hf, hn, rfl⟩
 unfold hDelF at h
 split at h
 ·rename_i b n c g' fi fcs
  cases hk : blkAt hp b with
  | none => rw [hk] at h; cases h
  | some k =>
  rw [hk] at h
  simp only [Option.bind_some] at h
  cases hs : strsL k.cells with
  | none => rw [hs] at h; cases h
  | some ss =>
  rw [hs] at h
  simp only [Option.bind_some] at h
  have hcells := strsL_eq hs
  split at h
  ·rename_i hc1
   obtain ⟨rfl, hfi, hf0, hrw, hksz, hkl, hn0, hn63⟩ := hc1
   cases h
   have hssl : ss.length = n := by rw [hcells] at hkl; simpa using hkl
   refine ⟨hent, szKeep_kill _ _, fun ι w B args' hR ha => ?_⟩
   obtain ⟨al⟩ := args'
   simp only at ha
   cases ha with
   | cons g1 ha => cases ha with
     | cons g2 ha => cases ha with
       | nil =>
         cases g2 with
         | fn q1 q2 =>
         rename_i fcs'
         have hf0' : fcs' = #[] := by
          apply Array.eq_empty_of_size_eq_zero; omega
         subst hf0'
         cases g1 with
         | slz => omega
         | @slc _ _ _ _ c' y hy _ hc1 hc2 hc3 =>
         obtain ⟨cs, el, fr, C, u1, u2, u3, u4, u5, u6, u7, u8, u9, u10⟩ := blk_list (hR.ok _ _ _ hy hk) (len := n) (by omega)
         have hysz : y.sz = 1 := by rw [<- hR.szs b y k hy (blkAt_some hk).1]; exact hksz
         rw [hysz] at hc3
         have hktake : k.cells.take n = k.cells := List.take_of_length_le (by omega)
         rw [hktake, hcells] at u8
         have hC := vrs_strs u8
         subst hC
         have hgl : ∀ j (hj : j < ss.length), ss.toArray[j]! = ss[j] := fun j hj => by rw [getElem!_pos _ _ (by simpa using hj)]; simp
         have hH : Holds Value.string w y.blk (y.off + 0) ss.toArray := fun j hj => by
          have hj' : j < ss.length := by simpa using hj
          refine ⟨?_, frozen_no u1 (u4 hrw).1 _ (by simp; omega)⟩
          rw [Nat.add_zero, hgl j hj']
          exact u6 j _ (by simp [List.getElem?_eq_getElem hj'])
         have hsz64 : ss.toArray.size <= 9223372036854775807 := by simp; omega
         have run := AnyE.slices_DeleteFunc L.L Value.string (fun _ => rfl) (fun s : ByteArray => s.size == 0) g' #[] L.eg ⟨#[]⟩ L.v23 y.blk (y.off + 0) c' ss.toArray w (fun W x _ => L.pg x W) (fun n os dk x _ => L.pg x _) hH hsz64 (by simpa [hssl] using hc1)
         have hsize : ss.toArray.size = n := by simpa using hssl
         rw [hsize] at run
         refine run.mono ?_
         rintro e w' ⟨rfl, q, rfl⟩
         simp only [List.toList_toArray]
         generalize hF : (ss.filter fun x => !(x.size == 0)) = F
         have hFl : F.length <= n := by rw [<- hF, <- hssl]; exact List.length_filter_le _ _
         generalize hD : (F ++ List.replicate (n - F.length) (⟨#[]⟩ : ByteArray)).toArray = D
         have hDl : D.size = n := by rw [<- hD]; simp; omega
         have e1 : (putRow Value.string (Sort.ahead w q) y.blk (y.off + 0) D).heap[y.blk]? = some (.cells (putCells Value.string (y.off + 0) D cs) el fr) := by
          unfold putRow mapBlock
          simp only [heap_ahead, Array.getElem?_modify, if_true, u1, Option.map_some, onCells]
         have e2 : (putCells Value.string (y.off + 0) D cs).size = cs.size := by simp [putCells]
         have hnew1 : ∀ u ∈ F.map Value.string, u.oneCell' = true := fun u hu => by
          obtain ⟨s, _, rfl⟩ := List.mem_map.1 hu; rfl
         obtain ⟨ι', g1, g2, g3, g4, g5⟩ := rel_take hR hy hk hrw e1 (by rw [e2]; exact (u4 hrw).1) (by rw [e2]; exact u2) (by simp; omega) (cellsR_list (vrs_strs' F) hnew1 (fun t ht => by
          have ht' : t < F.length := by simpa using ht
          unfold putCells
          rw [Array.getElem?_mapIdx, Array.getElem?_eq_getElem (by omega), Option.map_some, if_pos ⟨by omega, by omega⟩]
          rw [show y.off + t - (y.off + 0) = t by omega, <- hD, getElem!_pos _ _ (by simp; omega)]
          simp [List.getElem?_eq_getElem ht', List.getElem_append_left ht'])) (fun t ht => by
          unfold putRow mapBlock
          simp only [heap_ahead, Array.getElem?_modify, if_neg (Ne.symm ht)]) (by simp) rfl rfl rfl 1
         refine ⟨ι', _, rfl, g2, g3, g4, g5, ?_⟩
         by_cases h0 : F.length = 0
         ·rw [h0]; exact .slz _ _ _ _ (fun h => by omega)
         ·have e6 : ι' hp.length = some ⟨y.blk, y.off, y.room, 1⟩ := by rw [g1]; simp
          have := VR.slc (ι := ι') (o := 0) (n := F.length) (c := F.length + 1) (c' := c') e6 (by omega) (by omega) (by omega) (by show 0 + c' * 1 <= y.room; omega)
          exact this
  ·cases h
 ·cases h
end Go.AM

/- Part 5 of the machines: what is proved is told at each theorem; no condition. -/
import Derived.Test.YtncekccimhohgaaGreatDoorFnScriptClearK4
import Derived.Test.YtncekccimhohgaaGreatDoorFnScriptClearK2
/- Rows of values of a kind; mails, sessions, mailboxes az values. -/
namespace Go.AM
set_option linter.unusedSimpArgs false
set_option linter.unusedVariables false
abbrev Bs := List UInt8
structure Ec (α : Type) where
 e : α -> List V
 n : Nat
 len : ∀ a, (e a).length = n
 st : ∀ a, stripL (e a) = e a
 np : ∀ a, noPtrL (e a) = true
 dt : ∀ a, dataL (e a) = true
def vR {α : Type} (E : Ec α) (l : List α) : List (List V) := l.map E.e
section
variable {α : Type} (E : Ec α) (l m : List α)
theorem vR_len : (vR E l).length = l.length := by simp [vR]
theorem vR_strip : stripLL (vR E l) = vR E l := by
 induction l with
 | nil => rfl
 | cons a l ih => simp only [vR, List.map_cons, stripLL, E.st] at ih ⊢; rw [ih]
theorem vR_np : noPtrLL (vR E l) = true := by
 induction l with
 | nil => rfl
 | cons a l ih => simp only [vR, List.map_cons, noPtrLL, E.np, Bool.true_and] at ih ⊢; exact ih
theorem vR_data : dataLL (vR E l) = true := by
 induction l with
 | nil => rfl
 | cons a l ih => simp only [vR, List.map_cons, dataLL, E.dt, Bool.true_and] at ih ⊢; exact ih
theorem vR_esz : eszOk E.n (vR E l) = true := by simp [eszOk, vR, E.len]
end
def eT : Ec Bs := ⟨fun s => [.str s], 1, fun _ => rfl, fun _ => rfl, fun _ => rfl, fun _ => rfl⟩
structure Mail where
 from_ : Bs
 to : List Bs
 lines : List Bs
 deriving DecidableEq
structure Session where
 state : Int
 host : Bs
 draft : Mail
 done : List Mail
 deriving DecidableEq
structure Box where
 path : Bs
 mails : List Mail
 deriving DecidableEq
def cM (m : Mail) : List V := [.str m.from_, .sl false (vT m.to), .sl false (vT m.lines)]
def eM : Ec Mail where
 e := cM
 n := 3
 len := fun _ => rfl
 st := fun m => by simp only [cM, stripL, strip, vT_strip]
 np := fun m => by simp only [cM, noPtrL, noPtr, vT_np, Bool.and_self]
 dt := fun m => by simp only [cM, dataL, data, vT_data, Bool.and_self]
def cS (s : Session) : List V := [.int .i64 s.state, .str s.host, .str s.draft.from_, .sl false (vT s.draft.to), .sl false (vT s.draft.lines), .sl false (vR eM s.done)]
def eS : Ec Session where
 e := cS
 n := 6
 len := fun _ => rfl
 st := fun m => by simp only [cS, stripL, strip, vT_strip, vR_strip]
 np := fun m => by simp only [cS, noPtrL, noPtr, vT_np, vR_np, Bool.and_self]
 dt := fun m => by simp only [cS, dataL, data, vT_data, vR_data, Bool.and_self]
def cX (b : Box) : List V := [.str b.path, .sl false (vR eM b.mails)]
def eX : Ec Box where
 e := cX
 n := 2
 len := fun _ => rfl
 st := fun m => by simp only [cX, stripL, strip, vR_strip]
 np := fun m => by simp only [cX, noPtrL, noPtr, vR_np, Bool.and_self]
 dt := fun m => by simp only [cX, dataL, data, vR_data, Bool.and_self]
theorem ag_2 (a b : V) : aggNV 2 (.agg [a, b]) = some [a, b] := by exact id rfl
theorem ag_3 (a b c : V) : aggNV 3 (.agg [a, b, c]) = some [a, b, c] := by exact id rfl
theorem ag_6 (a b c d e f : V) : aggNV 6 (.agg [a, b, c, d, e, f]) = some [a, b, c, d, e, f] := by exact id rfl
theorem ag_7 (a b c d e f g : V) : aggNV 7 (.agg [a, b, c, d, e, f, g]) = some [a, b, c, d, e, f, g] := by exact id rfl
theorem le_2 (g : Nat -> Option (List V)) (t : Bool) (a b : V) (H : VH) : ldO g t true 2 (.elt [a, b] 0) H = some (.agg [a, b], H) := by exact id rfl
theorem le_3 (g : Nat -> Option (List V)) (t : Bool) (a b c : V) (H : VH) : ldO g t true 3 (.elt [a, b, c] 0) H = some (.agg [a, b, c], H) := by exact id rfl
theorem le_6 (g : Nat -> Option (List V)) (t : Bool) (a b c d e f : V) (H : VH) : ldO g t true 6 (.elt [a, b, c, d, e, f] 0) H = some (.agg [a, b, c, d, e, f], H) := by exact id rfl
theorem le_at0 (g : Nat -> Option (List V)) (t : Bool) (n : Nat) (a : V) (l : List V) (H : VH) : ldO g t false n (.elt (a :: l) 0) H = some (a, H) := by exact id rfl
theorem le_at1 (g : Nat -> Option (List V)) (t : Bool) (n : Nat) (a b : V) (l : List V) (H : VH) : ldO g t false n (.elt (a :: b :: l) 1) H = some (b, H) := by exact id rfl
theorem le_at2 (g : Nat -> Option (List V)) (t : Bool) (n : Nat) (a b c : V) (l : List V) (H : VH) : ldO g t false n (.elt (a :: b :: c :: l) 2) H = some (c, H) := by exact id rfl
theorem em_e (m : Mail) : eM.e m = [.str m.from_, .sl false (vT m.to), .sl false (vT m.lines)] := by exact id rfl
theorem es_e (s : Session) : eS.e s = [.int .i64 s.state, .str s.host, .str s.draft.from_, .sl false (vT s.draft.to), .sl false (vT s.draft.lines), .sl false (vR eM s.done)] := by exact id rfl
theorem ex_e (b : Box) : eX.e b = [.str b.path, .sl false (vR eM b.mails)] := by exact id rfl
theorem cM_e (m : Mail) : cM m = [.str m.from_, .sl false (vT m.to), .sl false (vT m.lines)] := by exact id rfl
theorem cS_e (s : Session) : cS s = [.int .i64 s.state, .str s.host, .str s.draft.from_, .sl false (vT s.draft.to), .sl false (vT s.draft.lines), .sl false (vR eM s.done)] := by exact id rfl
theorem cX_e (b : Box) : cX b = [.str b.path, .sl false (vR eM b.mails)] := by exact id rfl
theorem vR_esz3 (l : List Mail) : eszOk 3 (vR eM l) = true := vR_esz eM l
theorem vR_esz2 (l : List Box) : eszOk 2 (vR eX l) = true := vR_esz eX l
def fillC {α : Type} (E : Ec α) (l : List α) (z : List V) (i : Nat) : List V := (vR E (l.take i)).flatten ++ repV (l.length - i) z
theorem flat_len {α : Type} (E : Ec α) : ∀ l : List α, (vR E l).flatten.length = l.length * E.n
 | [] => by simp [vR]
 | a :: l => by
   have := flat_len E l
   simp only [vR, List.map_cons, List.flatten_cons, List.length_append, E.len, List.length_cons, Nat.succ_mul] at this ⊢
   omega
theorem fill_step {α : Type} (E : Ec α) {l : List α} {z : List V} (hz : z.length = E.n) {i : Nat} (h : i < l.length) : gseg (fillC E l z i) (i * E.n) (E.e l[i]) = fillC E l z (i + 1) /\ i * E.n + E.n <= (fillC E l z i).length := by
 have h1 : (vR E (l.take i)).flatten.length = i * E.n := by rw [flat_len, List.length_take, Nat.min_eq_left (by omega)]
 obtain ⟨k, hk⟩ : ∃ k, l.length - i = k + 1 := ⟨l.length - i - 1, by omega⟩
 have hk2 : l.length - (i + 1) = k := by omega
 have e1 : fillC E l z i = (vR E (l.take i)).flatten ++ z ++ repV k z := by simp only [fillC, hk, repV, List.append_assoc]
 have e2 : fillC E l z (i + 1) = (vR E (l.take i)).flatten ++ E.e l[i] ++ repV k z := by
  simp only [fillC, hk2]
  rw [List.take_succ_eq_append_getElem h]
  simp only [vR, List.map_append, List.map_cons, List.map_nil, List.flatten_append, List.flatten_cons, List.flatten_nil, List.append_nil]
 constructor
 ·rw [e1, e2, <- h1]
  exact gseg_app _ _ _ _ (by rw [hz, E.len])
 ·rw [e1]; simp only [List.length_append, h1, hz]; omega
theorem fill_end {α : Type} (E : Ec α) (l : List α) (z : List V) : fillC E l z l.length = (vR E l).flatten := by simp [fillC, repV]
theorem chunk_flat {α : Type} (E : Ec α) : ∀ l : List α, chunkV E.n l.length (vR E l).flatten = vR E l
 | [] => rfl
 | a :: l => by
   have := chunk_flat E l
   simp only [vR, List.map_cons, List.flatten_cons, List.length_cons, chunkV] at this ⊢
   have h := E.len a
   rw [<- h, List.take_left, List.drop_left, h, this]
theorem unobs_fill {α : Type} (E : Ec α) {H : VH} {k : Nat} {l : List α} (h : H[k]? = some (vR E l).flatten) : unobs H (.obs k 0 l.length E.n) = some (.sl false (vR E l)) := by
 simp only [unobs, unobs1, h, Option.bind_some]
 rw [gcut_mk (by rw [flat_len]; omega), List.drop_zero, List.take_of_length_le (by rw [flat_len]; omega)]
 simp only [Option.map_some, chunk_flat, vR_strip]
theorem ob_len (k o n e : Nat) : vLenVV (.obs k o n e) = some (.int .i64 n) := by exact id rfl
theorem ob_idx (k off n e : Nat) (q : IntKind) (i : Nat) (h : i < n) : vIdxV e (.obs k off n e) (.int q (i : Int)) = some (.ptr k (off + i * e)) := by
 have hc : (0 : Int) <= (i : Int) /\ (i : Int) < (n : Int) /\ e = e := ⟨by omega, by omega, rfl⟩
 simp only [vIdxV]
 rw [if_pos (by simpa using hc)]; simp
theorem st_obs (k o n e : Nat) : strip (.obs k o n e) = .obs k o n e := by exact id rfl
theorem np_obs (k o n e : Nat) : noPtr (.obs k o n e) = false := by exact id rfl
theorem mk_len (b : Nat) (n : Nat) (h : n * b <= 140737488355328) (h2 : n <= 9223372036854775807) : mkLenV b (.int .i64 (n : Int)) (.int .i64 (n : Int)) = some (n, n) := by
 simp only [mkLenV]
 rw [if_pos ⟨by omega, by omega, by simpa using h, by omega⟩]; simp
theorem so_seg {k off : Nat} {H : VH} {cs c : List V} (h : H[k]? = some cs) (ho : off + c.length <= cs.length) : stO (.ptr k off) c H = some (H.set k (gseg cs off c)) := by
 have hb : Nat.ble (off + c.length) cs.length = true := Nat.ble_eq_true_of_le ho
 simp only [stO, h, hb]
theorem fill_store {α : Type} (E : Ec α) {H : VH} {k : Nat} {l : List α} {z : List V} (hz : z.length = E.n) {i : Nat} (hi : i < l.length) (h : H[k]? = some (fillC E l z i)) : stO (.ptr k (0 + i * E.n)) (E.e l[i]) H = some (H.set k (fillC E l z (i + 1))) := by
 obtain ⟨h1, h2⟩ := fill_step E hz hi
 rw [Nat.zero_add, so_seg h (by rw [E.len]; exact h2), h1]
theorem pc_obs {α : Type} (E : Ec α) {call : CallV} {f : FuncId} {args : List V} {H : VH} {k : Nat} {l : List α} (h : call f args [] = some (.obs k 0 l.length E.n, H)) (h1 : noPtrL args = true) (hk : H[k]? = some (vR E l).flatten) : pcall call f args = some (.sl false (vR E l)) := by
 simp only [pcall, h1, h, Option.bind_some, data, unobs_fill E hk, vR_data]
end Go.AM

/- Loops of common kinds. -/
namespace Go.AM
set_option linter.unusedSimpArgs false
set_option linter.unusedVariables false
abbrev LB := List V -> VH -> Option (Option Nat × List V × VH)
section
variable {B : LB} {S : Nat -> List V} {H : VH}
theorem lv_any {α : Type} {m0 m1 : Nat} {vs0 vs1 : List V} (xs : List α) (p : α -> Bool) (hr : ∀ (i : Nat) (h : i < xs.length), B (S i) H = if p xs[i] = true then some (some m1, vs1, H) else some (none, S (i + 1), H))
 (he : B (S xs.length) H = some (some m0, vs0, H)) : lpW' B (S 0) H = if xs.any p = true then some (m1, vs1, H) else some (m0, vs0, H) := by
 have key : ∀ (n i : Nat), xs.length - i = n -> i <= xs.length -> lpW' B (S i) H = if (xs.drop i).any p = true then some (m1, vs1, H) else some (m0, vs0, H) := by
  intro n
  induction n with
  | zero =>
    intro i hn hi
    have : i = xs.length := by omega
    subst this
    rw [lv_stop he, List.drop_eq_nil_of_le (Nat.le_refl _)]; rfl
  | succ n ih =>
    intro i hn hi
    have h1 : i < xs.length := by omega
    have hb := hr i h1
    rw [List.drop_eq_getElem_cons h1, List.any_cons]
    by_cases e : p xs[i] = true
    ·rw [if_pos e] at hb
     rw [lv_stop hb, e]; rfl
    ·rw [if_neg e] at hb
     rw [lv_more hb, ih (i + 1) (by omega) (by omega)]
     have : p xs[i] = false := by simpa using e
     rw [this, Bool.false_or]
 have := key xs.length 0 (by omega) (by omega)
 simpa using this
def szGo {α : Type} (f : α -> Int -> Int) : List α -> Int -> Int
 | [], n => n
 | a :: l, n => if f a n < 0 then -1 else szGo f l (f a n)
theorem szGo_le {α : Type} {f : α -> Int -> Int} {l : List α} (hf : ∀ a ∈ l, ∀ n, 0 <= n -> f a n <= n) : ∀ {n : Int}, 0 <= n -> szGo f l n <= n := by
 induction l with
 | nil => intro n _; exact Int.le_refl _
 | cons a l ih =>
   intro n hn
   simp only [szGo]
   have := hf a (by simp) n hn
   split
   ·omega
   ·have := ih (fun b hb => hf b (by simp [hb])) (n := f a n) (by omega)
    omega
theorem szGo_mem {α : Type} {f : α -> Int -> Int} {l : List α} (hf : ∀ a ∈ l, ∀ n, 0 <= n -> f a n <= n) : ∀ {n : Int}, 0 <= n -> 0 <= szGo f l n -> ∀ a ∈ l, ∃ k, 0 <= k /\ k <= n /\ 0 <= f a k := by
 induction l with
 | nil => intro n _ _ a ha; cases ha
 | cons b l ih =>
   intro n hn h a ha
   simp only [szGo] at h
   split at h
   ·omega
   ·rename_i hb
    rcases List.mem_cons.1 ha with rfl | ha
    ·exact ⟨n, hn, Int.le_refl _, by omega⟩
    ·have := hf b (by simp) n hn
     obtain ⟨k, h1, h2, h3⟩ := ih (fun b hb => hf b (by simp [hb])) (n := f b n) (by omega) h a ha
     exact ⟨k, h1, by omega, h3⟩
end
end Go.AM

/- More loops of common kinds, texts cut at a byte, and runs of which a part is known. -/
namespace Go.AM
set_option linter.unusedSimpArgs false
set_option linter.unusedVariables false
set_option maxRecDepth 10000
section
variable {B : LB} {S : Nat -> List V} {H : VH}
theorem lv_fillTo {α : Type} (E : Ec α) {l : List α} {k t : Nat} {z : List V} {H0 : VH} {m : Nat} {vs : List V} (ht : t <= l.length) (h0 : H0[k]? = some (fillC E l z 0)) (hr : ∀ (i : Nat) (h : i < t) (H : VH), H[k]? = some (fillC E l z i) -> B (S i) H = some (none, S (i + 1), H.set k (fillC E l z (i + 1))))
 (he : ∀ H, H[k]? = some (fillC E l z t) -> B (S t) H = some (some m, vs, H)) : ∃ H1, lpW' B (S 0) H0 = some (m, vs, H1) /\ H1[k]? = some (fillC E l z t) := by
 have key : ∀ (n i : Nat) (H : VH), t - i = n -> i <= t -> H[k]? = some (fillC E l z i) -> ∃ H1, lpW' B (S i) H = some (m, vs, H1) /\ H1[k]? = some (fillC E l z t) := by
  intro n
  induction n with
  | zero =>
    intro i H hn hi hk
    have : i = t := by omega
    subst this
    exact ⟨H, lv_stop (he H hk), hk⟩
  | succ n ih =>
    intro i H hn hi hk
    have h1 : i < t := by omega
    rw [lv_more (hr i h1 H hk)]
    exact ih (i + 1) _ (by omega) (by omega) (by rw [List.getElem?_set, if_pos rfl, if_pos (List.getElem?_eq_some_iff.1 hk).1])
 exact key t 0 H0 (by omega) (by omega) h0
end
theorem ob_pre (esz k o n h : Nat) (q : IntKind) (hh : h <= n) : vSliceVV esz (.obs k o n esz) none (some (.int q (h : Int))) = some (.obs k o h esz) := by
 simp only [vSliceVV, bndV, Option.bind_some]
 rw [if_pos ⟨trivial, by omega, by omega, by omega⟩]
 simp
theorem n_min (k : IntKind) (a b : Int) (h : a <= b) : vMinV (.int k a) (.int k b) = some (.int k a) := by
 simp only [vMinV, if_true]
 rw [if_neg (by omega)]
def cB (s : Bs) : List V := s.map fun b => .int .u8 (b.toNat : Int)
def Gets {R : Type} (e : Option R) (Q : R -> Prop) : Prop := ∃ r, e = some r /\ Q r
theorem Gets.here {R : Type} {Q : R -> Prop} {r : R} (h : Q r) : Gets (some r) Q := ⟨r, rfl, h⟩
theorem Gets.bind {R T : Type} {e : Option R} {P : R -> Prop} {K : R -> Option T} {Q : T -> Prop} (h : Gets e P) (k : ∀ r, P r -> Gets (K r) Q) : Gets (e.bind K) Q := by
 obtain ⟨r, rfl, hr⟩ := h
 exact k r hr
theorem Gets.mono {R : Type} {e : Option R} {P Q : R -> Prop} (h : Gets e P) (k : ∀ r, P r -> Q r) : Gets e Q := by
 obtain ⟨r, e, hr⟩ := h
 exact ⟨r, e, k r hr⟩
theorem Gets.ite {R : Type} {c : Prop} [Decidable c] {x y : Option R} {Q : R -> Prop} (h1 : c -> Gets x Q) (h2 : ¬ c -> Gets y Q) : Gets (if c then x else y) Q := by
 split
 ·exact h1 ‹_›
 ·exact h2 ‹_›
theorem Gets.loop {B : LB} {I : Nat -> List V -> VH -> Prop} {Q : Nat × List V × VH -> Prop}
 (hr : ∀ n s H, I n s H -> Gets (B s H) fun r => match r.1 with | some m => Q (m, r.2) | none => ∃ n', n' < n /\ I n' r.2.1 r.2.2) :
 ∀ (n : Nat) (s : List V) (H : VH), I n s H -> Gets (lpW' B s H) Q := by
 intro n
 induction n using Nat.strongRecOn with
 | _ n ih =>
   intro s H hI
   obtain ⟨⟨m, vs, H'⟩, e, hq⟩ := hr n s H hI
   cases m with
   | some m => exact ⟨_, lv_stop e, hq⟩
   | none =>
     obtain ⟨n', hn, hI'⟩ := hq
     rw [lv_more e]
     exact ih n' hn _ _ hI'
def Gets2 (e : Option (V × VH)) (P : V -> VH -> Prop) : Prop := ∃ v H, e = some (v, H) /\ P v H
theorem Gets2.bind {T : Type} {e : Option (V × VH)} {P : V -> VH -> Prop} {K : V × VH -> Option T} {Q : T -> Prop} (h : Gets2 e P) (k : ∀ v H, P v H -> Gets (K (v, H)) Q) : Gets (e.bind K) Q := by
 obtain ⟨v, H, rfl, hr⟩ := h
 exact k v H hr
theorem Gets2.of {e : Option (V × VH)} {P : V -> VH -> Prop} (h : Gets e fun r => P r.1 r.2) : Gets2 e P := by
 obtain ⟨⟨v, H⟩, h1, h2⟩ := h
 exact ⟨v, H, h1, h2⟩
theorem Gets.loop2 {B : LB} {T : Type} {I : Nat -> List V -> VH -> Prop} {P : Nat -> List V -> VH -> Prop} {n : Nat} {s : List V} {H : VH} {K : Nat × List V × VH -> Option T} {Q : T -> Prop}
 (hr : ∀ n s H, I n s H -> Gets (B s H) fun r => (∃ m, r.1 = some m /\ P m r.2.1 r.2.2) ∨ (r.1 = none /\ ∃ n', n' < n /\ I n' r.2.1 r.2.2))
 (h0 : I n s H) (k : ∀ m vs H', P m vs H' -> Gets (K (m, vs, H')) Q) : Gets ((lpW' B s H).bind K) Q := by
 refine (Gets.loop (I := I) (Q := fun r => P r.1 r.2.1 r.2.2) (fun n s H hI => (hr n s H hI).mono fun r h => ?_) n s H h0).bind fun r h => k r.1 r.2.1 r.2.2 h
 obtain ⟨r1, r2⟩ := r
 rcases h with ⟨m, h1, h2⟩ | ⟨h1, h2⟩
 ·cases h1; exact h2
 ·cases h1; exact h2
def Rd (k b : Nat) (H : VH) : Prop := ∃ o xs p, H[k]? = some (rdr o xs p) /\ p <= b /\ xs.length <= 2000
theorem Rd.le {k b b' : Nat} {H : VH} (h : Rd k b H) (hb : b <= b') : Rd k b' H := by
 obtain ⟨o, xs, p, h1, h2, h3⟩ := h
 exact ⟨o, xs, p, h1, by omega, h3⟩
def unT : List (List V) -> List Bs
 | [.str s] :: l => s :: unT l
 | _ => []
def okT (xs : List (List V)) : Bool := (unT xs).length == xs.length && (unT xs).all (fun s => decide (s.length <= 200)) && decide (1 <= xs.length) && decide (xs.length <= 1000)
def unI : List (List V) -> List Int
 | [.int .i64 s] :: l => s :: unI l
 | _ => []
def okI (xs : List (List V)) : Bool := (unI xs).length == xs.length && decide (1 <= xs.length) && decide (xs.length <= 1000)
theorem unI_eq : ∀ {xs : List (List V)}, (unI xs).length = xs.length -> vI .i64 (unI xs) = xs
 | [], _ => rfl
 | x :: l, h => by
   unfold unI at h ⊢
   split at h
   ·rename_i s l' e
    cases e
    have := unI_eq (xs := l) (by simpa using h)
    show [V.int .i64 s] :: vI .i64 (unI l) = _
    rw [this]
   ·simp at h
theorem ix_eq (s : Bs) (c : UInt8) : Go.Lib.indexByte s c = if c ∈ s then ((s.idxOf c : Nat) : Int) else -1 := by
 induction s with
 | nil => rfl
 | cons b l ih =>
   unfold Go.Lib.indexByte
   rw [ih, List.idxOf_cons]
   by_cases h : b = c
   ·subst h; simp
   ·have h' : ¬ c = b := fun e => h e.symm
    by_cases hm : c ∈ l
    ·have : (b == c) = false := by simpa using h
     simp only [this, hm, if_true, List.mem_cons, or_true, cond_false]
     have hn : ((l.idxOf c : Nat) : Int) ≠ -1 := by omega
     simp [hn]
    ·have : (b == c) = false := by simpa using h
     simp [this, hm, h', h]
def cutA (c : UInt8) (s : Bs) : Bs := if c ∈ s then s.take (s.idxOf c) else s
def cutZ (c : UInt8) (s : Bs) : Bs := if c ∈ s then s.drop (s.idxOf c + 1) else []
def splitB (c : UInt8) : Bs -> List Bs
 | [] => [[]]
 | b :: l => if b = c then [] :: splitB c l else match splitB c l with | [] => [[b]] | x :: r => (b :: x) :: r
theorem splitB_ne (c : UInt8) (s : Bs) : splitB c s ≠ [] := by
 cases s with
 | nil => simp [splitB]
 | cons b l =>
   unfold splitB
   split
   ·simp
   ·split <;> simp
theorem splitB_len (c : UInt8) (s : Bs) : (splitB c s).length = s.count c + 1 := by
 induction s with
 | nil => rfl
 | cons b l ih =>
   unfold splitB
   rw [List.count_cons]
   by_cases h : b = c
   ·simp [h, ih]
   ·have : (b == c) = false := by simpa using h
    rw [if_neg h, this]
    split
    ·rename_i e; exact absurd e (splitB_ne c l)
    ·rename_i x r e; rw [e] at ih; simpa using ih
theorem splitB_no (c : UInt8) (s : Bs) (h : c ∉ s) : splitB c s = [s] := by
 induction s with
 | nil => rfl
 | cons b l ih =>
   unfold splitB
   have h1 : ¬ b = c := fun e => h (by simp [e])
   rw [if_neg h1, ih (fun e => h (by simp [e]))]
theorem splitB_cut (c : UInt8) (s : Bs) (h : c ∈ s) : splitB c s = s.take (s.idxOf c) :: splitB c (s.drop (s.idxOf c + 1)) := by
 induction s with
 | nil => cases h
 | cons b l ih =>
   rw [List.idxOf_cons]
   conv => lhs; unfold splitB
   by_cases h1 : b = c
   ·subst h1; simp
   ·have h2 : c ∈ l := by rcases List.mem_cons.1 h with e | e; exact absurd e.symm h1; exact e
    have : (b == c) = false := by simpa using h1
    rw [if_neg h1, ih h2, this]
    simp
def restB (c : UInt8) (s : Bs) : Nat -> Bs
 | 0 => s
 | i + 1 => (restB c s i).drop ((restB c s i).idxOf c + 1)
theorem restB_split (c : UInt8) (s : Bs) : ∀ i, i < (splitB c s).length -> splitB c (restB c s i) = (splitB c s).drop i
 | 0, _ => rfl
 | i + 1, h => by
   have ih := restB_split c s i (by omega)
   have hm : c ∈ restB c s i := by
    by_cases hm : c ∈ restB c s i
    ·exact hm
    ·rw [splitB_no c _ hm] at ih
     have := congrArg List.length ih
     simp at this; omega
   rw [splitB_cut c _ hm] at ih
   have := congrArg List.tail ih
   simpa [restB] using this
theorem restB_len (c : UInt8) (s : Bs) : ∀ i, (restB c s i).length <= s.length
 | 0 => Nat.le_refl _
 | i + 1 => by have := restB_len c s i; simp only [restB, List.length_drop]; omega
theorem evv : type_of% (And.intro @Nat.zero_add (And.intro @if_true.{1} (And.intro @if_false.{1} (And.intro @decide_true (And.intro @decide_false (And.intro @Bool.false_eq_true (And.intro @Bool.not_true (And.intro @Bool.not_false (And.intro @if_ub (And.intro @ig_bool (And.intro @ig_t (And.intro @ig_f (And.intro @st_ub (And.intro @st_bool (And.intro @st_int (And.intro @st_str (And.intro @st_nilp (And.intro @st_ptr (And.intro @st_elt (And.intro @st_fn (And.intro @st_sl (And.intro @st_agg (And.intro @st_tup (And.intro @stL_nil (And.intro @stL_cons (And.intro @stLL_nil (And.intro @stLL_cons (And.intro @strip_strip (And.intro @stripL_stripL (And.intro @stripLL_stripLL (And.intro @fz_bool (And.intro @fz_int (And.intro @fz_str (And.intro @fz_sl (And.intro @fz_agg (And.intro @fz_fn0 (And.intro @fz_fn (And.intro @fz_ptr (And.intro @fz_elt (And.intro @fz1_ptr (And.intro @fzP_cons (And.intro @map_nil' (And.intro @map_cons' (And.intro @app_nil' (And.intro @app_cons' (And.intro @np_bool (And.intro @np_int (And.intro @np_str (And.intro @np_sl (And.intro @np_agg (And.intro @np_elt (And.intro @np_fn (And.intro @npL_nil (And.intro @npL_cons (And.intro @npLL_nil (And.intro @npLL_cons (And.intro @d_bool (And.intro @d_int (And.intro @d_str (And.intro @d_sl (And.intro @d_agg (And.intro @d_tup (And.intro @dL_nil (And.intro @dL_cons (And.intro @dLL_nil (And.intro @dLL_cons (And.intro @sc_bool (And.intro @sc_int (And.intro @sc_str (And.intro @sc_tup (And.intro @s1_bool (And.intro @s1_int (And.intro @s1_str (And.intro @al_nil (And.intro @al_cons (And.intro @an_tt (And.intro @bind_s (And.intro @id_s (And.intro @if_bool (And.intro @if_t (And.intro @if_f (And.intro @in_0 (And.intro @in_1 (And.intro @in_2 (And.intro @in_3 (And.intro @in_4 (And.intro @gt_0 (And.intro @gt_1 (And.intro @gt_2 (And.intro @gt_3 (And.intro @gt_4 (And.intro @gt_5 (And.intro @gt_6 (And.intro @gt_7 (And.intro @gt_8 (And.intro @gt_9 (And.intro @gt_10 (And.intro @gd_z (And.intro @gd_1 (And.intro @gd_2 (And.intro @gd_3 (And.intro @gd_4 (And.intro @gd_5 (And.intro @gd_6 (And.intro @gd_7 (And.intro @gd_8 (And.intro @gd_9 (And.intro @gt_11 (And.intro @gt_12 (And.intro @gt_13 (And.intro @gt_14 (And.intro @gt_15 (And.intro @gd_10 (And.intro @gd_11 (And.intro @gd_12 (And.intro @gd_13 (And.intro @gd_14 (And.intro @gd_15 (And.intro @n_lss (And.intro @n_leq (And.intro @n_gtr (And.intro @n_geq (And.intro @n_eql (And.intro @n_neq (And.intro @n_not (And.intro @b_eql (And.intro @b_neq (And.intro @t_eql (And.intro @t_neq (And.intro @t_len (And.intro @v_len (And.intro @t_str (And.intro @ld_elt (And.intro @extB_index (And.intro @extB_count (And.intro @v_nilf (And.intro @v_nilp (And.intro @v_nile (And.intro @v_offp (And.intro @v_offe (And.intro @o_int (And.intro @o_bool (And.intro @o_str (And.intro @o_sl (And.intro @o_ptr (And.intro @o_fn (And.intro @ow_t (And.intro @cl_fn (And.intro @ex_0 (And.intro @ex_1 (And.intro @ex_2 (And.intro @sa_0 (And.intro @sa_1 (And.intro @sa_2 (And.intro @vT_len (And.intro @vB_len (And.intro @vI_len (And.intro @vT_strip (And.intro @vB_strip (And.intro @vI_strip (And.intro @vT_np (And.intro @vB_np (And.intro @vI_np (And.intro @vT_data (And.intro @vB_data (And.intro @vI_data (And.intro @vT_esz (And.intro @vB_esz (And.intro @vI_esz (And.intro @ag_2 (And.intro @ag_3 (And.intro @ag_6 (And.intro @ag_7 (And.intro @le_2 (And.intro @le_3 (And.intro @le_6 (And.intro @le_at0 (And.intro @le_at1 (And.intro @le_at2 (And.intro @em_e (And.intro @es_e (And.intro @ex_e (And.intro @cM_e (And.intro @cS_e (And.intro @cX_e (And.intro @vR_len (And.intro @vR_strip (And.intro @vR_np (And.intro @vR_data (And.intro @vR_esz3 (And.intro @vR_esz2 (And.intro @ob_len (And.intro @st_obs @np_obs))))))))))))))))))))))))))))))))))))))))))))))))))))))))))))))))))))))))))))))))))))))))))))))))))))))))))))))))))))))))))))))))))))))))))))))))))))))))))))))))))))))))))))))))))))))))))))))))) := And.intro @Nat.zero_add (And.intro @if_true.{1} (And.intro @if_false.{1} (And.intro @decide_true (And.intro @decide_false (And.intro @Bool.false_eq_true (And.intro @Bool.not_true (And.intro @Bool.not_false (And.intro @if_ub (And.intro @ig_bool (And.intro @ig_t (And.intro @ig_f (And.intro @st_ub (And.intro @st_bool (And.intro @st_int (And.intro @st_str (And.intro @st_nilp (And.intro @st_ptr (And.intro @st_elt (And.intro @st_fn (And.intro @st_sl (And.intro @st_agg (And.intro @st_tup (And.intro @stL_nil (And.intro @stL_cons (And.intro @stLL_nil (And.intro @stLL_cons (And.intro @strip_strip (And.intro @stripL_stripL (And.intro @stripLL_stripLL (And.intro @fz_bool (And.intro @fz_int (And.intro @fz_str (And.intro @fz_sl (And.intro @fz_agg (And.intro @fz_fn0 (And.intro @fz_fn (And.intro @fz_ptr (And.intro @fz_elt (And.intro @fz1_ptr (And.intro @fzP_cons (And.intro @map_nil' (And.intro @map_cons' (And.intro @app_nil' (And.intro @app_cons' (And.intro @np_bool (And.intro @np_int (And.intro @np_str (And.intro @np_sl (And.intro @np_agg (And.intro @np_elt (And.intro @np_fn (And.intro @npL_nil (And.intro @npL_cons (And.intro @npLL_nil (And.intro @npLL_cons (And.intro @d_bool (And.intro @d_int (And.intro @d_str (And.intro @d_sl (And.intro @d_agg (And.intro @d_tup (And.intro @dL_nil (And.intro @dL_cons (And.intro @dLL_nil (And.intro @dLL_cons (And.intro @sc_bool (And.intro @sc_int (And.intro @sc_str (And.intro @sc_tup (And.intro @s1_bool (And.intro @s1_int (And.intro @s1_str (And.intro @al_nil (And.intro @al_cons (And.intro @an_tt (And.intro @bind_s (And.intro @id_s (And.intro @if_bool (And.intro @if_t (And.intro @if_f (And.intro @in_0 (And.intro @in_1 (And.intro @in_2 (And.intro @in_3 (And.intro @in_4 (And.intro @gt_0 (And.intro @gt_1 (And.intro @gt_2 (And.intro @gt_3 (And.intro @gt_4 (And.intro @gt_5 (And.intro @gt_6 (And.intro @gt_7 (And.intro @gt_8 (And.intro @gt_9 (And.intro @gt_10 (And.intro @gd_z (And.intro @gd_1 (And.intro @gd_2 (And.intro @gd_3 (And.intro @gd_4 (And.intro @gd_5 (And.intro @gd_6 (And.intro @gd_7 (And.intro @gd_8 (And.intro @gd_9 (And.intro @gt_11 (And.intro @gt_12 (And.intro @gt_13 (And.intro @gt_14 (And.intro @gt_15 (And.intro @gd_10 (And.intro @gd_11 (And.intro @gd_12 (And.intro @gd_13 (And.intro @gd_14 (And.intro @gd_15 (And.intro @n_lss (And.intro @n_leq (And.intro @n_gtr (And.intro @n_geq (And.intro @n_eql (And.intro @n_neq (And.intro @n_not (And.intro @b_eql (And.intro @b_neq (And.intro @t_eql (And.intro @t_neq (And.intro @t_len (And.intro @v_len (And.intro @t_str (And.intro @ld_elt (And.intro @extB_index (And.intro @extB_count (And.intro @v_nilf (And.intro @v_nilp (And.intro @v_nile (And.intro @v_offp (And.intro @v_offe (And.intro @o_int (And.intro @o_bool (And.intro @o_str (And.intro @o_sl (And.intro @o_ptr (And.intro @o_fn (And.intro @ow_t (And.intro @cl_fn (And.intro @ex_0 (And.intro @ex_1 (And.intro @ex_2 (And.intro @sa_0 (And.intro @sa_1 (And.intro @sa_2 (And.intro @vT_len (And.intro @vB_len (And.intro @vI_len (And.intro @vT_strip (And.intro @vB_strip (And.intro @vI_strip (And.intro @vT_np (And.intro @vB_np (And.intro @vI_np (And.intro @vT_data (And.intro @vB_data (And.intro @vI_data (And.intro @vT_esz (And.intro @vB_esz (And.intro @vI_esz (And.intro @ag_2 (And.intro @ag_3 (And.intro @ag_6 (And.intro @ag_7 (And.intro @le_2 (And.intro @le_3 (And.intro @le_6 (And.intro @le_at0 (And.intro @le_at1 (And.intro @le_at2 (And.intro @em_e (And.intro @es_e (And.intro @ex_e (And.intro @cM_e (And.intro @cS_e (And.intro @cX_e (And.intro @vR_len (And.intro @vR_strip (And.intro @vR_np (And.intro @vR_data (And.intro @vR_esz3 (And.intro @vR_esz2 (And.intro @ob_len (And.intro @st_obs @np_obs))))))))))))))))))))))))))))))))))))))))))))))))))))))))))))))))))))))))))))))))))))))))))))))))))))))))))))))))))))))))))))))))))))))))))))))))))))))))))))))))))))))))))))))))))))))))))))))))
end Go.AM

/- Rows in objects: what calls see of them, what becomes of rows that calls give. -/
namespace Go.AM
set_option linter.unusedSimpArgs false
set_option linter.unusedVariables false
mutual
theorem frO_data (G : VH) : ∀ v : V, data v = true -> frO G v = strip v
 | .bool b, _ => rfl
 | .int k n, _ => rfl
 | .str s, _ => rfl
 | .nilp, _ => rfl
 | .nilf, _ => rfl
 | .ub, _ => rfl
 | .gp g off, h => by simp only [data] at h; cases h
 | .elt cs off, h => by simp only [data] at h; cases h
 | .ptr k off, h => by simp only [data] at h; cases h
 | .obs k off n e, h => by simp only [data] at h; cases h
 | .fn f cs, h => by simp only [data] at h; cases h
 | .sl ow xs, h => by simp only [data] at h; simp only [frO, strip, frOLL_data G xs h]
 | .agg cs, h => by simp only [data] at h; simp only [frO, strip, frOL_data G cs h]
 | .tup cs, h => by simp only [data] at h; simp only [frO, strip, frOL_data G cs h]
theorem frOL_data (G : VH) : ∀ l : List V, dataL l = true -> frOL G l = stripL l
 | [], _ => rfl
 | v :: l, h => by
   simp only [dataL, Bool.and_eq_true] at h
   simp only [frOL, stripL, frO_data G v h.1, frOL_data G l h.2]
theorem frOLL_data (G : VH) : ∀ l : List (List V), dataLL l = true -> frOLL G l = stripLL l
 | [], _ => rfl
 | v :: l, h => by
   simp only [dataLL, Bool.and_eq_true] at h
   simp only [frOLL, stripLL, frOL_data G v h.1, frOLL_data G l h.2]
end
theorem frD_data (d : Nat) (H : VH) (v : V) (h : data v = true) : frD d H v = strip v := by
 cases d with
 | zero => exact frO_data _ v h
 | succ d => exact frO_data _ v h
def Rows (e : Nat) (r : List (List V)) : Prop := ∀ x ∈ r, x.length = e
theorem Rows.flat {e : Nat} : ∀ {r : List (List V)}, Rows e r -> r.flatten.length = r.length * e
 | [], _ => by simp
 | x :: r, h => by
   have h1 := h x (by simp)
   have h2 := Rows.flat (r := r) (fun y hy => h y (by simp [hy]))
   rw [List.flatten_cons, List.length_append, h1, h2, List.length_cons, Nat.succ_mul, Nat.add_comm]
theorem Rows.strip {e : Nat} {r : List (List V)} (h : Rows e r) : Rows e (stripLL r) := fun x hx => by
 rw [stripLL_map] at hx
 obtain ⟨y, hy, rfl⟩ := List.mem_map.1 hx
 rw [List.length_map]; exact h y hy
theorem Rows.get {e : Nat} {j : Nat} (hj : j < e) : ∀ {r : List (List V)} {i : Nat} {x : List V}, Rows e r -> r[i]? = some x -> r.flatten[i * e + j]? = x[j]?
 | [], i, x, _, h => by simp at h
 | y :: r, 0, x, hr, h => by
   simp at h; subst h
   have h1 := hr y (by simp)
   rw [List.flatten_cons, Nat.zero_mul, Nat.zero_add, List.getElem?_append_left (by omega)]
 | y :: r, i + 1, x, hr, h => by
   have h1 := hr y (by simp)
   simp at h
   rw [List.flatten_cons, List.getElem?_append_right (by rw [h1, Nat.succ_mul]; omega), h1]
   have : (i + 1) * e + j - e = i * e + j := by rw [Nat.succ_mul]; omega
   rw [this]
   exact Rows.get hj (fun z hz => hr z (by simp [hz])) h
theorem Rows.set {e : Nat} {j : Nat} (hj : j < e) {v : V} : ∀ {r : List (List V)} {i : Nat} {x : List V}, Rows e r -> r[i]? = some x -> gseg r.flatten (i * e + j) [v] = (r.set i (x.set j v)).flatten
 | [], i, x, _, h => by simp at h
 | y :: r, 0, x, hr, h => by
   simp at h; subst h
   have h1 := hr y (by simp)
   simp only [List.flatten_cons, Nat.zero_mul, Nat.zero_add, List.set_cons_zero, gseg, List.length_singleton]
   rw [List.take_append_of_le_length (by omega), List.drop_append_of_le_length (by omega), <- List.append_assoc]
   congr 1
   rw [List.set_eq_take_append_cons_drop, if_pos (by omega)]; simp
 | y :: r, i + 1, x, hr, h => by
   have h1 := hr y (by simp)
   simp at h
   have ih := Rows.set hj (v := v) (r := r) (i := i) (fun z hz => hr z (by simp [hz])) h
   simp only [gseg, List.length_singleton] at ih
   simp only [List.flatten_cons, List.set_cons_succ, gseg, List.length_singleton]
   have e1 : (i + 1) * e + j = y.length + (i * e + j) := by rw [Nat.succ_mul]; omega
   rw [e1, List.take_length_add_append, Nat.add_assoc, List.drop_length_add_append, List.append_assoc, List.append_assoc, <- ih, List.append_assoc]
theorem map_frD {d : Nat} {H : VH} : ∀ {vs : List V}, dataL vs = true -> vs.map (frD d H) = vs.map strip
 | [], _ => rfl
 | v :: vs, h => by
   simp only [dataL, Bool.and_eq_true] at h
   simp only [List.map_cons, frD_data d H v h.1, map_frD h.2]
end Go.AM

/- Runs of the machine of values whose arguments are written out: reckoned by the kernel. -/
namespace Go.AM
set_option linter.unusedSimpArgs false
set_option linter.unusedVariables false
mutual
def eqW : V -> V -> Bool
 | .bool a, .bool b => a == b
 | .int k n, .int k' n' => decide (k = k') && decide (n = n')
 | .str s, .str t => decide (s = t)
 | .nilp, .nilp => true
 | .nilf, .nilf => true
 | .ub, .ub => true
 | .ptr k o, .ptr k' o' => Nat.beq k k' && Nat.beq o o'
 | .gp k o, .gp k' o' => Nat.beq k k' && Nat.beq o o'
 | .elt c o, .elt c' o' => eqWL c c' && Nat.beq o o'
 | .sl w xs, .sl w' ys => w == w' && eqWLL xs ys
 | .agg c, .agg c' => eqWL c c'
 | .tup c, .tup c' => eqWL c c'
 | .fn f c, .fn f' c' => decide (f = f') && eqWL c c'
 | .obs k o n e, .obs k' o' n' e' => Nat.beq k k' && Nat.beq o o' && Nat.beq n n' && Nat.beq e e'
 | _, _ => false
termination_by structural v => v
def eqWL : List V -> List V -> Bool
 | [], [] => true
 | a :: l, b :: m => eqW a b && eqWL l m
 | _, _ => false
termination_by structural l => l
def eqWLL : List (List V) -> List (List V) -> Bool
 | [], [] => true
 | a :: l, b :: m => eqWL a b && eqWLL l m
 | _, _ => false
termination_by structural l => l
end
mutual
theorem eqW_eq : ∀ {v u : V}, eqW v u = true -> v = u
 | .bool a, u, h => by cases u <;> simp [eqW] at h; rw [h]
 | .int k n, u, h => by cases u <;> simp [eqW] at h; rw [h.1, h.2]
 | .str s, u, h => by cases u <;> simp [eqW] at h; rw [h]
 | .nilp, u, h => by cases u <;> simp [eqW] at h; rfl
 | .nilf, u, h => by cases u <;> simp [eqW] at h; rfl
 | .ub, u, h => by cases u <;> simp [eqW] at h; rfl
 | .ptr k o, u, h => by cases u <;> simp [eqW] at h; rw [h.1, h.2]
 | .gp k o, u, h => by cases u <;> simp [eqW] at h; rw [h.1, h.2]
 | .elt c o, u, h => by cases u <;> simp [eqW] at h; rw [eqWL_eq h.1, h.2]
 | .sl w xs, u, h => by cases u <;> simp [eqW] at h; rw [h.1, eqWLL_eq h.2]
 | .agg c, u, h => by cases u <;> simp [eqW] at h; rw [eqWL_eq h]
 | .tup c, u, h => by cases u <;> simp [eqW] at h; rw [eqWL_eq h]
 | .fn f c, u, h => by cases u <;> simp [eqW] at h; rw [h.1, eqWL_eq h.2]
 | .obs k o n e, u, h => by cases u <;> simp [eqW] at h; rw [h.1.1.1, h.1.1.2, h.1.2, h.2]
theorem eqWL_eq : ∀ {v u : List V}, eqWL v u = true -> v = u
 | [], [], h => rfl
 | a :: l, b :: m, h => by
   simp only [eqWL, Bool.and_eq_true] at h
   rw [eqW_eq h.1, eqWL_eq h.2]
 | [], _ :: _, h => by simp [eqWL] at h
 | _ :: _, [], h => by simp [eqWL] at h
theorem eqWLL_eq : ∀ {v u : List (List V)}, eqWLL v u = true -> v = u
 | [], [], h => rfl
 | a :: l, b :: m, h => by
   simp only [eqWLL, Bool.and_eq_true] at h
   rw [eqWL_eq h.1, eqWLL_eq h.2]
 | [], _ :: _, h => by simp [eqWLL] at h
 | _ :: _, [], h => by simp [eqWLL] at h
end
def eqR (a b : V × VH) : Bool := eqW a.1 b.1 && eqWLL a.2 b.2
def eqJ (a b : Nat × List V × VH) : Bool := Nat.beq a.1 b.1 && eqWL a.2.1 b.2.1 && eqWLL a.2.2 b.2.2
def eqB (a b : Option Nat × List V × VH) : Bool := decide (a.1 = b.1) && eqWL a.2.1 b.2.1 && eqWLL a.2.2 b.2.2
theorem eqR_eq {a b : V × VH} (h : eqR a b = true) : a = b := by
 simp only [eqR, Bool.and_eq_true] at h
 exact Prod.ext (eqW_eq h.1) (eqWLL_eq h.2)
theorem eqJ_eq {a b : Nat × List V × VH} (h : eqJ a b = true) : a = b := by
 simp only [eqJ, Bool.and_eq_true] at h
 exact Prod.ext (Nat.eq_of_beq_eq_true h.1.1) (Prod.ext (eqWL_eq h.1.2) (eqWLL_eq h.2))
theorem eqB_eq {a b : Option Nat × List V × VH} (h : eqB a b = true) : a = b := by
 simp only [eqB, Bool.and_eq_true, decide_eq_true_eq] at h
 exact Prod.ext h.1.1 (Prod.ext (eqWL_eq h.1.2) (eqWLL_eq h.2))
def bothE {R : Type} (eq : R -> R -> Bool) (a b : Option R) : Option R :=
 match a, b with
 | some x, some y => match eq x y with | true => some x | false => none
 | _, _ => none
section
variable (X : XV) (A : Ann) (T : List Nat)
def codeE : Code -> {R : Type} -> (R -> R -> Bool) -> VS -> (Exit -> VS -> Option R) -> Option R
 | .skip, _, _, st, K => K .normal st
 | .region _ ops draw, _, _, st, K => match draw with
   | false => regV X A T ops ops.toList [] st fun _ st => K .normal st
   | true => regV X A T ops ops.toList [] st fun cl st => match orderOk ops cl.reverse with | true => K .normal st | false => none
 | .seq a b, _, eq, st, K => match (match isReg a with | true => none | false => joinOf A.joins (firstR a) (firstR b)) with
   | none => codeE a eq st fun e st => match e with | .normal => codeE b eq st K | e => K e st
   | some outs => (codeE a eqJ st fun e st => outV outs e st fun n vs hp => some (n, vs, hp)).bind fun r =>
     inV outs r.1 r.2.1 r.2.2 fun e st => match e with | .normal => codeE b eq st K | e => K e st
 | .cond c a b, _, eq, st, K => vaV X st c fun v => match v with
   | .bool true => codeE a eq st K
   | .bool false => codeE b eq st K
   | .ub => bothE eq (codeE a eq st K) (codeE b eq st K)
   | _ => none
 | .block id a, _, eq, st, K => codeE a eq st fun e st => match e with
   | .exit i => (match Nat.beq i id with | true => K .normal st | false => K (.exit i) st)
   | e => K e st
 | .loop a, _, _, st, K => match look A.loops (firstR a) with
   | none => none
   | some li => saveV li.ks st fun vs hp =>
     (X.lp (fun vs hp => loadV li.ks vs hp fun st => codeE a eqB st fun e st => match e with
      | .normal => saveV li.ks st fun vs hp => some (none, vs, hp)
      | e => outV li.outs e st fun n vs hp => some (some n, vs, hp)) vs hp).bind fun r =>
     inV li.outs r.1 r.2.1 r.2.2 K
 | .exit id, _, _, st, K => K (.exit id) st
 | .ret, _, _, st, K => K .ret st
 | _, _, _, _, _ => none
def bodyE (f : FuncId) (args : List V) (H : VH) : Option (V × VH) :=
 match X.fn f with
 | none => none
 | some fn => match fn.body with
   | none => none
   | some c => match dstC fn.ntmps c with
     | true => codeE X (X.ann f) (X.takes f) c eqR ⟨argsEV 0 args, [], H⟩ fun e st => (match e with
       | .normal | .ret => resV X fn.results.toList st fun vs st => some (oneV vs, st.H)
       | _ => none)
     | false => none
end
def callE (b : BaseV) : Nat -> CallV
 | 0, _, _, _ => none
 | n + 1, f, args, H => match b.prim f with
   | some g => g args H
   | none => bodyE (b.ctx (callE b n) (lpVN n)) f args H
section
variable {X : XV} {c : CallV} {l : LpV} {A : Ann} {T : List Nat}
theorem codeE_app (hN : NearV X (fun _ => c) (fun _ => l)) : ∀ (x : Code) {R : Type} {eq : R -> R -> Bool} (he : ∀ a b, eq a b = true -> a = b) {r : R} {st : VS} {K K' : Exit -> VS -> Option R},
 codeE X A T x eq st K = some r -> (∀ e st, K e st = some r -> K' e st = some r) -> codeV (X.over c l) A T x st K' = some r
 | .skip, R, eq, he, r, st, K, K', h, hK => hK _ _ h
 | .exit id, R, eq, he, r, st, K, K', h, hK => hK _ _ h
 | .ret, R, eq, he, r, st, K, K', h, hK => hK _ _ h
 | .region id ops draw, R, eq, he, r, st, K, K', h, hK => by
   cases draw with
   | false =>
     simp only [codeE, codeV] at h ⊢
     exact (regV_app hN h (Km := fun _ _ st => K' .normal st) fun cl st h => Evt.of fun _ => hK _ _ h).const
   | true =>
     simp only [codeE, codeV] at h ⊢
     refine (regV_app hN h (Km := fun _ cl st => match orderOk ops cl.reverse with | true => K' .normal st | false => none) fun cl st h => Evt.of fun _ => ?_).const
     split at h
     ·exact hK _ _ h
     ·cases h
 | .cond y a b, R, eq, he, r, st, K, K', h, hK => by
   simp only [codeE, codeV] at h ⊢
   obtain ⟨v, h, hv⟩ := va_eq h
   have hv' : vaV (X.over c l) st y (fun v => ifVV v (codeV (X.over c l) A T a st K') (codeV (X.over c l) A T b st K')) = ifVV v (codeV (X.over c l) A T a st K') (codeV (X.over c l) A T b st K') := hv ..
   rw [hv']
   split at h
   ·exact codeE_app hN a he h hK
   ·exact codeE_app hN b he h hK
   ·unfold bothE at h
    split at h
    ·rename_i p q hp hq
     split at h
     ·rename_i e
      cases h
      have := he _ _ e
      subst this
      show bothR _ _ = _
      unfold bothR
      rw [codeE_app hN a he hp hK, codeE_app hN b he hq hK, if_pos rfl]
     ·cases h
    ·cases h
   ·cases h
 | .block id a, R, eq, he, r, st, K, K', h, hK => by
   simp only [codeE, codeV] at h ⊢
   refine codeE_app hN a he h fun e st h => ?_
   cases e with
   | exit i =>
     simp only at h ⊢
     split at h
     ·rename_i hb; simp only [hb]; exact hK _ _ h
     ·rename_i hb; simp only [hb]; exact hK _ _ h
   | _ => exact hK _ _ h
 | .seq a b, R, eq, he, r, st, K, K', h, hK => by
   simp only [codeE, codeV] at h ⊢
   have behind : ∀ (e : Exit) (st : VS), (match e with | .normal => codeE X A T b eq st K | e => K e st) = some r -> (match e with | .normal => codeV (X.over c l) A T b st K' | e => K' e st) = some r := by
    intro e st h
    cases e with
    | normal => exact codeE_app hN b he h hK
    | _ => exact hK _ _ h
   have none' : (codeE X A T a eq st fun e st => match e with | .normal => codeE X A T b eq st K | e => K e st) = some r -> (codeV (X.over c l) A T a st fun e st => match e with | .normal => codeV (X.over c l) A T b st K' | e => K' e st) = some r := fun h => codeE_app hN a he h behind
   cases hr : isReg a with
   | true =>
     simp only [hr] at h ⊢
     exact none' h
   | false =>
     simp only [hr] at h ⊢
     cases hj : joinOf A.joins (firstR a) (firstR b) with
     | none =>
       simp only [hj] at h ⊢
       exact none' h
     | some outs =>
       simp only [hj] at h ⊢
       obtain ⟨s, hs, h⟩ := bind_some' h
       obtain ⟨e, st', h1, h2⟩ := inV_eq h
       have g1 := codeE_app hN a (fun a b => eqJ_eq) hs (K' := fun e st => outV outs e st fun n vs hp => some (n, vs, hp)) fun e st h => h
       rw [g1]
       simp only [Option.bind_some]
       rw [h2]; exact behind e st' h1
 | .loop a, R, eq, he, r, st, K, K', h, hK => by
   simp only [codeE, codeV] at h ⊢
   cases hli : look A.loops (firstR a) with
   | none => simp only [hli] at h; cases h
   | some li =>
     simp only [hli] at h ⊢
     obtain ⟨vs, h, h0⟩ := saveV_eq h
     obtain ⟨res, hres, h⟩ := bind_some' h
     obtain ⟨e, st', h1, h2⟩ := inV_eq h
     have hB := (hN.lp _ (fun _ vs hp => loadV li.ks vs hp fun st => codeV (X.over c l) A T a st fun e st => match e with
      | .normal => saveV li.ks st fun vs hp => some (none, vs, hp)
      | e => outV li.outs e st fun n vs hp => some (some n, vs, hp)) (fun vs hp res hr => by
      obtain ⟨s, g1, g2⟩ := loadV_eq hr
      exact Evt.of fun m => by
       rw [g2]
       exact codeE_app hN a (fun a b => eqB_eq) g1 fun e st h => h) _ _ _ hres).const
     rw [h0]
     exact (congrArg (fun (o : Option (Nat × List V × VH)) => o.bind fun q => inV li.outs q.1 q.2.1 q.2.2 K') hB).trans ((h2 R K').trans (hK e st' h1))
 | .rangeFunc .., R, eq, he, r, st, K, K', h, hK => by cases h
 | .scope .., R, eq, he, r, st, K, K', h, hK => by cases h
 | .label .., R, eq, he, r, st, K, K', h, hK => by cases h
 | .goto .., R, eq, he, r, st, K, K', h, hK => by cases h
 | .refuse .., R, eq, he, r, st, K, K', h, hK => by cases h
theorem bodyE_app (hN : NearV X (fun _ => c) (fun _ => l)) {f : FuncId} {args : List V} {H : VH} {r : V × VH} (h : bodyE X f args H = some r) : bodyV (X.over c l) f args H = some r := by
 unfold bodyE at h
 unfold bodyV
 have e1 : (X.over c l).fn f = X.fn f := rfl
 have e2 : (X.over c l).ann f = X.ann f := rfl
 have e3 : (X.over c l).takes f = X.takes f := rfl
 simp only [e1, e2, e3]
 split at h
 ·cases h
 ·rename_i fn hf
  split at h
  ·cases h
  ·rename_i x hx
   split at h
   ·rename_i hd
    try simp only [hf, hx, hd]
    refine codeE_app hN x (fun a b => eqR_eq) h fun e st h => ?_
    cases e <;> first | (simp only [resV_over]; exact h) | exact h
   ·cases h
end
theorem callE_N (b : BaseV) : ∀ (n : Nat) (f : FuncId) (args : List V) (H : VH) (r : V × VH), callE b n f args H = some r -> callVN b n f args H = some r := by
 intro n
 induction n with
 | zero => intro f args H r h; cases h
 | succ n ih =>
   intro f args H r h
   simp only [callE, callVN] at h ⊢
   split at h
   ·rename_i g hg; first | exact h | (simp only [hg]; exact h)
   ·rename_i hg
    try simp only [hg]
    have hN : NearV (b.ctx (callE b n) (lpVN n)) (fun _ => callVN b n) (fun _ => lpVN n) := by
     refine ⟨fun f vs hp res h => Evt.of fun _ => ih f vs hp res h, fun B Bm hB vs hp res h => ?_⟩
     have h' : lpVN n B vs hp = some res := h
     clear h
     have : ∀ (n : Nat) (vs : List V) (hp : VH), lpVN n B vs hp = some res -> Evt fun k => lpVN n (Bm k) vs hp = some res := by
      intro n
      induction n with
      | zero => intro vs hp h; cases h
      | succ n ihn =>
        intro vs hp h
        simp only [lpVN] at h
        split at h
        ·cases h
        ·rename_i hb
         exact ((hB _ _ _ hb).and (ihn _ _ h)).imp fun k ⟨g1, g2⟩ => by simp only [lpVN, g1]; exact g2
        ·rename_i hb
         cases h
         exact (hB _ _ _ hb).imp fun k g1 => by simp only [lpVN, g1]
     exact this n vs hp h'
    exact bodyE_app hN h
theorem callE_of {b : BaseV} (n : Nat) {f : FuncId} {args : List V} {H : VH} {r : V × VH} (h : callE b n f args H = some r) : callV b f args H = some r := callV_of (callE_N b n f args H r h)
theorem qcE_of {b : BaseV} (n : Nat) {f : FuncId} {args : List V} {v : V} (h : qpcall (callE b n) f args = some v) : qpcall (callV b) f args = some v := by
 obtain ⟨res, h1, h2⟩ := qpcall_eq h
 exact h2 _ (callE_of n h1)
end Go.AM

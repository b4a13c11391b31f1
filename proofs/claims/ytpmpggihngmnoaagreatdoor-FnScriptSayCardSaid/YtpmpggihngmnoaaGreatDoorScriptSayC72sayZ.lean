/- Contracts: a dialogue, as the second writing tells it. -/
import Derived.Test.YtpmpggihngmnoaaGreatDoorScriptSayC70boxesZ
namespace Go.Proofs.YtpmpggihngmnoaaGreatDoor.Q
open Go Go.AM
set_option linter.unusedSimpArgs false
set_option linter.unusedVariables false
set_option linter.unusedSectionVars false
def vO (l : List Mail) : List (List V) := l.map cO
theorem vO_len (l : List Mail) : (vO l).length = l.length := by simp [vO]
theorem cO_strip (m : Mail) : stripL (cO m) = cM m := by simp only [cO, cM, stripL, strip, vT_strip]
theorem vO_strip : ∀ l : List Mail, stripLL (vO l) = vR eM l
 | [] => rfl
 | m :: l => by
   show stripL (cO m) :: stripLL (vO l) = _
   rw [vO_strip l, cO_strip]; rfl
theorem vO_esz (l : List Mail) : eszOk 3 (vO l) = true := by simp [eszOk, vO, cO]
theorem vO_app (l k : List Mail) : vO l ++ vO k = vO (l ++ k) := by simp [vO]
theorem vO_data : ∀ l : List Mail, dataLL (vO l) = true
 | [] => rfl
 | m :: l => by
   show (dataL (cO m) && dataLL (vO l)) = true
   rw [vO_data l, Bool.and_true]
   simp only [cO, dataL, data, vT_data, Bool.and_self]
def cSo (s : Session) : List V := [.int .i64 s.state, .str s.host, .str s.draft.from_, .sl true (vT s.draft.to), .sl true (vT s.draft.lines), .sl true (vO s.done)]
theorem cSo_e (s : Session) : cSo s = [.int .i64 s.state, .str s.host, .str s.draft.from_, .sl true (vT s.draft.to), .sl true (vT s.draft.lines), .sl true (vO s.done)] := by exact id rfl
def AsS (v : V) (s : Session) : Prop := ∃ x y z, v = .agg [.int .i64 s.state, .str s.host, .str s.draft.from_, x, y, z] /\ strip x = .sl false (vT s.draft.to) /\ strip y = .sl false (vT s.draft.lines) /\ strip z = .sl false (vR eM s.done)
theorem AsS.own (s : Session) : AsS (.agg (cSo s)) s := ⟨_, _, _, rfl, by simp only [strip, vT_strip], by simp only [strip, vT_strip], by simp only [strip, vO_strip]⟩
theorem AsS.str (s : Session) : AsS (.agg (cS s)) s := ⟨_, _, _, rfl, by simp only [strip, vT_strip], by simp only [strip, vT_strip], by simp only [strip, vR_strip]⟩
theorem mails_app {l : List Mail} (m : Mail) (h : l.length + 1 <= 2000000) : appV false 3 64 (vO l) (.sl true [[.str m.from_, .sl true (vT m.to), .sl true (vT m.lines)]]) = some (.sl true (vO (l ++ [m]))) := by
 have := v_app 3 64 (vO l) true (vO [m]) (vO_esz _) (vO_esz _) (by rw [vO_len, vO_len]; simp; omega)
 rw [vO_app] at this
 exact this
theorem ld_take {g : Nat -> Option (List V)} {k off : Nat} {H : VH} {cs : List V} {v : V} (h : H[k]? = some cs) (hv : cs[off]? = some v) : ldO g true false 1 (.ptr k off) H = some (v, H.set k (gseg cs off [strip v])) := by
 simp only [ldO, h, loadC, hv, Option.bind_some, Option.map_some]
theorem ld_all {g : Nat -> Option (List V)} {k n : Nat} {H : VH} {cs : List V} (h : H[k]? = some cs) (hn : cs.length = n) : ldO g true true n (.ptr k 0) H = some (.agg cs, H.set k (stripL cs)) := by
 have e : gcut cs 0 n = some cs := by rw [gcut_mk (by omega)]; simp [<- hn]
 have e2 : gseg cs 0 (stripL cs) = stripL cs := by
  unfold gseg
  rw [stripL_len]; simp
 simp only [ldO, h, loadC, e, Option.bind_some, Option.map_some, e2]
theorem st_all {k : Nat} {H : VH} {cs c : List V} (h : H[k]? = some cs) (hn : c.length = cs.length) : stO (.ptr k 0) c H = some (H.set k c) := by
 have e2 : gseg cs 0 c = c := by
  unfold gseg
  rw [show 0 + c.length = cs.length from by omega]; simp
 rw [so_seg h (by omega), e2]
theorem set_end (H : VH) (a b : List V) : (H ++ [a]).set H.length b = H ++ [b] := by simp
def Lg (H H' : VH) : Prop := ∃ X, H' = H ++ X
theorem Lg.refl (H : VH) : Lg H H := ⟨[], by simp⟩
theorem Lg.one (H : VH) (a : List V) : Lg H (H ++ [a]) := ⟨[a], rfl⟩
theorem Lg.trans {a b c : VH} (h : Lg a b) (k : Lg b c) : Lg a c := by
 obtain ⟨x, rfl⟩ := h
 obtain ⟨y, rfl⟩ := k
 exact ⟨x ++ y, by simp⟩
def innP (r : Bs) : Option Bs := if 2 <= r.length /\ r.head? = some 60 /\ r.getLast? = some 62 then some ((r.drop 1).take (r.length - 2)) else none
def pathF (s : Bs) : Bs := if (64 : UInt8) ∈ s then cutA 64 s ++ [64] ++ lowT (cutZ 64 s) else s
def okP (p : Bs) : Option Bs := if fromT (pathF p) = true then some (pathF p) else none
def argP (w r : Bs) : Option Bs := if w.length <= r.length /\ lowT (r.take w.length) = w then (innP (r.drop w.length)).bind okP else none
def noM : Mail := ⟨[], [], []⟩
def noS : Session := ⟨0, [], noM, []⟩
def fromF (s : Session) (p : Option Bs) : Session × Int :=
 match p with
 | none => (s, 501)
 | some p => if s.state = 1 then (⟨2, s.host, ⟨p, [], []⟩, s.done⟩, 250) else (s, 503)
def toF (s : Session) (p : Option Bs) : Session × Int :=
 match p with
 | none => (s, 501)
 | some p => if p = [] then (s, 501) else if s.state = 2 ∨ s.state = 3 then (if s.draft.to.length = 10 then (s, 452) else (⟨3, s.host, ⟨s.draft.from_, s.draft.to ++ [p], s.draft.lines⟩, s.done⟩, 250)) else (s, 503)
def helloF (s : Session) (h : Bs) : Session × Int := if domT h = true then (⟨1, h, noM, s.done⟩, 250) else (s, 501)
def wordF (s : Session) (l : Bs) : Session × Int :=
 if l = [100, 97, 116, 97] then (if s.state = 3 then (⟨4, s.host, s.draft, s.done⟩, 354) else (s, 503))
 else if l = [114, 115, 101, 116] then (⟨if s.state = 0 then s.state else 1, s.host, noM, s.done⟩, 250)
 else if l = [110, 111, 111, 112] then (s, 250)
 else if l = [113, 117, 105, 116] then (⟨5, s.host, noM, s.done⟩, 221)
 else (s, 500)
def cmdF (s : Session) (line : Bs) : Session × Int :=
 if lowT (cutA 32 line) = [104, 101, 108, 111] then helloF s (lowT (cutZ 32 line))
 else if lowT (cutA 32 line) = [109, 97, 105, 108] then fromF s (argP [102, 114, 111, 109, 58] (cutZ 32 line))
 else if lowT (cutA 32 line) = [114, 99, 112, 116] then toF s (argP [116, 111, 58] (cutZ 32 line))
 else wordF s (lowT line)
def unst (l : Bs) : Bs := if l.head? = some 46 then l.drop 1 else l
def dataF (s : Session) (line : Bs) : Session × Int :=
 if line = [46] then
  (if 30 < s.draft.lines.length then (⟨1, s.host, noM, s.done⟩, 552) else if s.done.length = 5 then (⟨1, s.host, noM, s.done⟩, 452) else (⟨1, s.host, noM, s.done ++ [s.draft]⟩, 250))
 else if s.draft.lines.length <= 30 then (⟨s.state, s.host, ⟨s.draft.from_, s.draft.to, s.draft.lines ++ [unst line]⟩, s.done⟩, 0) else (s, 0)
def sayB (s : Session) (line : Bs) : Bool := sessT s && (!decide (s.state = 5) && textT line)
def sayF (s : Session) (line : Bs) : Session × Int := if s.state = 4 then dataF s line else cmdF s line
def sayS (s : Session) (line : Bs) : Session := if sayB s line = true then (sayF s line).1 else noS
def sayN (s : Session) (line : Bs) : Int := if sayB s line = true then (sayF s line).2 else 0
theorem cut_app {c : UInt8} {a z : Bs} (h : c ∉ a) : cutA c (a ++ [c] ++ z) = a /\ cutZ c (a ++ [c] ++ z) = z := by
 have hm : c ∈ a ++ [c] ++ z := by simp
 have hi : (a ++ [c] ++ z).idxOf c = a.length := by
  rw [List.append_assoc, List.idxOf_append, if_neg h]; simp
 unfold cutA cutZ
 rw [if_pos hm, if_pos hm, hi]
 simp
theorem cut_line {c : UInt8} {s : Bs} (h : c ∈ s) : s = cutA c s ++ [c] ++ cutZ c s := by
 have hlt := List.idxOf_lt_length_iff.2 h
 have hg : s[s.idxOf c] = c := List.getElem_idxOf hlt
 unfold cutA cutZ
 rw [if_pos h, if_pos h]
 conv => lhs; rw [<- List.take_append_drop (s.idxOf c) s, List.drop_eq_getElem_cons hlt, hg]
 simp
theorem cut_none {c : UInt8} {s : Bs} (h : ¬ c ∈ s) : cutA c s = s /\ cutZ c s = [] := by
 unfold cutA cutZ; rw [if_neg h, if_neg h]; exact ⟨rfl, rfl⟩
def SzT (n : Nat) (l : List Bs) : Prop := l.length <= n /\ ∀ s ∈ l, s.length <= n
def SzM (n : Nat) (m : Mail) : Prop := m.from_.length <= n /\ SzT n m.to /\ SzT n m.lines
def SzS (n : Nat) (s : Session) : Prop := s.host.length <= n /\ SzM n s.draft /\ s.done.length <= n /\ ∀ m ∈ s.done, SzM n m
theorem SzT.le {n k : Nat} {l : List Bs} (h : SzT n l) (hk : n <= k) : SzT k l := ⟨by have := h.1; omega, fun s hs => by have := h.2 s hs; omega⟩
theorem SzM.le {n k : Nat} {m : Mail} (h : SzM n m) (hk : n <= k) : SzM k m := ⟨by have := h.1; omega, h.2.1.le hk, h.2.2.le hk⟩
theorem SzS.le {n k : Nat} {s : Session} (h : SzS n s) (hk : n <= k) : SzS k s := ⟨by have := h.1; omega, h.2.1.le hk, by have := h.2.2.1; omega, fun m hm => (h.2.2.2 m hm).le hk⟩
theorem SzT.add {n k : Nat} {l : List Bs} {s : Bs} (h : SzT n l) (hs : s.length <= k) (hk : n + 1 <= k) : SzT k (l ++ [s]) := by
 refine ⟨by have := h.1; simp; omega, fun t ht => ?_⟩
 rcases List.mem_append.1 ht with h1 | h1
 ·have := h.2 t h1; omega
 ·simp at h1; subst h1; exact hs
theorem SzT.none (n : Nat) : SzT n [] := ⟨by simp, by simp⟩
theorem SzM.none (n : Nat) : SzM n noM := ⟨by simp [noM], SzT.none n, SzT.none n⟩
theorem SzS.none (n : Nat) : SzS n noS := ⟨by simp [noS], SzM.none n, by simp [noS], by simp [noS]⟩
theorem SzM.sm {n : Nat} {m : Mail} (h : SzM n m) (hn : n <= 1049600) : SmM m := by
 have h := h.le hn
 exact ⟨h.1, ⟨h.2.1.1, h.2.1.2⟩, ⟨h.2.2.1, h.2.2.2⟩⟩
theorem SzS.sm {n : Nat} {s : Session} (h : SzS n s) (hn : n <= 1049600) : SmS s := by
 have h := h.le hn
 exact ⟨h.1, h.2.1.sm (Nat.le_refl _), ⟨h.2.2.1, fun m hm => (h.2.2.2 m hm).sm (Nat.le_refl _)⟩⟩
theorem argP_len {w r p : Bs} (h : argP w r = some p) : p.length <= r.length := by
 unfold argP at h
 split at h
 ·cases hi : innP (r.drop w.length) with
  | none => rw [hi] at h; cases h
  | some q =>
    rw [hi, Option.bind_some] at h
    unfold okP at h
    split at h
    ·have h := Option.some.inj h
     have hq : q.length <= r.length := by
      unfold innP at hi
      split at hi
      ·rw [<- Option.some.inj hi]; simp; omega
      ·cases hi
     rw [<- h]
     unfold pathF
     split
     ·rename_i hm
      have := congrArg List.length (cut_line hm)
      simp at this
      simp [lowT]; omega
     ·exact hq
    ·cases h
 ·cases h
theorem sayF_sz {n : Nat} {s : Session} {line : Bs} (h : SzS n s) (hl : line.length <= n) : SzS (n + 1) (sayF s line).1 := by
 have h1 := h.le (Nat.le_succ n)
 have hz := cutZ_len 32 line
 have hd : (s.done ++ [s.draft]).length <= n + 1 /\ ∀ m ∈ s.done ++ [s.draft], SzM (n + 1) m := by
  refine ⟨by have := h.2.2.1; simp; omega, fun m hm => ?_⟩
  rcases List.mem_append.1 hm with h2 | h2
  ·exact h1.2.2.2 m h2
  ·simp at h2; subst h2; exact h1.2.1
 unfold sayF
 split
 ·unfold dataF
  split
  ·split
   ·exact ⟨h1.1, SzM.none _, h1.2.2⟩
   ·split
    ·exact ⟨h1.1, SzM.none _, h1.2.2⟩
    ·exact ⟨h1.1, SzM.none _, hd⟩
  ·split
   ·refine ⟨h1.1, ⟨h1.2.1.1, h1.2.1.2.1, h.2.1.2.2.add ?_ (Nat.le_refl _)⟩, h1.2.2⟩
    unfold unst
    split
    ·simp; omega
    ·omega
   ·exact h1
 ·unfold cmdF
  split
  ·unfold helloF
   split
   ·exact ⟨by show (lowT (cutZ 32 line)).length <= n + 1; simp [lowT]; omega, SzM.none _, h1.2.2⟩
   ·exact h1
  ·split
   ·cases hp : argP [102, 114, 111, 109, 58] (cutZ 32 line) with
    | none => exact h1
    | some p =>
      have := argP_len hp
      unfold fromF
      simp only
      split
      ·exact ⟨h1.1, ⟨by show p.length <= n + 1; omega, SzT.none _, SzT.none _⟩, h1.2.2⟩
      ·exact h1
   ·split
    ·cases hp : argP [116, 111, 58] (cutZ 32 line) with
     | none => exact h1
     | some p =>
       have := argP_len hp
       unfold toF
       simp only
       split
       ·exact h1
       ·split
        ·split
         ·exact h1
         ·exact ⟨h1.1, ⟨h1.2.1.1, h.2.1.2.1.add (by omega) (Nat.le_refl _), h1.2.1.2.2⟩, h1.2.2⟩
        ·exact h1
    ·unfold wordF
     split
     ·split <;> exact h1
     ·split
      ·exact ⟨h1.1, SzM.none _, h1.2.2⟩
      ·split
       ·exact h1
       ·split
        ·exact ⟨h1.1, SzM.none _, h1.2.2⟩
        ·exact h1
end Go.Proofs.YtpmpggihngmnoaaGreatDoor.Q

/- Contracts: mailboxes are added (reference); draws of mailboxes. -/
import Derived.Test.YtpmpggihngmnoaaGreatDoorScriptSayC94impldeliverZ
namespace Go.Proofs.YtpmpggihngmnoaaGreatDoor.Q
open Go Go.AM
set_option linter.unusedSimpArgs false
set_option linter.unusedVariables false
set_option linter.unusedSectionVars false
def insX (p : Bs) : List Box -> List Box
 | [] => [⟨p, []⟩]
 | b :: l => if ltT p b.path = true then ⟨p, []⟩ :: b :: l else b :: insX p l
def gtX (p : Bs) (b : Box) : Bool := ltT p b.path
def addB (l : List Box) (p : Bs) : Bool := boxesT l && (pathT p && (!(l.any (isP p)) && !decide (l.length = 8)))
def addR (l : List Box) (p : Bs) : List Box := if addB l p = true then insX p l else []
theorem insX_len (p : Bs) : ∀ l : List Box, (insX p l).length = l.length + 1
 | [] => rfl
 | b :: l => by
   unfold insX
   split
   ·rfl
   ·simp [insX_len p l]
theorem insX_mem {p : Bs} {x : Box} : ∀ {l : List Box}, x ∈ insX p l -> x = ⟨p, []⟩ ∨ x ∈ l
 | [], h => by simp [insX] at h; exact .inl h
 | b :: l, h => by
   unfold insX at h
   split at h
   ·rcases List.mem_cons.1 h with h | h
    ·exact .inl h
    ·exact .inr h
   ·rcases List.mem_cons.1 h with h | h
    ·exact .inr (by simp [h])
    ·rcases insX_mem h with h | h
     ·exact .inl h
     ·exact .inr (by simp [h])
def RoX (r : List (List V)) (l : List Box) : Prop := stripLL r = vR eX l /\ dataLL r = true /\ eszOk 2 r = true
theorem RoX.nil : RoX [] [] := ⟨rfl, rfl, rfl⟩
theorem RoX.len {r : List (List V)} {l : List Box} (h : RoX r l) : r.length = l.length := by
 have := congrArg List.length h.1
 rwa [stripLL_len, vR_len] at this
theorem stripLL_app (a b : List (List V)) : stripLL (a ++ b) = stripLL a ++ stripLL b := by rw [stripLL_map, stripLL_map, stripLL_map, List.map_append]
theorem dataLL_app {a b : List (List V)} (h : dataLL a = true) (g : dataLL b = true) : dataLL (a ++ b) = true := by
 induction a with
 | nil => exact g
 | cons x a ih =>
   simp only [dataLL, Bool.and_eq_true] at h
   simp only [List.cons_append, dataLL, h.1, ih h.2, Bool.and_self]
theorem RoX.app {r s : List (List V)} {l k : List Box} (h : RoX r l) (g : RoX s k) : RoX (r ++ s) (l ++ k) := by
 refine ⟨by rw [stripLL_app, h.1, g.1, vR_app], dataLL_app h.2.1 g.2.1, ?_⟩
 have h1 := h.2.2; have h2 := g.2.2
 simp only [eszOk, List.all_append, Bool.and_eq_true] at h1 h2 ⊢
 exact ⟨h1, h2⟩
theorem RoX.one (b : Box) : RoX [[.str b.path, .sl false (vR eM b.mails)]] [b] := ⟨by simp only [stripLL, stripL, strip, vR_strip]; rfl, by simp only [dataLL, dataL, data, vR_data, Bool.and_self], rfl⟩
theorem RoX.new (p : Bs) : RoX [[.str p, .sl true []]] [⟨p, []⟩] := ⟨rfl, rfl, rfl⟩
theorem RoX.own (l : List Box) : RoX (vOX l) l := ⟨vOX_strip l, vOX_data l, vOX_esz l⟩
theorem RoX.rows {r : List (List V)} {l : List Box} (h : RoX r l) : Go.AM.Rows 2 r := fun x hx => by
 have := h.2.2
 simp only [eszOk, List.all_eq_true] at this
 exact Nat.eq_of_beq_eq_true (this x hx)
theorem RoX.app1 {r s : List (List V)} {l k : List Box} (h : RoX r l) (g : RoX s k) (hl : l.length + k.length <= 2000000) : appV false 2 40 r (.sl true s) = some (.sl true (r ++ s)) :=
 v_app 2 40 r true s h.2.2 g.2.2 (by rw [h.len, g.len]; omega)
def DX (n : Nat) (l : List Box) : Prop := l.length <= n /\ ∀ b ∈ l, b.path.length <= 200 /\ b.mails.length <= n /\ ∀ m ∈ b.mails, TnM m
theorem DX.sm {n : Nat} {l : List Box} (h : DX n l) (hn : n <= 1049600) : SmXs l :=
 ⟨by have := h.1; omega, fun b hb => ⟨by have := (h.2 b hb).1; omega, by have := (h.2 b hb).2.1; omega, fun m hm => ((h.2 b hb).2.2 m hm).sm⟩⟩
theorem DX.le {n k : Nat} {l : List Box} (h : DX n l) (hn : n <= k) : DX k l := ⟨by have := h.1; omega, fun b hb => ⟨(h.2 b hb).1, by have := (h.2 b hb).2.1; omega, (h.2 b hb).2.2⟩⟩
theorem DX.path {n : Nat} {l : List Box} (h : DX n l) : ∀ b ∈ l, b.path.length <= 1049600 := fun b hb => by have := (h.2 b hb).1; omega
theorem DX.nil (n : Nat) : DX n [] := ⟨by simp, by simp⟩
theorem DX.add {n : Nat} {l : List Box} {p : Bs} (h : DX n l) (hp : p.length <= 200) : DX (n + 1) (addR l p) := by
 unfold addR
 split
 ·refine ⟨by rw [insX_len]; have := h.1; omega, fun b hb => ?_⟩
  rcases insX_mem hb with rfl | hb
  ·exact ⟨hp, by simp, by simp⟩
  ·have := h.2 b hb; exact ⟨this.1, by omega, this.2.2⟩
 ·exact DX.nil _
theorem DX.dl1 {n : Nat} {l : List Box} {m : Mail} {t : Bs} (h : DX n l) (hm : TnM m) (ht : t.length <= 200) : DX (n + 1) (Q.dl1 l m t).1 := by
 refine ⟨by rw [dl1_len]; have := h.1; omega, fun b hb => ?_⟩
 unfold Q.dl1 at hb
 split at hb
 ·rename_i ha
  have hlt := findIdx_isP ha
  split at hb
  ·have := h.2 b hb; exact ⟨this.1, by omega, this.2.2⟩
  ·rcases List.mem_or_eq_of_mem_set hb with hb | rfl
   ·have := h.2 b hb; exact ⟨this.1, by omega, this.2.2⟩
   ·have := h.2 _ (boxAt_mem hlt)
    refine ⟨this.1, by simp; omega, fun x hx => ?_⟩
    rcases List.mem_append.1 hx with hx | hx
    ·exact this.2.2 x hx
    ·simp at hx; subst hx
     exact ⟨hm.1, TnT.one (by omega) ht, hm.2.2⟩
 ·have := h.2 b hb; exact ⟨this.1, by omega, this.2.2⟩
theorem DX.dlN {m : Mail} (hm : TnM m) : ∀ {tos : List Bs} {n : Nat} {s : List Box × List Int}, DX n s.1 -> (∀ t ∈ tos, t.length <= 200) -> DX (n + tos.length) (Q.dlN m tos s).1
 | [], n, s, h, _ => by simpa [Q.dlN] using h
 | t :: tos, n, s, h, ht => by
   have h1 := DX.dl1 (t := t) h hm (ht t (by simp))
   have := DX.dlN (tos := tos) (s := dlS m s t) hm h1 (fun u hu => ht u (by simp [hu]))
   simp only [Q.dlN, List.foldl_cons, List.length_cons] at this ⊢
   exact this.le (by omega)
def VX (v : V) (k : Nat) (H : VH) (l : List Box) : Prop := (∃ o r, v = .sl o r /\ RoX r l) ∨ (∃ j r, v = .obs j 0 r.length 2 /\ j ≠ k /\ H[j]? = some r.flatten /\ r ≠ [] /\ RoX r l)
theorem VX.fr {v : V} {k b : Nat} {F H : VH} {l : List Box} (h : VX v k F l) (hf : Rf F k b H) : VX v k H l := by
 rcases h with h | ⟨j, r, h1, h2, h3, h4⟩
 ·exact .inl h
 ·exact .inr ⟨j, r, h1, h2, by rw [hf.2.2 j h2 (List.getElem?_eq_some_iff.1 h3).1]; exact h3, h4⟩
end Go.Proofs.YtpmpggihngmnoaaGreatDoor.Q

/- Contracts: draws that leave all but the reader as it was. -/
import Derived.Test.YtpmpggihngmnoaaGreatDoorScriptBoxC84normalZ
namespace Go.Proofs.YtpmpggihngmnoaaGreatDoor.Q
open Go Go.AM
set_option linter.unusedSimpArgs false
set_option linter.unusedVariables false
set_option linter.unusedSectionVars false
def Rf (F : VH) (k b : Nat) (H : VH) : Prop := Rd k b H /\ F.length <= H.length /\ ∀ j, j ≠ k -> j < F.length -> H[j]? = F[j]?
theorem Rf.le {F : VH} {k b b' : Nat} {H : VH} (h : Rf F k b H) (hb : b <= b') : Rf F k b' H := ⟨h.1.le hb, h.2⟩
theorem Rf.refl {k b : Nat} {H : VH} (h : Rd k b H) : Rf H k b H := ⟨h, Nat.le_refl _, fun _ _ _ => rfl⟩
theorem Rf.set {F : VH} {k b b' : Nat} {H : VH} {x : List V} (h : Rf F k b H) (g : Rd k b' (H.set k x)) : Rf F k b' (H.set k x) :=
 ⟨g, by rw [List.length_set]; exact h.2.1, fun j hj hl => by rw [List.getElem?_set_ne (Ne.symm hj)]; exact h.2.2 j hj hl⟩
theorem Rf.trans {F G : VH} {k b b' : Nat} {H : VH} (h : Rf F k b G) (g : Rf G k b' H) : Rf F k b' H :=
 ⟨g.1, Nat.le_trans h.2.1 g.2.1, fun j hj hl => by rw [g.2.2 j hj (by have := h.2.1; omega)]; exact h.2.2 j hj hl⟩
theorem pick_f {F : VH} {k b n : Nat} {H : VH} (hR : Rf F k b H) (hb : b <= 900000000) (hn : 1 <= n) (hn2 : n <= 1000000) : Gets2 (cv id_spec_l13Rd_pick [.ptr k 0, .int .i64 (n : Int)] H) (fun v H' => ∃ i : Nat, v = .int .i64 (i : Nat) /\ i < n /\ Rf F k (b + 1) H') := by
 have hR0 := hR
 obtain ⟨⟨o, xs, p, h1, h2, h3⟩, _⟩ := hR
 have e := pick_c h1 hn (by omega) (by omega) h3
 exact ⟨_, _, e, _, rfl, pickN_lt _ _ _ hn, hR0.set ⟨o, xs, p + 1, by rw [List.getElem?_set, if_pos rfl, if_pos (List.getElem?_eq_some_iff.1 h1).1], by omega, h3⟩⟩
theorem of_f {F : VH} {k b : Nat} {o : Bool} {l : List (List V)} {H : VH} (hR : Rf F k b H) (hb : b <= 900000000) (ht : okT l = true) : Gets2 (cv id_spec_l13Rd_of [.ptr k 0, .sl o l] H) (fun v H' => ∃ s, v = .str s /\ s ∈ unT l /\ s.length <= 200 /\ Rf F k (b + 1) H') := by
 have hR0 := hR
 obtain ⟨⟨o', xs, p, h1, h2, h3⟩, _⟩ := hR
 simp only [okT, Bool.and_eq_true, beq_iff_eq, decide_eq_true_eq, List.all_eq_true] at ht
 obtain ⟨⟨⟨t1, t2⟩, t3⟩, t4⟩ := ht
 have e := of_c (o' := o) (l := unT l) h1 (by omega) (by omega) (by omega) h3
 rw [unT_eq t1] at e
 have hlt := pickN_lt xs p (unT l).length (by omega)
 have hm : (unT l).getD (pickN xs p (unT l).length) [] ∈ unT l := by
  rw [List.getD_eq_getElem?_getD, List.getElem?_eq_getElem hlt]; exact List.getElem_mem hlt
 exact ⟨_, _, e, _, rfl, hm, t2 _ hm, hR0.set ⟨o', xs, p + 1, by rw [List.getElem?_set, if_pos rfl, if_pos (List.getElem?_eq_some_iff.1 h1).1], by omega, h3⟩⟩
end Go.Proofs.YtpmpggihngmnoaaGreatDoor.Q

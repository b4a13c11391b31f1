/- Contracts: hops of a mail. -/
import Derived.Test.YtpmpggihngmnoaaGreatDoorScriptSayC50mailZ
namespace Go.Proofs.YtpmpggihngmnoaaGreatDoor.Q
open Go Go.AM
set_option linter.unusedSimpArgs false
set_option linter.unusedVariables false
set_option linter.unusedSectionVars false
def preT (s t : Bs) : Bool := decide (s.take t.length = t)
def recB : Bs := [114, 101, 99, 101, 105, 118, 101, 100, 58]
def hopB (l : Bs) : Bool := preT (lowT l) recB
def hopsN : List Bs -> Nat
 | [] => 0
 | l :: r => if l = [] then 0 else (if hopB l = true then 1 else 0) + hopsN r
theorem sHasPrefix_c (s t : Bs) (hs : s.length <= 1000000000) : qc id_internal_stringslite_HasPrefix [.str s, .str t] = some (.bool (preT s t)) := by
 refine qc_of (H := []) ?_ (by simp only [evv]) rfl
 show cv _ _ _ = _
 rw [internal_stringslite_HasPrefix_eq]
 by_cases h : t.length <= s.length
 ·have p1 := t_pre s .i64 t.length h
  simp only [evv, p1, preT, show ((s.length : Int) ≥ (t.length : Int)) from by omega]
 ·have : ¬ s.take t.length = t := fun e => by
   have := congrArg List.length e
   simp at this; omega
  simp only [evv, preT, this, show ¬ ((s.length : Int) ≥ (t.length : Int)) from by omega]
theorem HasPrefix_c (s t : Bs) (hs : s.length <= 1000000000) : qc id_strings_HasPrefix [.str s, .str t] = some (.bool (preT s t)) := by
 have e1 := sHasPrefix_c s t hs
 refine qc_of (H := []) ?_ (by simp only [evv]) rfl
 show cv _ _ _ = _
 rw [strings_HasPrefix_eq]
 simp only [evv, e1]
theorem impl_LowerText_c (s : Bs) (hs : s.length <= 1000000000) : qc id_impl_LowerText [.str s] = some (.str (lowT s)) := by
 suffices h : Gets (cv id_impl_LowerText [.str s] []) fun r => r.1 = .str (lowT s) by
  obtain ⟨⟨v, H⟩, e, h⟩ := h
  have h : v = _ := h
  subst h
  exact qc_of e (by simp only [evv]) rfl
 rw [impl_LowerText_eq]
 simp only [evv, s2b_c, cB_len, List.nil_append]
 refine Gets.loop2 (I := fun n st H => ∃ i : Nat, n = s.length - i /\ i <= s.length /\ st = [.obs 0 0 s.length 1, .obs 0 0 s.length 1, .int .i64 (s.length : Nat), .int .i64 (i : Nat)] /\ H[0]? = some (cB (lowI s i)))
  (P := fun m vs H => m = 0 /\ vs = [.obs 0 0 s.length 1] /\ H[0]? = some (cB (lowT s))) (n := s.length) ?_ ⟨0, by omega, by omega, rfl, by simp [lowI]⟩ ?_
 ·rintro n st H ⟨i, rfl, hi, rfl, hk⟩
  rw [impl_LowerText_l3_eq]
  by_cases hlt : i < s.length
  ·have ho := ob_idx 0 0 s.length 1 .i64 i hlt
   have hl := ld_c (g := globB) (i := i) hk (by rw [lowI_len]; exact hlt)
   rw [lowI_get s i hlt] at hl
   have e2 : vBinV (.int .i64) .add (.int .i64 (i : Int)) (.int .i64 1) = some (.int .i64 ((i + 1 : Nat) : Int)) := n_addN _ i 1 (by omega)
   have hst := st_c (i := i) (lowB s[i]) hk (by rw [lowI_len]; exact hlt)
   rw [lowI_step s i hlt] at hst
   simp only [Nat.zero_add, Nat.mul_one] at ho
   have hself : (lowI s i).set i s[i] = lowI s i := by
    have h := lowI_get s i hlt
    rw [<- h]
    exact List.set_getElem_self _
   have stay : lowB s[i] = s[i] -> H[0]? = some (cB (lowI s (i + 1))) := fun hb => by
    rw [hk, <- lowI_step s i hlt, hb, hself]
   by_cases h1 : (s[i].toNat : Int) ≥ 65
   ·by_cases h2 : (s[i].toNat : Int) <= 90
    ·have e3 := n_add8 (.int .u8) (s[i].toNat : Int) 32 (by omega) (by omega)
     rw [<- lowB_nat h1 h2] at e3
     simp only [evv, ho, hl, h1, h2, e3, hst, e2, show ((i : Int) < (s.length : Int)) from by omega]
     exact ⟨_, rfl, .inr ⟨rfl, s.length - (i + 1), by omega, i + 1, rfl, by omega, rfl, by rw [List.getElem?_set, if_pos rfl, if_pos (List.getElem?_eq_some_iff.1 hk).1]⟩⟩
    ·simp only [evv, ho, hl, h1, h2, e2, show ((i : Int) < (s.length : Int)) from by omega]
     exact ⟨_, rfl, .inr ⟨rfl, s.length - (i + 1), by omega, i + 1, rfl, by omega, rfl, stay (lowB_no (by omega))⟩⟩
   ·simp only [evv, ho, hl, h1, e2, show ((i : Int) < (s.length : Int)) from by omega]
    exact ⟨_, rfl, .inr ⟨rfl, s.length - (i + 1), by omega, i + 1, rfl, by omega, rfl, stay (lowB_no (by omega))⟩⟩
  ·have : i = s.length := by omega
   subst this
   simp only [evv, show ¬ ((s.length : Int) < (s.length : Int)) from by omega]
   exact ⟨_, rfl, .inl ⟨0, rfl, rfl, rfl, by rw [hk, lowI_all]⟩⟩
 rintro _ _ H ⟨rfl, rfl, hk⟩
 have hb := b2s_c hk
 have hl : (lowT s).length = s.length := by simp [lowT]
 rw [hl] at hb
 simp only [evv, hb]
 exact Gets.here rfl
def chN (m : Mail) : Int := if mailT m 1 30 = true then (hopsN m.lines : Nat) else 0
theorem DrawSpeakMail_g (xs : Bs) : Gets2 (cv id_spec_DrawSpeakMail [.sl false (vB xs)] []) (fun v H' => ∃ m, v = .agg (cO m) /\ TnM m) := by
 refine Gets2.of ?_
 rw [spec_DrawSpeakMail_eq]
 refine Open_g.bind ?_
 rintro _ H0 ⟨rfl, R0⟩
 simp only [evv]
 refine (DrawMail_g R0 (by omega)).bind ?_
 rintro _ H1 ⟨a, rfl, ha, hal, R1⟩
 have w1 := WrongMail_g (m := a) R1 (by omega) ha (by omega)
 simp only [cM_e] at w1
 simp only [evv, cO_e]
 refine w1.bind ?_
 rintro _ H2 ⟨b, rfl, hb, hbl, R2⟩
 simp only [evv, cO_e]
 exact Gets.here ⟨b, rfl, hb⟩
end Go.Proofs.YtpmpggihngmnoaaGreatDoor.Q

/- Contracts: a script that says lines. -/
import Derived.Test.YtpmpggihngmnoaaGreatDoorScriptSayCd0scriptZ
namespace Go.Proofs.YtpmpggihngmnoaaGreatDoor.Q
open Go Go.AM
set_option linter.unusedSimpArgs false
set_option linter.unusedVariables false
set_option linter.unusedSectionVars false
def sayW : Bs := [115, 97, 121, 32]
def sayOut (n : Int) : Bs := if n = 0 then [45, 10] else replyText n ++ [10]
theorem replyText_len (n : Int) : (replyText n).length <= 13 := by
 unfold replyText
 iterate 8
  split
  ·simp
 simp
theorem sayOut_len (n : Int) : (sayOut n).length <= 14 := by
 unfold sayOut
 split
 ·simp
 ·have := replyText_len n; simp; omega
theorem g_ld6 (b a0 a1 a2 a3 a4 a5 z0 z1 z2 z3 z4 z5 z6 : V) : ldO globB false true 6 (.ptr 0 1) [[b, a0, a1, a2, a3, a4, a5, z0, z1, z2, z3, z4, z5, z6]] = some (.agg [strip a0, strip a1, strip a2, strip a3, strip a4, strip a5], [[b, a0, a1, a2, a3, a4, a5, z0, z1, z2, z3, z4, z5, z6]]) := by exact id rfl
theorem g_st6 (b a0 a1 a2 a3 a4 a5 z0 z1 z2 z3 z4 z5 z6 c0 c1 c2 c3 c4 c5 : V) : stO (.ptr 0 1) [c0, c1, c2, c3, c4, c5] [[b, a0, a1, a2, a3, a4, a5, z0, z1, z2, z3, z4, z5, z6]] = some [[b, c0, c1, c2, c3, c4, c5, z0, z1, z2, z3, z4, z5, z6]] := by exact id rfl
theorem g_ld1 (b a0 a1 a2 a3 a4 a5 z0 z1 z2 z3 z4 z5 z6 : V) : ldO globB false false 1 (.ptr 0 (1 + 5)) [[b, a0, a1, a2, a3, a4, a5, z0, z1, z2, z3, z4, z5, z6]] = some (strip a5, [[b, a0, a1, a2, a3, a4, a5, z0, z1, z2, z3, z4, z5, z6]]) := by exact id rfl
theorem gate_sayLine_c {n : Nat} (b : V) (s : Session) (d : Dt) (line : Bs) (hs : SzS n s) (hn : n + 1 <= 1049600) (hl : line.length <= 1049600) (hb : sayB s line = true) :
 cv id_impl_gate_sayLine [.ptr 0 0, .str line] [cG b (cSo s) d] = some (.str (sayOut (sayN s line)), [cG b (cSo (sayS s line)) d]) := by
 have f := impl_SayLine_c s line hs hn hl
 rw [hb] at f
 simp only [cS_e, cSo_e] at f
 have u := impl_ReplyText_c (sayN s line)
 have t := t_add .str (replyText (sayN s line)) [10] (by have := replyText_len (sayN s line); simp; omega)
 rw [impl_gate_sayLine_eq]
 unfold sayOut
 by_cases h0 : sayN s line = 0
 ·rw [h0] at f ⊢
  simp only [cG, cSo_e, cD_e, app_cons', app_nil', g_ld6, g_st6, List.getD_cons_zero, List.getD_cons_succ, evv, vO_strip, f]
 ·simp only [cG, cSo_e, cD_e, app_cons', app_nil', g_ld6, g_st6, evv, vO_strip, f, u, t, h0]
theorem gate_say_c {n : Nat} (b : V) (s : Session) (d : Dt) (line : Bs) (hs : SzS n s) (hn : n + 1 <= 1049600) (hl : line.length <= 1049600) (hb : sayB s line = true) :
 cv id_impl_gate_line [.ptr 0 0, .str (sayW ++ line)] [cG b (cSo s) d] = some (.str (sayOut (sayN s line)), [cG b (cSo (sayS s line)) d]) := by
 have f := gate_sayLine_c b s d line hs hn hl hb
 have e0 := Cut_c (sayW ++ line) 32 (by simp [sayW]; omega)
 have hw : sayW ++ line = [115, 97, 121] ++ [32] ++ line := rfl
 obtain ⟨q1, q2⟩ := cut_app (c := 32) (a := [115, 97, 121]) (z := line) (by decide)
 rw [hw] at e0 ⊢
 rw [q1, q2, decide_eq_true (by simp)] at e0
 rw [impl_gate_line_eq]
 simp only [List.cons_append, List.nil_append] at e0 ⊢
 simp only [evv, e0, f]
def sayO : Session -> List Bs -> Bs
 | _, [] => []
 | s, l :: ls => sayOut (sayN s l) ++ sayO (sayS s l) ls
theorem sayO_len : ∀ (ls : List Bs) (s : Session), (sayO s ls).length <= 14 * ls.length
 | [], _ => by simp [sayO]
 | l :: ls, s => by
   have h1 := sayO_len ls (sayS s l)
   have h2 := sayOut_len (sayN s l)
   simp only [sayO, List.length_append, List.length_cons]
   omega
theorem say_next {s : Session} {l : Bs} (hv : SOk s) (hb : okB s l = true) : sayB s l = true /\ sayS s l = (sayF s l).1 /\ sayN s l = (sayF s l).2 := by
 have h1 : sayB s l = true := by
  show (sessT s && okB s l) = true
  rw [hb, (sOk_iff s).2 hv]; rfl
 unfold sayS sayN
 rw [if_pos h1, if_pos h1]
 exact ⟨h1, rfl, rfl⟩
theorem say_steps (b : V) (d : Dt) : ∀ (ls : List Bs) (n : Nat) (s t : Session) (cs ds : List Int), SOk s -> SzS n s -> n + ls.length <= 1000000 -> (∀ l ∈ ls, l.length <= n) -> runF s cs ls = some (t, ds) →
 Steps (ls.map fun l => sayW ++ l) [cG b (cSo s) d] (sayO s ls) [cG b (cSo t) d]
 | [], n, s, t, cs, ds, hv, hs, hn, hl, h => by
   simp only [runF, Option.some.injEq, Prod.mk.injEq] at h
   rw [<- h.1]
   exact .nil _
 | l :: ls, n, s, t, cs, ds, hv, hs, hn, hl, h => by
   simp only [runF] at h
   split at h
   ·rename_i hb
    obtain ⟨h1, h2, h3⟩ := say_next hv hb
    have hll := hl l (by simp)
    simp only [List.length_cons] at hn
    have g := gate_say_c b s d l hs (by omega) (by omega) h1
    have hs1 := sayF_sz (line := l) hs hll
    have ih := say_steps b d ls (n + 1) (sayS s l) t _ ds (by rw [h2]; exact hv.next hb) (by rw [h2]; exact hs1) (by omega) (fun q hq => by have := hl q (by simp [hq]); omega) (by rw [h2]; exact h)
    exact .step (by simp [sayW]) g ih
   ·cases h
def sayTx (ls : List Bs) : Bs := (ls.map fun l => sayW ++ l ++ [10]).flatten
theorem splitB_line {a z : Bs} {c : UInt8} (h : c ∉ a) : splitB c (a ++ [c] ++ z) = a :: splitB c z := by
 obtain ⟨h1, h2⟩ := cut_app (z := z) h
 have hm : c ∈ a ++ [c] ++ z := by simp
 rw [splitB_cut c _ hm]
 unfold cutA at h1
 unfold cutZ at h2
 simp only [hm, if_true] at h1 h2
 rw [h1, h2]
theorem say_split {z : Bs} : ∀ {ls : List Bs}, (∀ l ∈ ls, (10 : UInt8) ∉ l) -> splitB 10 (sayTx ls ++ z) = (ls.map fun l => sayW ++ l) ++ splitB 10 z
 | [], _ => rfl
 | l :: ls, h => by
   have ih := say_split (z := z) (ls := ls) (fun q hq => h q (by simp [hq]))
   have e : sayTx (l :: ls) ++ z = (sayW ++ l) ++ [10] ++ (sayTx ls ++ z) := by simp [sayTx]
   rw [e, splitB_line, ih]
   ·rfl
   ·have := h l (by simp)
    simp only [List.mem_append, not_or]
    exact ⟨by decide, this⟩
theorem text_no10 {l : Bs} (h : textT l = true) : (10 : UInt8) ∉ l := by
 intro hm
 unfold textT at h
 simp only [Bool.and_eq_true, Bool.not_eq_true', List.any_eq_false] at h
 exact h.1 10 hm (by decide)
theorem text_len {l : Bs} (h : textT l = true) : l.length <= 200 := by
 unfold textT at h
 simp only [Bool.and_eq_true, decide_eq_true_eq] at h
 exact h.2
theorem sayTx_len : ∀ {ls : List Bs}, (∀ l ∈ ls, l.length <= 200) -> (sayTx ls).length <= 205 * ls.length
 | [], _ => by simp [sayTx]
 | l :: ls, h => by
   have h1 := h l (by simp)
   have h2 := sayTx_len (ls := ls) (fun q hq => h q (by simp [hq]))
   have e : sayTx (l :: ls) = (sayW ++ l ++ [10]) ++ sayTx ls := by simp [sayTx]
   rw [e]
   simp only [List.length_append, List.length_cons, List.length_nil, sayW]
   omega
theorem runF_text : ∀ {ls : List Bs} {s t : Session} {cs ds : List Int}, runF s cs ls = some (t, ds) -> ∀ l ∈ ls, textT l = true
 | [], s, t, cs, ds, h, l, hl => by cases hl
 | q :: ls, s, t, cs, ds, h, l, hl => by
   simp only [runF] at h
   split at h
   ·rename_i hb
    rcases List.mem_cons.1 hl with rfl | hl
    ·simp only [okB, Bool.and_eq_true] at hb
     exact hb.2
    ·exact runF_text h l hl
   ·cases h
theorem done_c (b : V) (s : Session) (d : Dt) (hd : s.done.length <= 1000) :
 cv id_impl_gate_line [.ptr 0 0, .str [100, 111, 110, 101]] [cG b (cSo s) d] = some (.str ([100, 111, 110, 101, 32] ++ decT s.done.length 1 ++ [10]), [cG b (cSo s) d]) := by
 have e0 := Cut_c [100, 111, 110, 101] 32 (by simp)
 have h1 : cutA 32 [100, 111, 110, 101] = [100, 111, 110, 101] := by decide
 have h2 : cutZ 32 [100, 111, 110, 101] = [] := by decide
 rw [h1, h2, decide_eq_false (by decide)] at e0
 have e1 : qc id_impl_decimal [.int .i64 (s.done.length : Nat), .int .i64 1] = _ := decimal_c s.done.length 1 (by omega) (by omega)
 have w := decT_len s.done.length 1
 have t1 := t_add .str [100, 111, 110, 101, 32] (decT s.done.length 1) (by simp; omega)
 have t2 := t_add .str ([100, 111, 110, 101, 32] ++ decT s.done.length 1) [10] (by simp; omega)
 have hvl : (vR eM s.done).length = s.done.length := by simp [vR]
 have n1 : ¬ (([100, 111, 110, 101] : Bs) = [115, 97, 121]) := by decide
 have n2 : ¬ (([100, 111, 110, 101] : Bs) = [111, 112, 101, 110]) := by decide
 have n3 : ¬ (([100, 111, 110, 101] : Bs) = [99, 108, 101, 97, 114]) := by decide
 have n4 : ¬ (([100, 111, 110, 101] : Bs) = [112, 97, 115, 115]) := by decide
 have n5 : ¬ (([100, 111, 110, 101] : Bs) = [104, 101, 108, 100]) := by decide
 have hw : cv id_impl_gate_wordLine [.ptr 0 0, .str [100, 111, 110, 101]] [cG b (cSo s) d] = some (.str ([100, 111, 110, 101, 32] ++ decT s.done.length 1 ++ [10]), [cG b (cSo s) d]) := by
  rw [impl_gate_wordLine_eq]
  simp only [List.cons_append, List.nil_append] at t1 t2 ⊢
  simp only [cG, cSo_e, cD_e, app_cons', app_nil', g_ld1, evv, decide_eq_true_eq, n1, n2, n3, n4, n5, if_false, vO_strip, hvl, e1, t1, t2]
 rw [impl_gate_line_eq]
 simp only [evv, e0, hw]
end Go.Proofs.YtpmpggihngmnoaaGreatDoor.Q

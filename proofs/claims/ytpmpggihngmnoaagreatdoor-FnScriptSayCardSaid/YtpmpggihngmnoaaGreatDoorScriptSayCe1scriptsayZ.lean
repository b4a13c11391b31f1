/- The law: scripts say lines. -/
import Derived.Test.YtpmpggihngmnoaaGreatDoorScriptSayCe0sayZ
namespace Go.Proofs.YtpmpggihngmnoaaGreatDoor.Q
open Go Go.AM
set_option linter.unusedSimpArgs false
set_option linter.unusedVariables false
set_option linter.unusedSectionVars false
theorem ld_whole {G : VH} {a0 a1 a2 a3 a4 a5 : V} : ldO globB false true 6 (.ptr G.length 0) (G ++ [[a0, a1, a2, a3, a4, a5]]) = some (.agg [strip a0, strip a1, strip a2, strip a3, strip a4, strip a5], G ++ [[a0, a1, a2, a3, a4, a5]]) := by
 have e3 : (G ++ [[a0, a1, a2, a3, a4, a5]])[G.length]? = some [a0, a1, a2, a3, a4, a5] := get_last G _
 have e : gcut [a0, a1, a2, a3, a4, a5] 0 6 = some [a0, a1, a2, a3, a4, a5] := rfl
 simp only [ldO, e3, loadC, e, Option.bind_some, Option.map_some, set_end]
 rfl
theorem sayTx_app (a b : List Bs) : sayTx (a ++ b) = sayTx a ++ sayTx b := by simp [sayTx]
theorem FnScriptSay_v (u : V) (h : HasArg (.sl (.int .u8)) u) : ∃ H, cv id_laws_FnScriptSay [u] [] = some (.bool true, H) := by
 obtain ⟨xs, rfl⟩ := argB h
 suffices hg : Gets (cv id_laws_FnScriptSay [.sl false (vB xs)] []) fun r => r.1 = .bool true by
  obtain ⟨⟨v, H⟩, e, h⟩ := hg
  cases h
  exact ⟨H, e⟩
 rw [laws_FnScriptSay_eq]
 simp only [evv, decide_eq_true_eq]
 refine Gets.ite (fun h => ?_) (fun h => ?_)
 ·exact Gets.here rfl
 ·refine (DrawSpeakMail_g xs).bind ?_
  rintro _ H1 ⟨m, rfl, hm⟩
  have s1 := impl_SpeakMail_c m hm.sm
  have s2 := spec_SpeakMail_c m hm.sm
  obtain ⟨hL, hLl⟩ := spokeL_len hm
  have q1 := mwTexts_c (spokeL m) (spokeL m) (by omega)
  simp only [cM_e] at s1 s2
  by_cases hb : spokeB m = true
  ·have hb2 := hb
   unfold spokeB at hb2
   rw [Bool.and_eq_true] at hb2
   have hmo := (mOk_iff m 1 30).1 hb2.1
   have hlen : (spokeL m).length <= 50 := by
    have h1 := hmo.2.2.1
    have h2 := hmo.2.2.2.2.1
    unfold spokeL
    rw [if_pos hb]
    simp [headL]; omega
   have hr : runF noS [] ([72, 69, 76, 79, 32, 121] :: spokeL m) = some (⟨1, [121], noM, [m]⟩, [250] ++ spokeC m) := by
    have hF : sayF noS [72, 69, 76, 79, 32, 121] = (⟨1, [121], noM, []⟩, 250) := rfl
    simp only [runF]
    rw [if_pos (ok_st (by show (0 : Int) ≠ 5; decide) (by decide)), hF]
    simp only [show ¬ ((250 : Int) = 0) from by decide, if_false]
    rw [run_spoke hb (by simp)]
    simp
   have a1 : appV false 1 16 [[.str [72, 69, 76, 79, 32, 121]]] (.sl true (vT (spokeL m))) = some (.sl true (vT ([72, 69, 76, 79, 32, 121] :: spokeL m))) := by
    have := v_app 1 16 (vT [[72, 69, 76, 79, 32, 121]]) true (vT (spokeL m)) (vT_esz _) (vT_esz _) (by rw [vT_len, vT_len]; simp; omega)
    rw [vT_app] at this
    exact this
   have hal : ([72, 69, 76, 79, 32, 121] :: spokeL m).length <= 51 := by simp; omega
   generalize hall : ([72, 69, 76, 79, 32, 121] : Bs) :: spokeL m = all at *
   generalize ht : (⟨1, [121], noM, [m]⟩ : Session) = t at *
   generalize hds : [250] ++ spokeC m = ds at *
   have htx := runF_text hr
   have hno : ∀ l ∈ all, (10 : UInt8) ∉ l := fun l hl => text_no10 (htx l hl)
   have htl : ∀ l ∈ all, l.length <= 200 := fun l hl => text_len (htx l hl)
   have hv0 : SOk noS := (sOk_iff noS).1 noS_ok
   have hT := sayTx_len htl
   have hO := sayO_len all noS
   have st1 := say_steps (.sl true []) dt0 all 200 noS t [] ds hv0 (SzS.none _) (by omega) htl hr
   have hdone : t.done.length = 1 := by rw [<- ht]; rfl
   have g2 := done_c (.sl true []) t dt0 (by omega)
   rw [hdone] at g2
   have hsp : splitB 10 (sayTx all ++ [100, 111, 110, 101, 10]) = (all.map fun l => sayW ++ l) ++ [[100, 111, 110, 101], []] := by
    rw [say_split hno]
    congr 1
   have fin := RunScript_c hsp (by simp; omega) (by simp; omega) (st1.app (.step (by simp) g2 (.skip (.nil _)))) (by simp [decT_len]; have := decT_len 1 1; omega)
   have hd1 : decT 1 1 = [49] := by decide
   rw [hd1] at fin
   have fin' : qc id_impl_RunScript [.str (sayTx all ++ [100, 111, 110, 101, 10])] = some (.str (sayO noS all ++ [100, 111, 110, 101, 32, 49, 10])) := fin
   rw [hb] at s1 s2
   simp only [evv, cO_e, s1, s2, q1, a1]
   refine Gets.loop2 (I := fun n st H => ∃ (i : Nat) (s : Session) (cs : List Int) (out : Bs) (a b c d e f : V), n = all.length - i /\ i <= all.length /\ SzS (200 + i) s /\ SOk s /\ runF s cs (all.drop i) = some (t, ds) ∧
    out ++ sayO s (all.drop i) = sayO noS all /\ strip a = .int .i64 s.state /\ strip b = .str s.host /\ strip c = .str s.draft.from_ /\ strip d = .sl false (vT s.draft.to) /\ strip e = .sl false (vT s.draft.lines) /\ strip f = .sl false (vR eM s.done) ∧
    st = [.str (sayTx (all.take i)), .str out, .sl false (vT all), .int .i64 (i : Nat), a, b, c, d, e, f])
    (P := fun q vs H => q = 0 /\ vs = [.str (sayTx all), .str (sayO noS all)]) (n := all.length) ?_ ⟨0, noS, [], [], _, _, _, _, _, _, by omega, by omega, SzS.none _, hv0, hr, rfl, rfl, rfl, rfl, rfl, rfl, rfl, rfl⟩ ?_
   ·rintro n st G ⟨i, s, cs, out, a, b, c, d, e, f, rfl, hi, hs, hv, hrun, hout, ha, hb', hc, hd, he, hf, rfl⟩
    rw [laws_FnScriptSay_l13_eq]
    by_cases hlt : i < all.length
    ·have j1 := vT_idx false all .i64 i hlt
     have e3 : vBinV (.int .i64) .add (.int .i64 (i : Int)) (.int .i64 1) = some (.int .i64 ((i + 1 : Nat) : Int)) := n_addN _ i 1 (by omega)
     have hlm := List.getElem_mem hlt
     have hl200 := htl _ hlm
     have htake : sayTx (all.take (i + 1)) = sayTx (all.take i) ++ [115, 97, 121, 32] ++ all[i] ++ [10] := by
      rw [List.take_succ_eq_append_getElem hlt, sayTx_app]
      simp [sayTx, sayW]
     have htkl : (sayTx (all.take i)).length <= 205 * (all.take i).length := sayTx_len fun l hl => htl l (List.mem_of_mem_take hl)
     have hti : (all.take i).length <= 51 := by simp; omega
     have hol : out.length <= 14 * all.length := by rw [<- hout] at hO; simp at hO; omega
     rw [List.drop_eq_getElem_cons hlt] at hrun hout
     generalize hx : all[i] = l at *
     simp only [runF] at hrun
     split at hrun
     ·rename_i hok
      obtain ⟨g1, g2, g3⟩ := say_next hv hok
      have hsl := impl_SayLine_c s l hs (by omega) (by omega)
      rw [g1] at hsl
      simp only [cS_e, cSo_e] at hsl
      have hst : ∀ v : List V, v.length = 6 -> stO (.ptr G.length 0) v (G ++ [[(.int .i64 0), (.str []), (.str []), (.sl true []), (.sl true []), (.sl true [])]]) = some (G ++ [v]) := fun v hv => by
       rw [st_all (get_last G _) (by rw [hv]; rfl), set_end]
      have hst' := hst [.int .i64 (sayS s l).state, .str (sayS s l).host, .str (sayS s l).draft.from_, .sl true (vT (sayS s l).draft.to), .sl true (vT (sayS s l).draft.lines), .sl true (vO (sayS s l).done)] rfl
      have w1 := t_add .str (sayTx (all.take i)) [115, 97, 121, 32] (by simp; omega)
      have w2 := t_add .str (sayTx (all.take i) ++ [115, 97, 121, 32]) l (by simp; omega)
      have w3 := t_add .str (sayTx (all.take i) ++ [115, 97, 121, 32] ++ l) [10] (by simp; omega)
      have hs1 := sayF_sz (line := l) hs (by omega)
      have hv1 := hv.next hok
      rw [<- g2] at hs1 hv1
      rw [<- g2, <- g3] at hrun
      simp only [sayO] at hout
      by_cases h0 : sayN s l = 0
      ·have w4 := t_add .str out [45, 10] (by simp; omega)
       rw [h0] at hsl
       simp only [evv, j1, e3, ha, hb', hc, hd, he, hf, hsl, hst', ld_whole, vO_strip, w1, w2, w3, w4, show ((i : Int) < (all.length : Int)) from by omega]
       refine Gets.here (.inr ⟨rfl, all.length - (i + 1), by omega, i + 1, sayS s l, _, out ++ [45, 10], .int .i64 (sayS s l).state, .str (sayS s l).host, .str (sayS s l).draft.from_, .sl false (vT (sayS s l).draft.to), .sl false (vT (sayS s l).draft.lines), .sl false (vR eM (sayS s l).done), rfl, by omega, hs1, hv1, hrun, ?_, rfl, rfl, rfl, by simp only [evv], by simp only [evv], by simp only [evv], ?_⟩)
       ·rw [<- hout]
        unfold sayOut
        rw [if_pos h0, List.append_assoc]
       ·rw [htake]
      ·have w4 := t_add .str out (replyText (sayN s l)) (by have := replyText_len (sayN s l); omega)
       have w5 := t_add .str (out ++ replyText (sayN s l)) [10] (by have := replyText_len (sayN s l); simp; omega)
       have u := impl_ReplyText_c (sayN s l)
       simp only [evv, j1, e3, ha, hb', hc, hd, he, hf, hsl, hst', ld_whole, vO_strip, w1, w2, w3, w4, w5, u, h0, show ((i : Int) < (all.length : Int)) from by omega]
       refine Gets.here (.inr ⟨rfl, all.length - (i + 1), by omega, i + 1, sayS s l, _, out ++ replyText (sayN s l) ++ [10], .int .i64 (sayS s l).state, .str (sayS s l).host, .str (sayS s l).draft.from_, .sl false (vT (sayS s l).draft.to), .sl false (vT (sayS s l).draft.lines), .sl false (vR eM (sayS s l).done), rfl, by omega, hs1, hv1, hrun, ?_, rfl, rfl, rfl, by simp only [evv], by simp only [evv], by simp only [evv], ?_⟩)
       ·rw [<- hout]
        unfold sayOut
        rw [if_neg h0]
        simp only [List.append_assoc]
       ·rw [htake]
     ·cases hrun
    ·have : i = all.length := by omega
     subst this
     rw [List.drop_length] at hout
     rw [sayO, List.append_nil] at hout
     subst hout
     simp only [evv, List.take_length, show ¬ ((all.length : Int) < (all.length : Int)) from by omega]
     exact Gets.here (.inl ⟨0, rfl, rfl, rfl⟩)
   rintro _ _ H3 ⟨rfl, rfl⟩
   have z1 := t_add .str (sayTx all) [100, 111, 110, 101, 10] (by simp; omega)
   have z2 := t_add .str (sayO noS all) [100, 111, 110, 101, 32, 49, 10] (by simp; omega)
   simp only [evv, z1, z2, fin']
   exact Gets.here rfl
  ·have hb' : spokeB m = false := by simpa using hb
   rw [hb'] at s1 s2
   simp only [evv, cO_e, s1, s2, q1]
   exact Gets.here rfl
end Go.Proofs.YtpmpggihngmnoaaGreatDoor.Q

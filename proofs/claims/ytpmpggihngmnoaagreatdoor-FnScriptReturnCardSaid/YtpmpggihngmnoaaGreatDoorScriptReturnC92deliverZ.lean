/- Contracts: mails come to mailboxes. -/
import Derived.Test.YtpmpggihngmnoaaGreatDoorScriptReturnC90boxownZ
namespace Go.Proofs.YtpmpggihngmnoaaGreatDoor.Q
open Go Go.AM
set_option linter.unusedSimpArgs false
set_option linter.unusedVariables false
set_option linter.unusedSectionVars false
theorem qco_d {f : FuncId} {H : VH} {vs : List V} (h : dataL vs = true) : qco f H vs = qc f (vs.map strip) := qpcallO_d h
theorem pco_d {f : FuncId} {H : VH} {vs : List V} (h : dataL vs = true) : pco f H vs = pc f (vs.map strip) := pcallO_d h
def HoX (v : V) (H : VH) (l : List Box) : Prop := (l = [] /\ v = .sl true []) ∨ (l ≠ [] /\ ∃ k, v = .obs k 0 l.length 2 /\ H[k]? = some (vOX l).flatten)
theorem HoX.strip {v : V} {H : VH} {l : List Box} (h : HoX v H l) : Go.AM.strip v = (if l = [] then .sl false [] else v) := by
 rcases h with ⟨rfl, rfl⟩ | ⟨hne, k, rfl, _⟩
 ·rfl
 ·rw [if_neg hne]; rfl
theorem HoX.q {v : V} {H : VH} {l : List Box} (h : HoX v H l) (f : FuncId) (us : List V) (ha : dataL us = true) : qco f H (Go.AM.strip v :: us) = qc f (.sl false (vR eX l) :: us.map Go.AM.strip) := by
 rcases h with ⟨rfl, rfl⟩ | ⟨hne, k, rfl, hk⟩
 ·exact qco_d (by simp only [Go.AM.strip, stripLL, dataL, data, dataLL, ha, Bool.and_self])
 ·have h1 : noObsL (Go.AM.strip (.obs k 0 l.length 2) :: us) = false := by simp only [Go.AM.strip, noObsL, noObs, Bool.false_and]
  show qpcallO cv f H _ = _
  rw [qpcallO_o h1]
  have h2 : frD 3 H (.obs k 0 l.length 2) = .sl false (vR eX l) := by
   have := frD_obs 3 hk (vOX_rows l) (vOX_data l)
   rw [vOX_len, vOX_strip] at this
   exact this
  show qpcall cv f (frD 3 H (.obs k 0 l.length 2) :: us.map (frD 3 H)) = _
  rw [h2, map_frD ha]
  rfl
theorem HoX.ne {v : V} {H : VH} {l : List Box} (h : HoX v H l) (hne : l ≠ []) : ∃ k, v = .obs k 0 l.length 2 /\ H[k]? = some (vOX l).flatten := by
 rcases h with ⟨h, _⟩ | ⟨_, h⟩
 ·exact absurd h hne
 ·exact h
section
variable {k i : Nat} {H : VH} {l : List Box} (hk : H[k]? = some (vOX l).flatten) (hi : i < l.length)
include hk hi
theorem box_cell : (vOX l).flatten[i * 2 + 1]? = some (.sl true (vO l[i].mails)) := by
 rw [Go.AM.Rows.get (by omega) (vOX_rows l) (vOX_get l i hi)]; rfl
theorem box_peek (g : Nat -> Option (List V)) : ldO g false false 1 (.ptr k (i * 2 + 1)) H = some (.sl false (vR eM l[i].mails), H) := by
 rw [ld_peek hk (box_cell hk hi)]
 simp only [strip, vO_strip]
theorem box_take (g : Nat -> Option (List V)) : ldO g true false 1 (.ptr k (i * 2 + 1)) H = some (.sl true (vO l[i].mails), H.set k (gseg (vOX l).flatten (i * 2 + 1) [.sl false (vR eM l[i].mails)])) := by
 rw [ld_take hk (box_cell hk hi)]
 simp only [strip, vO_strip]
theorem box_put (ms : List Mail) (w : V) : stO (.ptr k (i * 2 + 1)) [.sl true (vO ms)] (H.set k (gseg (vOX l).flatten (i * 2 + 1) [w])) = some (H.set k (vOX (l.set i ⟨l[i].path, ms⟩)).flatten) := by
 have hf := (vOX_rows l).flat
 rw [vOX_len] at hf
 have hkl := (List.getElem?_eq_some_iff.1 hk).1
 have hcells : gseg (gseg (vOX l).flatten (i * 2 + 1) [w]) (i * 2 + 1) [V.sl true (vO ms)] = (vOX (l.set i ⟨l[i].path, ms⟩)).flatten := by
  have h1 := Go.AM.Rows.set (v := V.sl true (vO ms)) (j := 1) (by omega) (vOX_rows l) (vOX_get l i hi)
  have h2 : gseg (gseg (vOX l).flatten (i * 2 + 1) [w]) (i * 2 + 1) [V.sl true (vO ms)] = gseg (vOX l).flatten (i * 2 + 1) [V.sl true (vO ms)] := gseg_gseg (by omega)
  rw [h2, h1]
  congr 1
  have : (cOx l[i]).set 1 (V.sl true (vO ms)) = cOx ⟨l[i].path, ms⟩ := rfl
  rw [this]
  unfold vOX
  rw [List.map_set]
 have hlen : i * 2 + 1 + [V.sl true (vO ms)].length <= (gseg (vOX l).flatten (i * 2 + 1) [w]).length := by
  simp only [gseg, List.length_append, List.length_take, List.length_drop, List.length_singleton]; omega
 have hset : (H.set k (gseg (vOX l).flatten (i * 2 + 1) [w]))[k]? = some (gseg (vOX l).flatten (i * 2 + 1) [w]) := by simp [hkl]
 rw [so_seg hset hlen, hcells, List.set_set]
end
def put1 (m : Mail) (to : Bs) : Mail := ⟨m.from_, [to], m.lines⟩
def dl1 (l : List Box) (m : Mail) (to : Bs) : List Box × Int :=
 if l.any (isP to) = true then
  if (boxAt l (l.findIdx (isP to))).mails.length = 4 then (l, 452)
  else (l.set (l.findIdx (isP to)) ⟨(boxAt l (l.findIdx (isP to))).path, (boxAt l (l.findIdx (isP to))).mails ++ [put1 m to]⟩, 250)
 else (l, 550)
def dlS (m : Mail) (s : List Box × List Int) (to : Bs) : List Box × List Int := ((dl1 s.1 m to).1, s.2 ++ [(dl1 s.1 m to).2])
def dlN (m : Mail) (tos : List Bs) (s : List Box × List Int) : List Box × List Int := tos.foldl (dlS m) s
def dlvR (l : List Box) (m : Mail) : List Box × List Int := if boxesT l && mailT m 1 30 then dlN m m.to (l, []) else ([], [])
def dlvB (l : List Box) (m : Mail) : Bool := boxesT l && mailT m 1 30
theorem vI_app (k : IntKind) (a b : List Int) : vI k a ++ vI k b = vI k (a ++ b) := by simp [vI]
theorem ints_app {l : List Int} (n : Int) (h : l.length + 1 <= 4000000) (H : VH) : appO false false 1 8 (.sl true (vI .i64 l)) (.sl true [[.int .i64 n]]) H = some (.sl true (vI .i64 (l ++ [n])), H) := by
 have := v_app 1 8 (vI .i64 l) true (vI .i64 [n]) (vI_esz _ _) (vI_esz _ _) (by rw [vI_len, vI_len]; simp; omega)
 rw [vI_app] at this
 rw [appO_sl _ _ _ _ _ _ _ _ (.inl rfl)]
 show ((ownV (.sl true (vI .i64 l))).bind fun xs => (appV false 1 8 xs (.sl true (vI .i64 [n]))).bind fun r => some (r, H)) = _
 simp only [ownV, Option.bind_some, this]
theorem mails_appO {l : List Mail} (m : Mail) (h : l.length + 1 <= 2000000) (H : VH) : appO false false 3 64 (.sl true (vO l)) (.sl true [[.str m.from_, .sl true (vT m.to), .sl true (vT m.lines)]]) H = some (.sl true (vO (l ++ [m])), H) := by
 have := mails_app m h
 rw [appO_sl _ _ _ _ _ _ _ _ (.inl rfl)]
 simp only [ownV, Option.bind_some, this]
theorem dl1_len (l : List Box) (m : Mail) (to : Bs) : (dl1 l m to).1.length = l.length := by
 unfold dl1
 split
 ·split <;> simp
 ·rfl
theorem findIdx_isP {l : List Box} {p : Bs} (h : l.any (isP p) = true) : l.findIdx (isP p) < l.length := by
 rw [List.any_eq_true] at h
 exact List.findIdx_lt_length_of_exists h
theorem boxAt_mem {l : List Box} {i : Nat} (h : i < l.length) : boxAt l i ∈ l := by rw [boxAt_get h]; exact List.getElem_mem h
def OkX (n : Nat) (l : List Box) : Prop := l.length <= 1049600 /\ ∀ b ∈ l, b.path.length <= 1049600 /\ b.mails.length <= n /\ ∀ m ∈ b.mails, SmM m
theorem OkX.sm {n : Nat} {l : List Box} (h : OkX n l) (hn : n <= 1049600) : SmXs l := ⟨by have := h.1; omega, fun b hb => ⟨by have := (h.2 b hb).1; omega, by have := (h.2 b hb).2.1; omega, (h.2 b hb).2.2⟩⟩
theorem OkX.le {n k : Nat} {l : List Box} (h : OkX n l) (hn : n <= k) : OkX k l := ⟨h.1, fun b hb => ⟨(h.2 b hb).1, by have := (h.2 b hb).2.1; omega, (h.2 b hb).2.2⟩⟩
theorem okx_dl1 {n : Nat} {l : List Box} {m : Mail} {to : Bs} (h : OkX n l) (hm : SmM m) (ht : to.length <= 1049600) : OkX (n + 1) (dl1 l m to).1 := by
 refine ⟨by rw [dl1_len]; exact h.1, fun b hb => ?_⟩
 unfold dl1 at hb
 split at hb
 ·rename_i ha
  have hlt := findIdx_isP ha
  split at hb
  ·have := h.2 b hb; exact ⟨this.1, by omega, this.2.2⟩
  ·rcases List.mem_or_eq_of_mem_set hb with hb | rfl
   ·have := h.2 b hb; exact ⟨this.1, by omega, this.2.2⟩
   ·have := h.2 _ (boxAt_mem hlt)
    refine ⟨this.1, by simp; omega, fun x hx => ?_⟩
    rcases List.mem_append.1 hx with hx | hx
    ·exact this.2.2 x hx
    ·simp at hx; subst hx
     exact ⟨hm.1, ⟨by simp [put1], by simp [put1]; omega⟩, hm.2.2⟩
 ·have := h.2 b hb; exact ⟨this.1, by omega, this.2.2⟩
theorem dlN_snoc (m : Mail) (tos : List Bs) (t : Bs) (s : List Box × List Int) : dlN m (tos ++ [t]) s = dlS m (dlN m tos s) t := by simp [dlN, List.foldl_append]
theorem dlN_len (m : Mail) : ∀ (tos : List Bs) (s : List Box × List Int), (dlN m tos s).2.length = s.2.length + tos.length /\ (dlN m tos s).1.length = s.1.length
 | [], s => by simp [dlN]
 | t :: tos, s => by
   have := dlN_len m tos (dlS m s t)
   simp only [dlN, List.foldl_cons] at this ⊢
   rw [this.1, this.2]
   simp [dlS, dl1_len]; omega
theorem okx_dlN {m : Mail} (hm : SmM m) : ∀ {tos : List Bs} {n : Nat} {s : List Box × List Int}, OkX n s.1 -> (∀ t ∈ tos, t.length <= 1049600) -> OkX (n + tos.length) (dlN m tos s).1
 | [], n, s, h, _ => by simpa [dlN] using h
 | t :: tos, n, s, h, ht => by
   have h1 := okx_dl1 (to := t) h hm (ht t (by simp))
   have := okx_dlN (tos := tos) (s := dlS m s t) hm h1 (fun u hu => ht u (by simp [hu]))
   simp only [dlN, List.foldl_cons, List.length_cons] at this ⊢
   exact this.le (by omega)
theorem mailT_to {m : Mail} {a b : Int} (h : mailT m a b = true) : m.to.length <= 10 := by
 unfold mailT at h
 simp only [Bool.and_eq_true, decide_eq_true_eq] at h
 omega
theorem boxesT_ok {l : List Box} (h : SmXs l) (hb : boxesT l = true) (hs : ∀ b ∈ l, b.path.length <= 1049600) : OkX 4 l := by
 unfold boxesT at hb
 rw [Bool.and_eq_true, decide_eq_true_eq, Bool.not_eq_true'] at hb
 refine ⟨by omega, fun b hbm => ⟨hs b hbm, ?_, (h.2 b hbm).2.2⟩⟩
 obtain ⟨i, hi, rfl⟩ := List.getElem_of_mem hbm
 have := List.any_eq_false.1 hb.2 i (by simpa using hi)
 unfold badX at this
 rw [boxAt_get hi] at this
 simp only [Bool.or_eq_true, not_or, decide_eq_true_eq] at this
 omega
end Go.Proofs.YtpmpggihngmnoaaGreatDoor.Q

/- Contracts: draws of mails, of which only the sizes are told. -/
import Derived.Test.YtpmpggihngmnoaaGreatDoorScriptReturnC30exactZ
import Derived.Test.YtpmpggihngmnoaaGreatDoorFnScriptReturnK5
namespace Go.Proofs.YtpmpggihngmnoaaGreatDoor.Q
open Go Go.AM
set_option linter.unusedSimpArgs false
set_option linter.unusedVariables false
set_option linter.unusedSectionVars false
def TnT (n : Nat) (l : List Bs) : Prop := l.length <= n /\ ∀ s ∈ l, s.length <= 200
def TnM (m : Mail) : Prop := m.from_.length <= 200 /\ TnT 100 m.to /\ TnT 100 m.lines
def cO (m : Mail) : List V := [.str m.from_, .sl true (vT m.to), .sl true (vT m.lines)]
theorem cO_e (m : Mail) : cO m = [.str m.from_, .sl true (vT m.to), .sl true (vT m.lines)] := by exact id rfl
theorem TnT.add {n : Nat} {l : List Bs} {s : Bs} (h : TnT n l) (hs : s.length <= 200) : TnT (n + 1) (l ++ [s]) := by
 refine ⟨by simp; exact h.1, fun t ht => ?_⟩
 rcases List.mem_append.1 ht with h1 | h1
 ·exact h.2 t h1
 ·simp at h1; subst h1; exact hs
theorem TnT.le {n m : Nat} {l : List Bs} (h : TnT n l) (hn : n <= m) : TnT m l := ⟨by have := h.1; omega, h.2⟩
theorem TnT.none (n : Nat) : TnT n [] := ⟨by simp, by simp⟩
theorem TnT.one {n : Nat} {s : Bs} (hn : 1 <= n) (hs : s.length <= 200) : TnT n [s] := ⟨by simpa using hn, by simpa using hs⟩
theorem TnT.sm {n : Nat} {l : List Bs} (h : TnT n l) (hn : n <= 1000000) : SmT l := ⟨by have := h.1; omega, fun s hs => by have := h.2 s hs; omega⟩
theorem TnM.sm {m : Mail} (h : TnM m) : SmM m := ⟨by have := h.1; omega, h.2.1.sm (by omega), h.2.2.sm (by omega)⟩
theorem app1 {n : Nat} {l : List Bs} (h : TnT n l) (hn : n <= 1000000) (s : Bs) : appV false 1 16 (vT l) (.sl true [[.str s]]) = some (.sl true (vT (l ++ [s]))) := by
 have := v_app 1 16 (vT l) true (vT [s]) (vT_esz l) (vT_esz [s]) (by rw [vT_len, vT_len]; have := h.1; simp; omega)
 rw [vT_app] at this
 exact this
theorem appA {n m : Nat} {l k : List Bs} {o : Bool} (h : TnT n l) (hk : TnT m k) (hn : n + m <= 1000000) : appV false 1 16 (vT l) (.sl o (vT k)) = some (.sl true (vT (l ++ k))) := by
 have := v_app 1 16 (vT l) o (vT k) (vT_esz l) (vT_esz k) (by rw [vT_len, vT_len]; have := h.1; have := hk.1; omega)
 rw [vT_app] at this
 exact this
theorem l10Mail_c (m : Mail) (h : TnM m) : pc id_spec_l10Mail [.agg (cM m)] = some (.agg (cO m)) := by
 have a1 : appV false 1 16 [] (.sl false (vT m.to)) = some (.sl true (vT ([] ++ m.to))) := appA (o := false) (TnT.none 0) h.2.1 (by omega)
 have a2 : appV false 1 16 [] (.sl false (vT m.lines)) = some (.sl true (vT ([] ++ m.lines))) := appA (o := false) (TnT.none 0) h.2.2 (by omega)
 rw [List.nil_append] at a1 a2
 refine pc_of (H := []) ?_ (by simp only [evv]) (by simp only [evv, cO_e])
 show cv _ _ _ = _
 rw [spec_l10Mail_eq]
 simp only [evv, a1, a2, cO_e]
end Go.Proofs.YtpmpggihngmnoaaGreatDoor.Q

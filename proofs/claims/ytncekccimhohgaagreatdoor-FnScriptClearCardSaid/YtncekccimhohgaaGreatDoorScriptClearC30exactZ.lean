/- Contracts: sizes, copies and comparisons of exact statements. -/
import Derived.Test.YtncekccimhohgaaGreatDoorScriptClearC16specwordsZ
import Derived.Test.YtncekccimhohgaaGreatDoorFnScriptClearK5
namespace Go.Proofs.YtncekccimhohgaaGreatDoor.Q
open Go Go.AM
set_option linter.unusedSimpArgs false
set_option linter.unusedVariables false
set_option linter.unusedSectionVars false
def szS (s : Bs) (n : Int) : Int := if n - s.length < 0 then -1 else n - s.length
def szB (s : Bs) (k : Int) : Int := k - s.length
theorem szB_le (s : Bs) (k : Int) : szB s k <= k := by unfold szB; omega
def szT (l : List Bs) (n : Int) : Int := if n - l.length < 0 then -1 else szGo szB l (n - l.length)
def szM (m : Mail) (n : Int) : Int := if n - m.from_.length < 0 then -1 else if szT m.to (n - m.from_.length) < 0 then -1 else if szT m.lines (szT m.to (n - m.from_.length)) < 0 then -1 else szT m.lines (szT m.to (n - m.from_.length))
def szMs (l : List Mail) (n : Int) : Int := if n - l.length < 0 then -1 else szGo szM l (n - l.length)
theorem szT_le {l : List Bs} {n : Int} (h : 0 <= n) : szT l n <= n := by
 unfold szT
 split
 ·omega
 ·have := szGo_le (f := szB) (l := l) (fun a _ k _ => szB_le a k) (n := n - l.length) (by omega)
  omega
theorem szT_ok {l : List Bs} {n : Int} (h : 0 <= n) (h2 : 0 <= szT l n) : (l.length : Int) <= n /\ ∀ s ∈ l, (s.length : Int) <= n := by
 unfold szT at h2
 split at h2
 ·omega
 ·refine ⟨by omega, fun s hs => ?_⟩
  obtain ⟨k, h3, h4, h5⟩ := szGo_mem (f := szB) (l := l) (fun a _ k _ => szB_le a k) (n := n - l.length) (by omega) h2 s hs
  unfold szB at h5; omega
def SmT (l : List Bs) : Prop := l.length <= 1049600 /\ ∀ s ∈ l, s.length <= 1049600
def SmM (m : Mail) : Prop := m.from_.length <= 1049600 /\ SmT m.to /\ SmT m.lines
theorem SmT.of {l : List Bs} {n : Int} (h : 0 <= n) (hn : n <= 1049600) (h2 : 0 <= szT l n) : SmT l := by
 obtain ⟨h3, h4⟩ := szT_ok h h2
 exact ⟨by omega, fun s hs => by have := h4 s hs; omega⟩
theorem SmM.of {m : Mail} {n : Int} (h : 0 <= n) (hn : n <= 1049600) (h2 : 0 <= szM m n) : SmM m := by
 unfold szM at h2
 split at h2
 ·omega
 ·split at h2
  ·omega
  ·rename_i h3 h4
   have h5 := szT_le (l := m.to) (n := n - m.from_.length) (by omega)
   split at h2
   ·omega
   ·exact ⟨by omega, SmT.of (n := n - m.from_.length) (by omega) (by omega) (by omega), SmT.of (n := szT m.to (n - m.from_.length)) (by omega) (by omega) h2⟩
def BgT (l : List Bs) : Prop := l.length <= 9223372036854775807 /\ ∀ s ∈ l, s.length <= 9223372036854775807
def BgM (m : Mail) : Prop := m.from_.length <= 9223372036854775807 /\ BgT m.to /\ BgT m.lines
def tyT : Ty := .sl .str
def tyM : Ty := .st [.str, tyT, tyT]
end Go.Proofs.YtncekccimhohgaaGreatDoor.Q

/- Contracts: sessions and mailboxes of exact statements. -/
import Derived.Test.YtpmpggihngmnoaaGreatDoorScriptSayC32drawsZ
namespace Go.Proofs.YtpmpggihngmnoaaGreatDoor.Q
open Go Go.AM
set_option linter.unusedSimpArgs false
set_option linter.unusedVariables false
set_option linter.unusedSectionVars false
def SmMs (l : List Mail) : Prop := l.length <= 1049600 /\ ∀ m ∈ l, SmM m
def SmS (s : Session) : Prop := s.host.length <= 1049600 /\ SmM s.draft /\ SmMs s.done
def SmX (b : Box) : Prop := b.path.length <= 1049600 /\ SmMs b.mails
def SmXs (l : List Box) : Prop := l.length <= 1049600 /\ ∀ m ∈ l, SmX m
def BgMs (l : List Mail) : Prop := l.length <= 9223372036854775807 /\ ∀ m ∈ l, BgM m
def BgS (s : Session) : Prop := s.host.length <= 9223372036854775807 /\ BgM s.draft /\ BgMs s.done
def BgX (b : Box) : Prop := b.path.length <= 9223372036854775807 /\ BgMs b.mails
def BgXs (l : List Box) : Prop := l.length <= 9223372036854775807 /\ ∀ m ∈ l, BgX m
def szSn (s : Session) (n : Int) : Int := if n - s.host.length < 0 then -1 else if szM s.draft (n - s.host.length) < 0 then -1 else if szMs s.done (szM s.draft (n - s.host.length)) < 0 then -1 else szMs s.done (szM s.draft (n - s.host.length))
def szX (b : Box) (n : Int) : Int := if n - b.path.length < 0 then -1 else if szMs b.mails (n - b.path.length) < 0 then -1 else szMs b.mails (n - b.path.length)
def szXs (l : List Box) (n : Int) : Int := if n - l.length < 0 then -1 else szGo szX l (n - l.length)
theorem szMs_le {l : List Mail} {n : Int} (h : 0 <= n) : szMs l n <= n := by
 unfold szMs
 split
 ·omega
 ·have := szGo_le (f := szM) (l := l) (fun a _ k hk => szM_le hk) (n := n - l.length) (by omega)
  omega
theorem szX_le {s : Box} {n : Int} (h : 0 <= n) : szX s n <= n := by
 unfold szX
 split
 ·omega
 ·have h1 := szMs_le (l := s.mails) (n := n - s.path.length) (by omega)
  split <;> omega
theorem SmMs.of {l : List Mail} {n : Int} (h : 0 <= n) (hn : n <= 1049600) (h2 : 0 <= szMs l n) : SmMs l := by
 unfold szMs at h2
 split at h2
 ·omega
 ·refine ⟨by omega, fun s hs => ?_⟩
  obtain ⟨k, h3, h4, h5⟩ := szGo_mem (f := szM) (l := l) (fun a _ k hk => szM_le hk) (n := n - l.length) (by omega) h2 s hs
  exact SmM.of h3 (by omega) h5
theorem SmS.of {s : Session} {n : Int} (h : 0 <= n) (hn : n <= 1049600) (h2 : 0 <= szSn s n) : SmS s := by
 unfold szSn at h2
 split at h2
 ·omega
 ·split at h2
  ·omega
  ·have h5 := szM_le (m := s.draft) (n := n - s.host.length) (by omega)
   split at h2
   ·omega
   ·exact ⟨by omega, SmM.of (n := n - s.host.length) (by omega) (by omega) (by omega), SmMs.of (n := szM s.draft (n - s.host.length)) (by omega) (by omega) h2⟩
theorem SmX.of {s : Box} {n : Int} (h : 0 <= n) (hn : n <= 1049600) (h2 : 0 <= szX s n) : SmX s := by
 unfold szX at h2
 split at h2
 ·omega
 ·split at h2
  ·omega
  ·exact ⟨by omega, SmMs.of (n := n - s.path.length) (by omega) (by omega) (by omega)⟩
theorem SmXs.of {l : List Box} {n : Int} (h : 0 <= n) (hn : n <= 1049600) (h2 : 0 <= szXs l n) : SmXs l := by
 unfold szXs at h2
 split at h2
 ·omega
 ·refine ⟨by omega, fun s hs => ?_⟩
  obtain ⟨k, h3, h4, h5⟩ := szGo_mem (f := szX) (l := l) (fun a _ k hk => szX_le hk) (n := n - l.length) (by omega) h2 s hs
  exact SmX.of h3 (by omega) h5
def tyMs : Ty := .sl tyM
def tyS : Ty := .st [.int .i64, .str, tyM, tyMs]
def tyX : Ty := .st [.str, tyMs]
def tyXs : Ty := .sl tyX
end Go.Proofs.YtpmpggihngmnoaaGreatDoor.Q

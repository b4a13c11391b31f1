/- Contracts and laws: many lines of a dialogue. -/
import Derived.Test.YtpmpggihngmnoaaGreatDoorScriptSayC76saylawZ
namespace Go.Proofs.YtpmpggihngmnoaaGreatDoor.Q
open Go Go.AM
set_option linter.unusedSimpArgs false
set_option linter.unusedVariables false
set_option linter.unusedSectionVars false
def runF : Session -> List Int -> List Bs -> Option (Session × List Int)
 | s, cs, [] => some (s, cs)
 | s, cs, l :: ls => if okB s l = true then runF (sayF s l).1 (if (sayF s l).2 = 0 then cs else cs ++ [(sayF s l).2]) ls else none
def allR (s : Session) (lines : List Bs) : Option (Session × List Int) := if sessT s = true then runF s [] lines else none
def allS (s : Session) (lines : List Bs) : Session := ((allR s lines).map Prod.fst).getD noS
def allC (s : Session) (lines : List Bs) : List Int := ((allR s lines).map Prod.snd).getD []
def allB (s : Session) (lines : List Bs) : Bool := (allR s lines).isSome
theorem runF_app : ∀ {a b : List Bs} {s : Session} {cs : List Int}, runF s cs (a ++ b) = (runF s cs a).bind fun r => runF r.1 r.2 b
 | [], b, s, cs => rfl
 | l :: a, b, s, cs => by
   simp only [List.cons_append, runF]
   split
   ·exact runF_app
   ·rfl
end Go.Proofs.YtpmpggihngmnoaaGreatDoor.Q

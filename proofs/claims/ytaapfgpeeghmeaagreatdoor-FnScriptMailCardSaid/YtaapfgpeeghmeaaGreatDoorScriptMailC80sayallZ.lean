/- Contracts and laws: many lines of a dialogue. -/
import Derived.Test.YtaapfgpeeghmeaaGreatDoorScriptMailC76saylawZ
namespace Go.Proofs.YtaapfgpeeghmeaaGreatDoor.Q
open Go Go.AM
set_option linter.unusedSimpArgs false
set_option linter.unusedVariables false
set_option linter.unusedSectionVars false
def V8:y6->List Int->List Bs->Option (y6 × List Int)
 | s,cs,[]=>some (s,cs)
 | s,cs,l::ls=>if okB s l=true then V8 (V5 s l).1 (if (V5 s l).2=0 then cs else cs++[(V5 s l).2]) ls else none
theorem ahE:∀ {a b:List Bs} {s:y6} {cs:List Int},V8 s cs (a++b)=(V8 s cs a).bind fun r=>V8 r.1 r.2 b
 | [],b,s,cs=>rfl
 | l::a,b,s,cs=>by
   simp only [List.cons_append,V8]
   split
   ·exact ahE
   ·rfl
end Go.Proofs.YtaapfgpeeghmeaaGreatDoor.Q

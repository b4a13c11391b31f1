/- Contracts: replies. -/
import Derived.Test.YtaapfgpeeghmeaaGreatDoorScriptMailC16specwordsZ
namespace Go.Proofs.YtaapfgpeeghmeaaGreatDoor.Q
open Go Go.AM
set_option linter.unusedSimpArgs false
set_option linter.unusedVariables false
set_option linter.unusedSectionVars false
def aeG (n:Int):List UInt8 :=
 if n=221 then [50,50,49,32,98,121,101]
 else if n=250 then [50,53,48,32,111,107]
 else if n=354 then [51,53,52,32,103,111,32,111,110]
 else if n=452 then [52,53,50,32,116,111,111,32,109,97,110,121]
 else if n=500 then [53,48,48,32,119,104,97,116]
 else if n=501 then [53,48,49,32,104,111,119]
 else if n=503 then [53,48,51,32,110,111,116,32,110,111,119]
 else if n=552 then [53,53,50,32,116,111,111,32,108,111,110,103]
 else []
theorem an3 (n:Int):qc adV [.int .i64 n]=some (.str (aeG n)):=by
 refine y4 (H:=[]) ?_ rfl rfl
 show cv _ _ _=_
 rw [am2]
 simp only [c9,decide_eq_true_eq,aeG]
 iterate 8
  split
  ·rfl
 rfl
end Go.Proofs.YtaapfgpeeghmeaaGreatDoor.Q

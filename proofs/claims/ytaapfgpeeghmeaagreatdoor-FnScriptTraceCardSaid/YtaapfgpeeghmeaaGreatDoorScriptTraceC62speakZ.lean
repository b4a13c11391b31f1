/- Contracts: mails spoken as lines. -/
import Derived.Test.YtaapfgpeeghmeaaGreatDoorScriptTraceC60hopsZ
namespace Go.Proofs.YtaapfgpeeghmeaaGreatDoor.Q
open Go Go.AM
set_option linter.unusedSimpArgs false
set_option linter.unusedVariables false
set_option linter.unusedSectionVars false
theorem aBF {l k:List Bs} (h:l.length+k.length<=4000000):aay false 1 16 (vT l) (.sl true (vT k))=some (.sl true (vT (l++k))):=by
 have:=amL 1 16 (vT l) true (vT k) (ahJ l) (ahJ k) (by rw [agI,agI]; omega)
 rw [aB9] at this
 exact this
theorem azG {l:List Bs} (s:Bs) (h:l.length+1<=4000000):aay false 1 16 (vT l) (.sl true [[.str s]])=some (.sl true (vT (l++[s]))):=aBF (k:=[s]) (by simpa using h)
end Go.Proofs.YtaapfgpeeghmeaaGreatDoor.Q

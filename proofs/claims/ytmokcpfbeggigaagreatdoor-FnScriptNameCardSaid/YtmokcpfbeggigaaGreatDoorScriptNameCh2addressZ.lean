/- Contracts: addresses are read and written. -/
import Derived.Test.YtmokcpfbeggigaaGreatDoorScriptNameCh1wordsZ
namespace Go.Proofs.YtmokcpfbeggigaaGreatDoor.Q
open Go Go.AM
set_option linter.unusedSimpArgs false
set_option linter.unusedVariables false
set_option linter.unusedSectionVars false
theorem auX (o:Bool) (ws:List Bs) (sep:Bs) (H:VH) (h1:ws.length<=1000000) (h2:(C8 sep ws).length<=1000000000):cv adK [.sl o (vT ws),.str sep] H=some (.str (C8 sep ws),H):=by
 show G7 vb _ _ _=_
 rw [aiw vb _ _ _ (g:=aiN) rfl]
 have e:abU (vT ws)=some ws:=akO ws
 simp only [aiN,e,Option.bind_some]
 rw [if_pos ⟨by omega,by omega⟩]
end Go.Proofs.YtmokcpfbeggigaaGreatDoor.Q

/- Contracts: a path's place among mailboxes in order. -/
import Derived.Test.YtpmpggihngmnoaaGreatDoorScriptSayC92deliverZ
namespace Go.Proofs.YtpmpggihngmnoaaGreatDoor.Q
open Go Go.AM
set_option linter.unusedSimpArgs false
set_option linter.unusedVariables false
set_option linter.unusedSectionVars false
def cmpN (s t : Bs) : Int := if ltT s t = true then -1 else if s = t then 0 else 1
def SortX (l : List Box) : Prop := ∀ i j, i < j -> j < l.length -> ltT (boxAt l i).path (boxAt l j).path = true
end Go.Proofs.YtpmpggihngmnoaaGreatDoor.Q

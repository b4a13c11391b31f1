/- Contracts: mails spoken as lines. -/
import Derived.Test.YtpmpggihngmnoaaGreatDoorScriptReturnC60hopsZ
namespace Go.Proofs.YtpmpggihngmnoaaGreatDoor.Q
open Go Go.AM
set_option linter.unusedSimpArgs false
set_option linter.unusedVariables false
set_option linter.unusedSectionVars false
def stuffT (l : Bs) : Bs := if preT l [46] = true then 46 :: l else l
def rcptT (t : Bs) : Bs := [82, 67, 80, 84, 32, 84, 79, 58, 60] ++ t ++ [62]
def fromL (f : Bs) : Bs := [77, 65, 73, 76, 32, 70, 82, 79, 77, 58, 60] ++ f ++ [62]
def headL (m : Mail) : List Bs := [fromL m.from_] ++ m.to.map rcptT ++ [[68, 65, 84, 65]]
def spokeB (m : Mail) : Bool := mailT m 1 30 && !(m.lines.any fun l => !textT (stuffT l))
def spokeL (m : Mail) : List Bs := if spokeB m = true then headL m ++ m.lines.map stuffT ++ [[46]] else []
theorem sl_app {l k : List Bs} (h : l.length + k.length <= 4000000) : appV false 1 16 (vT l) (.sl true (vT k)) = some (.sl true (vT (l ++ k))) := by
 have := v_app 1 16 (vT l) true (vT k) (vT_esz l) (vT_esz k) (by rw [vT_len, vT_len]; omega)
 rw [vT_app] at this
 exact this
theorem sl_app1 {l : List Bs} (s : Bs) (h : l.length + 1 <= 4000000) : appV false 1 16 (vT l) (.sl true [[.str s]]) = some (.sl true (vT (l ++ [s]))) := sl_app (k := [s]) (by simpa using h)
def longL (l : Bs) : Bool := decide (l.length = 200) && decide (l.head? = some 46)
end Go.Proofs.YtpmpggihngmnoaaGreatDoor.Q

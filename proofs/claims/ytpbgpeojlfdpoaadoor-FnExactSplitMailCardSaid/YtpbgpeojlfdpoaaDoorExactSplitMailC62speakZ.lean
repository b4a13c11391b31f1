/- Contracts: mails spoken as lines. -/
import Derived.Test.YtpbgpeojlfdpoaaDoorExactSplitMailC60hopsZ
namespace Go.Proofs.YtpbgpeojlfdpoaaDoor.Q
open Go Go.AM
set_option linter.unusedSimpArgs false
set_option linter.unusedVariables false
set_option linter.unusedSectionVars false
theorem awq {l k:List Bs} (h:l.length+k.length<=4000000):F1 false 1 16 (vT l) (.sl true (vT k))=some (.sl true (vT (l++k))):=by
 have:=adV 1 16 (vT l) true (vT k) (W6 l) (W6 k) (by rw [P3,P3]; omega)
 rw [am3] at this
 exact this
theorem afH {l:List Bs} (s:Bs) (h:l.length+1<=4000000):F1 false 1 16 (vT l) (.sl true [[.str s]])=some (.sl true (vT (l++[s]))):=awq (k:=[s]) (by simpa using h)
end Go.Proofs.YtpbgpeojlfdpoaaDoor.Q

/- Contracts: valid mails. -/
import Derived.Test.YtaapfgpeeghmeaaGreatDoorScriptTraceC40sessionZ
namespace Go.Proofs.YtaapfgpeeghmeaaGreatDoor.Q
open Go Go.AM
set_option linter.unusedSimpArgs false
set_option linter.unusedVariables false
set_option linter.unusedSectionVars false
def L5 (m:z7) (least most:Int):Bool:=ae4 m.from_&&(decide ((m.to.length:Int)>=least)&&(decide ((m.to.length:Int)<=10)&&(!(m.to.any fun t => !aa9 t)&&(decide ((m.lines.length:Int)<=most) && !m.lines.any fun t => !S5 t))))
theorem aoy (s:Bs) (hs:s.length<=1000000000):qc Y7 [.str s]=some (.bool (!aa9 s)):=by
 have e1:=ams s hs
 refine B7 (H:=[]) ?_ (by simp only [j3]) rfl
 show cv _ _ _=_
 rw [aiV]
 simp only [j3,e1]
theorem aqV (m:z7) (least most:Int) (h:SmM m):qc acf [.agg (cM m),.int .i64 least,.int .i64 most]=some (.bool (L5 m least most)):=by
 have e1:=axL m.from_ (by have:=h.1; omega)
 have hl:=h.2.1.1
 have e2:=ab0 Y7 (fun t => !aa9 t) m.to (fun t ht=>aoy t (by have:=h.2.1.2 t ht; omega)) (by omega)
 have e3:=atM m.lines most (by have:=h.2.2.1; omega) (fun t ht=>by have:=h.2.2.2 t ht; omega)
 refine B7 (H:=[]) ?_ (by simp only [j3]) rfl
 show cv _ _ _=_
 rw [akh]
 simp only [j3,e1,e2,e3,L5]
 by_cases h1:ae4 m.from_=true<;>by_cases h2:(m.to.length:Int)>=least<;>by_cases h3:(m.to.length:Int)<=10<;>by_cases h4:(m.to.any fun t => !aa9 t)=true<;>simp [h1,h2,h3,h4]
theorem adC (m:z7) (h:SmM m):qc Y0 [.agg (cM m)]=some (.bool (L5 m 1 30)):=by
 have e1:=aqV m 1 30 h
 simp only [P7] at e1
 refine B7 (H:=[]) ?_ (by simp only [j3]) rfl
 show cv _ _ _=_
 rw [akU]
 simp only [j3,e1]
end Go.Proofs.YtaapfgpeeghmeaaGreatDoor.Q

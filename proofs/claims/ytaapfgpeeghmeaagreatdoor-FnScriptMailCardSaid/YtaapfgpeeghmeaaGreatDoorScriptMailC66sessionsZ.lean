/- Contracts: valid sessions. -/
import Derived.Test.YtaapfgpeeghmeaaGreatDoorScriptMailC64validZ
namespace Go.Proofs.YtaapfgpeeghmeaaGreatDoor.Q
open Go Go.AM
set_option linter.unusedSimpArgs false
set_option linter.unusedVariables false
set_option linter.unusedSectionVars false
def stateT (st:Int) (host from_:Bs) (to lines:Nat):Bool:=decide (st ≠ 5->((host=[])<->(st=0)))&&(decide ((0<to)<->(st=3\/st=4))&&(decide (0<lines->st=4)&&decide (from_=[]\/st=2\/st=3\/st=4)))
def afX (s:y6):Bool:=decide (0<=s.state/\s.state<=5)&&(D6 s.j0 0 31&&((decide ((s.done.length:Int)<=5) && !s.done.any fun m => !D6 m 1 30)&&((decide (s.host=[])||V7 s.host)&&stateT s.state s.host s.j0.from_ s.j0.to.length s.j0.lines.length)))
theorem akZ (s:y6) (h:SmS s):qc acj [.agg (cS s)]=some (.bool (afX s)):=by
 have e1:=alP s.j0 0 31 h.2.1
 have e2:=amh s.done 5 h.2.2
 have e3:=ag0 s.host (by have:=h.1; omega)
 simp only [K4] at e1
 refine y4 (H:=[]) ?_ (by simp only [c9]) rfl
 show cv _ _ _=_
 rw [akJ]
 unfold afX
 obtain ⟨st,host,⟨from_,to,lines⟩,done⟩:=s
 by_cases h1:st<0
 ·simp only [c9,h1,show ¬ (0<=st/\st<=5) from by omega,Bool.false_and]
 ·by_cases h2:st>5
  ·simp only [c9,h1,h2,show ¬ (0<=st/\st<=5) from by omega,Bool.false_and]
  ·simp only [show (0<=st/\st<=5) from by omega,decide_true,Bool.true_and]
   by_cases h3:D6 ⟨from_,to,lines⟩ 0 31=true
   ·by_cases h4:(decide ((done.length:Int)<=5) && !done.any fun m => !D6 m 1 30)=true
    ·by_cases h5:host=[]
     ·subst h5
      have hst:st=0\/st=1\/st=2\/st=3\/st=4\/st=5:=by omega
      simp only [c9,h1,h2,e1,e2,h3,h4,Bool.true_and,Bool.true_or]
      clear e1 e2 e3 h3 h4 h
      by_cases t1:to.length=0<;>by_cases t2:lines.length=0<;>by_cases t3:from_=[]<;>rcases hst with rfl | rfl | rfl | rfl | rfl | rfl <;>
       simp [c9,t1,t2,t3,stateT,Nat.pos_iff_ne_zero]
     ·by_cases h6:V7 host=true
      ·have hst:st=0\/st=1\/st=2\/st=3\/st=4\/st=5:=by omega
       simp only [c9,h1,h2,e1,e2,e3,h3,h4,h5,h6,Bool.true_and,Bool.false_or]
       clear e1 e2 e3 h3 h4 h
       by_cases t1:to.length=0<;>by_cases t2:lines.length=0<;>by_cases t3:from_=[]<;>rcases hst with rfl | rfl | rfl | rfl | rfl | rfl <;>
        simp [c9,h5,t1,t2,t3,stateT,Nat.pos_iff_ne_zero]
      ·simp [c9,h1,h2,e1,e2,e3,h3,h4,h5,h6]
    ·simp [c9,h1,h2,e1,e2,h3,h4]
   ·simp [c9,h1,h2,e1,h3]
end Go.Proofs.YtaapfgpeeghmeaaGreatDoor.Q

/- Contracts: valid mails. -/
import Derived.Test.YtpbgpeojlfdpoaaGreatDoorExactTraceMailC40sessionZ
namespace Go.Proofs.YtpbgpeojlfdpoaaGreatDoor.Q
open Go Go.AM
set_option linter.unusedSimpArgs false
set_option linter.unusedVariables false
set_option linter.unusedSectionVars false
def U8 (m:s8) (least most:Int):Bool:=aiR m.from_&&(decide ((m.to.length:Int)>=least)&&(decide ((m.to.length:Int)<=10)&&(!(m.to.any fun t => !L6 t)&&(decide ((m.lines.length:Int)<=most) && !m.lines.any fun t => !O3 t))))
theorem ams (s:Bs) (hs:s.length<=1000000000):qc Q7 [.str s]=some (.bool (!L6 s)):=by
 have e1:=apy s hs
 refine o7 (H:=[]) ?_ (by simp only [g9]) rfl
 show cv _ _ _=_
 rw [aho]
 simp only [g9,e1]
theorem aoD (m:s8) (least most:Int) (h:SmM m):qc aa4 [.agg (cM m),.int .i64 least,.int .i64 most]=some (.bool (U8 m least most)):=by
 have e1:=au5 m.from_ (by have:=h.1; omega)
 have hl:=h.2.1.1
 have e2:=aaT Q7 (fun t => !L6 t) m.to (fun t ht=>ams t (by have:=h.2.1.2 t ht; omega)) (by omega)
 have e3:=arE m.lines most (by have:=h.2.2.1; omega) (fun t ht=>by have:=h.2.2.2 t ht; omega)
 refine o7 (H:=[]) ?_ (by simp only [g9]) rfl
 show cv _ _ _=_
 rw [ail]
 simp only [g9,e1,e2,e3,U8]
 by_cases h1:aiR m.from_=true<;>by_cases h2:(m.to.length:Int)>=least<;>by_cases h3:(m.to.length:Int)<=10<;>by_cases h4:(m.to.any fun t => !L6 t)=true<;>simp [h1,h2,h3,h4]
theorem akm (m:s8) (h:SmM m):qc abN [.agg (cM m)]=some (.bool (U8 m 1 30)):=by
 have e1:=aoD m 1 30 h
 simp only [J0] at e1
 refine o7 (H:=[]) ?_ (by simp only [g9]) rfl
 show cv _ _ _=_
 rw [ajp]
 simp only [g9,e1]
def abj (m:s8):Bool:=(decide (m.from_=[])||L6 m.from_)&&(decide (m.to.length<=10)&&(decide (m.lines.length<=31)&&(!(m.to.any fun t => !L6 t) && !m.lines.any fun t => !O3 t)))
theorem aq7 (m:s8) (h:SmM m):qc acp [.agg (cM m)]=some (.bool (abj m)):=by
 have e1:=aps m.from_ (by have:=h.1; omega)
 have ht:=h.2.1.1
 have hl:=h.2.2.1
 refine o7 (H:=[]) ?_ (by simp only [g9]) rfl
 show cv _ _ _=_
 rw [akO]
 have loop1:=ab2 (B:=aaw) (S:=fun i=>[.int .i64 (i:Nat),.str m.from_,.sl false (vT m.to),.sl false (vT m.lines)]) (H:=[]) (m0:=0) (m1:=1) (vs0:=[.str m.from_,.sl false (vT m.to),.sl false (vT m.lines)]) (vs1:=[.bool false]) m.to (fun t => !L6 t)
  (fun i hi=>by
   have i1:=Z9 false m.to .i64 i hi
   have e3:=aps m.to[i] (by have:=h.2.1.2 _ (List.getElem_mem hi); omega)
   have e2:b9 (.int .i64) .add (.int .i64 (i:Int)) (.int .i64 1)=some (.int .i64 ((i+1:Nat):Int)):=A6 _ i 1 (by omega)
   rw [adm]
   simp only [g9,i1,e3,e2,show ((i:Int)<(m.to.length:Int)) from by omega])
  (by
   rw [adm]
   simp only [g9,show ¬ ((m.to.length:Int)<(m.to.length:Int)) from by omega])
 have loop1':m9 aaw [.int .i64 0,.str m.from_,.sl false (vT m.to),.sl false (vT m.lines)] []=_:=loop1
 have T6:=ab2 (B:=aak) (S:=fun i=>[.int .i64 (i:Nat),.str m.from_,.sl false (vT m.to),.sl false (vT m.lines)]) (H:=[]) (m0:=0) (m1:=1) (vs0:=[]) (vs1:=[.bool false]) m.lines (fun t => !O3 t)
  (fun i hi=>by
   have i1:=Z9 false m.lines .i64 i hi
   have e3:=afr m.lines[i] (by have:=h.2.2.2 _ (List.getElem_mem hi); omega)
   have e2:b9 (.int .i64) .add (.int .i64 (i:Int)) (.int .i64 1)=some (.int .i64 ((i+1:Nat):Int)):=A6 _ i 1 (by omega)
   rw [adl]
   simp only [g9,i1,e3,e2,show ((i:Int)<(m.lines.length:Int)) from by omega])
  (by
   rw [adl]
   simp only [g9,show ¬ ((m.lines.length:Int)<(m.lines.length:Int)) from by omega])
 have loop2':m9 aak [.int .i64 0,.str m.from_,.sl false (vT m.to),.sl false (vT m.lines)] []=_:=T6
 have rest:∀ (c:Prop) [Decidable c],c->True:=fun _ _ _=>trivial
 by_cases h1:m.from_=[]
 ·by_cases h2:m.to.length<=10
  ·by_cases h3:m.lines.length<=31
   ·simp only [g9,h1,show ¬ ((m.to.length:Int)>10) from by omega,show ¬ ((m.lines.length:Int)>31) from by omega]
    simp only [h1] at loop1' loop2'
    simp only [g9,loop1',abj,h1,h2,h3,Bool.true_or,Bool.true_and]
    by_cases h4:(m.to.any fun t => !L6 t)=true
    ·simp only [g9,h4]; try simp
    ·simp only [g9,h4,loop2']
     by_cases h5:(m.lines.any fun t => !O3 t)=true
     ·simp only [g9,h5]; try simp
     ·simp only [g9,h5]; try simp
   ·simp only [g9,h1,abj,h2,h3,show ¬ ((m.to.length:Int)>10) from by omega,show ((m.lines.length:Int)>31) from by omega]; simp
  ·simp only [g9,h1,abj,h2,show ((m.to.length:Int)>10) from by omega]; simp
 ·by_cases h6:L6 m.from_=true
  ·by_cases h2:m.to.length<=10
   ·by_cases h3:m.lines.length<=31
    ·simp only [g9,h1,e1,h6,show ¬ ((m.to.length:Int)>10) from by omega,show ¬ ((m.lines.length:Int)>31) from by omega]
     simp only [g9,loop1',abj,h1,h2,h3,h6,Bool.or_true,Bool.true_and]
     by_cases h4:(m.to.any fun t => !L6 t)=true
     ·simp only [g9,h4]; try simp
     ·simp only [g9,h4,loop2']
      by_cases h5:(m.lines.any fun t => !O3 t)=true
      ·simp only [g9,h5]; try simp
      ·simp only [g9,h5]; try simp
    ·simp only [g9,h1,e1,h6,abj,h2,h3,show ¬ ((m.to.length:Int)>10) from by omega,show ((m.lines.length:Int)>31) from by omega]; simp
   ·simp only [g9,h1,e1,h6,abj,h2,show ((m.to.length:Int)>10) from by omega]; simp
  ·simp only [g9,h1,e1,h6,abj]; try simp
theorem akJ (m:s8) (h:SmM m):qc abS [.agg (cM m)]=some (.bool (U8 m 1 30)):=by
 have e1:=aq7 m h
 simp only [J0] at e1
 refine o7 (H:=[]) ?_ (by simp only [g9]) rfl
 show cv _ _ _=_
 rw [aji]
 simp only [g9,e1]
 have key:U8 m 1 30=(abj m&&(decide ((m.to.length:Int)>0)&&decide ((m.lines.length:Int)<=30))):=by
  unfold U8 abj aiR
  rw [Bool.eq_iff_iff]
  simp only [Bool.and_eq_true,decide_eq_true_eq]
  constructor
  ·rintro ⟨h1,h2,h3,h4,h5,h6⟩
   exact ⟨⟨h1,by omega,by omega,h4,h6⟩,by omega,h5⟩
  ·rintro ⟨⟨h1,h2,h3,h4,h6⟩,h7,h5⟩
   exact ⟨h1,by omega,by omega,h4,h5,h6⟩
 rw [key]
 by_cases h1:abj m=true
 ·by_cases h2:(m.to.length:Int)>0
  ·simp only [g9,h1,h2,Bool.true_and]
  ·simp only [g9,h1,h2,Bool.true_and,Bool.false_and]
 ·simp only [g9,h1,Bool.false_and]
  try simp
end Go.Proofs.YtpbgpeojlfdpoaaGreatDoor.Q

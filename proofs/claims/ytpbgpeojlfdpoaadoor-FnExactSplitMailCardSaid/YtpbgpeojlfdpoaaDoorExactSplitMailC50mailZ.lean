/- Contracts: valid mails. -/
import Derived.Test.YtpbgpeojlfdpoaaDoorExactSplitMailC40sessionZ
namespace Go.Proofs.YtpbgpeojlfdpoaaDoor.Q
open Go Go.AM
set_option linter.unusedSimpArgs false
set_option linter.unusedVariables false
set_option linter.unusedSectionVars false
def F4 (m:j0) (least most:Int):Bool:=akz m.from_&&(decide ((m.to.length:Int)>=least)&&(decide ((m.to.length:Int)<=10)&&(!(m.to.any fun t => !J5 t)&&(decide ((m.lines.length:Int)<=most) && !m.lines.any fun t => !P6 t))))
theorem akH (s:Bs) (hs:s.length<=1000000000):qc Q0 [.str s]=some (.bool (!J5 s)):=by
 have e1:=an6 s hs
 refine s7 (H:=[]) ?_ (by simp only [b9]) rfl
 show cv _ _ _=_
 rw [af3]
 simp only [b9,e1]
theorem am4 (m:j0) (least most:Int) (h:Z6 m):qc aaw [.agg (cM m),.int .i64 least,.int .i64 most]=some (.bool (F4 m least most)):=by
 have e1:=atA m.from_ (by have:=h.1; omega)
 have hl:=h.2.1.1
 have e2:=aai Q0 (fun t => !J5 t) m.to (fun t ht=>akH t (by have:=h.2.1.2 t ht; omega)) (by omega)
 have e3:=aqe m.lines most (by have:=h.2.2.1; omega) (fun t ht=>by have:=h.2.2.2 t ht; omega)
 refine s7 (H:=[]) ?_ (by simp only [b9]) rfl
 show cv _ _ _=_
 rw [agQ]
 simp only [b9,e1,e2,e3,F4]
 by_cases h1:akz m.from_=true<;>by_cases h2:(m.to.length:Int)>=least<;>by_cases h3:(m.to.length:Int)<=10<;>by_cases h4:(m.to.any fun t => !J5 t)=true<;>simp [h1,h2,h3,h4]
theorem ajq (m:j0) (h:Z6 m):qc abe [.agg (cM m)]=some (.bool (F4 m 1 30)):=by
 have e1:=am4 m 1 30 h
 simp only [N5] at e1
 refine s7 (H:=[]) ?_ (by simp only [b9]) rfl
 show cv _ _ _=_
 rw [ah1]
 simp only [b9,e1]
def aaL (m:j0):Bool:=(decide (m.from_=[])||J5 m.from_)&&(decide (m.to.length<=10)&&(decide (m.lines.length<=31)&&(!(m.to.any fun t => !J5 t) && !m.lines.any fun t => !P6 t)))
theorem aqF (m:j0) (h:Z6 m):qc abJ [.agg (cM m)]=some (.bool (aaL m)):=by
 have e1:=am9 m.from_ (by have:=h.1; omega)
 have ht:=h.2.1.1
 have hl:=h.2.2.1
 refine s7 (H:=[]) ?_ (by simp only [b9]) rfl
 show cv _ _ _=_
 rw [aje]
 have loop1:=aat (B:=Z4) (S:=fun i=>[.int .i64 (i:Nat),.str m.from_,.sl false (vT m.to),.sl false (vT m.lines)]) (H:=[]) (m0:=0) (m1:=1) (vs0:=[.str m.from_,.sl false (vT m.to),.sl false (vT m.lines)]) (vs1:=[.bool false]) m.to (fun t => !J5 t)
  (fun i hi=>by
   have i1:=M0 false m.to .i64 i hi
   have e3:=am9 m.to[i] (by have:=h.2.1.2 _ (List.getElem_mem hi); omega)
   have e2:a8 (.int .i64) .add (.int .i64 (i:Int)) (.int .i64 1)=some (.int .i64 ((i+1:Nat):Int)):=s9 _ i 1 (by omega)
   rw [acx]
   simp only [b9,i1,e3,e2,show ((i:Int)<(m.to.length:Int)) from by omega])
  (by
   rw [acx]
   simp only [b9,show ¬ ((m.to.length:Int)<(m.to.length:Int)) from by omega])
 have loop1':j4 Z4 [.int .i64 0,.str m.from_,.sl false (vT m.to),.sl false (vT m.lines)] []=_:=loop1
 have P8:=aat (B:=Y7) (S:=fun i=>[.int .i64 (i:Nat),.str m.from_,.sl false (vT m.to),.sl false (vT m.lines)]) (H:=[]) (m0:=0) (m1:=1) (vs0:=[]) (vs1:=[.bool false]) m.lines (fun t => !P6 t)
  (fun i hi=>by
   have i1:=M0 false m.lines .i64 i hi
   have e3:=aeh m.lines[i] (by have:=h.2.2.2 _ (List.getElem_mem hi); omega)
   have e2:a8 (.int .i64) .add (.int .i64 (i:Int)) (.int .i64 1)=some (.int .i64 ((i+1:Nat):Int)):=s9 _ i 1 (by omega)
   rw [acw]
   simp only [b9,i1,e3,e2,show ((i:Int)<(m.lines.length:Int)) from by omega])
  (by
   rw [acw]
   simp only [b9,show ¬ ((m.lines.length:Int)<(m.lines.length:Int)) from by omega])
 have loop2':j4 Y7 [.int .i64 0,.str m.from_,.sl false (vT m.to),.sl false (vT m.lines)] []=_:=P8
 have rest:∀ (c:Prop) [Decidable c],c->True:=fun _ _ _=>trivial
 by_cases h1:m.from_=[]
 ·by_cases h2:m.to.length<=10
  ·by_cases h3:m.lines.length<=31
   ·simp only [b9,h1,show ¬ ((m.to.length:Int)>10) from by omega,show ¬ ((m.lines.length:Int)>31) from by omega]
    simp only [h1] at loop1' loop2'
    simp only [b9,loop1',aaL,h1,h2,h3,Bool.true_or,Bool.true_and]
    by_cases h4:(m.to.any fun t => !J5 t)=true
    ·simp only [b9,h4]; try simp
    ·simp only [b9,h4,loop2']
     by_cases h5:(m.lines.any fun t => !P6 t)=true
     ·simp only [b9,h5]; try simp
     ·simp only [b9,h5]; try simp
   ·simp only [b9,h1,aaL,h2,h3,show ¬ ((m.to.length:Int)>10) from by omega,show ((m.lines.length:Int)>31) from by omega]; simp
  ·simp only [b9,h1,aaL,h2,show ((m.to.length:Int)>10) from by omega]; simp
 ·by_cases h6:J5 m.from_=true
  ·by_cases h2:m.to.length<=10
   ·by_cases h3:m.lines.length<=31
    ·simp only [b9,h1,e1,h6,show ¬ ((m.to.length:Int)>10) from by omega,show ¬ ((m.lines.length:Int)>31) from by omega]
     simp only [b9,loop1',aaL,h1,h2,h3,h6,Bool.or_true,Bool.true_and]
     by_cases h4:(m.to.any fun t => !J5 t)=true
     ·simp only [b9,h4]; try simp
     ·simp only [b9,h4,loop2']
      by_cases h5:(m.lines.any fun t => !P6 t)=true
      ·simp only [b9,h5]; try simp
      ·simp only [b9,h5]; try simp
    ·simp only [b9,h1,e1,h6,aaL,h2,h3,show ¬ ((m.to.length:Int)>10) from by omega,show ((m.lines.length:Int)>31) from by omega]; simp
   ·simp only [b9,h1,e1,h6,aaL,h2,show ((m.to.length:Int)>10) from by omega]; simp
  ·simp only [b9,h1,e1,h6,aaL]; try simp
theorem aiW (m:j0) (h:Z6 m):qc abi [.agg (cM m)]=some (.bool (F4 m 1 30)):=by
 have e1:=aqF m h
 simp only [N5] at e1
 refine s7 (H:=[]) ?_ (by simp only [b9]) rfl
 show cv _ _ _=_
 rw [aid]
 simp only [b9,e1]
 have key:F4 m 1 30=(aaL m&&(decide ((m.to.length:Int)>0)&&decide ((m.lines.length:Int)<=30))):=by
  unfold F4 aaL akz
  rw [Bool.eq_iff_iff]
  simp only [Bool.and_eq_true,decide_eq_true_eq]
  constructor
  ·rintro ⟨h1,h2,h3,h4,h5,h6⟩
   exact ⟨⟨h1,by omega,by omega,h4,h6⟩,by omega,h5⟩
  ·rintro ⟨⟨h1,h2,h3,h4,h6⟩,h7,h5⟩
   exact ⟨h1,by omega,by omega,h4,h5,h6⟩
 rw [key]
 by_cases h1:aaL m=true
 ·by_cases h2:(m.to.length:Int)>0
  ·simp only [b9,h1,h2,Bool.true_and]
  ·simp only [b9,h1,h2,Bool.true_and,Bool.false_and]
 ·simp only [b9,h1,Bool.false_and]
  try simp
end Go.Proofs.YtpbgpeojlfdpoaaDoor.Q

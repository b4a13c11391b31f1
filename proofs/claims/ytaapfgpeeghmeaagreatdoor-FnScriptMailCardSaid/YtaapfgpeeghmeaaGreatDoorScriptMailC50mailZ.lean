/- Contracts: valid mails. -/
import Derived.Test.YtaapfgpeeghmeaaGreatDoorScriptMailC40sessionZ
namespace Go.Proofs.YtaapfgpeeghmeaaGreatDoor.Q
open Go Go.AM
set_option linter.unusedSimpArgs false
set_option linter.unusedVariables false
set_option linter.unusedSectionVars false
def D6 (m:l9) (least most:Int):Bool:=abE m.from_&&(decide ((m.to.length:Int)>=least)&&(decide ((m.to.length:Int)<=10)&&(!(m.to.any fun t => !G0 t)&&(decide ((m.lines.length:Int)<=most) && !m.lines.any fun t => !A6 t))))
theorem arp (s:Bs) (hs:s.length<=1000000000):qc aam [.str s]=some (.bool (!G0 s)):=by
 have e1:=ajK s hs
 refine y4 (H:=[]) ?_ (by simp only [c9]) rfl
 show cv _ _ _=_
 rw [aj8]
 simp only [c9,e1]
theorem alP (m:l9) (least most:Int) (h:Z7 m):qc abg [.agg (cM m),.int .i64 least,.int .i64 most]=some (.bool (D6 m least most)):=by
 have e1:=at3 m.from_ (by have:=h.1; omega)
 have hl:=h.2.1.1
 have e2:=aa4 aam (fun t => !G0 t) m.to (fun t ht=>arp t (by have:=h.2.1.2 t ht; omega)) (by omega)
 have e3:=axm m.lines most (by have:=h.2.2.1; omega) (fun t ht=>by have:=h.2.2.2 t ht; omega)
 refine y4 (H:=[]) ?_ (by simp only [c9]) rfl
 show cv _ _ _=_
 rw [alf]
 simp only [c9,e1,e2,e3,D6]
 by_cases h1:abE m.from_=true<;>by_cases h2:(m.to.length:Int)>=least<;>by_cases h3:(m.to.length:Int)<=10<;>by_cases h4:(m.to.any fun t => !G0 t)=true<;>simp [h1,h2,h3,h4]
theorem aaz (m:l9) (h:Z7 m):qc O9 [.agg (cM m)]=some (.bool (D6 m 1 30)):=by
 have e1:=alP m 1 30 h
 simp only [K4] at e1
 refine y4 (H:=[]) ?_ (by simp only [c9]) rfl
 show cv _ _ _=_
 rw [ank]
 simp only [c9,e1]
def ade (m:l9):Bool:=(decide (m.from_=[])||G0 m.from_)&&(decide (m.to.length<=10)&&(decide (m.lines.length<=31)&&(!(m.to.any fun t => !G0 t) && !m.lines.any fun t => !A6 t)))
theorem awB (m:l9) (h:Z7 m):qc aeo [.agg (cM m)]=some (.bool (ade m)):=by
 have e1:=aug m.from_ (by have:=h.1; omega)
 have ht:=h.2.1.1
 have hl:=h.2.2.1
 refine y4 (H:=[]) ?_ (by simp only [c9]) rfl
 show cv _ _ _=_
 rw [anW]
 have loop1:=adl (B:=acg) (S:=fun i=>[.int .i64 (i:Nat),.str m.from_,.sl false (vT m.to),.sl false (vT m.lines)]) (H:=[]) (m0:=0) (m1:=1) (vs0:=[.str m.from_,.sl false (vT m.to),.sl false (vT m.lines)]) (vs1:=[.bool false]) m.to (fun t => !G0 t)
  (fun i hi=>by
   have i1:=P8 false m.to .i64 i hi
   have e3:=aug m.to[i] (by have:=h.2.1.2 _ (List.getElem_mem hi); omega)
   have e2:b7 (.int .i64) .add (.int .i64 (i:Int)) (.int .i64 1)=some (.int .i64 ((i+1:Nat):Int)):=A0 _ i 1 (by omega)
   rw [afw]
   simp only [c9,i1,e3,e2,show ((i:Int)<(m.to.length:Int)) from by omega])
  (by
   rw [afw]
   simp only [c9,show ¬ ((m.to.length:Int)<(m.to.length:Int)) from by omega])
 have loop1':l6 acg [.int .i64 0,.str m.from_,.sl false (vT m.to),.sl false (vT m.lines)] []=_:=loop1
 have N1:=adl (B:=acp) (S:=fun i=>[.int .i64 (i:Nat),.str m.from_,.sl false (vT m.to),.sl false (vT m.lines)]) (H:=[]) (m0:=0) (m1:=1) (vs0:=[]) (vs1:=[.bool false]) m.lines (fun t => !A6 t)
  (fun i hi=>by
   have i1:=P8 false m.lines .i64 i hi
   have e3:=aeE m.lines[i] (by have:=h.2.2.2 _ (List.getElem_mem hi); omega)
   have e2:b7 (.int .i64) .add (.int .i64 (i:Int)) (.int .i64 1)=some (.int .i64 ((i+1:Nat):Int)):=A0 _ i 1 (by omega)
   rw [afy]
   simp only [c9,i1,e3,e2,show ((i:Int)<(m.lines.length:Int)) from by omega])
  (by
   rw [afy]
   simp only [c9,show ¬ ((m.lines.length:Int)<(m.lines.length:Int)) from by omega])
 have loop2':l6 acp [.int .i64 0,.str m.from_,.sl false (vT m.to),.sl false (vT m.lines)] []=_:=N1
 have rest:∀ (c:Prop) [Decidable c],c->True:=fun _ _ _=>trivial
 by_cases h1:m.from_=[]
 ·by_cases h2:m.to.length<=10
  ·by_cases h3:m.lines.length<=31
   ·simp only [c9,h1,show ¬ ((m.to.length:Int)>10) from by omega,show ¬ ((m.lines.length:Int)>31) from by omega]
    simp only [h1] at loop1' loop2'
    simp only [c9,loop1',ade,h1,h2,h3,Bool.true_or,Bool.true_and]
    by_cases h4:(m.to.any fun t => !G0 t)=true
    ·simp only [c9,h4]; try simp
    ·simp only [c9,h4,loop2']
     by_cases h5:(m.lines.any fun t => !A6 t)=true
     ·simp only [c9,h5]; try simp
     ·simp only [c9,h5]; try simp
   ·simp only [c9,h1,ade,h2,h3,show ¬ ((m.to.length:Int)>10) from by omega,show ((m.lines.length:Int)>31) from by omega]; simp
  ·simp only [c9,h1,ade,h2,show ((m.to.length:Int)>10) from by omega]; simp
 ·by_cases h6:G0 m.from_=true
  ·by_cases h2:m.to.length<=10
   ·by_cases h3:m.lines.length<=31
    ·simp only [c9,h1,e1,h6,show ¬ ((m.to.length:Int)>10) from by omega,show ¬ ((m.lines.length:Int)>31) from by omega]
     simp only [c9,loop1',ade,h1,h2,h3,h6,Bool.or_true,Bool.true_and]
     by_cases h4:(m.to.any fun t => !G0 t)=true
     ·simp only [c9,h4]; try simp
     ·simp only [c9,h4,loop2']
      by_cases h5:(m.lines.any fun t => !A6 t)=true
      ·simp only [c9,h5]; try simp
      ·simp only [c9,h5]; try simp
    ·simp only [c9,h1,e1,h6,ade,h2,h3,show ¬ ((m.to.length:Int)>10) from by omega,show ((m.lines.length:Int)>31) from by omega]; simp
   ·simp only [c9,h1,e1,h6,ade,h2,show ((m.to.length:Int)>10) from by omega]; simp
  ·simp only [c9,h1,e1,h6,ade]; try simp
theorem aoo (m:l9) (h:Z7 m):qc adR [.agg (cM m)]=some (.bool (D6 m 1 30)):=by
 have e1:=awB m h
 simp only [K4] at e1
 refine y4 (H:=[]) ?_ (by simp only [c9]) rfl
 show cv _ _ _=_
 rw [am0]
 simp only [c9,e1]
 have key:D6 m 1 30=(ade m&&(decide ((m.to.length:Int)>0)&&decide ((m.lines.length:Int)<=30))):=by
  unfold D6 ade abE
  rw [Bool.eq_iff_iff]
  simp only [Bool.and_eq_true,decide_eq_true_eq]
  constructor
  ·rintro ⟨h1,h2,h3,h4,h5,h6⟩
   exact ⟨⟨h1,by omega,by omega,h4,h6⟩,by omega,h5⟩
  ·rintro ⟨⟨h1,h2,h3,h4,h6⟩,h7,h5⟩
   exact ⟨h1,by omega,by omega,h4,h5,h6⟩
 rw [key]
 by_cases h1:ade m=true
 ·by_cases h2:(m.to.length:Int)>0
  ·simp only [c9,h1,h2,Bool.true_and]
  ·simp only [c9,h1,h2,Bool.true_and,Bool.false_and]
 ·simp only [c9,h1,Bool.false_and]
  try simp
theorem aFw {u:V} (h:ahs (.sl (.int .u8)) u):∃ xs:Bs,u = .sl false (vB xs):=by
 obtain ⟨xs,h,-⟩:=azq h
 exact ⟨xs,h⟩
end Go.Proofs.YtaapfgpeeghmeaaGreatDoor.Q

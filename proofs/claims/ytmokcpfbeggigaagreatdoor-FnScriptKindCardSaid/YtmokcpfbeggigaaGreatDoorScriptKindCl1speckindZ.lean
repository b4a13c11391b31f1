/- Contracts: kinds, as the specification reads and writes them. -/
import Derived.Test.YtmokcpfbeggigaaGreatDoorScriptKindCl0kindpureZ
namespace Go.Proofs.YtmokcpfbeggigaaGreatDoor.Q
open Go Go.AM
set_option linter.unusedSimpArgs false
set_option linter.unusedVariables false
set_option linter.unusedSectionVars false
def aj5 (s:Bs) (i:Nat):Bool:=match s[i]? with
 | none=>false
 | some b=>(!afh b.toNat && !decide ((b.toNat:Int)=45))||(decide ((i:Int)=0)&&decide ((b.toNat:Int)<=57))
theorem aiC {s:Bs} {i:Nat} (h:i<s.length):aj5 s i=((!afh s[i].toNat && !decide ((s[i].toNat:Int)=45))||(decide ((i:Int)=0)&&decide ((s[i].toNat:Int)<=57))):=by
 unfold aj5; rw [List.getElem?_eq_getElem h]
theorem auV {s:Bs} (h:1<=s.length) (h2:s.length<=30):S7 s = !((List.range s.length).any (aj5 s)):=by
 rw [Bool.eq_iff_iff,Bool.not_eq_true',List.any_eq_false]
 unfold S7
 cases s with
 | nil=>simp at h
 | cons b l =>
   rw [decide_eq_true ⟨h,h2⟩]
   simp only [List.head?_cons,Option.any_some,Bool.true_and,Bool.and_eq_true,List.all_eq_true]
   constructor
   ·rintro ⟨h3,h4⟩ i hi
    have hi':i<(b::l).length:=by simpa using hi
    have h5:=h4 _ (List.getElem_mem hi')
    rw [aiC hi']
    by_cases hz:i=0
    ·subst hz
     simp only [List.getElem_cons_zero] at h5 ⊢
     simp only [ael,nmB,ahG,afh,Bool.or_eq_true,Bool.and_eq_true,decide_eq_true_eq,Bool.not_eq_true',decide_eq_false_iff_not] at h3 h5 ⊢
     omega
    ·generalize (b::l)[i]=c at h5 ⊢
     simp only [ael,nmB,ahG,afh,Bool.or_eq_true,Bool.and_eq_true,decide_eq_true_eq,Bool.not_eq_true',decide_eq_false_iff_not] at h5 ⊢
     omega
   ·intro h3
    constructor
    ·have:=h3 0 (by simp)
     rw [aiC (by simp)] at this
     simp only [List.getElem_cons_zero] at this
     simp only [ael,afh,Bool.or_eq_true,Bool.and_eq_true,decide_eq_true_eq,Bool.not_eq_true',decide_eq_false_iff_not] at this ⊢
     omega
    ·intro c hc
     obtain ⟨i,hi,rfl⟩:=List.getElem_of_mem hc
     have:=h3 i (by simpa using hi)
     rw [aiC hi] at this
     generalize (b::l)[i]=c at this ⊢
     simp only [ael,nmB,ahG,afh,Bool.or_eq_true,Bool.and_eq_true,decide_eq_true_eq,Bool.not_eq_true',decide_eq_false_iff_not] at this ⊢
     omega
theorem at0 (s:Bs) (hs:s.length<=1000000000):qc acC [.str s]=some (.bool (S7 s)):=by
 refine u3 (H:=[]) ?_ (by simp only [b8]) rfl
 show cv _ _ _=_
 rw [aml]
 have hR:(List.range (min s.length 31)).length=min s.length 31:=List.length_range
 have loop:=afu (B:=aaI) (S:=fun i=>[.str s,.int .i64 (i:Nat)]) (H:=[]) (m0:=0) (m1:=1) (vs0:=[.str s]) (vs1:=[.bool false]) (List.range (min s.length 31)) (aj5 s)
  (fun i hi=>by
   have hi':i<s.length/\i<31:=by rw [hR] at hi; omega
   have i1:=G9 s .i64 i hi'.1
   have e1:=akG (s[i].toNat:Int)
   have e2:a8 (.int .i64) .add (.int .i64 (i:Int)) (.int .i64 1)=some (.int .i64 ((i+1:Nat):Int)):=p6 _ i 1 (by omega)
   rw [List.getElem_range,aiC hi'.1,ado]
   cases c1:afh s[i].toNat with
   | true =>
     rw [c1] at e1
     by_cases c2:(i:Int)=0
     ·by_cases c3:(s[i].toNat:Int)<=57
      ·simp only [b8,i1,e1,eq_true c2,c3,decide_true,Bool.or_true,Bool.true_and,Bool.false_or,show ((i:Int)<(s.length:Int)) from by omega,show ((i:Int)<=30) from by omega]
      ·simp only [b8,i1,e1,e2,eq_true c2,c3,decide_true,decide_false,Bool.or_false,Bool.true_and,Bool.false_or,Bool.false_and,Bool.and_false,show ((i:Int)<(s.length:Int)) from by omega,show ((i:Int)<=30) from by omega]
     ·simp only [b8,i1,e1,e2,c2,decide_true,decide_false,Bool.or_false,Bool.true_and,Bool.false_or,Bool.false_and,Bool.and_false,show ((i:Int)<(s.length:Int)) from by omega,show ((i:Int)<=30) from by omega]
   | false =>
     rw [c1] at e1
     by_cases c4:(s[i].toNat:Int)=45
     ·by_cases c2:(i:Int)=0
      ·simp only [b8,i1,e1,eq_true c2,eq_true c4,show ((s[i].toNat:Int)<=57) from by omega,decide_true,Bool.or_true,Bool.true_and,Bool.false_or,Bool.true_or,show ((i:Int)<(s.length:Int)) from by omega,show ((i:Int)<=30) from by omega]
      ·simp only [b8,i1,e1,e2,c2,eq_true c4,decide_true,decide_false,Bool.or_false,Bool.true_and,Bool.false_or,Bool.false_and,Bool.and_false,show ((i:Int)<(s.length:Int)) from by omega,show ((i:Int)<=30) from by omega]
     ·simp only [b8,i1,e1,c4,decide_true,decide_false,Bool.or_false,Bool.true_and,Bool.true_or,Bool.false_or,Bool.false_and,Bool.and_false,show ((i:Int)<(s.length:Int)) from by omega,show ((i:Int)<=30) from by omega])
  (by
   rw [hR,ado]
   by_cases h:s.length<=30
   ·simp only [b8,show min s.length 31=s.length from by omega,show ¬ ((s.length:Int)<(s.length:Int)) from by omega]
   ·by_cases h2:(((31:Nat):Int)<(s.length:Int))
    ·simp only [b8,show min s.length 31=31 from by omega,h2,show ¬ (((31:Nat):Int)<=30) from by decide]
    ·simp only [b8,show min s.length 31=31 from by omega,h2])
 have loop':l3 aaI [.str s,.int .i64 0] []=_:=loop
 simp only [b8,loop']
 by_cases h:s.length<=30
 ·by_cases h1:1<=s.length
  ·rw [show min s.length 31=s.length from by omega,auV h1 h]
   by_cases hb:(List.range s.length).any (aj5 s)=true
   ·simp only [b8,hb]
   ·have hb':(List.range s.length).any (aj5 s)=false:=by simpa using hb
    simp only [b8,hb',show ((s.length:Int)>=1) from by omega,show ((s.length:Int)<=30) from by omega]
  ·have:S7 s=false:=by unfold S7; rw [decide_eq_false (by omega),Bool.false_and]
   rw [this,show min s.length 31=0 from by omega]
   simp only [b8,List.range_zero,List.any_nil,show ¬ ((s.length:Int)>=1) from by omega]
 ·have:S7 s=false:=by unfold S7; rw [decide_eq_false (by omega),Bool.false_and]
  rw [this]
  by_cases hb:(List.range (min s.length 31)).any (aj5 s)=true
  ·simp only [b8,hb]
  ·simp only [b8,hb,show ((s.length:Int)>=1) from by omega,show ¬ ((s.length:Int)<=30) from by omega]
theorem akh (s:Bs) (hs:s.length<=1000000000):qc V9 [.str s]=some (.bool (N3 s)):=by
 have e1:=at0 s hs
 have e2:=M0 s hs
 refine u3 (H:=[]) ?_ (by simp only [b8]) rfl
 show cv _ _ _=_
 rw [amJ]
 unfold N3
 by_cases h:S7 s=true
 ·simp only [b8,e1,e2,h,Bool.true_and]
 ·have h':S7 s=false:=by simpa using h
  simp only [b8,e1,h',Bool.false_and]
theorem ao9 (l:List F2) (n:Bs) (hl:l.length<=1000000000) (h1:∀ p ∈ l,p.1.length<=1000000000) (h2:n.length<=1000000000) :
 qc aaN [.sl false (vF l),.str n]=some (.int .i64 (if acd l n=true then ((l.findIdx (fun p=>decide (m7 p.1=m7 n)):Nat):Int) else -1)):=by
 refine u3 (H:=[]) ?_ (by simp only [b8,Q7]) rfl
 show cv _ _ _=_
 have hlen:y0 (.sl false (vF l))=some (.int .i64 (l.length:Nat)):=by rw [<-aak]; rfl
 rw [amP]
 have loop:=aov (B:=aaV) (S:=fun i=>[.sl false (vF l),.str n,.int .i64 (i:Nat)]) (H:=[]) (m0:=0) (m1:=1) (vs0:=[]) l (fun p=>decide (m7 p.1=m7 n))
  (fun i hi=>by
   have i1:=ad0 false l i hi
   have e1:=akS l[i].1 n (h1 _ (List.getElem_mem hi)) h2
   have e2:a8 (.int .i64) .add (.int .i64 (i:Int)) (.int .i64 1)=some (.int .i64 ((i+1:Nat):Int)):=p6 _ i 1 (by omega)
   rw [adw]
   by_cases hp:m7 l[i].1=m7 n
   ·rw [decide_eq_true hp] at e1
    simp only [b8,p5,hlen,i1,e1,hp,decide_true,e2,show ((i:Int)<(l.length:Int)) from by omega]
   ·rw [decide_eq_false hp] at e1
    simp only [b8,p5,hlen,i1,e1,hp,decide_false,e2,show ((i:Int)<(l.length:Int)) from by omega])
  (by
   rw [adw]
   simp only [b8,p5,hlen,show ¬ ((l.length:Int)<(l.length:Int)) from by omega])
 have loop':l3 aaV [.sl false (vF l),.str n,.int .i64 0] []=_:=loop
 unfold acd
 simp only [b8,loop']
 by_cases h:l.any (fun p=>decide (m7 p.1=m7 n))=true<;>simp only [b8,h]
theorem aqj (main sub:Bs) (ps:List F2) (h1:main.length<=1000) (h2:sub.length<=1000) (h4:∀ p ∈ ps,p.1.length<=1000/\p.2.length<=1000) (i:Nat) (hi:i<=ps.length):(I9 main sub (ps.take i)).length<=2001+3006*i:=by
 induction i with
 | zero=>simp [I9]; omega
 | succ i ih =>
   have:=ih (by omega)
   have hq:=aei (ps[i]'(by omega)).2
   have hp:=h4 _ (List.getElem_mem (show i<ps.length by omega))
   unfold I9 at this ⊢
   rw [List.take_succ_eq_append_getElem (by omega),List.map_append,List.flatten_append]
   simp only [List.length_append,List.map_cons,List.map_nil,List.flatten_cons,List.flatten_nil,List.length_cons,List.length_nil] at this ⊢
   omega
theorem aoK (main sub:Bs) (ps:List F2) {i:Nat} (h:i<ps.length):I9 main sub (ps.take (i+1))=I9 main sub (ps.take i)++[59,32]++ps[i].1++[61]++aaG ps[i].2:=by
 unfold I9
 rw [List.take_succ_eq_append_getElem h,List.map_append,List.flatten_append]
 simp only [List.map_cons,List.map_nil,List.flatten_cons,List.flatten_nil,List.append_assoc,List.append_nil]
theorem aey (main sub:Bs) (ps:List F2) (h1:main.length<=1000) (h2:sub.length<=1000) (h3:ps.length<=1000) (h4:∀ p ∈ ps,p.1.length<=1000/\p.2.length<=1000):qc O6 [.agg [.str main,.str sub,.sl false (vF ps)]]=some (.bool (L9 main sub ps)):=by
 suffices h:j2 (cv O6 [.agg [.str main,.str sub,.sl false (vF ps)]] []) fun r=>r.1 = .bool (L9 main sub ps) by
  obtain ⟨⟨v,H⟩,e,h⟩:=h
  have h:v=_:=h
  subst h
  exact u3 e (by simp only [b8,Q7]) rfl
 have e1:=akh main (by omega)
 have e2:=akh sub (by omega)
 have hlen:y0 (.sl false (vF ps))=some (.int .i64 (ps.length:Nat)):=by rw [<-aak]; rfl
 have k0:(I9 main sub (ps.take 0)).length=main.length+sub.length+1:=by simp [I9]; omega
 have s1:a8 (.int .i64) .add (.int .i64 (main.length:Int)) (.int .i64 (sub.length:Int))=some (.int .i64 ((main.length+sub.length:Nat):Int)):=p6 _ _ _ (by omega)
 have s2:a8 (.int .i64) .add (.int .i64 ((main.length+sub.length:Nat):Int)) (.int .i64 1)=some (.int .i64 (((I9 main sub (ps.take 0)).length:Nat):Int)):=by rw [k0]; exact p6 _ _ 1 (by omega)
 rw [ai1]
 unfold L9
 cases c1:N3 main with
 | false=>rw [c1] at e1; simp only [b8,e1,Bool.false_and]; exact j2.here rfl
 | true =>
 rw [c1] at e1
 cases c2:N3 sub with
 | false=>rw [c2] at e2; simp only [b8,e1,e2,Bool.false_and,Bool.true_and]; exact j2.here rfl
 | true =>
 rw [c2] at e2
 by_cases c3:ps.length<=4
 ·simp only [b8,e1,e2,p5,hlen,s1,s2,c3,decide_true,Bool.true_and,show ¬ ((ps.length:Int)>4) from by omega]
  refine j2.H5 (I:=fun n st H=>∃ (i:Nat),n=ps.length-i/\i<=ps.length/\st=[.int .i64 (((I9 main sub (ps.take i)).length:Nat):Int),.int .i64 (i:Nat),.str main,.str sub,.sl false (vF ps)]/\∀ j,j<i->X4 ps j=true)
   (P:=fun q vs H=>(q=0/\vs=[.int .i64 (((I9 main sub ps).length:Nat):Int)]/\(List.range ps.length).all (X4 ps)=true)\/(q=1/\vs=[.bool false]/\(List.range ps.length).all (X4 ps)=false)) (n:=ps.length) ?_ ⟨0,by omega,by omega,rfl,fun j hj=>by omega⟩ ?_
  ·rintro n st H ⟨i,rfl,hi,rfl,inv⟩
   rw [agp]
   by_cases hlt:i<ps.length
   ·have i1:=ad0 false ps i hlt
    have hp:=h4 _ (List.getElem_mem hlt)
    have f1:=akh ps[i].1 (by omega)
    have f2:=atU ps[i].2 (by omega)
    have f3:=ao9 (ps.take i) ps[i].1 (by simp; omega) (fun p hp=>by have:=h4 p (List.mem_of_mem_take hp); omega) (by omega)
    have f4:F1 2 (.sl false (vF ps)) none (some (.int .i64 (i:Nat)))=some (.sl false (vF (ps.take i))):=by
     have:=arC 2 false (vF ps) .i64 i (alo _) (by rw [aak]; omega)
     rw [aqu,p5] at this
     exact this
    have f5:=ad8 ps[i].2 (by omega)
    have hql:=aei ps[i].2
    have hbi:=aqj main sub ps h1 h2 h4 i hi
    have e5:a8 (.int .i64) .add (.int .i64 (i:Int)) (.int .i64 1)=some (.int .i64 ((i+1:Nat):Int)):=p6 _ i 1 (by omega)
    have hsz:(I9 main sub (ps.take (i+1))).length=(I9 main sub (ps.take i)).length+3+ps[i].1.length+(aaG ps[i].2).length:=by
     rw [aoK main sub ps hlt]; simp; omega
    generalize (I9 main sub (ps.take i)).length=z at *
    have g1:a8 (.int .i64) .add (.int .i64 (z:Int)) (.int .i64 3)=some (.int .i64 ((z+3:Nat):Int)):=p6 _ z 3 (by omega)
    have g2:a8 (.int .i64) .add (.int .i64 ((z+3:Nat):Int)) (.int .i64 (ps[i].1.length:Int))=some (.int .i64 ((z+3+ps[i].1.length:Nat):Int)):=p6 _ _ _ (by omega)
    have g3:a8 (.int .i64) .add (.int .i64 ((z+3+ps[i].1.length:Nat):Int)) (.int .i64 ((aaG ps[i].2).length:Int))=some (.int .i64 (((I9 main sub (ps.take (i+1))).length:Nat):Int)):=by rw [hsz]; exact p6 _ _ _ (by omega)
    have hB:X4 ps i=(N3 ps[i].1&&(u7 ps[i].2&&(decide (ps[i].2.length<=40) && !acd (ps.take i) ps[i].1))):=by
     unfold X4; rw [List.getElem?_eq_getElem hlt]
    have bad:X4 ps i=false->(List.range ps.length).all (X4 ps)=false:=fun h=>ae3 hlt h
    cases d1:N3 ps[i].1 with
    | false =>
      rw [d1] at f1
      simp only [b8,p5,hlen,i1,f1,show ((i:Int)<(ps.length:Int)) from by omega]
      exact ⟨_,rfl,.inl ⟨1,rfl,.inr ⟨rfl,rfl,bad (by rw [hB,d1]; rfl)⟩⟩⟩
    | true =>
    rw [d1] at f1
    cases d2:(u7 ps[i].2&&decide (ps[i].2.length<=40)) with
    | false =>
      rw [d2] at f2
      simp only [b8,p5,hlen,i1,f1,f2,show ((i:Int)<(ps.length:Int)) from by omega]
      exact ⟨_,rfl,.inl ⟨1,rfl,.inr ⟨rfl,rfl,bad (by rw [hB,d1,<-Bool.and_assoc (u7 ps[i].2),d2]; rfl)⟩⟩⟩
    | true =>
    rw [d2] at f2
    cases d4:acd (ps.take i) ps[i].1 with
    | true =>
      rw [d4,if_pos rfl] at f3
      simp only [b8,p5,hlen,i1,f1,f2,f4,f3,show ((((ps.take i).findIdx (fun p=>decide (m7 p.1=m7 ps[i].1)):Nat):Int)>=0) from by omega,show ((i:Int)<(ps.length:Int)) from by omega]
      exact ⟨_,rfl,.inl ⟨1,rfl,.inr ⟨rfl,rfl,bad (by rw [hB,d1,d4,<-Bool.and_assoc (u7 ps[i].2),d2]; rfl)⟩⟩⟩
    | false =>
      rw [d4,if_neg (by decide)] at f3
      simp only [b8,p5,hlen,i1,f1,f2,f4,f3,f5,e5,g1,g2,g3,show ¬ ((-1:Int)>=0) from by decide,show ((i:Int)<(ps.length:Int)) from by omega]
      refine ⟨_,rfl,.inr ⟨rfl,ps.length-(i+1),by omega,i+1,rfl,by omega,rfl,fun j hj=>?_⟩⟩
      by_cases hji:j=i
      ·subst hji; rw [hB,d1,d4,<-Bool.and_assoc (u7 ps[j].2),d2]; rfl
      ·exact inv j (by omega)
   ·have:i=ps.length:=by omega
    subst this
    simp only [b8,p5,hlen,List.take_length,show ¬ ((ps.length:Int)<(ps.length:Int)) from by omega]
    exact ⟨_,rfl,.inl ⟨0,rfl,.inl ⟨rfl,rfl,List.all_eq_true.2 fun j hj=>inv j (by simpa using hj)⟩⟩⟩
  rintro _ _ H (⟨rfl,rfl,hA⟩ | ⟨rfl,rfl,hA⟩)
  ·rw [hA]
   have hd:decide ((I9 main sub ps).length<=150)=decide (((I9 main sub ps).length:Int)<=150):=decide_eq_decide.2 (by omega)
   simp only [b8,Bool.true_and,hd]
   exact j2.here rfl
  ·rw [hA]
   simp only [b8,Bool.false_and]
   exact j2.here rfl
 ·simp only [b8,e1,e2,p5,hlen,c3,decide_false,Bool.true_and,Bool.false_and,show ((ps.length:Int)>4) from by omega]
  exact j2.here rfl
theorem ajd (k:Knd) (h1:k.1.length<=1000) (h2:k.2.1.length<=1000) (h3:k.2.2.length<=1000) (h4:∀ p ∈ k.2.2,p.1.length<=1000/\p.2.length<=1000):qc T5 [.agg [.str k.1,.str k.2.1,.sl false (vF k.2.2)]]=some (.str (fmK k)):=by
 obtain ⟨main,sub,ps⟩:=k
 simp only at h1 h2 h3 h4
 have e1:=aey main sub ps h1 h2 h3 h4
 have a1:=G3 .str main [47] (by simp; omega)
 have a2:=G3 .str (main++[47]) sub (by simp; omega)
 have hlen:y0 (.sl false (vF ps))=some (.int .i64 (ps.length:Nat)):=by rw [<-aak]; rfl
 have k0:I9 main sub (ps.take 0)=main++[47]++sub:=by simp [I9]
 suffices h:j2 (cv T5 [.agg [.str main,.str sub,.sl false (vF ps)]] []) fun r=>r.1 = .str (fmK (main,sub,ps)) by
  obtain ⟨⟨v,H⟩,e,h⟩:=h
  have h:v=_:=h
  subst h
  exact u3 e (by simp only [b8,Q7]) rfl
 rw [ahW]
 unfold fmK
 cases h:L9 main sub ps with
 | false =>
   rw [h] at e1
   simp only [b8,p5,e1,h]
   exact j2.here rfl
 | true =>
   rw [h] at e1
   simp only [b8,p5,e1,h,a1,a2]
   refine j2.H5 (I:=fun n st H=>∃ (i:Nat),n=ps.length-i/\i<=ps.length/\st=[.str (I9 main sub (ps.take i)),.int .i64 (i:Nat),.str main,.str sub,.sl false (vF ps)])
    (P:=fun q vs H=>q=0/\vs=[.str (I9 main sub ps)]) (n:=ps.length) ?_ ⟨0,by omega,by omega,by rw [k0]; rfl⟩ ?_
   ·rintro n st H ⟨i,rfl,hi,rfl⟩
    rw [agi]
    by_cases hlt:i<ps.length
    ·have i1:=ad0 false ps i hlt
     have hp:=h4 _ (List.getElem_mem hlt)
     have f5:=ad8 ps[i].2 (by omega)
     have hql:=aei ps[i].2
     have hbi:=aqj main sub ps h1 h2 h4 i hi
     have e5:a8 (.int .i64) .add (.int .i64 (i:Int)) (.int .i64 1)=some (.int .i64 ((i+1:Nat):Int)):=p6 _ i 1 (by omega)
     have hs:=aoK main sub ps hlt
     generalize I9 main sub (ps.take i)=z at *
     have w1:=G3 .str z [59,32] (by simp; omega)
     have w2:=G3 .str (z++[59,32]) ps[i].1 (by simp; omega)
     have w3:=G3 .str (z++[59,32]++ps[i].1) [61] (by simp; omega)
     have w4:=G3 .str (z++[59,32]++ps[i].1++[61]) (aaG ps[i].2) (by simp; omega)
     rw [<-hs] at w4
     simp only [b8,p5,hlen,i1,f5,w1,w2,w3,w4,e5,show ((i:Int)<(ps.length:Int)) from by omega]
     exact ⟨_,rfl,.inr ⟨rfl,ps.length-(i+1),by omega,i+1,rfl,by omega,rfl⟩⟩
    ·have:i=ps.length:=by omega
     subst this
     simp only [b8,p5,hlen,List.take_length,show ¬ ((ps.length:Int)<(ps.length:Int)) from by omega]
     exact ⟨_,rfl,.inl ⟨0,rfl,rfl,rfl⟩⟩
   rintro _ _ H ⟨rfl,rfl⟩
   simp only [b8]
   exact j2.here rfl
def amF (t:Bs) (m:Bool):List Bs:=if m=true then Q8 59 t else []
def ahP (t:Bs) (m:Bool):Nat:=if m=true then t.length+1 else 0
theorem avT (t:Bs) (ht:u7 t=true):∃ (p u:Bs) (m:Bool),qc D6 [.str t,.int .u8 59]=some (.n8 [.str p,.str u,.bool m])/\Q8 59 t=p::amF u m/\ahP u m<=t.length/\u7 p=true/\u7 u=true:=by
 have h200:=Y0 ht
 have e:qc D6 [.str t,.int .u8 59]=_:=ama t 59 (by omega)
 cases h:y5 59 t 0 with
 | none =>
   rw [h] at e
   exact ⟨t,[],false,e,adb h,by simp [ahP],ht,rfl⟩
 | some k =>
   rw [h] at e
   have:=(abE h).2
   exact ⟨t.take k,t.drop (k+1),true,e,acN h,by simp [ahP]; omega,asf ht k,amU ht (k+1)⟩
theorem arT {p:Bs} {l:List Bs}:K1 (p::l)=match ab7 p with | none=>none | some x=>(K1 l).map (x::·):=by
 conv=>lhs; unfold K1
 cases ab7 p with
 | none=>rfl
 | some x=>cases K1 l<;>rfl
theorem aug {s:Bs} (h:u7 s=false):aht s=none:=by unfold aht; rw [if_pos h]
theorem awm {s p:Bs} {r:List Bs} (h:u7 s=true) (h2:Q8 59 s=p::r):aht s=match K1 r with | none=>none | some ps=>hdQ (l7 p) ps:=by
 unfold aht; rw [if_neg (by rw [h]; decide),h2]; rfl
theorem akg (s:Bs) (hs:s.length<=1000000):pc V2 [.str s]=some (.n8 (kn3 (Y4 s))):=by
 rw [<-awz]
 have e0:=abt s (by omega)
 suffices h:j2 (cv V2 [.str s] []) fun r=>r.1 = .n8 (kn3 (aht s)) by
  obtain ⟨⟨v,H⟩,e,h⟩:=h
  have h:v=_:=h
  subst h
  refine aeW e (by simp only [b8]) ?_
  cases aht s<;>simp only [kn3,b8,alR]
 rw [ajh]
 by_cases ht:u7 s=true
 ·have h200:=Y0 ht
  rw [ht] at e0
  obtain ⟨p,u0,m0,c1,c2,c3,c4,c5⟩:=avT s ht
  rw [awm ht c2]
  have hp200:=Y0 c4
  have e1:=aeh p (by omega)
  have hTl:=aaE p
  have e2:qc D6 [.str (l7 p),.int .u8 47]=_:=ama (l7 p) 47 (by omega)
  obtain ⟨M,S,ok,e2',hM,hS,hH⟩:∃ (M S:Bs) (ok:Bool),qc D6 [.str (l7 p),.int .u8 47]=some (.n8 [.str M,.str S,.bool ok])/\M.length<=200/\S.length<=200/\∀ ps,hdQ (l7 p) ps=if ok=true/\L9 (m7 M) (m7 S) ps=true then some (m7 M,m7 S,ps) else none:=by
   cases h:y5 47 (l7 p) 0 with
   | none =>
     rw [h] at e2
     refine ⟨_,_,_,e2,by omega,by simp,fun ps=>?_⟩
     unfold hdQ; rw [h]; rfl
   | some k =>
     rw [h] at e2
     refine ⟨_,_,_,e2,by simp; omega,by simp; omega,fun ps=>?_⟩
     unfold hdQ; rw [h]; simp only [true_and]
  clear e2
  have e3:=M0 M (by omega)
  have e4:=M0 S (by omega)
  have hML:(m7 M).length<=200:=by simp [m7]; omega
  have hSL:(m7 S).length<=200:=by simp [m7]; omega
  generalize m7 M=M' at *
  generalize m7 S=S' at *
  simp only [b8,e0,c1,e1,e2',e3,e4]
  generalize hr:K1 (amF u0 m0)=R
  refine j2.H5 (I:=fun n st H=>∃ (t:Bs) (m:Bool) (acc:List F2),n=ahP t m/\u7 t=true/\acc.length+ahP t m<=201/\(∀ x ∈ acc,x.1.length<=1000/\x.2.length<=1000)/\R=(K1 (amF t m)).map (acc++·)/\st=[.str t,.bool m,.bool ok,.str [],.str [],.sl true [],.str M',.str S',.sl true (vF acc)])
   (P:=fun q vs H=>(q=0/\∃ acc:List F2,R=some acc/\acc.length<=201/\(∀ x ∈ acc,x.1.length<=1000/\x.2.length<=1000)/\vs=[.bool ok,.str [],.str [],.sl true [],.str M',.str S',.sl true (vF acc)])\/(q=1/\R=none/\vs=[.bool false,.str [],.str [],.sl true []])) (n:=ahP u0 m0) ?_ ⟨u0,m0,[],rfl,c5,by simp; omega,by simp,by rw [<-hr]; simp,rfl⟩ ?_
  ·rintro n st H ⟨t,m,acc,rfl,ht',hn,hx,hR,rfl⟩
   rw [agZ]
   cases m with
   | false =>
     simp only [b8]
     refine ⟨_,rfl,.inl ⟨0,rfl,.inl ⟨rfl,acc,?_,by omega,hx,rfl⟩⟩⟩
     rw [hR]; simp [amF,K1]
   | true =>
     obtain ⟨q,u,m2,d1,d2,d3,d4,d5⟩:=avT t ht'
     have hq200:=Y0 d4
     have f1:=aeh q (by omega)
     have hql:=aaE q
     have f2:qc D6 [.str (l7 q),.int .u8 61]=_:=ama (l7 q) 61 (by omega)
     have hR2:R=(match ab7 q with | none=>none | some x=>(K1 (amF u m2)).map (x::·)).map (acc++·):=by
      rw [hR]
      show (K1 (Q8 59 t)).map (acc++·)=_
      rw [d2,arT]
     cases h:y5 61 (l7 q) 0 with
     | none =>
       rw [h] at f2
       have f3:qc J0 [.str []]=some (.str []):=aeh [] (by simp)
       have f4:pc T4 [.str []]=some (.n8 (wdX (B3 [] 0 true []))):=amW [] (by simp)
       have hpq:ab7 q=none:=by unfold ab7; rw [h]
       rw [hpq] at hR2
       have hw:B3 ([]:Bs) 0 true []=some []:=aaJ (by simp)
       rw [hw] at f4
       simp only [cuT] at f2
       simp only [wdX] at f4
       simp only [b8,d1,f1,f2,f3,f4]
       exact ⟨_,rfl,.inl ⟨1,rfl,.inr ⟨rfl,hR2,rfl⟩⟩⟩
     | some k =>
       rw [h] at f2
       have hk:=(abE h).2
       have f3:=aeh ((l7 q).drop (k+1)) (by simp; omega)
       have hvl:=aaE ((l7 q).drop (k+1))
       have hvl2:((l7 q).drop (k+1)).length<=200:=by simp; omega
       have f4:=amW (l7 ((l7 q).drop (k+1))) (by omega)
       have f5:=aeh ((l7 q).take k) (by simp; omega)
       have hnl:=aaE ((l7 q).take k)
       have hnl2:((l7 q).take k).length<=200:=by simp; omega
       have f6:=M0 (l7 ((l7 q).take k)) (by omega)
       have hlow:(m7 (l7 ((l7 q).take k))).length<=200:=by simp [m7]; omega
       have hpq:ab7 q=match B3 (l7 ((l7 q).drop (k+1))) 0 true [] with | some [w]=>some (m7 (l7 ((l7 q).take k)),w) | _=>none:=by unfold ab7; rw [h]; rfl
       simp only [cuT] at f2
       generalize m7 (l7 ((l7 q).take k))=nm at *
       generalize l7 ((l7 q).drop (k+1))=v at *
       cases hw:B3 v 0 true [] with
       | none =>
         rw [hw] at f4 hpq
         simp only at hpq
         rw [hpq] at hR2
         simp only [wdX] at f4
         simp only [b8,d1,f1,f2,f3,f4]
         exact ⟨_,rfl,.inl ⟨1,rfl,.inr ⟨rfl,hR2,rfl⟩⟩⟩
       | some ws =>
         have htot:=afW hw
         rw [hw] at f4 hpq
         simp only [wdX] at f4
         match ws,htot,f4,hpq with
         | [],_,f4,hpq =>
           simp only at hpq
           rw [hpq] at hR2
           simp only [b8,d1,f1,f2,f3,f4,List.length_nil]
           exact ⟨_,rfl,.inl ⟨1,rfl,.inr ⟨rfl,hR2,rfl⟩⟩⟩
         | w::w2::l,_,f4,hpq =>
           simp only at hpq
           rw [hpq] at hR2
           simp only [b8,d1,f1,f2,f3,f4,List.length_cons,show ¬ (((l.length+1+1:Nat):Int)=1) from by omega]
           exact ⟨_,rfl,.inl ⟨1,rfl,.inr ⟨rfl,hR2,rfl⟩⟩⟩
         | [w],htot,f4,hpq =>
           simp only at hpq
           rw [hpq] at hR2
           have hwl:w.length<=1000:=by
            have e:aaA [w]=w.length+1:=by simp [aaA]
            have e':aaA ([]:List Bs)=0:=by simp [aaA]
            omega
           have j0:A1 1 (.sl false (vT [w])) (.int .i64 0)=some (.D3 [.str w] 0):=aep false [w] .i64 0 (by simp)
           have ht1:ahP t true=t.length+1:=rfl
           have ap:=al4 acc (nm,w) (by omega)
           simp only [b8,d1,f1,f2,f3,f4,f5,f6,j0,ap,List.length_cons,List.length_nil,show (((0+1:Nat)):Int)=1 from rfl]
           refine ⟨_,rfl,.inr ⟨rfl,ahP u m2,by omega,u,m2,acc++[(nm,w)],rfl,d5,by simp; omega,fun x hx2=>?_,?_,rfl⟩⟩
           ·rcases List.mem_append.1 hx2 with hx2 | hx2
            ·exact hx x hx2
            ·simp only [List.mem_singleton] at hx2
             subst hx2
             exact ⟨by show nm.length<=1000; omega,hwl⟩
           ·rw [hR2]
            cases K1 (amF u m2) with
            | none=>rfl
            | some xs=>simp
  rintro _ _ H (⟨rfl,acc,hR,ha,hx,rfl⟩ | ⟨rfl,hR,rfl⟩)
  ·subst hR
   have e6:=aey M' S' acc (by omega) (by omega) (by omega) hx
   simp only [hH]
   cases ok with
   | false =>
     simp only [b8,false_and]
     exact j2.here rfl
   | true =>
     cases c3:L9 M' S' acc with
     | true =>
       rw [c3] at e6
       simp only [b8,p5,e6,true_and]
       exact j2.here rfl
     | false =>
       rw [c3] at e6
       simp only [b8,p5,e6,and_false]
       exact j2.here rfl
  ·subst hR
   simp only [b8]
   exact j2.here rfl
 ·have ht':u7 s=false:=by simpa using ht
  rw [aug ht']
  rw [ht'] at e0
  simp only [b8,e0]
  exact j2.here rfl
theorem auQ (ps:List F2) (hp:ps.length<=1000000):qc A6 [.sl false (vF ps),.sl false (vF ps)]=some (.bool true):=by
 suffices h:j2 (cv A6 [.sl false (vF ps),.sl false (vF ps)] []) fun r=>r.1 = .bool true by
  obtain ⟨⟨v,H⟩,e,h⟩:=h
  have h:v=_:=h
  subst h
  exact u3 e (by simp only [b8,Q7]) rfl
 have hlen:y0 (.sl false (vF ps))=some (.int .i64 (ps.length:Nat)):=by rw [<-aak]; rfl
 rw [Y2]
 simp only [b8,p5,hlen]
 refine j2.H5 (I:=fun n st H=>∃ (i:Nat),n=ps.length-i/\i<=ps.length/\st=[.sl false (vF ps),.sl false (vF ps),.int .i64 (ps.length:Nat),.int .i64 (i:Nat)])
  (P:=fun q vs H=>q=0/\vs=[]) (n:=ps.length) ?_ ⟨0,by omega,by omega,rfl⟩ ?_
 ·rintro n st H ⟨i,rfl,hi,rfl⟩
  rw [T9]
  by_cases hlt:i<ps.length
  ·have i1:=ad0 false ps i hlt
   have hE:∀ a b:Bs,alq 2 .neq (.agg [.str a,.str b]) (.agg [.str a,.str b])=some (.bool false):=fun a b=>by simp [alq,abz]
   have e5:a8 (.int .i64) .add (.int .i64 (i:Int)) (.int .i64 1)=some (.int .i64 ((i+1:Nat):Int)):=p6 _ i 1 (by omega)
   simp only [b8,p5,i1,hE,e5,show ((i:Int)<(ps.length:Int)) from by omega]
   exact ⟨_,rfl,.inr ⟨rfl,ps.length-(i+1),by omega,i+1,rfl,by omega,rfl⟩⟩
  ·have:i=ps.length:=by omega
   subst this
   simp only [b8,show ¬ ((ps.length:Int)<(ps.length:Int)) from by omega]
   exact ⟨_,rfl,.inl ⟨0,rfl,rfl,rfl⟩⟩
 rintro _ _ H ⟨rfl,rfl⟩
 simp only [b8]
 exact j2.here rfl
theorem alv (M S:Bs) (ps:List F2) (hp:ps.length<=1000000):qc W8 [.agg [.str M,.str S,.sl false (vF ps)],.agg [.str M,.str S,.sl false (vF ps)]]=some (.bool true):=by
 have e1:=auQ ps hp
 refine u3 (H:=[]) ?_ (by simp only [b8,Q7]) rfl
 show cv _ _ _=_
 rw [akt]
 simp only [b8,p5,e1]
end Go.Proofs.YtmokcpfbeggigaaGreatDoor.Q

/- Contracts: mailboxes are added, the program's way. -/
import Derived.Test.YtaapfgpeeghmeaaGreatDoorScriptMailC98splitZ
import Derived.Test.YtaapfgpeeghmeaaGreatDoorFnScriptMailK4
namespace Go.Proofs.YtaapfgpeeghmeaaGreatDoor.Q
open Go Go.AM
set_option linter.unusedSimpArgs false
set_option linter.unusedVariables false
set_option linter.unusedSectionVars false
theorem aru:∀ (l:List y0) (i:Nat),(E8 l).flatten.take (i*2)=(E8 (l.take i)).flatten
 | [],i=>by simp [E8]
 | b::l,0=>by simp [E8]
 | b::l,i+1=>by
   have:=aru l i
   show (cOx b++(E8 l).flatten).take ((i+1)*2)=cOx b++(E8 (l.take i)).flatten
   rw [<-this,show (i+1)*2=(cOx b).length+i*2 by simp [cOx]; omega,List.take_length_add_append]
theorem arS:∀ (l:List y0) (i:Nat),(E8 l).flatten.drop (i*2)=(E8 (l.drop i)).flatten
 | [],i=>by simp [E8]
 | b::l,0=>by simp [E8]
 | b::l,i+1=>by
   have:=arS l i
   show (cOx b++(E8 l).flatten).drop ((i+1)*2)=(E8 (l.drop i)).flatten
   rw [<-this,show (i+1)*2=(cOx b).length+i*2 by simp [cOx]; omega,List.drop_length_add_append]
theorem alU (a b:List y0):(E8 a).flatten++(E8 b).flatten=(E8 (a++b)).flatten:=by rw [<-av1,List.flatten_append]
theorem awc {p:Bs}:∀ {l:List y0} {i:Nat},i<=l.length->(∀ j,j<i->W2 (C8 l j).path p=true)->(i<l.length->W2 p (C8 l i).path=true)->agv p l=l.take i++[⟨p,[]⟩]++l.drop i
 | [],i,hi,_,_=>by
   have:i=0:=by simpa using hi
   subst this; rfl
 | b::l,0,_,_,h=>by
   have:W2 p b.path=true:=h (by simp)
   simp only [agv,this,if_true,List.take_zero,List.drop_zero,List.nil_append,List.cons_append]
 | b::l,i+1,hi,h1,h2=>by
   have hb:W2 b.path p=true:=h1 0 (by omega)
   have hb':W2 p b.path=false:=by
    cases q:W2 p b.path with
    | false=>rfl
    | true=>have:=ahV hb q; rw [aqf] at this; cases this
   have ih:=awc (p:=p) (l:=l) (i:=i) (by simpa using hi) (fun j hj=>h1 (j+1) (by omega)) (fun h=>h2 (by simp; omega))
   simp only [agv,hb',Bool.false_eq_true,if_false,ih,List.take_succ_cons,List.drop_succ_cons,List.cons_append]
theorem au4 (p:Bs) (H:VH):cv M8 [.sl true [],.int .i64 0,.sl true [[.str p,.sl true []]]] H=some (.y1 H.length 0 1 2,H++[[.str p,.sl true []]]):=by
 show M3 vb _ _ _=_
 rw [afo vb _ _ _ (g:=aiI 2 40) rfl]
 rfl
theorem avd {l:List y0} {k i:Nat} {H:VH} (p:Bs) (hk:H[k]? = some (E8 l).flatten) (hl:l ≠ []) (hll:l.length<=1049600) (hi:i<=l.length) :
 cv M8 [.y1 k 0 l.length 2,.int .i64 (i:Nat),.sl true [[.str p,.sl true []]]] H=some (.y1 H.length 0 (l.length+1) 2,H.set k []++[(E8 (l.take i++[⟨p,[]⟩]++l.drop i)).flatten]):=by
 show M3 vb _ _ _=_
 rw [afo vb _ _ _ (g:=aiI 2 40) rfl]
 have h0:0<l.length:=List.length_pos_iff.2 hl
 have hf:(E8 l).flatten.length=l.length*2:=by have:=(aca l).flat; rw [this,acC]
 simp only [aiI,hk,Option.bind_some]
 rw [if_pos (by first | exact ⟨rfl,h0,hf,by omega,by omega,rfl,by simp; omega⟩ | exact ⟨trivial,h0,hf,by omega,by omega,rfl,by simp; omega⟩)]
 simp only [Int.toNat_natCast,aru,arS]
 have e:[[V.str p,V.sl true []]].flatten=(E8 [⟨p,[]⟩]).flatten:=rfl
 rw [e,alU,alU]
 rfl
theorem asj (l:List y0) (p:Bs) (h:adg l) (hll:l.length<=1049600) (hs:∀ b ∈ l,b.path.length<=1049600) (hp:p.length<=1049600) :
 Y4 (cv abU [.sl false (vR eX l),.str p] []) (fun r H=>(aot l p=false/\r = .n9 [.sl true [],.bool false]) ∨
  (aot l p=true/\∃ o,r = .n9 [o,.bool true]/\HoX o H (akG l p))):=by
 have e1:=adX l h
 have e2:=ajK p (by omega)
 have e3:=aiM l h
 obtain ⟨at_,kn,hat1,hbp,hat2,hat3⟩:=ajP l p (by omega)
 refine Y4.of ?_
 rw [aqV]
 unfold akG aot
 by_cases c1:Q3 l=true
 ·obtain ⟨q1,q2,q3,q4⟩:=hat3 (amJ c1)
  by_cases c2:G0 p=true
  ·by_cases c3:l.any (G4 p)=true
   ·rw [c3] at q1
    simp only [c9,J5,hbp,e1,e2,c1,c2,c3,q1]
    exact j8.here (.inl ⟨rfl,rfl⟩)
   ·have c3':l.any (G4 p)=false:=by simpa using c3
    rw [c3'] at q1
    by_cases c4:l.length=8
    ·simp only [c9,J5,hbp,e1,e2,c1,c2,c3',q1,show ((l.length:Int)=8) from by omega,decide_eq_true c4]
     exact j8.here (.inl ⟨rfl,rfl⟩)
    ·have hins:agv p l=l.take at_++[⟨p,[]⟩]++l.drop at_:=awc hat1 q3 (fun hlt=>by
      cases hq:W2 p (C8 l at_).path with
      | true=>rfl
      | false =>
      have e:=ayw (q4 hlt) hq
      rw [K6 hlt] at e
      have:l.any (G4 p)=true:=List.any_eq_true.2 ⟨_,List.getElem_mem hlt,decide_eq_true e⟩
      rw [this] at c3'; cases c3')
     simp only [c9,J5,ap8,hbp,e1,e2,e3,c1,c2,c3',q1,show ¬ ((l.length:Int)=8) from by omega,decide_eq_false c4]
     by_cases hn:l=[]
     ·subst hn
      have ha0:at_=0:=by simpa using hat1
      subst ha0
      show j8 (W8 1 (.sl true []) [] _) _
      rw [ar7]
      have i1:=au4 p []
      rw [show ((0:Nat):Int)=0 from rfl]
      simp only [c9,i1]
      exact j8.here (.inr ⟨by first | trivial | rfl,_,rfl,.inr ⟨by simp [agv],0,rfl,rfl⟩⟩)
     ·rw [asc [] _ (fun e=>hn (by simpa [E8] using e)) (aca l) (aiY l),acC]
      have i1:=avd (k:=0) (i:=at_) (H:=[(E8 l).flatten]) p rfl hn hll hat1
      simp only [c9,List.nil_append,List.length_nil,i1]
      refine j8.here (.inr ⟨by first | trivial | rfl,_,rfl,.inr ⟨by rw [hins]; simp,1,?_,?_⟩⟩)
      ·rw [aoH]; rfl
      ·rw [hins]; rfl
  ·have c2':G0 p=false:=by simpa using c2
   simp only [c9,J5,hbp,e1,e2,c1,c2']
   exact j8.here (.inl ⟨rfl,rfl⟩)
 ·have c1':Q3 l=false:=by simpa using c1
  simp only [c9,J5,hbp,e1,c1']
  exact j8.here (.inl ⟨rfl,rfl⟩)
theorem aso (l:List y0) (p:Bs) (h:adg l) (hll:l.length<=1049600) (hs:∀ b ∈ l,b.path.length<=1049600) (hp:p.length<=1049600) :
 ∃ o,pc abU [.sl false (vR eX l),.str p]=some (.n9 [.sl o (vR eX (akG l p)),.bool (aot l p)]):=by
 obtain ⟨v,H,e,hq⟩:=asj l p h hll hs hp
 rcases hq with ⟨hf,rfl⟩ | ⟨hf,o,rfl,ho⟩
 ·refine ⟨true,?_⟩
  have:akG l p=[]:=by unfold akG; rw [hf]; rfl
  rw [this,hf]
  exact Y9 e (by simp only [c9]) rfl
 ·rw [hf]
  rcases ho with ⟨hl,rfl⟩ | ⟨hne,k,rfl,hk⟩
  ·refine ⟨true,?_⟩
   rw [hl]
   exact Y9 e (by simp only [c9]) rfl
  ·refine ⟨false,aBD e (by simp only [c9]) (by simp only [data,A7,Bool.false_and]) ?_ (by simp only [data,A7,adz,Bool.and_self])⟩
   have:=ae5 hk (aca _)
   rw [acC,agq] at this
   simp only [afd,abi,this,show ∀ b,aaG H (.bool b)=some (.bool b) from fun _=>rfl,Option.bind_some,Option.map_some]
theorem asa (l:List y0):Q3 l=true<->l.length<=8/\(∀ b ∈ l,G0 b.path=true/\b.o8.length<=4/\∀ m ∈ b.o8,D6 m 1 30=true)/\afm l:=by
 constructor
 ·intro h
  have so:=amJ h
  unfold Q3 at h
  rw [Bool.and_eq_true,decide_eq_true_eq,Bool.not_eq_true',List.any_eq_false] at h
  refine ⟨h.1,fun b hb=>?_,so⟩
  obtain ⟨i,hi,rfl⟩:=List.getElem_of_mem hb
  have:=h.2 i (by simpa using hi)
  unfold ajY at this
  rw [K6 hi] at this
  simp only [Bool.or_eq_true,not_or,Bool.not_eq_true,decide_eq_false_iff_not,Bool.not_eq_false',List.any_eq_false,Bool.not_eq_true',Bool.not_eq_false] at this
  exact ⟨this.1,by have:=this.2.1; omega,fun m hm=>this.2.2.2 m hm⟩
 ·rintro ⟨h1,h2,so⟩
  unfold Q3
  rw [Bool.and_eq_true,decide_eq_true_eq,Bool.not_eq_true',List.any_eq_false]
  refine ⟨h1,fun i hi=>?_⟩
  have hi:i<l.length:=by simpa using hi
  have hb:=h2 _ (alW hi)
  unfold ajY
  simp only [Bool.or_eq_true,not_or,Bool.not_eq_true,decide_eq_false_iff_not,Bool.not_eq_false',List.any_eq_false,Bool.not_eq_true',Bool.not_eq_false]
  refine ⟨hb.1,by have:=hb.2.1; omega,?_,fun m hm=>hb.2.2 m hm⟩
  rw [Bool.and_eq_false_iff]
  by_cases h0:0<i
  ·right
   rw [so (i-1) i (by omega) hi]; rfl
  ·left; simpa using h0
end Go.Proofs.YtaapfgpeeghmeaaGreatDoor.Q

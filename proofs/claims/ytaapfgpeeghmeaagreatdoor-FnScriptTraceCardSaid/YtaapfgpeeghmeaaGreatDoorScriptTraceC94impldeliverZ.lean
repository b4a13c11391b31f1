/- Contracts: mails come to mailboxes, the program's way. -/
import Derived.Test.YtaapfgpeeghmeaaGreatDoorScriptTraceC93placeZ
namespace Go.Proofs.YtaapfgpeeghmeaaGreatDoor.Q
open Go Go.AM
set_option linter.unusedSimpArgs false
set_option linter.unusedVariables false
set_option linter.unusedSectionVars false
theorem alN (l:List A3) (m:z7) (to:Bs) (j:Nat):(C7 (dl1 l m to).1 j).path=(C7 l j).path:=by
 unfold dl1
 split
 ·rename_i ha
  have hx:=Z9 ha
  split
  ·rfl
  ·simp only
   by_cases hj:j=l.findIdx (K9 to)
   ·subst hj
    rw [N3 (by simpa using hx),List.getElem_set_self]
   ·unfold C7
    rw [List.getD_eq_getElem?_getD,List.getElem?_set_ne (by omega),<-List.getD_eq_getElem?_getD]
 ·rfl
theorem axD {l:List A3} (h:aeV l) (m:z7) (to:Bs):aeV (dl1 l m to).1:=fun i j hij hj=>by
 rw [alN,alN]
 exact h i j hij (by rw [ahG] at hj; exact hj)
theorem aq5 {m:z7}:∀ {tos:List Bs} {s:List A3 × List Int},aeV s.1->aeV (S4 m tos s).1
 | [],s,h=>h
 | t::tos,s,h=>by
   have:=aq5 (m:=m) (tos:=tos) (s:=dlS m s t) (axD h m t)
   simpa [S4] using this
theorem aoq (l:List A3) (m:z7) (h:aeF l) (hp:∀ b ∈ l,b.path.length<=1049600) (hm:SmM m) (ht:∀ t ∈ m.to,t.length<=1049600) :
 Y9 (cv aaq [.sl false (vR eX l),.agg (cM m)] []) (fun r H=>(aoh l m=false/\r = .A4 [.sl true [],.sl true [],.bool false]) ∨
  (aoh l m=true/\∃ o,r = .A4 [o,.sl true (vI .i64 (aeq l m).2),.bool true]/\HoX o H (aeq l m).1)):=by
 have e1:=afK l h
 have e2:=adC m hm
 simp only [P7] at e2
 refine Y9.of ?_
 rw [aje]
 unfold aoh aeq
 by_cases hb:V7 l=true
 ·rw [hb] at e1
  by_cases hv:L5 m 1 30=true
  ·rw [hv] at e2
   have hok:=avR h hb hp
   have hto:m.to.length<=10:=axS hv
   have e3:=alq l h
   have e4:=aiS m.lines (by have:=hm.2.2.1; omega)
   simp only [j3,P7,N0,ap0,e1,e2,hb,hv,e3]
   have loop:∀ (o0:V) (H0:VH),HoX o0 H0 l->l7 ((z8 abY [o0,.sl true [],.sl false (vT m.to),.int .i64 (m.to.length:Nat),.int .i64 0,.str m.from_,.sl false (vT m.to),.sl false (vT m.lines)] H0).bind fun r=>G0 r.1 [y8 2 r.2.1 fun v=>some (V.A4 [v 0,v 1,.bool true],r.2.2)])
    (fun r=>∃ o,r.1 = .A4 [o,.sl true (vI .i64 (S4 m m.to (l,[])).2),.bool true]/\HoX o r.2 (S4 m m.to (l,[])).1):=by
    intro o0 H0 h0
    refine l7.Y5 (I:=fun n st H=>∃ (i:Nat) (o:V),n=m.to.length-i/\i<=m.to.length/\st=[o,.sl true (vI .i64 (S4 m (m.to.take i) (l,[])).2),.sl false (vT m.to),.int .i64 (m.to.length:Nat),.int .i64 (i:Nat),.str m.from_,.sl false (vT m.to),.sl false (vT m.lines)]/\HoX o H (S4 m (m.to.take i) (l,[])).1)
     (P:=fun q vs H=>q=0/\∃ o,vs=[o,.sl true (vI .i64 (S4 m m.to (l,[])).2)]/\HoX o H (S4 m m.to (l,[])).1) (n:=m.to.length) ?_ ⟨0,o0,by omega,by omega,rfl,h0⟩ ?_
    ·rintro n st H ⟨i,o,rfl,hi,rfl,ho⟩
     rw [aht]
     by_cases hlt:i<m.to.length
     ·have i1:=afc false m.to .i64 i hlt
      have e5:b7 (.int .i64) .add (.int .i64 (i:Int)) (.int .i64 1)=some (.int .i64 ((i+1:Nat):Int)):=C6 _ i 1 (by omega)
      have hsn:=axU m (m.to.take i) m.to[i] (l,[])
      rw [<-List.take_succ_eq_append_getElem hlt] at hsn
      have hokI:=atc (tos:=m.to.take i) (s:=(l,[])) hm hok (fun t hh=>ht t (List.mem_of_mem_take hh))
      have hso:=aq5 (m:=m) (tos:=m.to.take i) (s:=(l,[])) (atl hb)
      have hln:=as9 m (m.to.take i) (l,[])
      have hcl:(S4 m (m.to.take i) (l,[])).2.length<=1000:=by rw [hln.1]; simp; omega
      have hfin:∀ (o':V) (H':VH),HoX o' H' (dl1 (S4 m (m.to.take i) (l,[])).1 m m.to[i]).1->HoX o' H' (S4 m (m.to.take (i+1)) (l,[])).1:=fun o' H' hh=>by rw [hsn]; exact hh
      have hcs:(S4 m (m.to.take (i+1)) (l,[])).2=(S4 m (m.to.take i) (l,[])).2++[(dl1 (S4 m (m.to.take i) (l,[])).1 m m.to[i]).2]:=by rw [hsn]; rfl
      generalize hL:S4 m (m.to.take i) (l,[])=S at *
      obtain ⟨L,cs⟩:=S
      simp only at hfin hcs ho hcl hokI hso
      have f1:=HoX.q ho aai [.str m.to[i]] rfl
      simp only [List.map_cons,List.map_nil,strip] at f1
      obtain ⟨at_,kn,hat1,hbp,hat2,hat3⟩:=anC L m.to[i] (by have:=hokI.1; omega)
      obtain ⟨q1,q2,_,_⟩:=hat3 hso
      rw [hbp] at f1
      by_cases ha:L.any (K9 m.to[i])=true
      ·have hx:=Z9 ha
       have hat:=N3 hx
       have hk1:kn=true:=by rw [q1,ha]
       rw [hk1] at f1
       rw [q2 hk1] at f1
       obtain ⟨k,rfl,hk⟩:=HoX.ne ho (fun e=>by subst e; simp at hx)
       have hbx:=hokI.2 _ (List.getElem_mem hx)
       have g1:A6 2 (.l8 k 0 L.length 2) (.int .i64 (L.findIdx (K9 m.to[i]):Nat))=some (.ptr k (L.findIdx (K9 m.to[i])*2)):=arj hx
       have g2:=axw hk hx o6
       have g3:=aw4 hk hx o6
       simp only [strip] at f1
       unfold dl1 at hfin hcs
       simp only [ha,if_true,hat] at hfin hcs
       by_cases h4:L[L.findIdx (K9 m.to[i])].y7.length=4
       ·simp only [h4,if_true] at hfin hcs
        have hh4:((L[L.findIdx (K9 m.to[i])].y7.length:Nat):Int)=4:=by omega
        simp only [j3,i1,f1,g1,g2,hh4,amg,e5,show ((i:Int)<(m.to.length:Int)) from by omega,show cs.length+1<=4000000 from by omega]
        exact ⟨_,rfl,.inr ⟨rfl,m.to.length-(i+1),by omega,i+1,_,by omega,by omega,by rw [hcs],hfin _ _ ho⟩⟩
       ·simp only [h4,if_false] at hfin hcs
        have g4:=auu (l:=L[L.findIdx (K9 m.to[i])].y7) (an1 m m.to[i]) (by have:=hbx.2.1; simp at this; omega)
        have g5:=fun w=>azV hk hx (L[L.findIdx (K9 m.to[i])].y7++[an1 m m.to[i]]) w
        simp only [an1] at g4 g5 hfin hcs
        have hh4:¬ ((L[L.findIdx (K9 m.to[i])].y7.length:Int)=4):=by omega
        have g4':∀ H,afr false false 3 64 (.sl true (vO L[L.findIdx (K9 m.to[i])].y7)) (.sl true [[.str m.from_,.sl true [[.str m.to[i]]],.sl true (vT m.lines)]]) H=some (.sl true (vO (L[L.findIdx (K9 m.to[i])].y7++[⟨m.from_,[m.to[i]],m.lines⟩])),H):=g4
        simp only [j3,i1,f1,g1,g2,g3,g4',g5,e4,ap0,hh4,amg,e5,show ((i:Int)<(m.to.length:Int)) from by omega,show cs.length+1<=4000000 from by omega]
        refine ⟨_,rfl,.inr ⟨rfl,m.to.length-(i+1),by omega,i+1,_,by omega,by omega,by rw [hcs],hfin _ _ (.inr ⟨fun e=>?_,k,?_,?_⟩)⟩⟩
        ·have:=congrArg List.length e; simp at this; subst this; simp at hx
        ·rw [List.length_set]
        ·simp [(List.getElem?_eq_some_iff.1 hk).1]
      ·have ha':L.any (K9 m.to[i])=false:=by simpa using ha
       rw [q1,ha'] at f1
       unfold dl1 at hfin hcs
       simp only [ha',Bool.false_eq_true,if_false] at hfin hcs
       simp only [j3,i1,f1,amg,e5,show ((i:Int)<(m.to.length:Int)) from by omega,show cs.length+1<=4000000 from by omega]
       exact ⟨_,rfl,.inr ⟨rfl,m.to.length-(i+1),by omega,i+1,_,by omega,by omega,by rw [hcs],hfin _ _ ho⟩⟩
     ·have:i=m.to.length:=by omega
      subst this
      rw [List.take_length] at ho ⊢
      simp only [j3,show ¬ ((m.to.length:Int)<(m.to.length:Int)) from by omega]
      exact ⟨_,rfl,.inl ⟨0,rfl,rfl,_,rfl,ho⟩⟩
    ·rintro _ _ H ⟨rfl,o,rfl,ho⟩
     simp only [j3]
     exact l7.here ⟨_,rfl,ho⟩
   by_cases hn:l=[]
   ·subst hn
    have:=loop (.sl true []) [] (.inl ⟨rfl,rfl⟩)
    refine l7.mono ?_ (fun r hr => .inr ⟨by first | trivial | rfl,hr⟩)
    show l7 (Z0 1 (.sl true []) [] _) _
    rw [awn]
    exact this
   ·have:=loop (.l8 0 0 l.length 2) [(L1 l).flatten] (.inr ⟨hn,0,rfl,rfl⟩)
    refine l7.mono ?_ (fun r hr => .inr ⟨by first | trivial | rfl,hr⟩)
    rw [avG [] _ (fun e=>hn (by simpa [L1] using e)) (aeO l) (akG l),aex]
    exact this
  ·have hv':L5 m 1 30=false:=by simpa using hv
   rw [hv'] at e2
   simp only [j3,P7,N0,e1,e2,hb,hv']
   exact l7.here (.inl ⟨rfl,rfl⟩)
 ·have hb':V7 l=false:=by simpa using hb
  rw [hb'] at e1
  simp only [j3,P7,N0,e1,hb']
  exact l7.here (.inl ⟨rfl,rfl⟩)
theorem an0 (l:List A3) (m:z7) (h:aeF l) (hp:∀ b ∈ l,b.path.length<=1049600) (hm:SmM m) (ht:∀ t ∈ m.to,t.length<=1049600) :
 ∃ o,pc aaq [.sl false (vR eX l),.agg (cM m)]=some (.A4 [.sl o (vR eX (aeq l m).1),.sl true (vI .i64 (aeq l m).2),.bool (aoh l m)]):=by
 obtain ⟨v,H,e,hq⟩:=aoq l m h hp hm ht
 rcases hq with ⟨hf,rfl⟩ | ⟨hf,o,rfl,ho⟩
 ·refine ⟨true,?_⟩
  have:aeq l m=([],[]):=by unfold aeq; unfold aoh at hf; rw [hf]; rfl
  rw [this,hf]
  exact abJ e (by simp only [j3,P7]) rfl
 ·rw [hf]
  rcases ho with ⟨hl,rfl⟩ | ⟨hne,k,rfl,hk⟩
  ·refine ⟨true,?_⟩
   rw [hl]
   exact abJ e (by simp only [j3,P7]) (by simp only [B3,data,adO,akL,Bool.and_self,D5])
  ·refine ⟨false,aCF e (by simp only [j3,P7]) (by simp only [data,B3,Bool.false_and]) ?_ (by simp only [data,B3,adO,akL,Bool.and_self])⟩
   have:=afX hk (aeO _)
   rw [aex,ag1] at this
   simp only [aeU,abj,this,awj,show ∀ b,aaR H (.bool b)=some (.bool b) from fun _=>rfl,Option.bind_some,Option.map_some]
end Go.Proofs.YtaapfgpeeghmeaaGreatDoor.Q

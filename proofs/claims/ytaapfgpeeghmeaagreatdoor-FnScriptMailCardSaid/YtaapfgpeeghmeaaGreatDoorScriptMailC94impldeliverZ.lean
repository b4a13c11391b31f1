/- Contracts: mails come to mailboxes, the program's way. -/
import Derived.Test.YtaapfgpeeghmeaaGreatDoorScriptMailC93placeZ
namespace Go.Proofs.YtaapfgpeeghmeaaGreatDoor.Q
open Go Go.AM
set_option linter.unusedSimpArgs false
set_option linter.unusedVariables false
set_option linter.unusedSectionVars false
theorem aoO (l:List y0) (m:l9) (to:Bs) (j:Nat):(C8 (dl1 l m to).1 j).path=(C8 l j).path:=by
 unfold dl1
 split
 ·rename_i ha
  have hx:=aao ha
  split
  ·rfl
  ·simp only
   by_cases hj:j=l.findIdx (G4 to)
   ·subst hj
    rw [K6 (by simpa using hx),List.getElem_set_self]
   ·unfold C8
    rw [List.getD_eq_getElem?_getD,List.getElem?_set_ne (by omega),<-List.getD_eq_getElem?_getD]
 ·rfl
theorem aAS {l:List y0} (h:afm l) (m:l9) (to:Bs):afm (dl1 l m to).1:=fun i j hij hj=>by
 rw [aoO,aoO]
 exact h i j hij (by rw [ai4] at hj; exact hj)
theorem at7 {m:l9}:∀ {tos:List Bs} {s:List y0 × List Int},afm s.1->afm (S2 m tos s).1
 | [],s,h=>h
 | t::tos,s,h=>by
   have:=at7 (m:=m) (tos:=tos) (s:=dlS m s t) (aAS h m t)
   simpa [S2] using this
theorem aqv (l:List y0) (m:l9) (h:adg l) (hp:∀ b ∈ l,b.path.length<=1049600) (hm:Z7 m) (ht:∀ t ∈ m.to,t.length<=1049600) :
 Y4 (cv aaL [.sl false (vR eX l),.agg (cM m)] []) (fun r H=>(aqH l m=false/\r = .n9 [.sl true [],.sl true [],.bool false]) ∨
  (aqH l m=true/\∃ o,r = .n9 [o,.sl true (vI .i64 (aft l m).2),.bool true]/\HoX o H (aft l m).1)):=by
 have e1:=adX l h
 have e2:=aaz m hm
 simp only [K4] at e2
 refine Y4.of ?_
 rw [ak5]
 unfold aqH aft
 by_cases hb:Q3 l=true
 ·rw [hb] at e1
  by_cases hv:D6 m 1 30=true
  ·rw [hv] at e2
   have hok:=axM h hb hp
   have hto:m.to.length<=10:=aAe hv
   have e3:=aiM l h
   have e4:=ake m.lines (by have:=hm.2.2.1; omega)
   simp only [c9,K4,J5,ap8,e1,e2,hb,hv,e3]
   have loop:∀ (o0:V) (H0:VH),HoX o0 H0 l->j8 ((l6 acJ [o0,.sl true [],.sl false (vT m.to),.int .i64 (m.to.length:Nat),.int .i64 0,.str m.from_,.sl false (vT m.to),.sl false (vT m.lines)] H0).bind fun r=>C6 r.1 [l4 2 r.2.1 fun v=>some (V.n9 [v 0,v 1,.bool true],r.2.2)])
    (fun r=>∃ o,r.1 = .n9 [o,.sl true (vI .i64 (S2 m m.to (l,[])).2),.bool true]/\HoX o r.2 (S2 m m.to (l,[])).1):=by
    intro o0 H0 h0
    refine j8.N1 (I:=fun n st H=>∃ (i:Nat) (o:V),n=m.to.length-i/\i<=m.to.length/\st=[o,.sl true (vI .i64 (S2 m (m.to.take i) (l,[])).2),.sl false (vT m.to),.int .i64 (m.to.length:Nat),.int .i64 (i:Nat),.str m.from_,.sl false (vT m.to),.sl false (vT m.lines)]/\HoX o H (S2 m (m.to.take i) (l,[])).1)
     (P:=fun q vs H=>q=0/\∃ o,vs=[o,.sl true (vI .i64 (S2 m m.to (l,[])).2)]/\HoX o H (S2 m m.to (l,[])).1) (n:=m.to.length) ?_ ⟨0,o0,by omega,by omega,rfl,h0⟩ ?_
    ·rintro n st H ⟨i,o,rfl,hi,rfl,ho⟩
     rw [aiQ]
     by_cases hlt:i<m.to.length
     ·have i1:=P8 false m.to .i64 i hlt
      have e5:b7 (.int .i64) .add (.int .i64 (i:Int)) (.int .i64 1)=some (.int .i64 ((i+1:Nat):Int)):=A0 _ i 1 (by omega)
      have hsn:=aAt m (m.to.take i) m.to[i] (l,[])
      rw [<-List.take_succ_eq_append_getElem hlt] at hsn
      have hokI:=avu (tos:=m.to.take i) (s:=(l,[])) hm hok (fun t hh=>ht t (List.mem_of_mem_take hh))
      have hso:=at7 (m:=m) (tos:=m.to.take i) (s:=(l,[])) (amJ hb)
      have hln:=avy m (m.to.take i) (l,[])
      have hcl:(S2 m (m.to.take i) (l,[])).2.length<=1000:=by rw [hln.1]; simp; omega
      have hfin:∀ (o':V) (H':VH),HoX o' H' (dl1 (S2 m (m.to.take i) (l,[])).1 m m.to[i]).1->HoX o' H' (S2 m (m.to.take (i+1)) (l,[])).1:=fun o' H' hh=>by rw [hsn]; exact hh
      have hcs:(S2 m (m.to.take (i+1)) (l,[])).2=(S2 m (m.to.take i) (l,[])).2++[(dl1 (S2 m (m.to.take i) (l,[])).1 m m.to[i]).2]:=by rw [hsn]; rfl
      generalize hL:S2 m (m.to.take i) (l,[])=S at *
      obtain ⟨L,cs⟩:=S
      simp only at hfin hcs ho hcl hokI hso
      have f1:=HoX.q ho V9 [.str m.to[i]] rfl
      simp only [List.map_cons,List.map_nil,strip] at f1
      obtain ⟨at_,kn,hat1,hbp,hat2,hat3⟩:=ajP L m.to[i] (by have:=hokI.1; omega)
      obtain ⟨q1,q2,_,_⟩:=hat3 hso
      rw [hbp] at f1
      by_cases ha:L.any (G4 m.to[i])=true
      ·have hx:=aao ha
       have hat:=K6 hx
       have hk1:kn=true:=by rw [q1,ha]
       rw [hk1] at f1
       rw [q2 hk1] at f1
       obtain ⟨k,rfl,hk⟩:=HoX.ne ho (fun e=>by subst e; simp at hx)
       have hbx:=hokI.2 _ (List.getElem_mem hx)
       have g1:y8 2 (.y1 k 0 L.length 2) (.int .i64 (L.findIdx (G4 m.to[i]):Nat))=some (.ptr k (L.findIdx (G4 m.to[i])*2)):=atN hx
       have g2:=aAu hk hx l5
       have g3:=aAI hk hx l5
       simp only [strip] at f1
       unfold dl1 at hfin hcs
       simp only [ha,if_true,hat] at hfin hcs
       by_cases h4:L[L.findIdx (G4 m.to[i])].o8.length=4
       ·simp only [h4,if_true] at hfin hcs
        have hh4:((L[L.findIdx (G4 m.to[i])].o8.length:Nat):Int)=4:=by omega
        simp only [c9,i1,f1,g1,g2,hh4,aor,e5,show ((i:Int)<(m.to.length:Int)) from by omega,show cs.length+1<=4000000 from by omega]
        exact ⟨_,rfl,.inr ⟨rfl,m.to.length-(i+1),by omega,i+1,_,by omega,by omega,by rw [hcs],hfin _ _ ho⟩⟩
       ·simp only [h4,if_false] at hfin hcs
        have g4:=awt (l:=L[L.findIdx (G4 m.to[i])].o8) (aqS m m.to[i]) (by have:=hbx.2.1; simp at this; omega)
        have g5:=fun w=>aCN hk hx (L[L.findIdx (G4 m.to[i])].o8++[aqS m m.to[i]]) w
        simp only [aqS] at g4 g5 hfin hcs
        have hh4:¬ ((L[L.findIdx (G4 m.to[i])].o8.length:Int)=4):=by omega
        have g4':∀ H,agu false false 3 64 (.sl true (vO L[L.findIdx (G4 m.to[i])].o8)) (.sl true [[.str m.from_,.sl true [[.str m.to[i]]],.sl true (vT m.lines)]]) H=some (.sl true (vO (L[L.findIdx (G4 m.to[i])].o8++[⟨m.from_,[m.to[i]],m.lines⟩])),H):=g4
        simp only [c9,i1,f1,g1,g2,g3,g4',g5,e4,ap8,hh4,aor,e5,show ((i:Int)<(m.to.length:Int)) from by omega,show cs.length+1<=4000000 from by omega]
        refine ⟨_,rfl,.inr ⟨rfl,m.to.length-(i+1),by omega,i+1,_,by omega,by omega,by rw [hcs],hfin _ _ (.inr ⟨fun e=>?_,k,?_,?_⟩)⟩⟩
        ·have:=congrArg List.length e; simp at this; subst this; simp at hx
        ·rw [List.length_set]
        ·simp [(List.getElem?_eq_some_iff.1 hk).1]
      ·have ha':L.any (G4 m.to[i])=false:=by simpa using ha
       rw [q1,ha'] at f1
       unfold dl1 at hfin hcs
       simp only [ha',Bool.false_eq_true,if_false] at hfin hcs
       simp only [c9,i1,f1,aor,e5,show ((i:Int)<(m.to.length:Int)) from by omega,show cs.length+1<=4000000 from by omega]
       exact ⟨_,rfl,.inr ⟨rfl,m.to.length-(i+1),by omega,i+1,_,by omega,by omega,by rw [hcs],hfin _ _ ho⟩⟩
     ·have:i=m.to.length:=by omega
      subst this
      rw [List.take_length] at ho ⊢
      simp only [c9,show ¬ ((m.to.length:Int)<(m.to.length:Int)) from by omega]
      exact ⟨_,rfl,.inl ⟨0,rfl,rfl,_,rfl,ho⟩⟩
    ·rintro _ _ H ⟨rfl,o,rfl,ho⟩
     simp only [c9]
     exact j8.here ⟨_,rfl,ho⟩
   by_cases hn:l=[]
   ·subst hn
    have:=loop (.sl true []) [] (.inl ⟨rfl,rfl⟩)
    refine j8.mono ?_ (fun r hr => .inr ⟨by first | trivial | rfl,hr⟩)
    show j8 (W8 1 (.sl true []) [] _) _
    rw [ar7]
    exact this
   ·have:=loop (.y1 0 0 l.length 2) [(E8 l).flatten] (.inr ⟨hn,0,rfl,rfl⟩)
    refine j8.mono ?_ (fun r hr => .inr ⟨by first | trivial | rfl,hr⟩)
    rw [asc [] _ (fun e=>hn (by simpa [E8] using e)) (aca l) (aiY l),acC]
    exact this
  ·have hv':D6 m 1 30=false:=by simpa using hv
   rw [hv'] at e2
   simp only [c9,K4,J5,e1,e2,hb,hv']
   exact j8.here (.inl ⟨rfl,rfl⟩)
 ·have hb':Q3 l=false:=by simpa using hb
  rw [hb'] at e1
  simp only [c9,K4,J5,e1,hb']
  exact j8.here (.inl ⟨rfl,rfl⟩)
theorem ara (l:List y0) (m:l9) (h:adg l) (hp:∀ b ∈ l,b.path.length<=1049600) (hm:Z7 m) (ht:∀ t ∈ m.to,t.length<=1049600) :
 ∃ o,pc aaL [.sl false (vR eX l),.agg (cM m)]=some (.n9 [.sl o (vR eX (aft l m).1),.sl true (vI .i64 (aft l m).2),.bool (aqH l m)]):=by
 obtain ⟨v,H,e,hq⟩:=aqv l m h hp hm ht
 rcases hq with ⟨hf,rfl⟩ | ⟨hf,o,rfl,ho⟩
 ·refine ⟨true,?_⟩
  have:aft l m=([],[]):=by unfold aft; unfold aqH at hf; rw [hf]; rfl
  rw [this,hf]
  exact Y9 e (by simp only [c9,K4]) rfl
 ·rw [hf]
  rcases ho with ⟨hl,rfl⟩ | ⟨hne,k,rfl,hk⟩
  ·refine ⟨true,?_⟩
   rw [hl]
   exact Y9 e (by simp only [c9,K4]) (by simp only [A7,data,adz,amC,Bool.and_self,D8])
  ·refine ⟨false,aBD e (by simp only [c9,K4]) (by simp only [data,A7,Bool.false_and]) ?_ (by simp only [data,A7,adz,amC,Bool.and_self])⟩
   have:=ae5 hk (aca _)
   rw [acC,agq] at this
   simp only [afd,abi,this,ayX,show ∀ b,aaG H (.bool b)=some (.bool b) from fun _=>rfl,Option.bind_some,Option.map_some]
end Go.Proofs.YtaapfgpeeghmeaaGreatDoor.Q

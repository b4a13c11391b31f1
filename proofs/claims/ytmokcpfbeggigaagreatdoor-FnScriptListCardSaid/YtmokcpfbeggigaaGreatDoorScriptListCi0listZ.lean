/- Contracts: lists of addresses. -/
import Derived.Test.YtmokcpfbeggigaaGreatDoorScriptListCh6readlineZ
import Derived.Test.YtmokcpfbeggigaaGreatDoorFnScriptListK4
namespace Go.Proofs.YtmokcpfbeggigaaGreatDoor.Q
open Go Go.AM
set_option linter.unusedSimpArgs false
set_option linter.unusedVariables false
set_option linter.unusedSectionVars false
abbrev Ad:=Bs × Bs × Bs
def cAd (a:Ad):List V:=[.str a.1,.str a.2.1,.str a.2.2]
def A1:Ec Ad where
 e:=cAd
 n:=3
 len:=fun _=>rfl
 st:=fun m=>by simp only [cAd,o8,strip]
 np:=fun m=>by simp only [cAd,w9,A8,Bool.and_self]
 dt:=fun m=>by simp only [cAd,B5,data,Bool.and_self]
def I9 (a:Ad):Bool:=H8 a.1 a.2.1 a.2.2
def C9 (l:List Ad):Bs:=J2 [44,32] (l.map B2)
def flT (l:List Ad):Bs:=if l.length>10 then [] else if l.any (fun a => !I9 a)=true then [] else if (C9 l).length>200 then [] else C9 l
def SmA (l:List Ad):Prop:=l.length<=100000/\∀ a ∈ l,a.1.length<=100000/\a.2.1.length<=100000/\a.2.2.length<=100000
theorem anJ (o:Bool) (l:List Ad) (i:Nat) (h:i<l.length):E1 3 (.sl o (vR A1 l)) (.int .i64 (i:Int))=some (.G3 [.str l[i].1,.str l[i].2.1,.str l[i].2.2] 0):=axG A1 l o .i64 i h
theorem abC (o:Bool) (l:List Ad):D2 (.sl o (vR A1 l))=some (.int .i64 (l.length:Nat)):=by rw [<-ahZ A1 (l:=l)]; rfl
theorem aqU (l:List Ad):(C9 l).length<=l.length*202:=by
 unfold C9
 induction l with
 | nil=>simp [J2]
 | cons a l ih =>
   have h1:=aqJ a
   cases l with
   | nil=>simp [J2]; omega
   | cons b l =>
     simp only [List.map_cons,J2,List.length_append,List.length_cons,List.length_nil] at ih ⊢
     omega
theorem al5 (a:Ad) (h:a.1.length<=100000/\a.2.1.length<=100000/\a.2.2.length<=100000):qc E6 [.agg [.str a.1,.str a.2.1,.str a.2.2]]=some (.bool (!I9 a)):=by
 have e1:=aap a.1 a.2.1 a.2.2 (by omega) (by omega) (by omega)
 refine y1 (H:=[]) ?_ (by simp only [b8]) rfl
 show cv _ _ _=_
 rw [ago]
 simp only [b8,e1,I9]
theorem anN (l:List Ad) (hl:SmA l):qc C6 [.sl false (vR A1 l),.fn E6 []]=some (.int .i64 (if l.any (fun a => !I9 a)=true then ((l.findIdx (fun a => !I9 a):Nat):Int) else -1)):=by
 have hll:=hl.1
 refine y1 (H:=[]) ?_ (by simp only [b8,afd A1]) rfl
 show cv _ _ _=_
 rw [S8]
 have loop:=aoq (B:=z7) (S:=fun i=>[.sl false (vR A1 l),.fn E6 [],.int .i64 l.length,.int .i64 (i:Nat)]) (H:=[]) (m0:=0) (m1:=1) (vs0:=[]) l (fun a => !I9 a)
  (fun i hi=>by
   have i1:=anJ false l i hi
   have e1:=al5 l[i] (hl.2 _ (List.getElem_mem hi))
   have e2:a8 (.int .i64) .add (.int .i64 (i:Int)) (.int .i64 1)=some (.int .i64 ((i+1:Nat):Int)):=y4 _ i 1 (by omega)
   rw [G4]
   by_cases hp:I9 l[i]=true
   ·rw [hp] at e1
    simp only [b8,E8 A1,i1,e1,hp,e2,show ((i:Int)<(l.length:Int)) from by omega]
   ·have hp':I9 l[i]=false:=by simpa using hp
    rw [hp'] at e1
    simp only [b8,E8 A1,i1,e1,hp',e2,show ((i:Int)<(l.length:Int)) from by omega])
  (by
   rw [G4]
   simp only [b8,show ¬ ((l.length:Int)<(l.length:Int)) from by omega])
 have loop':o6 z7 [.sl false (vR A1 l),.fn E6 [],.int .i64 l.length,.int .i64 0] []=_:=loop
 simp only [b8,E8 A1,abC,loop']
 by_cases h:l.any (fun a => !I9 a)=true<;>simp only [b8,h]
theorem alo (l:List Ad) (hl:SmA l):qc B7 [.sl false (vR A1 l),.fn E6 []]=some (.bool (l.any (fun a => !I9 a))):=by
 have e1:=anN l hl
 refine y1 (H:=[]) ?_ (by simp only [b8,afd A1]) rfl
 show cv _ _ _=_
 rw [R7]
 simp only [b8,E8 A1,e1]
 by_cases h:l.any (fun a => !I9 a)=true
 ·simp only [h,if_true]
  rw [decide_eq_true (show (((l.findIdx (fun a => !I9 a):Nat):Int)>=0) from by omega)]
 ·have h':l.any (fun a => !I9 a)=false:=by simpa using h
  simp [h']
theorem ah1 (l:List Ad) (hl:SmA l):qc P6 [.sl false (vR A1 l)]=some (.str (flT l)):=by
 have hll:=hl.1
 have e1:=alo l hl
 suffices h:l3 (cv P6 [.sl false (vR A1 l)] []) fun r=>r.1 = .str (flT l) by
  obtain ⟨⟨v,H⟩,e,h⟩:=h
  have h:v=_:=h
  subst h
  exact y1 e (by simp only [b8,afd A1]) rfl
 rw [ahQ]
 unfold flT
 by_cases h1:l.length>10
 ·rw [if_pos h1]
  simp only [b8,E8 A1,abC,show ((l.length:Int)>10) from by omega]
  exact l3.here rfl
 ·rw [if_neg h1]
  by_cases h2:l.any (fun a => !I9 a)=true
  ·rw [if_pos h2]
   rw [h2] at e1
   simp only [b8,E8 A1,abC,show ¬ ((l.length:Int)>10) from by omega,e1]
   exact l3.here rfl
  ·have h2':l.any (fun a => !I9 a)=false:=by simpa using h2
   rw [if_neg h2]
   rw [h2'] at e1
   simp only [b8,E8 A1,abC,show ¬ ((l.length:Int)>10) from by omega,e1]
   refine l3.V3 (I:=fun n st H=>∃ i:Nat,n=l.length-i/\i<=l.length/\st=[.sl true (vT ((l.take i).map B2)),.sl false (vR A1 l),.int .i64 (l.length:Nat),.int .i64 (i:Nat)])
    (P:=fun q vs H=>q=0/\vs=[.sl true (vT (l.map B2))]) (n:=l.length) ?_ ⟨0,by omega,by omega,rfl⟩ ?_
   ·rintro n st H ⟨i,rfl,hi,rfl⟩
    rw [afY]
    by_cases hlt:i<l.length
    ·have i1:=anJ false l i hlt
     have hs:=hl.2 _ (List.getElem_mem hlt)
     have e3:=als l[i] (by omega) (by omega) (by omega)
     have e2:a8 (.int .i64) .add (.int .i64 (i:Int)) (.int .i64 1)=some (.int .i64 ((i+1:Nat):Int)):=y4 _ i 1 (by omega)
     have hsn:(l.take (i+1)).map B2=(l.take i).map B2++[B2 l[i]]:=by rw [List.take_succ_eq_append_getElem hlt,List.map_append,List.map_cons,List.map_nil]
     have a1:I6 false 1 16 (vT ((l.take i).map B2)) (.sl true [[.str (B2 l[i])]])=some (.sl true (vT ((l.take (i+1)).map B2))):=by
      have:=ac2 1 16 (vT ((l.take i).map B2)) true (vT [B2 l[i]]) (aan _) (aan _) (by rw [aai,aai]; simp; omega)
      rw [ahF,<-hsn] at this
      exact this
     simp only [b8,i1,e3,e2,a1,show ((i:Int)<(l.length:Int)) from by omega]
     exact ⟨_,rfl,.inr ⟨rfl,l.length-(i+1),by omega,i+1,rfl,by omega,rfl⟩⟩
    ·have he:i=l.length:=by omega
     subst he
     simp only [b8,List.take_length,show ¬ ((l.length:Int)<(l.length:Int)) from by omega]
     exact ⟨_,rfl,.inl ⟨0,rfl,rfl,rfl⟩⟩
   rintro _ _ H ⟨rfl,rfl⟩
   have hjl:=aqU l
   have e4:∀ o H,cv aaw [.sl o (vT (l.map B2)),.str [44,32]] H=some (.str (C9 l),H):=fun o H=>atn o (l.map B2) [44,32] H (by simp; omega) (by show (C9 l).length<=_; omega)
   by_cases h3:(C9 l).length>200
   ·rw [if_pos h3]
    simp only [b8,e4,show (((C9 l).length:Int)>200) from by omega]
    exact l3.here rfl
   ·rw [if_neg h3]
    simp only [b8,e4,show ¬ (((C9 l).length:Int)>200) from by omega]
    exact l3.here rfl
theorem ava (l:List Ad) (a:Ad):C9 (l++[a])=if l=[] then B2 a else C9 l++[44,32]++B2 a:=by
 unfold C9
 rw [List.map_append,List.map_cons,List.map_nil,akL]
 simp only [List.map_eq_nil_iff]
theorem aiY (l:List Ad) (hl:SmA l):qc K9 [.sl false (vR A1 l)]=some (.str (flT l)):=by
 have hll:=hl.1
 suffices h:l3 (cv K9 [.sl false (vR A1 l)] []) fun r=>r.1 = .str (flT l) by
  obtain ⟨⟨v,H⟩,e,h⟩:=h
  have h:v=_:=h
  subst h
  exact y1 e (by simp only [b8,afd A1]) rfl
 rw [ahL]
 refine l3.V3 (I:=fun n st H=>∃ i:Nat,n=l.length-i/\i<=l.length/\st=[.sl false (vR A1 l),.str (C9 (l.take i)),.int .i64 (i:Nat)]/\(l.take i).all I9=true/\(10<l.length->i=0))
  (P:=fun q vs H=>(q=0/\∃ t:Bs,vs=[.str t]/\t.length<=100000000/\flT l=if t.length>200 then [] else t)\/(q=1/\vs=[.str []]/\flT l=[])) (n:=l.length) ?_ ⟨0,by omega,by omega,rfl,rfl,fun _=>rfl⟩ ?_
 ·rintro n st H ⟨i,rfl,hi,rfl,inv,inv0⟩
  rw [agd]
  have hjl:=aqU (l.take i)
  have htl:(l.take i).length<=i:=by simp; omega
  by_cases hlt:i<l.length
  ·by_cases h10:l.length<=10
   ·have i1:=anJ false l i hlt
    have hs:=hl.2 _ (List.getElem_mem hlt)
    have e1:=acE l[i].1 l[i].2.1 l[i].2.2 (by omega) (by omega) (by omega)
    have e3:=agv l[i] (by omega) (by omega) (by omega)
    have hfl:=aqJ l[i]
    have e2:a8 (.int .i64) .add (.int .i64 (i:Int)) (.int .i64 1)=some (.int .i64 ((i+1:Nat):Int)):=y4 _ i 1 (by omega)
    have hsn:l.take (i+1)=l.take i++[l[i]]:=List.take_succ_eq_append_getElem hlt
    have hj:=ava (l.take i) l[i]
    rw [<-hsn] at hj
    by_cases hv:H8 l[i].1 l[i].2.1 l[i].2.2=true
    ·rw [hv] at e1
     have inv':(l.take (i+1)).all I9=true:=by
      rw [hsn,List.all_append,inv]
      simp only [List.all_cons,List.all_nil,Bool.and_true,Bool.true_and]
      exact hv
     by_cases h0:i=0
     ·subst h0
      have hj':C9 (l.take (0+1))=B2 l[0]:=by rw [hj]; simp
      have a2:a8 .str .add (.str (C9 (l.take 0))) (.str (B2 l[0]))=some (.str (B2 l[0])):=J0 .str [] (B2 l[0]) (by simp; omega)
      simp only [b8,E8 A1,abC,i1,e1,e3,e2,a2,show ¬ (((0:Nat):Int)>0) from by omega,show (((0:Nat):Int)<(l.length:Int)) from by omega,show ((l.length:Int)<=10) from by omega]
      exact ⟨_,rfl,.inr ⟨rfl,l.length-1,by omega,1,rfl,by omega,by rw [<-hj'],inv',fun h=>by omega⟩⟩
     ·have hne:l.take i ≠ []:=fun e=>by
       have:=congrArg List.length e
       rw [List.length_take,List.length_nil] at this
       omega
      rw [if_neg hne] at hj
      have a1:=J0 .str (C9 (l.take i)) [44,32] (by simp; omega)
      have a2:=J0 .str (C9 (l.take i)++[44,32]) (B2 l[i]) (by simp; omega)
      simp only [b8,E8 A1,abC,i1,e1,e3,e2,a1,a2,show ((i:Int)>0) from by omega,show ((i:Int)<(l.length:Int)) from by omega,show ((l.length:Int)<=10) from by omega]
      exact ⟨_,rfl,.inr ⟨rfl,l.length-(i+1),by omega,i+1,rfl,by omega,by rw [hj],inv',fun h=>by omega⟩⟩
    ·have hv':H8 l[i].1 l[i].2.1 l[i].2.2=false:=by simpa using hv
     rw [hv'] at e1
     have hany:l.any (fun a => !I9 a)=true:=by
      rw [List.any_eq_true]
      exact ⟨l[i],List.getElem_mem hlt,by show (!H8 _ _ _)=true; rw [hv']; rfl⟩
     simp only [b8,E8 A1,abC,i1,e1,show ((i:Int)<(l.length:Int)) from by omega,show ((l.length:Int)<=10) from by omega]
     exact ⟨_,rfl,.inl ⟨1,rfl,.inr ⟨rfl,rfl,by unfold flT; rw [if_neg (by omega),if_pos hany]⟩⟩⟩
   ·have hf:flT l=[]:=by unfold flT; rw [if_pos (by omega)]
    have h0:i=0:=inv0 (by omega)
    subst h0
    simp only [b8,E8 A1,abC,show (((0:Nat):Int)<(l.length:Int)) from by omega,show ¬ ((l.length:Int)<=10) from by omega]
    exact ⟨_,rfl,.inl ⟨0,rfl,.inl ⟨rfl,[],rfl,by simp,by rw [hf]; rfl⟩⟩⟩
  ·have he:i=l.length:=by omega
   subst he
   rw [List.take_length] at inv hjl
   have hany:l.any (fun a => !I9 a)=false:=by
    rw [List.any_eq_false]
    intro a ha
    have:=List.all_eq_true.1 inv a ha
    rw [this]; decide
   simp only [b8,E8 A1,abC,List.take_length,show ¬ ((l.length:Int)<(l.length:Int)) from by omega]
   by_cases h10:l.length>10
   ·have:=inv0 h10; omega
   ·exact ⟨_,rfl,.inl ⟨0,rfl,.inl ⟨rfl,C9 l,rfl,by omega,by unfold flT; rw [if_neg h10,if_neg (by rw [hany]; decide)]⟩⟩⟩
 rintro _ _ H (⟨rfl,t,rfl,ht,hf⟩ | ⟨rfl,rfl,hf⟩)
 ·rw [hf]
  by_cases h3:t.length>200
  ·rw [if_pos h3]
   simp only [b8,show ((t.length:Int)>200) from by omega]
   exact l3.here rfl
  ·rw [if_neg h3]
   simp only [b8,show ¬ ((t.length:Int)>200) from by omega]
   exact l3.here rfl
 ·rw [hf]
  simp only [b8]
  exact l3.here rfl
end Go.Proofs.YtmokcpfbeggigaaGreatDoor.Q

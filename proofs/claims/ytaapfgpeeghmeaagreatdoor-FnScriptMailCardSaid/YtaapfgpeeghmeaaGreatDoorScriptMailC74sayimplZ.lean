/- Contracts: a dialogue, as the program tells it. -/
import Derived.Test.YtaapfgpeeghmeaaGreatDoorScriptMailC72sayZ
namespace Go.Proofs.YtaapfgpeeghmeaaGreatDoor.Q
open Go Go.AM
set_option linter.unusedSimpArgs false
set_option linter.unusedVariables false
set_option linter.unusedSectionVars false
theorem ake (l:List Bs) (h:l.length<=2000000):pc E6 [.sl false (vT l)]=some (.sl true (vT l)):=by
 have a1:F8 false 1 16 [] (.sl false (vT l))=some (.sl true (vT ([]++l))):=aeZ 1 16 [] false (vT l) rfl (abc _) (by rw [aaA]; simp; omega)
 rw [List.nil_append] at a1
 refine Y9 (H:=[]) ?_ (by simp only [c9]) (by simp only [c9])
 show cv _ _ _=_
 rw [aeA]
 cases l with
 | nil =>
   have e:ahn .eql (.sl false (vT []))=some .ub:=rfl
   have a2:F8 false 1 16 [] (.sl false (vT []))=some (.sl true []):=a1
   simp only [c9,e,a2]
   rfl
 | cons a l =>
   have e:ahn .eql (.sl false (vT (a::l)))=some (.bool false):=rfl
   simp only [c9,e,a1]
theorem ajW (m:l9) (h:Z7 m):pc aaC [.agg (cM m)]=some (.agg (cO m)):=by
 have a1:=ake m.to (by have:=h.2.1.1; omega)
 have a2:=ake m.lines (by have:=h.2.2.1; omega)
 refine Y9 (H:=[]) ?_ (by simp only [c9]) (by simp only [c9,X8])
 show cv _ _ _=_
 rw [an0]
 simp only [c9,a1,a2,X8]
theorem anG (l:List l9) (h:amc l):pc Z5 [.sl false (vR eM l)]=some (.sl true (vO l)):=by
 have hl:=h.1
 suffices hg:j8 (cv Z5 [.sl false (vR eM l)] []) fun r=>r.1 = .sl true (vO l) by
  obtain ⟨⟨v,H⟩,e,h⟩:=hg
  have h:v=_:=h
  subst h
  exact Y9 e (by simp only [c9]) (by simp only [c9,aje])
 rw [amV]
 simp only [c9]
 refine j8.N1 (I:=fun n st H=>∃ i:Nat,n=l.length-i/\i<=l.length/\st=[.sl true (vO (l.take i)),.sl false (vR eM l),.int .i64 (l.length:Nat),.int .i64 (i:Nat)])
  (P:=fun q vs H=>q=0/\vs=[.sl true (vO l)]) (n:=l.length) ?_ ⟨0,by omega,by omega,rfl⟩ ?_
 ·rintro n st H ⟨i,rfl,hi,rfl⟩
  rw [aj4]
  by_cases hlt:i<l.length
  ·have i1:=axR false l .i64 i hlt
   have e1:=ajW l[i] (h.2 _ (List.getElem_mem hlt))
   simp only [K4,X8] at e1
   have ap:=alc (l:=l.take i) l[i] (by simp; omega)
   rw [<-List.take_succ_eq_append_getElem hlt] at ap
   have e3:b7 (.int .i64) .add (.int .i64 (i:Int)) (.int .i64 1)=some (.int .i64 ((i+1:Nat):Int)):=A0 _ i 1 (by omega)
   simp only [c9,i1,e1,ap,e3,show ((i:Int)<(l.length:Int)) from by omega]
   exact ⟨_,rfl,.inr ⟨rfl,l.length-(i+1),by omega,i+1,rfl,by omega,rfl⟩⟩
  ·have:i=l.length:=by omega
   subst this
   rw [List.take_length]
   simp only [c9,show ¬ ((l.length:Int)<(l.length:Int)) from by omega]
   exact ⟨_,rfl,.inl ⟨0,rfl,rfl,rfl⟩⟩
 rintro _ _ H ⟨rfl,rfl⟩
 simp only [c9]
 exact j8.here rfl
theorem ash (s:y6) (h:SmS s):pc acI [.agg (cS s)]=some (.agg (cSo s)):=by
 have e1:=ajW s.j0 h.2.1
 have e2:=anG s.done h.2.2
 simp only [K4,X8] at e1
 refine Y9 (H:=[]) ?_ (by simp only [c9]) (by simp only [c9,I5,aje])
 show cv _ _ _=_
 rw [ak4]
 simp only [c9,e1,e2,I5]
theorem apP (s t:Bs) (hs:s.length<=1000000000) (ht:t.length<=1000000000):qc aey [.str s,.str t]=some (.bool (decide (B4 s=B4 t))):=by
 have e1:=Q6 s hs
 have e2:=Q6 t ht
 refine y4 (H:=[]) ?_ (by simp only [c9]) rfl
 show cv _ _ _=_
 rw [anV]
 simp only [c9,e1,e2]
theorem aCM (s:Bs) (hs:s.length<=1000000000):qc O5 [.str s,.str [46]]=some (.str (ae6 s)):=by
 have e1:=ahJ s [46] hs
 rw [aqW] at e1
 refine y4 (H:=[]) ?_ (by simp only [c9]) rfl
 show cv _ _ _=_
 rw [adZ]
 unfold ae6
 by_cases h:s.head? = some 46
 ·have hl:1<=s.length:=by cases s with | nil=>cases h | cons a s=>simp
  have p2:C9 (.str s) (some (.int .i64 1)) none=some (.str (s.drop 1)):=aee s .i64 1 hl
  simp only [c9,e1,h,List.length_cons,List.length_nil,show (((0+1:Nat)):Int)=1 from rfl,p2]
 ·simp only [c9,e1,h]
theorem aDh (s:Bs) (hs:s.length<=1000000000):qc abR [.str s,.str [46]]=some (.str (ae6 s)):=by
 have e1:=aCM s hs
 refine y4 (H:=[]) ?_ (by simp only [c9]) rfl
 show cv _ _ _=_
 rw [aiX]
 simp only [c9,e1]
theorem auH (s:Bs) (c:UInt8) (hs:s.length<=1000000000):qc Q4 [.str s,.str [c]]=some (.bool (decide (s.getLast? = some c))):=by
 refine y4 (H:=[]) ?_ (by simp only [c9]) rfl
 show cv _ _ _=_
 rw [ad1]
 by_cases h:1<=s.length
 ·have e1:b7 (.int .i64) .sub (.int .i64 (s.length:Int)) (.int .i64 1)=some (.int .i64 ((s.length-1:Nat):Int)):=ac7 _ s.length 1 h (by omega)
  have p2:=aee s .i64 (s.length-1) (by omega)
  have hd:s.drop (s.length-1)=[s[s.length-1]'(by omega)]:=by
   rw [List.drop_eq_getElem_cons (by omega),show s.length-1+1=s.length from by omega,List.drop_length]
  have hz:s.getLast? = some (s[s.length-1]'(by omega)):=by rw [List.getLast?_eq_getElem?,List.getElem?_eq_getElem (by omega)]
  rw [hd] at p2
  have k:([s[s.length-1]'(by omega)]=[c])<->(some (s[s.length-1]'(by omega))=some c):=by simp
  simp only [c9,List.length_cons,List.length_nil,show (((0+1:Nat)):Int)=1 from rfl,e1,p2,hz,k,show ((s.length:Int)>=1) from by omega]
 ·have:s=[]:=List.length_eq_zero_iff.1 (by omega)
  subst this
  simp only [c9,List.length_cons,List.length_nil,show ¬ (((0:Nat):Int)>=((0+1:Nat):Int)) from by omega]
  rfl
theorem atH (s:Bs) (c:UInt8) (hs:s.length<=1000000000):qc P7 [.str s,.str [c]]=some (.n9 [.str (if s.getLast? = some c then s.take (s.length-1) else s),.bool (decide (s.getLast? = some c))]):=by
 have e0:=auH s c hs
 refine y4 (H:=[]) ?_ (by simp only [c9]) (by simp only [c9])
 show cv _ _ _=_
 rw [ad9]
 by_cases h:s.getLast? = some c
 ·have hl:1<=s.length:=by cases s with | nil=>cases h | cons a s=>simp
  have e1:b7 (.int .i64) .sub (.int .i64 (s.length:Int)) (.int .i64 1)=some (.int .i64 ((s.length-1:Nat):Int)):=ac7 _ s.length 1 hl (by omega)
  have p2:=aij s .i64 (s.length-1) (by omega)
  simp only [c9,e0,h,List.length_cons,List.length_nil,show (((0+1:Nat)):Int)=1 from rfl,e1,p2]
 ·simp only [c9,e0,h]
theorem au5 (s:Bs) (c:UInt8) (hs:s.length<=1000000000):qc acr [.str s,.str [c]]=some (.n9 [.str (if s.getLast? = some c then s.take (s.length-1) else s),.bool (decide (s.getLast? = some c))]):=by
 have e0:=atH s c hs
 refine y4 (H:=[]) ?_ (by simp only [c9]) (by simp only [c9])
 show cv _ _ _=_
 rw [akt]
 simp only [c9,e0]
theorem aCI (l:Bs) (c:UInt8):agH l [c]=decide (l.head? = some c):=by
 unfold agH
 cases l with
 | nil=>rfl
 | cons b r=>simp
theorem auo (s:Bs) (c:UInt8) (hs:s.length<=1000000000):qc P9 [.str s,.str [c]]=some (.n9 [.str (if s.head? = some c then s.drop 1 else s),.bool (decide (s.head? = some c))]):=by
 have e0:=ahJ s [c] hs
 rw [aCI] at e0
 refine y4 (H:=[]) ?_ (by simp only [c9]) (by simp only [c9])
 show cv _ _ _=_
 rw [ad0]
 by_cases h:s.head? = some c
 ·have hl:1<=s.length:=by cases s with | nil=>cases h | cons a s=>simp
  have p2:C9 (.str s) (some (.int .i64 1)) none=some (.str (s.drop 1)):=aee s .i64 1 hl
  simp only [c9,e0,h,List.length_cons,List.length_nil,show (((0+1:Nat)):Int)=1 from rfl,p2]
 ·simp only [c9,e0,h]
theorem auY (s:Bs) (c:UInt8) (hs:s.length<=1000000000):qc ack [.str s,.str [c]]=some (.n9 [.str (if s.head? = some c then s.drop 1 else s),.bool (decide (s.head? = some c))]):=by
 have e0:=auo s c hs
 refine y4 (H:=[]) ?_ (by simp only [c9]) (by simp only [c9])
 show cv _ _ _=_
 rw [ajM]
 simp only [c9,e0]
theorem as8 (r w:Bs) (hr:r.length<=4000000) (hw:w.length<=100):∃ p ok,qc abK [.str r,.str w]=some (.n9 [.str p,.bool ok])/\(ok=true->p.length<=r.length)/\aem (B4 w) r=if ok=true then some p else none:=by
 have hwl:(B4 w).length=w.length:=by simp [B4]
 suffices hg:j8 (cv abK [.str r,.str w] []) fun q=>∃ p ok,q.1 = .n9 [.str p,.bool ok]/\aem (B4 w) r=if ok=true then some p else none by
  obtain ⟨⟨v,H⟩,e,p,ok,h,h2⟩:=hg
  have h:v=_:=h
  subst h
  refine ⟨p,ok,y4 e (by simp only [c9]) (by simp only [c9]),fun hok=>?_,h2⟩
  rw [if_pos hok] at h2
  exact anJ h2
 rw [aqB]
 unfold aem
 rw [hwl]
 by_cases h1:r.length<w.length
 ·rw [if_neg (fun h=>by omega)]
  simp only [c9,show ((r.length:Int)<(w.length:Int)) from by omega]
  exact j8.here ⟨[],false,rfl,rfl⟩
 ·have p1:=aij r .i64 w.length (by omega)
  have e2:=apP (r.take w.length) w (by simp; omega) (by omega)
  by_cases h2:B4 (r.take w.length)=B4 w
  ·rw [if_pos ⟨by omega,h2⟩]
   have p2:=aee r .i64 w.length (by omega)
   have hq:(r.drop w.length).length<=r.length:=by simp
   generalize r.drop w.length=q at *
   have e3:=au5 q 62 (by omega)
   have hq2:(if q.getLast? = some 62 then q.take (q.length-1) else q).length<=q.length:=by split<;>simp
   have e4:=auY (if q.getLast? = some 62 then q.take (q.length-1) else q) 60 (by omega)
   simp only [c9,p1,e2,h2,p2,e3,e4,show ¬ ((r.length:Int)<(w.length:Int)) from by omega]
   by_cases h3:q.getLast? = some 62
   ·have hl1:1<=q.length:=by cases q with | nil=>cases h3 | cons a s=>simp
    by_cases h4:(q.take (q.length-1)).head? = some 60
    ·have hl2:2<=q.length:=by
      by_cases h:2<=q.length
      ·exact h
      ·rw [show q.length-1=0 from by omega] at h4; cases h4
     have h5:q.head? = some 60:=by
      rw [List.head?_eq_getElem?] at h4 ⊢
      rw [<-h4,List.getElem?_take,if_pos (by omega)]
     have hin:agC q=some ((q.take (q.length-1)).drop 1):=by
      unfold agC
      rw [if_pos ⟨hl2,h5,h3⟩,List.drop_take]
      congr 2
     rw [hin,Option.bind_some]
     unfold okP
     have hs:((q.take (q.length-1)).drop 1).length<=4000000:=by simp; omega
     simp only [c9,h3,h4]
     generalize (q.take (q.length-1)).drop 1=s at *
     have e5:=aqc s 64 (by omega)
     have hzl:=ahF 64 s
     have hal:=ajD 64 s
     have e6:=Q6 (E5 64 s) (by omega)
     have a1:=D9 .str (E4 64 s) [64] (by simp; omega)
     have a2:=D9 .str (E4 64 s++[64]) (B4 (E5 64 s)) (by simp [B4]; omega)
     have e7:=at3 (aeY s) (by
      unfold aeY
      split
      ·simp [B4]; omega
      ·omega)
     by_cases hm:(64:UInt8) ∈ s
     ·have hpf:aeY s=E4 64 s++[64]++B4 (E5 64 s):=by unfold aeY; rw [if_pos hm]
      rw [hpf] at e7 ⊢
      simp only [c9,e5,e6,a1,a2,e7,hm]
      exact j8.here ⟨_,_,rfl,rfl⟩
     ·have hpf:aeY s=s:=by unfold aeY; rw [if_neg hm]
      rw [hpf] at e7 ⊢
      simp only [c9,e5,e7,hm]
      exact j8.here ⟨_,_,rfl,rfl⟩
    ·have hin:agC q=none:=by
      unfold agC
      rw [if_neg]
      rintro ⟨g1,g2,g3⟩
      apply h4
      rw [List.head?_eq_getElem?] at g2 ⊢
      rw [<-g2,List.getElem?_take,if_pos (by omega)]
     rw [hin,Option.bind_none]
     simp only [c9,h3,h4]
     exact j8.here ⟨[],false,rfl,rfl⟩
   ·have hin:agC q=none:=by
     unfold agC
     rw [if_neg]
     rintro ⟨g1,g2,g3⟩
     exact h3 g3
    rw [hin,Option.bind_none]
    simp only [c9,h3]
    exact j8.here ⟨[],false,rfl,rfl⟩
  ·rw [if_neg (fun h=>h2 h.2)]
   simp only [c9,p1,e2,h2,show ¬ ((r.length:Int)<(w.length:Int)) from by omega]
   exact j8.here ⟨[],false,rfl,rfl⟩
theorem az6 (s:Bs) (hs:s.length<=1049600):∃ t n ok,qc adx [.str s]=some (.n9 [.str t,.int .i64 n,.bool ok])/\(ok=true->∃ k:Nat,n=k/\1<=k/\k<=s.length):=by
 suffices hg:j8 (cv adx [.str s] []) fun q=>∃ t n ok,q.1 = .n9 [.str t,.int .i64 n,.bool ok]/\(ok=true->∃ k:Nat,n=k/\1<=k/\k<=s.length) by
  obtain ⟨⟨v,H⟩,e,t,n,ok,h,h2⟩:=hg
  have h:v=_:=h
  subst h
  exact ⟨t,n,ok,y4 e (by simp only [c9]) (by simp only [c9]),h2⟩
 rw [aqr]
 refine j8.N1 (I:=fun n st H=>∃ (i:Nat) (t:Bs),n=s.length-i/\1<=i/\t.length<=i/\st=[.str s,.sl true (vB t),.int .i64 (i:Nat)])
  (P:=fun q vs H=>(q=0/\vs=[])\/∃ t n ok,q=1/\vs=[.str t,.int .i64 n,.bool ok]/\(ok=true->∃ k:Nat,n=k/\1<=k/\k<=s.length)) (n:=s.length-1) ?_ ⟨1,[],rfl,by omega,by simp,rfl⟩ ?_
 ·rintro n st H ⟨i,t,rfl,hi,ht,rfl⟩
  rw [am4]
  by_cases hlt:i<s.length
  ·have i1:=aal s .i64 i hlt
   have e2:b7 (.int .i64) .add (.int .i64 (i:Int)) (.int .i64 1)=some (.int .i64 ((i+1:Nat):Int)):=A0 _ i 1 (by omega)
   have ap:∀ b:UInt8,F8 false 1 1 (vB t) (.sl true [[.int .u8 (b.toNat:Int)]])=some (.sl true (vB (t++[b]))):=fun b=>by
    have:=aeZ 1 1 (vB t) true (vB [b]) (alv _) (alv _) (by rw [ajl,ajl]; simp; omega)
    rw [show vB t++vB [b]=vB (t++[b]) from by simp [vB]] at this
    exact this
   have b1:aiO (.sl false (vB t)) H=some (.str t):=by simp only [aiO,aqI,Option.map_some]
   by_cases h1:(s[i].toNat:Int)=34
   ·simp only [c9,i1,h1,b1,e2,show ((i:Int)<(s.length:Int)) from by omega]
    exact ⟨_,rfl,.inl ⟨1,rfl,.inr ⟨t,_,true,rfl,rfl,fun _=>⟨i+1,rfl,by omega,by omega⟩⟩⟩⟩
   ·by_cases h2:(s[i].toNat:Int)=92
    ·by_cases h3:i+1=s.length
     ·simp only [c9,i1,h1,h2,e2,show ¬ ((92:Int)=34) from by decide,show (((i+1:Nat):Int)=(s.length:Int)) from by omega,show ((i:Int)<(s.length:Int)) from by omega]
      exact ⟨_,rfl,.inl ⟨1,rfl,.inr ⟨[],0,false,rfl,rfl,fun h=>by cases h⟩⟩⟩
     ·have i2:=aal s .i64 (i+1) (by omega)
      have e3:b7 (.int .i64) .add (.int .i64 ((i+1:Nat):Int)) (.int .i64 1)=some (.int .i64 ((i+1+1:Nat):Int)):=A0 _ (i+1) 1 (by omega)
      simp only [c9,i1,h1,h2,e2,i2,ap,e3,show ¬ ((92:Int)=34) from by decide,show ¬ (((i+1:Nat):Int)=(s.length:Int)) from by omega,show ((i:Int)<(s.length:Int)) from by omega]
      exact ⟨_,rfl,.inr ⟨rfl,s.length-(i+1+1),by omega,i+1+1,_,rfl,by omega,by simp; omega,rfl⟩⟩
    ·simp only [c9,i1,h1,h2,ap,e2,show ((i:Int)<(s.length:Int)) from by omega]
     exact ⟨_,rfl,.inr ⟨rfl,s.length-(i+1),by omega,i+1,_,rfl,by omega,by simp; omega,rfl⟩⟩
  ·simp only [c9,show ¬ ((i:Int)<(s.length:Int)) from by omega]
   exact ⟨_,rfl,.inl ⟨0,rfl,.inl ⟨rfl,rfl⟩⟩⟩
 rintro _ _ H (⟨rfl,rfl⟩ | ⟨t,n,ok,rfl,rfl,h⟩)
 ·simp only [c9]
  exact j8.here ⟨[],0,false,rfl,fun h=>by cases h⟩
 ·simp only [c9]
  exact j8.here ⟨t,n,ok,rfl,h⟩
def aw4 (c:UInt8) (s:Bs) (i:Int):Prop:=((34:UInt8) ∉ E4 c s/\i=if c ∈ s then ((s.idxOf c:Nat):Int) else -1)\/((34:UInt8) ∈ E4 c s/\(i = -1\/∃ k:Nat,i=k/\k<s.length/\(34:UInt8) ∈ s.take k))
theorem aoR {c:UInt8} {s:Bs} {b:UInt8} (h:b ∈ E4 c s):b ∈ s:=by
 unfold E4 at h
 split at h
 ·exact List.mem_of_mem_take h
 ·exact h
theorem aAj {c:UInt8} {s:Bs} {i:Nat} (hi:i<s.length) (h:s[i]=c) (hn:c ∉ s.take i):c ∈ s/\s.idxOf c=i:=by
 have hm:c ∈ s:=by rw [<-h]; exact List.getElem_mem hi
 refine ⟨hm,?_⟩
 have e:s=s.take i++c::s.drop (i+1):=by
  conv=>lhs; rw [<-List.take_append_drop i s,List.drop_eq_getElem_cons hi,h]
 rw [e,List.idxOf_append,if_neg hn]
 simp; omega
theorem ayV (s:Bs) (c:UInt8) (hc:c ≠ 34) (hs:s.length<=1049600):∃ i:Int,qc Y7 [.str s,.int .u8 (c.toNat:Int)]=some (.int .i64 i)/\aw4 c s i:=by
 suffices h:j8 (cv Y7 [.str s,.int .u8 (c.toNat:Int)] []) fun r=>∃ i:Int,r.1 = .int .i64 i/\aw4 c s i by
  obtain ⟨⟨v,H⟩,e,i,h,hj⟩:=h
  have h:v=_:=h
  subst h
  exact ⟨i,y4 e (by simp only [c9]) rfl,hj⟩
 rw [ape]
 refine j8.N1 (I:=fun n st H=>∃ (i:Nat),n=s.length-i/\i<=s.length/\st=[.str s,.int .u8 (c.toNat:Int),.int .i64 (i:Nat)]/\((c ∉ s.take i/\(34:UInt8) ∉ s.take i)\/((34:UInt8) ∈ s.take i/\(34:UInt8) ∈ E4 c s)))
  (P:=fun m vs H=>(m=0/\vs=[]/\aw4 c s (-1))\/∃ i:Int,m=1/\vs=[.int .i64 i]/\aw4 c s i) (n:=s.length) ?_ ⟨0,by omega,by omega,rfl,.inl ⟨by simp,by simp⟩⟩ ?_
 ·rintro n st H ⟨i,rfl,hi,rfl,inv⟩
  rw [alA]
  by_cases hlt:i<s.length
  ·have i1:=aal s .i64 i hlt
   have hts:s.take (i+1)=s.take i++[s[i]]:=List.take_succ_eq_append_getElem hlt
   have e2:b7 (.int .i64) .add (.int .i64 (i:Int)) (.int .i64 1)=some (.int .i64 ((i+1:Nat):Int)):=A0 _ i 1 (by omega)
   by_cases h1:(s[i].toNat:Int)=34
   ·have hq:s[i]=34:=UInt8.toNat_inj.1 (by rw [show s[i].toNat=34 from by omega]; rfl)
    have hA:(34:UInt8) ∈ E4 c s:=by
     rcases inv with ⟨hn,_⟩ | ⟨_,h⟩
     ·unfold E4
      split
      ·rename_i hm
       have hge:i+1<=s.idxOf c:=by
        by_cases hlt2:s.idxOf c<i+1
        ·exfalso
         have hlt3:=List.idxOf_lt_length_iff.2 hm
         have hg:s[s.idxOf c]=c:=List.getElem_idxOf hlt3
         by_cases he:s.idxOf c=i
         ·simp only [he] at hg; rw [hq] at hg; exact hc hg.symm
         ·exact hn (by
           have:c=(s.take i)[s.idxOf c]'(by simp; omega):=by rw [List.getElem_take,hg]
           rw [this]; exact List.getElem_mem _)
        ·omega
       have:(34:UInt8) ∈ s.take (i+1):=by rw [hts,hq]; simp
       exact List.take_subset_take_left s hge this
      ·rw [<-hq]; exact List.getElem_mem hlt
     ·exact h
    have p2:=aee s .i64 i (by omega)
    obtain ⟨t,n,ok,e3,hj⟩:=az6 (s.drop i) (by simp; omega)
    by_cases hok:ok=true
    ·obtain ⟨k,rfl,hk1,hk2⟩:=hj hok
     rw [List.length_drop] at hk2
     have a1:b7 (.int .i64) .sub (.int .i64 (k:Int)) (.int .i64 1)=some (.int .i64 ((k-1:Nat):Int)):=ac7 _ k 1 hk1 (by omega)
     have a2:=A0 (.int .i64) i (k-1) (by omega)
     have a3:b7 (.int .i64) .add (.int .i64 ((i+(k-1):Nat):Int)) (.int .i64 1)=some (.int .i64 ((i+(k-1)+1:Nat):Int)):=A0 _ (i+(k-1)) 1 (by omega)
     simp only [c9,i1,h1,p2,e3,hok,a1,a2,a3,show ((i:Int)<(s.length:Int)) from by omega]
     refine ⟨_,rfl,.inr ⟨rfl,s.length-(i+(k-1)+1),by omega,i+(k-1)+1,rfl,by omega,rfl,.inr ⟨?_,hA⟩⟩⟩
     have:(34:UInt8) ∈ s.take (i+1):=by rw [hts,hq]; simp
     exact List.take_subset_take_left s (by omega) this
    ·simp only [c9,i1,h1,p2,e3,hok,show ((i:Int)<(s.length:Int)) from by omega]
     exact ⟨_,rfl,.inl ⟨1,rfl,.inr ⟨-1,rfl,rfl,.inr ⟨hA,.inl rfl⟩⟩⟩⟩
   ·have hq:¬ (34:UInt8)=s[i]:=fun e=>h1 (by rw [<-e]; rfl)
    have hk:((s[i].toNat:Int)=(c.toNat:Int))<->s[i]=c:=by
     constructor
     ·intro h; exact UInt8.toNat_inj.1 (by omega)
     ·intro h; rw [h]
    by_cases h2:s[i]=c
    ·have h3:¬ (c.toNat:Int)=34:=by rw [<-h2]; exact h1
     rw [h2] at i1
     simp only [c9,i1,h3,show ((i:Int)<(s.length:Int)) from by omega]
     refine ⟨_,rfl,.inl ⟨1,rfl,.inr ⟨_,rfl,rfl,?_⟩⟩⟩
     rcases inv with ⟨hn,hn2⟩ | ⟨h,hA⟩
     ·obtain ⟨hm,hix⟩:=aAj hlt h2 hn
      have eA:E4 c s=s.take i:=by unfold E4; rw [if_pos hm,hix]
      exact .inl ⟨by rw [eA]; exact hn2,by rw [if_pos hm,hix]⟩
     ·exact .inr ⟨hA,.inr ⟨i,rfl,hlt,h⟩⟩
    ·simp only [c9,i1,h1,hk,h2,e2,show ((i:Int)<(s.length:Int)) from by omega]
     refine ⟨_,rfl,.inr ⟨rfl,s.length-(i+1),by omega,i+1,rfl,by omega,rfl,?_⟩⟩
     rcases inv with ⟨hn,hn2⟩ | ⟨h,hA⟩
     ·refine .inl ⟨fun h=>?_,fun h=>?_⟩
      ·rw [hts,List.mem_append,List.mem_singleton] at h
       rcases h with h | h
       ·exact hn h
       ·exact h2 h.symm
      ·rw [hts,List.mem_append,List.mem_singleton] at h
       rcases h with h | h
       ·exact hn2 h
       ·exact hq h
     ·exact .inr ⟨by rw [hts,List.mem_append]; exact .inl h,hA⟩
  ·have:i=s.length:=by omega
   subst this
   simp only [c9,show ¬ ((s.length:Int)<(s.length:Int)) from by omega]
   refine ⟨_,rfl,.inl ⟨0,rfl,.inl ⟨rfl,rfl,?_⟩⟩⟩
   rw [List.take_length] at inv
   rcases inv with ⟨hn,hn2⟩ | ⟨h,hA⟩
   ·exact .inl ⟨fun h=>hn2 (aoR h),by rw [if_neg hn]⟩
   ·exact .inr ⟨hA,.inl rfl⟩
 rintro _ _ H (⟨rfl,rfl,h⟩ | ⟨i,rfl,rfl,h⟩)
 ·simp only [c9]
  exact j8.here ⟨-1,rfl,h⟩
 ·simp only [c9]
  exact j8.here ⟨i,rfl,h⟩
theorem ao2 {G:VH} {k:Nat} {cs:List V} (hk:k<G.length):(G.set k cs)[k]? = some cs:=by
 rw [List.getElem?_set,if_pos rfl,if_pos hk]
theorem amG {g:Nat->Option (List V)} {G:VH} {k off:Nat} {cs:List V} {v u:V} (hk:k<G.length) (hv:cs[off]? = some v) (hu:strip v=u):y5 g false false 1 (.ptr k off) (G.set k cs)=some (u,G.set k cs):=ahm (ao2 hk) hv hu
theorem axh {g:Nat->Option (List V)} {G:VH} {k off:Nat} {cs cs':List V} {v:V} (hk:k<G.length) (hv:cs[off]? = some v) (hc:F7 cs off [strip v]=cs'):y5 g true false 1 (.ptr k off) (G.set k cs)=some (v,G.set k cs'):=by
 rw [aqR (ao2 hk) hv,hc,List.set_set]
theorem abu {G:VH} {k off:Nat} {cs cs' c:List V} (hk:k<G.length) (ho:off+c.length<=cs.length) (hc:F7 cs off c=cs'):E1 (.ptr k off) c (G.set k cs)=some (G.set k cs'):=by
 rw [aoW (ao2 hk) ho,hc,List.set_set]
theorem aDP {g:Nat->Option (List V)} {G:VH} {k off n:Nat} {cs cs' c:List V} (hk:k<G.length) (hv:Q9 cs off n=some c) (hc:F7 cs off (m8 c)=cs'):y5 g true true n (.ptr k off) (G.set k cs)=some (.agg c,G.set k cs'):=by
 simp only [y5,ao2 hk,acT,hv,Option.bind_some,Option.map_some,hc,List.set_set]
theorem aza (s:y6) (line:Bs) (G:VH) (k:Nat) (hk:k<G.length) (hs:SmS s) (hl:line.length<=1049600):cv aaT [.ptr k 0,.str line] (G.set k (cSo s))=some (.int .i64 (aiu s line).2,G.set k (cSo (aiu s line).1)):=by
 have hll:=hs.2.1.2.2.1
 have hdl:=hs.2.2.1
 rw [ah3]
 unfold aiu
 simp only [I5]
 by_cases h1:line=[46]
 ·have t1:y5 l5 true true 3 (.ptr k 2) (G.set k [.int .i64 s.state,.str s.host,.str s.j0.from_,.sl true (vT s.j0.to),.sl true (vT s.j0.lines),.sl true (vO s.done)])=some (.agg [.str s.j0.from_,.sl true (vT s.j0.to),.sl true (vT s.j0.lines)],G.set k [.int .i64 s.state,.str s.host,.str s.j0.from_,.sl false (vT s.j0.to),.sl false (vT s.j0.lines),.sl true (vO s.done)]):=aDP hk rfl (by simp only [m8,strip,M1]; rfl)
  have t2:E1 (.ptr k 0) [.int .i64 1] (G.set k [.int .i64 s.state,.str s.host,.str s.j0.from_,.sl false (vT s.j0.to),.sl false (vT s.j0.lines),.sl true (vO s.done)])=some (G.set k [.int .i64 1,.str s.host,.str s.j0.from_,.sl false (vT s.j0.to),.sl false (vT s.j0.lines),.sl true (vO s.done)]):=abu hk (by simp) rfl
  have t3:E1 (.ptr k 2) [.str [],.sl true [],.sl true []] (G.set k [.int .i64 1,.str s.host,.str s.j0.from_,.sl false (vT s.j0.to),.sl false (vT s.j0.lines),.sl true (vO s.done)])=some (G.set k [.int .i64 1,.str s.host,.str [],.sl true [],.sl true [],.sl true (vO s.done)]):=abu hk (by simp) rfl
  have t4:y5 l5 false false 1 (.ptr k 5) (G.set k [.int .i64 1,.str s.host,.str [],.sl true [],.sl true [],.sl true (vO s.done)])=some (.sl false (vR eM s.done),G.set k [.int .i64 1,.str s.host,.str [],.sl true [],.sl true [],.sl true (vO s.done)]):=amG hk rfl (by simp only [strip,aco])
  by_cases h2:30<s.j0.lines.length
  ·simp only [c9,h1,t1,t2,t3,h2,show ((s.j0.lines.length:Int)>30) from by omega]
   rfl
  ·by_cases h3:s.done.length=5
   ·simp only [c9,h1,t1,t2,t3,t4,h2,h3,show ¬ ((s.j0.lines.length:Int)>30) from by omega,show (((5:Nat):Int)=5) from rfl]
    rfl
   ·have h3':¬ ((s.done.length:Nat):Int)=5:=by omega
    have t5:y5 l5 true false 1 (.ptr k 5) (G.set k [.int .i64 1,.str s.host,.str [],.sl true [],.sl true [],.sl true (vO s.done)])=some (.sl true (vO s.done),G.set k [.int .i64 1,.str s.host,.str [],.sl true [],.sl true [],.sl false (vR eM s.done)]):=axh hk rfl (by simp only [strip,aco]; rfl)
    have ap:=alc (l:=s.done) s.j0 (by omega)
    have t6:E1 (.ptr k 5) [.sl true (vO (s.done++[s.j0]))] (G.set k [.int .i64 1,.str s.host,.str [],.sl true [],.sl true [],.sl false (vR eM s.done)])=some (G.set k [.int .i64 1,.str s.host,.str [],.sl true [],.sl true [],.sl true (vO (s.done++[s.j0]))]):=abu hk (by simp) rfl
    simp only [c9,h1,t1,t2,t3,t4,t5,t6,ap,h2,h3,h3',show ¬ ((s.j0.lines.length:Int)>30) from by omega]
    rfl
 ·have t1:y5 l5 false false 1 (.ptr k 4) (G.set k [.int .i64 s.state,.str s.host,.str s.j0.from_,.sl true (vT s.j0.to),.sl true (vT s.j0.lines),.sl true (vO s.done)])=some (.sl false (vT s.j0.lines),G.set k [.int .i64 s.state,.str s.host,.str s.j0.from_,.sl true (vT s.j0.to),.sl true (vT s.j0.lines),.sl true (vO s.done)]):=amG hk rfl (by simp only [strip,M1])
  by_cases h2:s.j0.lines.length<=30
  ·have t2:y5 l5 true false 1 (.ptr k 4) (G.set k [.int .i64 s.state,.str s.host,.str s.j0.from_,.sl true (vT s.j0.to),.sl true (vT s.j0.lines),.sl true (vO s.done)])=some (.sl true (vT s.j0.lines),G.set k [.int .i64 s.state,.str s.host,.str s.j0.from_,.sl true (vT s.j0.to),.sl false (vT s.j0.lines),.sl true (vO s.done)]):=axh hk rfl (by simp only [strip,M1]; rfl)
   have e1:=aDh line (by omega)
   have ap:=abN (l:=s.j0.lines) (ae6 line) (by omega)
   have t3:E1 (.ptr k 4) [.sl true (vT (s.j0.lines++[ae6 line]))] (G.set k [.int .i64 s.state,.str s.host,.str s.j0.from_,.sl true (vT s.j0.to),.sl false (vT s.j0.lines),.sl true (vO s.done)])=some (G.set k [.int .i64 s.state,.str s.host,.str s.j0.from_,.sl true (vT s.j0.to),.sl true (vT (s.j0.lines++[ae6 line])),.sl true (vO s.done)]):=abu hk (by simp) rfl
   simp only [c9,h1,t1,t2,t3,e1,ap,h2,show ((s.j0.lines.length:Int)<=30) from by omega]
  ·simp only [c9,h1,t1,h2,show ¬ ((s.j0.lines.length:Int)<=30) from by omega]
theorem ahB {w:Bs} {s:Bs} (b:UInt8) (hb:aeq b=b) (h:b ∈ s) (hw:b ∉ w):¬ B4 s=w:=fun e=>hw (by rw [<-e]; exact List.mem_map.2 ⟨b,h,hb⟩)
theorem auz (s:y6) (line:Bs) (G:VH) (k:Nat) (hk:k<G.length) (hs:SmS s) (hl:line.length<=1049600):cv Z2 [.ptr k 0,.str line] (G.set k (cSo s))=some (.int .i64 (aiN s line).2,G.set k (cSo (aiN s line).1)):=by
 have htl:=hs.2.1.2.1.1
 obtain ⟨at_,o1,hR⟩:=ayV line 32 (by decide) hl
 have o1':qc Y7 [.str line,.int .u8 32]=_:=o1
 rw [agD]
 have p9:∀ (K:Nat × List V × VH->Option (V × VH)) (R:Option (V × VH)),(∀ w r m,((w=E4 32 line/\r=E5 32 line/\m=decide ((32:UInt8) ∈ line)/\(34:UInt8) ∉ E4 32 line)\/((34:UInt8) ∈ w/\(34:UInt8) ∈ E4 32 line/\w.length<=line.length))->K (0,[.ptr k 0,.str w,.str r,.bool m],G.set k (cSo s))=R) →
  ((id ((qc Y7 [.str line,.int .u8 32]).bind fun x16_6=>(b7 (.int .i64) .geq x16_6 (.int .i64 0)).bind fun x18_9=>j3 x18_9 ((C9 (.str line) none (some (strip x16_6))).bind fun x21_12=>(b7 (.int .i64) .add (strip (strip x16_6)) (.int .i64 1)).bind fun x24_15=>(C9 (.str line) (some x24_15) none).bind fun x25_16=>some (0,[.ptr k 0,x21_12,x25_16,(.bool true)],G.set k (cSo s))) (some (0,[.ptr k 0,.str line,(.str []),(.bool false)],G.set k (cSo s))):Option (Nat × List V × VH))).bind K)=R:=by
  intro K R hK
  rcases hR with ⟨hq,rfl⟩ | ⟨hq,rfl | ⟨j,rfl,hj,hqj⟩⟩
  ·by_cases hm:(32:UInt8) ∈ line
   ·have hlt:=List.idxOf_lt_length_iff.2 hm
    have p1:=aij line .i64 (line.idxOf 32) (by omega)
    have e2:b7 (.int .i64) .add (.int .i64 ((line.idxOf 32:Nat):Int)) (.int .i64 1)=some (.int .i64 ((line.idxOf 32+1:Nat):Int)):=A0 _ (line.idxOf 32) 1 (by omega)
    have p2:=aee line .i64 (line.idxOf 32+1) (by omega)
    rw [if_pos hm] at o1'
    simp only [c9,o1',p1,e2,p2,show (((line.idxOf 32:Nat):Int)>=0) from by omega]
    refine hK _ _ _ (.inl ⟨?_,?_,?_,hq⟩)
    ·unfold E4; rw [if_pos hm]
    ·unfold E5; rw [if_pos hm]
    ·rw [decide_eq_true hm]
   ·rw [if_neg hm] at o1'
    simp only [c9,o1',show ¬ ((-1:Int)>=0) from by decide]
    exact hK _ _ _ (.inl ⟨(aks hm).1.symm,(aks hm).2.symm,(decide_eq_false hm).symm,hq⟩)
  ·simp only [c9,o1',show ¬ ((-1:Int)>=0) from by decide]
   exact hK _ _ _ (.inr ⟨aoR hq,hq,Nat.le_refl _⟩)
  ·have p1:=aij line .i64 j (by omega)
   have e2:b7 (.int .i64) .add (.int .i64 (j:Int)) (.int .i64 1)=some (.int .i64 ((j+1:Nat):Int)):=A0 _ j 1 (by omega)
   have p2:=aee line .i64 (j+1) (by omega)
   simp only [c9,o1',p1,e2,p2,show ((j:Int)>=0) from by omega]
   exact hK _ _ _ (.inr ⟨hqj,hq,by simp; omega⟩)
 refine p9 _ _ fun w r m hw=>?_
 have hz:=ahF 32 line
 have ha:=ajD 32 line
 have ld0:y5 l5 false false 1 (.ptr k 0) (G.set k [.int .i64 s.state,.str s.host,.str s.j0.from_,.sl true (vT s.j0.to),.sl true (vT s.j0.lines),.sl true (vO s.done)])=some (.int .i64 s.state,G.set k [.int .i64 s.state,.str s.host,.str s.j0.from_,.sl true (vT s.j0.to),.sl true (vT s.j0.lines),.sl true (vO s.done)]):=amG hk rfl rfl
 rcases hw with ⟨rfl,rfl,rfl,hq⟩ | ⟨hqw,hqa,hwl⟩
 ·have e1:=Q6 (E4 32 line) (by omega)
  unfold aiN
  by_cases h1:B4 (E4 32 line)=[104,101,108,111]
  ·have e2:=Q6 (E5 32 line) (by omega)
   have e3:=ag0 (B4 (E5 32 line)) (by simp [B4]; omega)
   unfold apz
   by_cases hd:V7 (B4 (E5 32 line))=true
   ·have hm:(32:UInt8) ∈ line:=by
     by_cases hm:(32:UInt8) ∈ line
     ·exact hm
     ·rw [(aks hm).2] at hd
      exact absurd hd (by decide)
    have t1:E1 (.ptr k 1) [.str (B4 (E5 32 line))] (G.set k [.int .i64 s.state,.str s.host,.str s.j0.from_,.sl true (vT s.j0.to),.sl true (vT s.j0.lines),.sl true (vO s.done)])=some (G.set k [.int .i64 s.state,.str (B4 (E5 32 line)),.str s.j0.from_,.sl true (vT s.j0.to),.sl true (vT s.j0.lines),.sl true (vO s.done)]):=abu hk (by simp) rfl
    have t2:E1 (.ptr k 0) [.int .i64 1] (G.set k [.int .i64 s.state,.str (B4 (E5 32 line)),.str s.j0.from_,.sl true (vT s.j0.to),.sl true (vT s.j0.lines),.sl true (vO s.done)])=some (G.set k [.int .i64 1,.str (B4 (E5 32 line)),.str s.j0.from_,.sl true (vT s.j0.to),.sl true (vT s.j0.lines),.sl true (vO s.done)]):=abu hk (by simp) rfl
    have t3:E1 (.ptr k 2) [.str [],.sl true [],.sl true []] (G.set k [.int .i64 1,.str (B4 (E5 32 line)),.str s.j0.from_,.sl true (vT s.j0.to),.sl true (vT s.j0.lines),.sl true (vO s.done)])=some (G.set k [.int .i64 1,.str (B4 (E5 32 line)),.str [],.sl true [],.sl true [],.sl true (vO s.done)]):=abu hk (by simp) rfl
    simp only [c9,I5,e1,h1,e2,e3,hd,hm,t1,t2,t3]
    rfl
   ·by_cases hm:(32:UInt8) ∈ line
    ·simp only [c9,I5,e1,h1,e2,e3,hd,hm]
    ·simp only [c9,I5,e1,h1,e2,hd,hm]
  ·by_cases h2:B4 (E4 32 line)=[109,97,105,108]
   ·obtain ⟨p,ok,e2,hp,hap⟩:=as8 (E5 32 line) [70,82,79,77,58] (by omega) (by simp)
    rw [show B4 [70,82,79,77,58]=[102,114,111,109,58] from rfl] at hap
    rw [if_neg h1,if_pos h2,hap]
    unfold asx
    by_cases hok:ok=true
    ·by_cases h3:s.state=1
     ·have t1:E1 (.ptr k 0) [.int .i64 2] (G.set k [.int .i64 1,.str s.host,.str s.j0.from_,.sl true (vT s.j0.to),.sl true (vT s.j0.lines),.sl true (vO s.done)])=some (G.set k [.int .i64 2,.str s.host,.str s.j0.from_,.sl true (vT s.j0.to),.sl true (vT s.j0.lines),.sl true (vO s.done)]):=abu hk (by simp) rfl
      have t2:E1 (.ptr k 2) [.str p,.sl true [],.sl true []] (G.set k [.int .i64 2,.str s.host,.str s.j0.from_,.sl true (vT s.j0.to),.sl true (vT s.j0.lines),.sl true (vO s.done)])=some (G.set k [.int .i64 2,.str s.host,.str p,.sl true [],.sl true [],.sl true (vO s.done)]):=abu hk (by simp) rfl
      rw [h3] at ld0
      simp only [c9,I5,e1,h2,e2,hok,ld0,h3,t1,t2,show ¬ (([109,97,105,108]:Bs)=[104,101,108,111]) from by decide]
      rfl
     ·simp only [c9,I5,e1,h2,e2,hok,ld0,h3,show ¬ (([109,97,105,108]:Bs)=[104,101,108,111]) from by decide]
    ·simp only [c9,I5,e1,h2,e2,hok,show ¬ (([109,97,105,108]:Bs)=[104,101,108,111]) from by decide]
   ·by_cases h3:B4 (E4 32 line)=[114,99,112,116]
    ·obtain ⟨p,ok,e2,hp,hap⟩:=as8 (E5 32 line) [84,79,58] (by omega) (by simp)
     rw [show B4 [84,79,58]=[116,111,58] from rfl] at hap
     rw [if_neg h1,if_neg h2,if_pos h3,hap]
     unfold toF
     have n1:¬ (([114,99,112,116]:Bs)=[104,101,108,111]):=by decide
     have n2:¬ (([114,99,112,116]:Bs)=[109,97,105,108]):=by decide
     by_cases hok:ok=true
     ·by_cases h0:p=[]
      ·simp only [c9,I5,e1,h3,e2,hok,h0,n1,n2]
      ·have t0:y5 l5 false false 1 (.ptr k 3) (G.set k [.int .i64 s.state,.str s.host,.str s.j0.from_,.sl true (vT s.j0.to),.sl true (vT s.j0.lines),.sl true (vO s.done)])=some (.sl false (vT s.j0.to),G.set k [.int .i64 s.state,.str s.host,.str s.j0.from_,.sl true (vT s.j0.to),.sl true (vT s.j0.lines),.sl true (vO s.done)]):=amG hk rfl (by simp only [strip,M1])
       have t1:y5 l5 true false 1 (.ptr k 3) (G.set k [.int .i64 s.state,.str s.host,.str s.j0.from_,.sl true (vT s.j0.to),.sl true (vT s.j0.lines),.sl true (vO s.done)])=some (.sl true (vT s.j0.to),G.set k [.int .i64 s.state,.str s.host,.str s.j0.from_,.sl false (vT s.j0.to),.sl true (vT s.j0.lines),.sl true (vO s.done)]):=axh hk rfl (by simp only [strip,M1]; rfl)
       have ap:=abN (l:=s.j0.to) p (by omega)
       have t2:E1 (.ptr k 0) [.int .i64 3] (G.set k [.int .i64 s.state,.str s.host,.str s.j0.from_,.sl false (vT s.j0.to),.sl true (vT s.j0.lines),.sl true (vO s.done)])=some (G.set k [.int .i64 3,.str s.host,.str s.j0.from_,.sl false (vT s.j0.to),.sl true (vT s.j0.lines),.sl true (vO s.done)]):=abu hk (by simp) rfl
       have t3:E1 (.ptr k 3) [.sl true (vT (s.j0.to++[p]))] (G.set k [.int .i64 3,.str s.host,.str s.j0.from_,.sl false (vT s.j0.to),.sl true (vT s.j0.lines),.sl true (vO s.done)])=some (G.set k [.int .i64 3,.str s.host,.str s.j0.from_,.sl true (vT (s.j0.to++[p])),.sl true (vT s.j0.lines),.sl true (vO s.done)]):=abu hk (by simp) rfl
       by_cases h4:s.state=2
       ·rw [h4] at ld0 t0 t1 t2
        by_cases h5:s.j0.to.length=10
        ·simp only [c9,I5,e1,h3,e2,hok,h0,n1,n2,ld0,t0,h4,h5,show (((10:Nat):Int)=10) from rfl,true_or]
        ·have h5':¬ ((s.j0.to.length:Nat):Int)=10:=by omega
         simp only [c9,I5,e1,h3,e2,hok,h0,n1,n2,ld0,t0,t1,t2,t3,ap,h4,h5,h5',true_or]
       ·by_cases h4':s.state=3
        ·rw [h4'] at ld0 t0 t1 t2
         by_cases h5:s.j0.to.length=10
         ·simp only [c9,I5,e1,h3,e2,hok,h0,n1,n2,ld0,t0,h4',h5,show ¬ ((3:Int)=2) from by decide,show (((10:Nat):Int)=10) from rfl,or_true]
         ·have h5':¬ ((s.j0.to.length:Nat):Int)=10:=by omega
          simp only [c9,I5,e1,h3,e2,hok,h0,n1,n2,ld0,t0,t1,t2,t3,ap,h4',h5,h5',show ¬ ((3:Int)=2) from by decide,or_true]
        ·simp only [c9,I5,e1,h3,e2,hok,h0,n1,n2,ld0,h4,h4',or_self]
     ·simp only [c9,I5,e1,h3,e2,hok,n1,n2]
    ·rw [if_neg h1,if_neg h2,if_neg h3]
     unfold ao5
     by_cases hm:(32:UInt8) ∈ line
     ·have k1:¬ B4 line=[100,97,116,97]:=ahB 32 rfl hm (by decide)
      have k2:¬ B4 line=[114,115,101,116]:=ahB 32 rfl hm (by decide)
      have k3:¬ B4 line=[110,111,111,112]:=ahB 32 rfl hm (by decide)
      have k4:¬ B4 line=[113,117,105,116]:=ahB 32 rfl hm (by decide)
      simp only [c9,I5,e1,h1,h2,h3,hm,k1,k2,k3,k4]
     ·rw [(aks hm).1] at h1 h2 h3 e1 ⊢
      by_cases k1:B4 line=[100,97,116,97]
      ·have n1:¬ (([100,97,116,97]:Bs)=[104,101,108,111]):=by decide
       have n2:¬ (([100,97,116,97]:Bs)=[109,97,105,108]):=by decide
       have n3:¬ (([100,97,116,97]:Bs)=[114,99,112,116]):=by decide
       by_cases k5:s.state=3
       ·have t2:E1 (.ptr k 0) [.int .i64 4] (G.set k [.int .i64 3,.str s.host,.str s.j0.from_,.sl true (vT s.j0.to),.sl true (vT s.j0.lines),.sl true (vO s.done)])=some (G.set k [.int .i64 4,.str s.host,.str s.j0.from_,.sl true (vT s.j0.to),.sl true (vT s.j0.lines),.sl true (vO s.done)]):=abu hk (by simp) rfl
        rw [k5] at ld0
        simp only [c9,I5,e1,hm,k1,n1,n2,n3,ld0,k5,t2]
       ·simp only [c9,I5,e1,hm,k1,n1,n2,n3,ld0,k5]
      ·by_cases k2:B4 line=[114,115,101,116]
       ·have n1:¬ (([114,115,101,116]:Bs)=[104,101,108,111]):=by decide
        have n2:¬ (([114,115,101,116]:Bs)=[109,97,105,108]):=by decide
        have n3:¬ (([114,115,101,116]:Bs)=[114,99,112,116]):=by decide
        have n4:¬ (([114,115,101,116]:Bs)=[100,97,116,97]):=by decide
        have t2:E1 (.ptr k 2) [.str [],.sl true [],.sl true []] (G.set k [.int .i64 s.state,.str s.host,.str s.j0.from_,.sl true (vT s.j0.to),.sl true (vT s.j0.lines),.sl true (vO s.done)])=some (G.set k [.int .i64 s.state,.str s.host,.str [],.sl true [],.sl true [],.sl true (vO s.done)]):=abu hk (by simp) rfl
        have t3:y5 l5 false false 1 (.ptr k 0) (G.set k [.int .i64 s.state,.str s.host,.str [],.sl true [],.sl true [],.sl true (vO s.done)])=some (.int .i64 s.state,G.set k [.int .i64 s.state,.str s.host,.str [],.sl true [],.sl true [],.sl true (vO s.done)]):=amG hk rfl rfl
        have t4:E1 (.ptr k 0) [.int .i64 1] (G.set k [.int .i64 s.state,.str s.host,.str [],.sl true [],.sl true [],.sl true (vO s.done)])=some (G.set k [.int .i64 1,.str s.host,.str [],.sl true [],.sl true [],.sl true (vO s.done)]):=abu hk (by simp) rfl
        by_cases k5:s.state=0
        ·rw [k5] at t2 t3
         simp only [c9,I5,e1,hm,k2,n1,n2,n3,n4,t2,t3,k5]
         rfl
        ·simp only [c9,I5,e1,hm,k2,n1,n2,n3,n4,t2,t3,t4,k5]
         rfl
       ·by_cases k3:B4 line=[110,111,111,112]
        ·simp only [c9,I5,e1,hm,k3,show ¬ (([110,111,111,112]:Bs)=[104,101,108,111]) from by decide,show ¬ (([110,111,111,112]:Bs)=[109,97,105,108]) from by decide,show ¬ (([110,111,111,112]:Bs)=[114,99,112,116]) from by decide,show ¬ (([110,111,111,112]:Bs)=[100,97,116,97]) from by decide,show ¬ (([110,111,111,112]:Bs)=[114,115,101,116]) from by decide]
        ·by_cases k4:B4 line=[113,117,105,116]
         ·have t4:E1 (.ptr k 0) [.int .i64 5] (G.set k [.int .i64 s.state,.str s.host,.str s.j0.from_,.sl true (vT s.j0.to),.sl true (vT s.j0.lines),.sl true (vO s.done)])=some (G.set k [.int .i64 5,.str s.host,.str s.j0.from_,.sl true (vT s.j0.to),.sl true (vT s.j0.lines),.sl true (vO s.done)]):=abu hk (by simp) rfl
          have t5:E1 (.ptr k 2) [.str [],.sl true [],.sl true []] (G.set k [.int .i64 5,.str s.host,.str s.j0.from_,.sl true (vT s.j0.to),.sl true (vT s.j0.lines),.sl true (vO s.done)])=some (G.set k [.int .i64 5,.str s.host,.str [],.sl true [],.sl true [],.sl true (vO s.done)]):=abu hk (by simp) rfl
          simp only [c9,I5,e1,hm,k4,t4,t5,show ¬ (([113,117,105,116]:Bs)=[104,101,108,111]) from by decide,show ¬ (([113,117,105,116]:Bs)=[109,97,105,108]) from by decide,show ¬ (([113,117,105,116]:Bs)=[114,99,112,116]) from by decide,show ¬ (([113,117,105,116]:Bs)=[100,97,116,97]) from by decide,show ¬ (([113,117,105,116]:Bs)=[114,115,101,116]) from by decide,show ¬ (([113,117,105,116]:Bs)=[110,111,111,112]) from by decide]
          rfl
         ·simp only [c9,I5,e1,hm,h1,h2,h3,k1,k2,k3,k4]
 ·have hno:∀ x:Bs,(34:UInt8) ∉ x->¬ B4 w=x:=fun x hx=>ahB 34 rfl hqw hx
  have hnl:∀ x:Bs,(34:UInt8) ∉ x->¬ B4 (E4 32 line)=x:=fun x hx=>ahB 34 rfl hqa hx
  have hnt:∀ x:Bs,(34:UInt8) ∉ x->¬ B4 line=x:=fun x hx=>ahB 34 rfl (aoR hqa) hx
  have hr:aiN s line=(s,500):=by
   unfold aiN ao5
   rw [if_neg (hnl _ (by decide)),if_neg (hnl _ (by decide)),if_neg (hnl _ (by decide)),if_neg (hnt _ (by decide)),if_neg (hnt _ (by decide)),if_neg (hnt _ (by decide)),if_neg (hnt _ (by decide))]
  rw [hr]
  have e1:=Q6 w (by omega)
  cases m with
  | true=>simp only [c9,I5,e1,hno _ (show (34:UInt8) ∉ [104,101,108,111] by decide),hno _ (show (34:UInt8) ∉ [109,97,105,108] by decide),hno _ (show (34:UInt8) ∉ [114,99,112,116] by decide)]
  | false=>simp only [c9,I5,e1,hno _ (show (34:UInt8) ∉ [104,101,108,111] by decide),hno _ (show (34:UInt8) ∉ [109,97,105,108] by decide),hno _ (show (34:UInt8) ∉ [114,99,112,116] by decide),hno _ (show (34:UInt8) ∉ [100,97,116,97] by decide),hno _ (show (34:UInt8) ∉ [114,115,101,116] by decide),hno _ (show (34:UInt8) ∉ [110,111,111,112] by decide),hno _ (show (34:UInt8) ∉ [113,117,105,116] by decide)]
def okB (s:y6) (line:Bs):Bool := !decide (s.state=5)&&A6 line
theorem aFe (s:y6) (line:Bs) (G:VH) (k:Nat) (hk:k<G.length) (hs:SmS s) (hl:line.length<=1049600):cv aaP [.ptr k 0,.str line] (G.set k (cSo s))=some (.n9 [.int .i64 (if okB s line=true then (V5 s line).2 else 0),.bool (okB s line)],G.set k (cSo (if okB s line=true then (V5 s line).1 else s))):=by
 have e1:=aiP line (by omega)
 have ld0:y5 l5 false false 1 (.ptr k 0) (G.set k (cSo s))=some (.int .i64 s.state,G.set k (cSo s)):=amG hk rfl rfl
 rw [ak3]
 unfold okB V5
 by_cases h1:s.state=5
 ·simp only [c9,ld0,h1,Bool.false_and]
 ·by_cases h2:A6 line=true
  ·by_cases h3:s.state=4
   ·have f:=aza s line G k hk hs hl
    simp only [c9,ld0,h1,e1,h2,h3,f,Bool.true_and]
    simp [h3,f]
    simp only [c9]
   ·have f:=auz s line G k hk hs hl
    simp only [c9,ld0,h1,e1,h2,h3,f,Bool.true_and]
  ·simp only [c9,ld0,h1,e1,h2,Bool.and_false]
theorem aqO {n:Nat} (s:y6) (line:Bs) (hs:SzS n s) (hn:n+1<=1049600) (hl:line.length<=1049600):∃ H,cv acR [.agg (cS s),.str line] []=some (.n9 [.agg (cSo (aiL s line)),.int .i64 (afF s line),.bool (ajO s line)],H):=by
 have hsm:=hs.sm (by omega)
 have e1:=akZ s hsm
 have e2:=ash s hsm
 simp only [asO,I5] at e1 e2
 rw [apX]
 have hS:ajO s line=(afX s&&okB s line):=rfl
 unfold aiL afF
 rw [hS]
 by_cases h1:afX s=true
 ·rw [h1,Bool.true_and]
  have s1:E1 (.ptr ([]:VH).length 0) [.int .i64 s.state,.str s.host,.str s.j0.from_,.sl true (vT s.j0.to),.sl true (vT s.j0.lines),.sl true (vO s.done)] [[(.int .i64 0),(.str []),(.str []),(.sl true []),(.sl true []),(.sl true [])]]=some [cSo s]:=rfl
  have f:=aFe s line [cSo s] 0 (by simp) hsm hl
  have hset:∀ a b:List V,([a]:VH).set 0 b=[b]:=fun a b=>rfl
  simp only [hset] at f
  have f':cv aaP [.ptr ([]:VH).length 0,.str line] [cSo s]=_:=f
  by_cases h2:okB s line=true
  ·rw [h2] at f' ⊢
   simp only [if_true] at f' ⊢
   have l1:=azC (g:=l5) (n:=6) (afH [] (cSo (V5 s line).1)) rfl
   rw [ajk] at l1
   have l1':y5 l5 true true 6 (.ptr ([]:VH).length 0) [cSo (V5 s line).1]=_:=l1
   simp only [I5] at l1' s1 f'
   simp only [c9,e1,h1,e2,s1,f',l1',I5]
   exact ⟨_,rfl⟩
  ·have h2':okB s line=false:=by simpa using h2
   rw [h2'] at f' ⊢
   simp only [Bool.false_eq_true,if_false] at f' ⊢
   simp only [I5] at s1 f'
   simp only [c9,e1,h1,e2,s1,f',I5]
   exact ⟨_,rfl⟩
 ·have h1':afX s=false:=by simpa using h1
  rw [h1',Bool.false_and]
  simp only [c9,e1,h1',I5]
  exact ⟨_,rfl⟩
theorem aq4 {n:Nat} (s:y6) (line:Bs) (hs:SzS n s) (hn:n+1<=1049600) (hl:line.length<=1049600):pc acR [.agg (cS s),.str line]=some (.n9 [.agg (cSo (aiL s line)),.int .i64 (afF s line),.bool (ajO s line)]):=by
 obtain ⟨H,e⟩:=aqO s line hs hn hl
 exact Y9 e (by simp only [c9,asO]) (by simp only [c9,I5,aje])
end Go.Proofs.YtaapfgpeeghmeaaGreatDoor.Q

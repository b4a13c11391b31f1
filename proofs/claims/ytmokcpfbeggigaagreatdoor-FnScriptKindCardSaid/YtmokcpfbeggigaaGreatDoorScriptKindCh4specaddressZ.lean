/- Contracts: addresses, as the specification reads and writes them. -/
import Derived.Test.YtmokcpfbeggigaaGreatDoorScriptKindCh3kindZ
namespace Go.Proofs.YtmokcpfbeggigaaGreatDoor.Q
open Go Go.AM
set_option linter.unusedSimpArgs false
set_option linter.unusedVariables false
set_option linter.unusedSectionVars false
theorem aeh (s:Bs) (hs:s.length<=1000000000):qc J0 [.str s]=some (.str (l7 s)):=by
 suffices h:j2 (cv J0 [.str s] []) fun r=>r.1 = .str (l7 s) by
  obtain ⟨⟨v,H⟩,e,h⟩:=h
  have h:v=_:=h
  subst h
  exact u3 e (by simp only [b8]) rfl
 rw [alX]
 refine j2.H5 (I:=fun n st H=>∃ t:Bs,n=t.length/\t.length<=s.length/\st=[.str t]/\D1 32 t=D1 32 s)
  (P:=fun q vs H=>q=0/\vs=[.str (D1 32 s)]) (n:=s.length) ?_ ⟨s,rfl,by omega,rfl,rfl⟩ ?_
 ·rintro n st H ⟨t,rfl,ht,rfl,inv⟩
  rw [ai9]
  cases t with
  | nil =>
    simp only [b8,List.length_nil,show ¬ (((0:Nat):Int)>0) from by omega]
    exact ⟨_,rfl,.inl ⟨0,rfl,rfl,by rw [<-inv]; rfl⟩⟩
  | cons b l =>
    have i1:l8 (.str (b::l)) (.int .i64 0)=some (.int .u8 (b.toNat:Int)):=G9 (b::l) .i64 0 (by simp)
    have p1:w5 (.str (b::l)) (some (.int .i64 1)) none=some (.str l):=adC (b::l) .i64 1 (by simp)
    simp only [List.length_cons] at ht
    by_cases hb:b=32
    ·subst hb
     simp only [b8,List.length_cons,i1,p1,show (((32:UInt8).toNat:Int)=32) from rfl,show (((l.length+1:Nat):Int)>0) from by omega]
     exact ⟨_,rfl,.inr ⟨rfl,l.length,by simp,l,rfl,by omega,rfl,by rw [<-inv]; simp [D1]⟩⟩
    ·have hk:¬ ((b.toNat:Int)=32):=fun e=>hb (UInt8.toNat_inj.1 (by simpa using Int.ofNat.inj e))
     simp only [b8,List.length_cons,i1,hk,show (((l.length+1:Nat):Int)>0) from by omega]
     exact ⟨_,rfl,.inl ⟨0,rfl,rfl,by rw [<-inv]; simp [D1,hb]⟩⟩
 rintro _ _ H ⟨rfl,rfl⟩
 simp only [b8]
 have hl:=alW 32 s
 refine j2.H5 (I:=fun n st H=>∃ t:Bs,n=t.length/\t.length<=s.length/\st=[.str t]/\L0 32 t=L0 32 (D1 32 s))
  (P:=fun q vs H=>q=0/\vs=[.str (L0 32 (D1 32 s))]) (n:=(D1 32 s).length) ?_ ⟨D1 32 s,rfl,by omega,rfl,rfl⟩ ?_
 ·rintro n st H ⟨t,rfl,ht,rfl,inv⟩
  rw [ai5]
  rcases List.eq_nil_or_concat t with rfl | ⟨l,b,rfl⟩
  ·simp only [b8,List.length_nil,show ¬ (((0:Nat):Int)>0) from by omega]
   exact ⟨_,rfl,.inl ⟨0,rfl,rfl,by rw [<-inv]; rfl⟩⟩
  ·have hlen:(l.concat b).length=l.length+1:=by simp
   rw [hlen] at ht
   simp only [List.concat_eq_append] at hlen inv ⊢
   have a1:a8 (.int .i64) .sub (.int .i64 ((l.length+1:Nat):Int)) (.int .i64 1)=some (.int .i64 ((l.length:Nat):Int)):=aij _ (l.length+1) 1 (by omega) (by omega)
   have i1:=G9 (l++[b]) .i64 l.length (by simp)
   rw [List.getElem_concat_length (by rfl)] at i1
   have p1:=agA (l++[b]) .i64 l.length (by simp)
   rw [List.take_left] at p1
   by_cases hb:b=32
   ·subst hb
    simp only [b8,hlen,a1,i1,p1,show (((32:UInt8).toNat:Int)=32) from rfl,show (((l.length+1:Nat):Int)>0) from by omega]
    exact ⟨_,rfl,.inr ⟨rfl,l.length,by omega,l,rfl,by omega,rfl,by rw [<-inv,aen]⟩⟩
   ·have hk:¬ ((b.toNat:Int)=32):=fun e=>hb (UInt8.toNat_inj.1 (by simpa using Int.ofNat.inj e))
    simp only [b8,hlen,a1,i1,hk,show (((l.length+1:Nat):Int)>0) from by omega]
    exact ⟨_,rfl,.inl ⟨0,rfl,rfl,by rw [<-inv,ac3 hb]⟩⟩
 rintro _ _ H ⟨rfl,rfl⟩
 simp only [b8]
 exact j2.here (by rw [<-aiU]; rfl)
theorem apQ (s:Bs) (v1 v3:V) (H:VH) (hs:s.length<=1000000) (j:Nat) (hj:j<=s.length):j2 (l3 abx [.str s,v1,.int .i64 (j:Nat),v3] H) fun r=>r=(0,[.str s,v1,.int .i64 ((A4 s j:Nat):Int),v3],H):=by
 refine j2.loop (I:=fun n st G=>∃ i:Nat,n=s.length-i/\i<=s.length/\A4 s i=A4 s j/\G=H/\st=[.str s,v1,.int .i64 (i:Nat),v3]) ?_ (s.length-j) _ H ⟨j,rfl,hj,rfl,rfl,rfl⟩
 rintro n st G ⟨i,rfl,hi,inv,rfl,rfl⟩
 rw [ahl]
 by_cases hlt:i<s.length
 ·have i1:=G9 s .i64 i hlt
  have e1:=apy (s[i].toNat:Int)
  have e2:a8 (.int .i64) .add (.int .i64 (i:Int)) (.int .i64 1)=some (.int .i64 ((i+1:Nat):Int)):=p6 _ i 1 (by omega)
  by_cases ha:M8 s[i].toNat=true
  ·rw [ha] at e1
   simp only [b8,i1,e1,e2,show ((i:Int)<(s.length:Int)) from by omega]
   exact j2.here ⟨s.length-(i+1),by omega,i+1,rfl,by omega,by rw [<-inv,adW hlt ha],rfl,rfl⟩
  ·have ha':M8 s[i].toNat=false:=by simpa using ha
   rw [ha'] at e1
   simp only [b8,i1,e1,show ((i:Int)<(s.length:Int)) from by omega]
   rw [<-inv,acr hlt ha]
   exact j2.here rfl
 ·simp only [b8,show ¬ ((i:Int)<(s.length:Int)) from by omega]
  rw [<-inv,aef hlt]
  exact j2.here rfl
theorem amW (s:Bs) (hs:s.length<=100000):pc T4 [.str s]=some (.n8 (wdX (B3 s 0 true []))):=by
 suffices h:j2 (cv T4 [.str s] []) fun r=>r.1 = .n8 (wdX (B3 s 0 true [])) by
  obtain ⟨⟨v,H⟩,e,h⟩:=h
  have h:v=_:=h
  subst h
  refine aeW e (by simp only [b8]) ?_
  cases B3 s 0 true []<;>simp only [wdX,b8]
 rw [alJ]
 refine j2.H5 (I:=fun n st H=>∃ (i:Nat) (acc:List Bs),n=s.length-i/\i<=s.length/\acc.length<=i/\st=[.str s,.sl true (vT acc),.int .i64 (i:Nat)]/\B3 s i true acc=B3 s 0 true [])
  (P:=fun q vs H=>(q=0/\∃ ws,B3 s 0 true []=some ws/\vs=[.sl true (vT ws)])\/(q=1/\B3 s 0 true []=none/\vs=[.sl true [],.bool false])) (n:=s.length) ?_ ⟨0,[],by omega,by omega,by simp,rfl,rfl⟩ ?_
 ·rintro n st H ⟨i,acc,rfl,hi,hacc,rfl,inv⟩
  rw [ahR]
  by_cases hlt:i<s.length
  ·have i1:=G9 s .i64 i hlt
   have h32 := @U5 s[i] 32 (by omega)
   have h34 := @U5 s[i] 34 (by omega)
   have e2:a8 (.int .i64) .add (.int .i64 (i:Int)) (.int .i64 1)=some (.int .i64 ((i+1:Nat):Int)):=p6 _ i 1 (by omega)
   have ap1:∀ t:Bs,I5 false 1 16 (vT acc) (.sl true [[.str t]])=some (.sl true (vT (acc++[t]))):=fun t=>by
    have:=agD 1 16 (vT acc) true (vT [t]) (abS _) (abS _) (by rw [abW,abW]; simp; omega)
    rw [aoH] at this
    exact this
   by_cases h1:(s[i].toNat:Int)=32
   ·simp only [b8,i1,h1,e2,show ((i:Int)<(s.length:Int)) from by omega]
    exact ⟨_,rfl,.inr ⟨rfl,s.length-(i+1),by omega,i+1,acc,rfl,by omega,by omega,rfl,by rw [<-inv,P7 hlt (h32.1 h1)]⟩⟩
   ·have n32:s[i] ≠ 32:=fun e=>h1 (h32.2 e)
    by_cases h2:(s[i].toNat:Int)=34
    ·have e3:=apx s i hlt (by omega)
     cases hq:qR (s.drop (i+1)) with
     | none =>
       rw [hq] at e3
       simp only [lrT] at e3
       simp only [b8,i1,h1,h2,e3,show ¬ ((34:Int)=32) from by decide,show ((-1:Int)<0) from by decide,show ((i:Int)<(s.length:Int)) from by omega]
       exact ⟨_,rfl,.inl ⟨1,rfl,.inr ⟨rfl,by rw [<-inv,afK hlt (h34.1 h2) hq],rfl⟩⟩⟩
     | some r =>
       have hr:=afb (t:=r.1) (k:=r.2) hq
       rw [List.length_drop] at hr
       rw [hq] at e3
       simp only [lrT] at e3
       have inv2:B3 s (i+1+r.2) false (acc++[r.1])=B3 s 0 true []:=by rw [<-inv,afz hlt (h34.1 h2) hq]
       generalize hj:i+1+r.2=j at *
       by_cases h3:j<s.length
       ·have i2:=G9 s .i64 j h3
        have g32 := @U5 s[j] 32 (by omega)
        by_cases h4:(s[j].toNat:Int)=32
        ·rw [akH (.inr ⟨h3,g32.1 h4⟩)] at inv2
         simp only [b8,i1,h1,h2,e3,i2,h4,ap1,show ¬ ((34:Int)=32) from by decide,show ¬ (((j:Nat):Int)<0) from by omega,show ¬ (((j:Nat):Int)=(i:Int)) from by omega,show ((j:Int)<(s.length:Int)) from by omega,show ((i:Int)<(s.length:Int)) from by omega]
         exact ⟨_,rfl,.inr ⟨rfl,s.length-j,by omega,j,acc++[r.1],rfl,by omega,by simp; omega,rfl,inv2⟩⟩
        ·rw [abA h3 (fun e=>h4 (g32.2 e))] at inv2
         simp only [b8,i1,h1,h2,e3,i2,h4,show ¬ ((34:Int)=32) from by decide,show ¬ (((j:Nat):Int)<0) from by omega,show ¬ (((j:Nat):Int)=(i:Int)) from by omega,show ((j:Int)<(s.length:Int)) from by omega,show ((i:Int)<(s.length:Int)) from by omega]
         exact ⟨_,rfl,.inl ⟨1,rfl,.inr ⟨rfl,inv2.symm,rfl⟩⟩⟩
       ·rw [akH (.inl h3)] at inv2
        simp only [b8,i1,h1,h2,e3,ap1,show ¬ ((34:Int)=32) from by decide,show ¬ (((j:Nat):Int)<0) from by omega,show ¬ (((j:Nat):Int)=(i:Int)) from by omega,show ¬ ((j:Int)<(s.length:Int)) from by omega,show ((i:Int)<(s.length:Int)) from by omega]
        exact ⟨_,rfl,.inr ⟨rfl,s.length-j,by omega,j,acc++[r.1],rfl,by omega,by simp; omega,rfl,inv2⟩⟩
    ·have n34:s[i] ≠ 34:=fun e=>h2 (h34.2 e)
     have hge:=abI (s:=s) (i:=i)
     simp only [b8,i1,h1,h2,show ((i:Int)<(s.length:Int)) from by omega]
     rw [Option.bind_assoc]
     refine (apQ s (.sl true (vT acc)) (.int .i64 (i:Nat)) H (by omega) i hi).bind ?_
     rintro _ rfl
     have p3:=aiy s .i64 .i64 i (A4 s i) hge.1 (hge.2 hi)
     by_cases hz:A4 s i=i
     ·have p4:=aiy s .i64 .i64 i i (Nat.le_refl _) hi
      simp only [b8,hz,p4]
      exact ⟨_,rfl,.inl ⟨1,rfl,.inr ⟨rfl,by rw [<-inv,agd hlt n32 n34 hz],rfl⟩⟩⟩
     ·have inv2:B3 s (A4 s i) false (acc++[(s.drop i).take (A4 s i-i)])=B3 s 0 true []:=by rw [<-inv,afq hlt n32 n34 hz]
      have hle:=hge.2 hi
      have hgi:=hge.1
      generalize A4 s i=j at *
      by_cases h3:j<s.length
      ·have i2:=G9 s .i64 j h3
       have g32 := @U5 s[j] 32 (by omega)
       by_cases h4:(s[j].toNat:Int)=32
       ·rw [akH (.inr ⟨h3,g32.1 h4⟩)] at inv2
        simp only [b8,p3,i2,h4,ap1,show ¬ (((j:Nat):Int)=(i:Int)) from by omega,show ((j:Int)<(s.length:Int)) from by omega]
        exact ⟨_,rfl,.inr ⟨rfl,s.length-j,by omega,j,_,rfl,by omega,by simp; omega,rfl,inv2⟩⟩
       ·rw [abA h3 (fun e=>h4 (g32.2 e))] at inv2
        simp only [b8,p3,i2,h4,show ¬ (((j:Nat):Int)=(i:Int)) from by omega,show ((j:Int)<(s.length:Int)) from by omega]
        exact ⟨_,rfl,.inl ⟨1,rfl,.inr ⟨rfl,inv2.symm,rfl⟩⟩⟩
      ·rw [akH (.inl h3)] at inv2
       simp only [b8,p3,ap1,show ¬ (((j:Nat):Int)=(i:Int)) from by omega,show ¬ ((j:Int)<(s.length:Int)) from by omega]
       exact ⟨_,rfl,.inr ⟨rfl,s.length-j,by omega,j,_,rfl,by omega,by simp; omega,rfl,inv2⟩⟩
  ·simp only [b8,show ¬ ((i:Int)<(s.length:Int)) from by omega]
   exact ⟨_,rfl,.inl ⟨0,rfl,.inl ⟨rfl,acc,by rw [<-inv,aaJ hlt],rfl⟩⟩⟩
 rintro _ _ H (⟨rfl,ws,h,rfl⟩ | ⟨rfl,h,rfl⟩)
 ·rw [h]
  simp only [b8]
  exact j2.here rfl
 ·rw [h]
  simp only [b8]
  exact j2.here rfl
theorem atb (s:Bs) (hs:s.length<=1000000):qc aae [.str s]=some (.str (afg s)):=by
 suffices h:j2 (cv aae [.str s] []) fun r=>r.1 = .str (afg s) by
  obtain ⟨⟨v,H⟩,e,h⟩:=h
  have h:v=_:=h
  subst h
  exact u3 e (by simp only [b8]) rfl
 rw [alD]
 refine j2.H5 (I:=fun n st H=>∃ (i:Nat),n=s.length-i/\i<=s.length/\st=[.str s,.str (quI s i),.int .i64 (i:Nat)])
  (P:=fun q vs H=>q=0/\vs=[.str (quI s s.length)]) (n:=s.length) ?_ ⟨0,by omega,by omega,rfl⟩ ?_
 ·rintro n st H ⟨i,rfl,hi,rfl⟩
  rw [aim]
  have hAl:=aiG s i
  by_cases hlt:i<s.length
  ·have i1:=G9 s .i64 i hlt
   have h34 := @U5 s[i] 34 (by omega)
   have h92 := @U5 s[i] 92 (by omega)
   have e2:a8 (.int .i64) .add (.int .i64 (i:Int)) (.int .i64 1)=some (.int .i64 ((i+1:Nat):Int)):=p6 _ i 1 (by omega)
   have b1:aan (.sl true [[.int .u8 92]]) H=some (.str [92]):=by
    have:([[V.int .u8 92]]:List (List V))=vB [92]:=rfl
    rw [this]; simp only [aan,afF,Option.map_some]
   have p1:=aiy s .i64 .i64 i (i+1) (by omega) (by omega)
   have hp:(s.drop i).take (i+1-i)=[s[i]]:=by
    rw [show i+1-i=1 by omega,List.drop_eq_getElem_cons hlt]; rfl
   rw [hp] at p1
   have a1:=G3 .str (quI s i) [92] (by simp; omega)
   have a2:=G3 .str (quI s i++[92]) [s[i]] (by simp; omega)
   have a3:=G3 .str (quI s i) [s[i]] (by simp; omega)
   by_cases h1:(s[i].toNat:Int)=34
   ·have hes:W0 s[i]=[92,s[i]]:=by unfold W0; rw [if_pos (.inl (h34.1 h1))]
    simp only [b8,i1,h1,b1,p1,a1,a2,e2,show ((i:Int)<(s.length:Int)) from by omega]
    exact ⟨_,rfl,.inr ⟨rfl,s.length-(i+1),by omega,i+1,rfl,by omega,by rw [acm hlt,hes]; simp⟩⟩
   ·by_cases h2:(s[i].toNat:Int)=92
    ·have hes:W0 s[i]=[92,s[i]]:=by unfold W0; rw [if_pos (.inr (h92.1 h2))]
     simp only [b8,i1,h1,h2,b1,p1,a1,a2,e2,show ¬ ((92:Int)=34) from by decide,show ((i:Int)<(s.length:Int)) from by omega]
     exact ⟨_,rfl,.inr ⟨rfl,s.length-(i+1),by omega,i+1,rfl,by omega,by rw [acm hlt,hes]; simp⟩⟩
    ·have hes:W0 s[i]=[s[i]]:=by unfold W0; rw [if_neg (fun h=>h.elim (fun e=>h1 (h34.2 e)) (fun e=>h2 (h92.2 e)))]
     simp only [b8,i1,h1,h2,p1,a3,e2,show ((i:Int)<(s.length:Int)) from by omega]
     exact ⟨_,rfl,.inr ⟨rfl,s.length-(i+1),by omega,i+1,rfl,by omega,by rw [acm hlt,hes]⟩⟩
  ·have he:i=s.length:=by omega
   subst he
   simp only [b8,show ¬ ((s.length:Int)<(s.length:Int)) from by omega]
   exact ⟨_,rfl,.inl ⟨0,rfl,rfl,rfl⟩⟩
 rintro _ _ H ⟨rfl,rfl⟩
 have hel:=aiG s s.length
 have a1:=G3 .str (quI s s.length) [34] (by simp; omega)
 rw [ap7] at a1
 simp only [b8,a1]
 exact j2.here rfl
theorem ad8 (s:Bs) (hs:s.length<=1000000):qc U6 [.str s]=some (.str (aaG s)):=by
 have e0:=abt s (by omega)
 have e1:=akB s (by omega)
 have e2:=atb s hs
 refine u3 (H:=[]) ?_ (by simp only [b8]) rfl
 show cv _ _ _=_
 rw [ai4]
 unfold aaG
 by_cases ht:u7 s=true
 ·rw [ht] at e0
  by_cases ha:aca s=true
  ·rw [ha] at e1
   simp only [b8,e0,e1,ht,ha]
   try simp
  ·have ha':aca s=false:=by simpa using ha
   rw [ha'] at e1
   simp only [b8,e0,e1,e2,ht,ha']
   try simp
 ·have ht':u7 s=false:=by simpa using ht
  rw [ht'] at e0
  simp only [b8,e0,ht']
  try simp
end Go.Proofs.YtmokcpfbeggigaaGreatDoor.Q

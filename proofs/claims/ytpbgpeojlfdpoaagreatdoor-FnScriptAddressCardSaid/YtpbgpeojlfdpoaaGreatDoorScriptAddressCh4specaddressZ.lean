/- Contracts: addresses, as the specification reads and writes them. -/
import Derived.Test.YtpbgpeojlfdpoaaGreatDoorScriptAddressCh3kindZ
namespace Go.Proofs.YtpbgpeojlfdpoaaGreatDoor.Q
open Go Go.AM
set_option linter.unusedSimpArgs false
set_option linter.unusedVariables false
set_option linter.unusedSectionVars false
theorem atW (s:Bs) (hs:s.length<=1000000000):qc aaT [.str s]=some (.str (w9 s)):=by
 suffices h:j9 (cv aaT [.str s] []) fun r=>r.1 = .str (w9 s) by
  obtain ⟨⟨v,H⟩,e,h⟩:=h
  have h:v=_:=h
  subst h
  exact w8 e (by simp only [b8]) rfl
 rw [alO]
 refine j9.P5 (I:=fun n st H=>∃ t:Bs,n=t.length/\t.length<=s.length/\st=[.str t]/\S7 32 t=S7 32 s)
  (P:=fun q vs H=>q=0/\vs=[.str (S7 32 s)]) (n:=s.length) ?_ ⟨s,rfl,by omega,rfl,rfl⟩ ?_
 ·rintro n st H ⟨t,rfl,ht,rfl,inv⟩
  rw [aiD]
  cases t with
  | nil =>
    simp only [b8,List.length_nil,show ¬ (((0:Nat):Int)>0) from by omega]
    exact ⟨_,rfl,.inl ⟨0,rfl,rfl,by rw [<-inv]; rfl⟩⟩
  | cons b l =>
    have i1:l4 (.str (b::l)) (.int .i64 0)=some (.int .u8 (b.toNat:Int)):=D2 (b::l) .i64 0 (by simp)
    have p1:w4 (.str (b::l)) (some (.int .i64 1)) none=some (.str l):=abk (b::l) .i64 1 (by simp)
    simp only [List.length_cons] at ht
    by_cases hb:b=32
    ·subst hb
     simp only [b8,List.length_cons,i1,p1,show (((32:UInt8).toNat:Int)=32) from rfl,show (((l.length+1:Nat):Int)>0) from by omega]
     exact ⟨_,rfl,.inr ⟨rfl,l.length,by simp,l,rfl,by omega,rfl,by rw [<-inv]; simp [S7]⟩⟩
    ·have hk:¬ ((b.toNat:Int)=32):=fun e=>hb (UInt8.toNat_inj.1 (by simpa using Int.ofNat.inj e))
     simp only [b8,List.length_cons,i1,hk,show (((l.length+1:Nat):Int)>0) from by omega]
     exact ⟨_,rfl,.inl ⟨0,rfl,rfl,by rw [<-inv]; simp [S7,hb]⟩⟩
 rintro _ _ H ⟨rfl,rfl⟩
 simp only [b8]
 have hl:=alU 32 s
 refine j9.P5 (I:=fun n st H=>∃ t:Bs,n=t.length/\t.length<=s.length/\st=[.str t]/\S1 32 t=S1 32 (S7 32 s))
  (P:=fun q vs H=>q=0/\vs=[.str (S1 32 (S7 32 s))]) (n:=(S7 32 s).length) ?_ ⟨S7 32 s,rfl,by omega,rfl,rfl⟩ ?_
 ·rintro n st H ⟨t,rfl,ht,rfl,inv⟩
  rw [aiA]
  rcases List.eq_nil_or_concat t with rfl | ⟨l,b,rfl⟩
  ·simp only [b8,List.length_nil,show ¬ (((0:Nat):Int)>0) from by omega]
   exact ⟨_,rfl,.inl ⟨0,rfl,rfl,by rw [<-inv]; rfl⟩⟩
  ·have hlen:(l.concat b).length=l.length+1:=by simp
   rw [hlen] at ht
   simp only [List.concat_eq_append] at hlen inv ⊢
   have a1:a8 (.int .i64) .sub (.int .i64 ((l.length+1:Nat):Int)) (.int .i64 1)=some (.int .i64 ((l.length:Nat):Int)):=aav _ (l.length+1) 1 (by omega) (by omega)
   have i1:=D2 (l++[b]) .i64 l.length (by simp)
   rw [List.getElem_concat_length (by rfl)] at i1
   have p1:=abO (l++[b]) .i64 l.length (by simp)
   rw [List.take_left] at p1
   by_cases hb:b=32
   ·subst hb
    simp only [b8,hlen,a1,i1,p1,show (((32:UInt8).toNat:Int)=32) from rfl,show (((l.length+1:Nat):Int)>0) from by omega]
    exact ⟨_,rfl,.inr ⟨rfl,l.length,by omega,l,rfl,by omega,rfl,by rw [<-inv,aoS]⟩⟩
   ·have hk:¬ ((b.toNat:Int)=32):=fun e=>hb (UInt8.toNat_inj.1 (by simpa using Int.ofNat.inj e))
    simp only [b8,hlen,a1,i1,hk,show (((l.length+1:Nat):Int)>0) from by omega]
    exact ⟨_,rfl,.inl ⟨0,rfl,rfl,by rw [<-inv,aoJ hb]⟩⟩
 rintro _ _ H ⟨rfl,rfl⟩
 simp only [b8]
 exact j9.here (by rw [<-ap7]; rfl)
theorem ape (s:Bs) (v1 v3:V) (H:VH) (hs:s.length<=1000000) (j:Nat) (hj:j<=s.length):j9 (n7 abx [.str s,v1,.int .i64 (j:Nat),v3] H) fun r=>r=(0,[.str s,v1,.int .i64 ((E8 s j:Nat):Int),v3],H):=by
 refine j9.loop (I:=fun n st G=>∃ i:Nat,n=s.length-i/\i<=s.length/\E8 s i=E8 s j/\G=H/\st=[.str s,v1,.int .i64 (i:Nat),v3]) ?_ (s.length-j) _ H ⟨j,rfl,hj,rfl,rfl,rfl⟩
 rintro n st G ⟨i,rfl,hi,inv,rfl,rfl⟩
 rw [agY]
 by_cases hlt:i<s.length
 ·have i1:=D2 s .i64 i hlt
  have e1:=anG (s[i].toNat:Int)
  have e2:a8 (.int .i64) .add (.int .i64 (i:Int)) (.int .i64 1)=some (.int .i64 ((i+1:Nat):Int)):=y1 _ i 1 (by omega)
  by_cases ha:O9 s[i].toNat=true
  ·rw [ha] at e1
   simp only [b8,i1,e1,e2,show ((i:Int)<(s.length:Int)) from by omega]
   exact j9.here ⟨s.length-(i+1),by omega,i+1,rfl,by omega,by rw [<-inv,apB hlt ha],rfl,rfl⟩
  ·have ha':O9 s[i].toNat=false:=by simpa using ha
   rw [ha'] at e1
   simp only [b8,i1,e1,show ((i:Int)<(s.length:Int)) from by omega]
   rw [<-inv,apC hlt ha]
   exact j9.here rfl
 ·simp only [b8,show ¬ ((i:Int)<(s.length:Int)) from by omega]
  rw [<-inv,anY hlt]
  exact j9.here rfl
theorem asg (s:Bs) (hs:s.length<=100000):pc Z8 [.str s]=some (.o7 (wdX (F4 s 0 true []))):=by
 suffices h:j9 (cv Z8 [.str s] []) fun r=>r.1 = .o7 (wdX (F4 s 0 true [])) by
  obtain ⟨⟨v,H⟩,e,h⟩:=h
  have h:v=_:=h
  subst h
  refine acD e (by simp only [b8]) ?_
  cases F4 s 0 true []<;>simp only [wdX,b8]
 rw [aj9]
 refine j9.P5 (I:=fun n st H=>∃ (i:Nat) (acc:List Bs),n=s.length-i/\i<=s.length/\acc.length<=i/\st=[.str s,.sl true (vT acc),.int .i64 (i:Nat)]/\F4 s i true acc=F4 s 0 true [])
  (P:=fun q vs H=>(q=0/\∃ ws,F4 s 0 true []=some ws/\vs=[.sl true (vT ws)])\/(q=1/\F4 s 0 true []=none/\vs=[.sl true [],.bool false])) (n:=s.length) ?_ ⟨0,[],by omega,by omega,by simp,rfl,rfl⟩ ?_
 ·rintro n st H ⟨i,acc,rfl,hi,hacc,rfl,inv⟩
  rw [ahB]
  by_cases hlt:i<s.length
  ·have i1:=D2 s .i64 i hlt
   have h32 := @U9 s[i] 32 (by omega)
   have h34 := @U9 s[i] 34 (by omega)
   have e2:a8 (.int .i64) .add (.int .i64 (i:Int)) (.int .i64 1)=some (.int .i64 ((i+1:Nat):Int)):=y1 _ i 1 (by omega)
   have ap1:∀ t:Bs,L7 false 1 16 (vT acc) (.sl true [[.str t]])=some (.sl true (vT (acc++[t]))):=fun t=>by
    have:=af5 1 16 (vT acc) true (vT [t]) (abc _) (abc _) (by rw [abd,abd]; simp; omega)
    rw [akw] at this
    exact this
   by_cases h1:(s[i].toNat:Int)=32
   ·simp only [b8,i1,h1,e2,show ((i:Int)<(s.length:Int)) from by omega]
    exact ⟨_,rfl,.inr ⟨rfl,s.length-(i+1),by omega,i+1,acc,rfl,by omega,by omega,rfl,by rw [<-inv,aeW hlt (h32.1 h1)]⟩⟩
   ·have n32:s[i] ≠ 32:=fun e=>h1 (h32.2 e)
    by_cases h2:(s[i].toNat:Int)=34
    ·have e3:=aog s i hlt (by omega)
     cases hq:qR (s.drop (i+1)) with
     | none =>
       rw [hq] at e3
       simp only [lrT] at e3
       simp only [b8,i1,h1,h2,e3,show ¬ ((34:Int)=32) from by decide,show ((-1:Int)<0) from by decide,show ((i:Int)<(s.length:Int)) from by omega]
       exact ⟨_,rfl,.inl ⟨1,rfl,.inr ⟨rfl,by rw [<-inv,asW hlt (h34.1 h2) hq],rfl⟩⟩⟩
     | some r =>
       have hr:=agb (t:=r.1) (k:=r.2) hq
       rw [List.length_drop] at hr
       rw [hq] at e3
       simp only [lrT] at e3
       have inv2:F4 s (i+1+r.2) false (acc++[r.1])=F4 s 0 true []:=by rw [<-inv,art hlt (h34.1 h2) hq]
       generalize hj:i+1+r.2=j at *
       by_cases h3:j<s.length
       ·have i2:=D2 s .i64 j h3
        have g32 := @U9 s[j] 32 (by omega)
        by_cases h4:(s[j].toNat:Int)=32
        ·rw [ak9 (.inr ⟨h3,g32.1 h4⟩)] at inv2
         simp only [b8,i1,h1,h2,e3,i2,h4,ap1,show ¬ ((34:Int)=32) from by decide,show ¬ (((j:Nat):Int)<0) from by omega,show ¬ (((j:Nat):Int)=(i:Int)) from by omega,show ((j:Int)<(s.length:Int)) from by omega,show ((i:Int)<(s.length:Int)) from by omega]
         exact ⟨_,rfl,.inr ⟨rfl,s.length-j,by omega,j,acc++[r.1],rfl,by omega,by simp; omega,rfl,inv2⟩⟩
        ·rw [ajH h3 (fun e=>h4 (g32.2 e))] at inv2
         simp only [b8,i1,h1,h2,e3,i2,h4,show ¬ ((34:Int)=32) from by decide,show ¬ (((j:Nat):Int)<0) from by omega,show ¬ (((j:Nat):Int)=(i:Int)) from by omega,show ((j:Int)<(s.length:Int)) from by omega,show ((i:Int)<(s.length:Int)) from by omega]
         exact ⟨_,rfl,.inl ⟨1,rfl,.inr ⟨rfl,inv2.symm,rfl⟩⟩⟩
       ·rw [ak9 (.inl h3)] at inv2
        simp only [b8,i1,h1,h2,e3,ap1,show ¬ ((34:Int)=32) from by decide,show ¬ (((j:Nat):Int)<0) from by omega,show ¬ (((j:Nat):Int)=(i:Int)) from by omega,show ¬ ((j:Int)<(s.length:Int)) from by omega,show ((i:Int)<(s.length:Int)) from by omega]
        exact ⟨_,rfl,.inr ⟨rfl,s.length-j,by omega,j,acc++[r.1],rfl,by omega,by simp; omega,rfl,inv2⟩⟩
    ·have n34:s[i] ≠ 34:=fun e=>h2 (h34.2 e)
     have hge:=adR (s:=s) (i:=i)
     simp only [b8,i1,h1,h2,show ((i:Int)<(s.length:Int)) from by omega]
     rw [Option.bind_assoc]
     refine (ape s (.sl true (vT acc)) (.int .i64 (i:Nat)) H (by omega) i hi).bind ?_
     rintro _ rfl
     have p3:=agx s .i64 .i64 i (E8 s i) hge.1 (hge.2 hi)
     by_cases hz:E8 s i=i
     ·have p4:=agx s .i64 .i64 i i (Nat.le_refl _) hi
      simp only [b8,hz,p4]
      exact ⟨_,rfl,.inl ⟨1,rfl,.inr ⟨rfl,by rw [<-inv,ar4 hlt n32 n34 hz],rfl⟩⟩⟩
     ·have inv2:F4 s (E8 s i) false (acc++[(s.drop i).take (E8 s i-i)])=F4 s 0 true []:=by rw [<-inv,asf hlt n32 n34 hz]
      have hle:=hge.2 hi
      have hgi:=hge.1
      generalize E8 s i=j at *
      by_cases h3:j<s.length
      ·have i2:=D2 s .i64 j h3
       have g32 := @U9 s[j] 32 (by omega)
       by_cases h4:(s[j].toNat:Int)=32
       ·rw [ak9 (.inr ⟨h3,g32.1 h4⟩)] at inv2
        simp only [b8,p3,i2,h4,ap1,show ¬ (((j:Nat):Int)=(i:Int)) from by omega,show ((j:Int)<(s.length:Int)) from by omega]
        exact ⟨_,rfl,.inr ⟨rfl,s.length-j,by omega,j,_,rfl,by omega,by simp; omega,rfl,inv2⟩⟩
       ·rw [ajH h3 (fun e=>h4 (g32.2 e))] at inv2
        simp only [b8,p3,i2,h4,show ¬ (((j:Nat):Int)=(i:Int)) from by omega,show ((j:Int)<(s.length:Int)) from by omega]
        exact ⟨_,rfl,.inl ⟨1,rfl,.inr ⟨rfl,inv2.symm,rfl⟩⟩⟩
      ·rw [ak9 (.inl h3)] at inv2
       simp only [b8,p3,ap1,show ¬ (((j:Nat):Int)=(i:Int)) from by omega,show ¬ ((j:Int)<(s.length:Int)) from by omega]
       exact ⟨_,rfl,.inr ⟨rfl,s.length-j,by omega,j,_,rfl,by omega,by simp; omega,rfl,inv2⟩⟩
  ·simp only [b8,show ¬ ((i:Int)<(s.length:Int)) from by omega]
   exact ⟨_,rfl,.inl ⟨0,rfl,.inl ⟨rfl,acc,by rw [<-inv,aia hlt],rfl⟩⟩⟩
 rintro _ _ H (⟨rfl,ws,h,rfl⟩ | ⟨rfl,h,rfl⟩)
 ·rw [h]
  simp only [b8]
  exact j9.here rfl
 ·rw [h]
  simp only [b8]
  exact j9.here rfl
theorem akL (sep:Bs) (a:Bs):∀ l:List Bs,D1 sep (l++[a])=if l=[] then a else D1 sep l++sep++a
 | []=>rfl
 | [b]=>by simp [D1]
 | b::c::l=>by
   have ih:=akL sep a (c::l)
   simp only [List.cons_append,D1,reduceCtorEq,if_false] at ih ⊢
   rw [ih]
   simp only [List.append_assoc]
theorem amx (l:List Bs) (i:Nat):L8 (l.take i)<=L8 l:=by
 have:=agL (l.take i) (l.drop i)
 rw [List.take_append_drop] at this
 omega
theorem amw (o:Bool) (ws:List Bs) (h:L8 ws<=1000000):qc T0 [.sl o (vT ws)]=some (.str (D1 [32] ws)):=by
 have hwl:=ajm ws
 suffices h:j9 (cv T0 [.sl o (vT ws)] []) fun r=>r.1 = .str (D1 [32] ws) by
  obtain ⟨⟨v,H⟩,e,h⟩:=h
  have h:v=_:=h
  subst h
  exact w8 e (by simp only [b8]) rfl
 rw [ak7]
 refine j9.P5 (I:=fun n st H=>∃ i:Nat,n=ws.length-i/\i<=ws.length/\st=[.sl o (vT ws),.str (D1 [32] (ws.take i)),.int .i64 (i:Nat)])
  (P:=fun q vs H=>q=0/\vs=[.str (D1 [32] ws)]) (n:=ws.length) ?_ ⟨0,by omega,by omega,rfl⟩ ?_
 ·rintro n st H ⟨i,rfl,hi,rfl⟩
  rw [aho]
  by_cases hlt:i<ws.length
  ·have i1:=ac5 o ws .i64 i hlt
   have i2:=ac5 false ws .i64 i hlt
   have e2:a8 (.int .i64) .add (.int .i64 (i:Int)) (.int .i64 1)=some (.int .i64 ((i+1:Nat):Int)):=y1 _ i 1 (by omega)
   have t1:=Nat.le_trans (ae8 (ws.take i)) (amx ws i)
   have hsn:ws.take (i+1)=ws.take i++[ws[i]]:=List.take_succ_eq_append_getElem hlt
   have hw:ws[i].length<=1000000:=by
    have q:=amx ws (i+1)
    rw [hsn,agL] at q
    have:L8 [ws[i]]=ws[i].length+1:=by simp [L8]
    omega
   have hj:=akL [32] ws[i] (ws.take i)
   rw [<-hsn] at hj
   by_cases h0:i=0
   ·subst h0
    have hj':D1 [32] (ws.take (0+1))=ws[0]:=by rw [hj]; simp
    have a2:a8 .str .add (.str (D1 [32] (ws.take 0))) (.str ws[0])=some (.str ws[0]):=E4 .str [] ws[0] (by simp; omega)
    simp only [b8,O2,i1,i2,e2,a2,show ¬ (((0:Nat):Int)>0) from by omega,show (((0:Nat):Int)<(ws.length:Int)) from by omega]
    exact ⟨_,rfl,.inr ⟨rfl,ws.length-1,by omega,1,rfl,by omega,by rw [<-hj']⟩⟩
   ·have hne:ws.take i ≠ []:=fun e=>by
     have:=congrArg List.length e
     rw [List.length_take,List.length_nil] at this
     omega
    rw [if_neg hne] at hj
    have a1:=E4 .str (D1 [32] (ws.take i)) [32] (by simp; omega)
    have a2:=E4 .str (D1 [32] (ws.take i)++[32]) ws[i] (by simp; omega)
    simp only [b8,O2,i1,i2,e2,a1,a2,show ((i:Int)>0) from by omega,show ((i:Int)<(ws.length:Int)) from by omega]
    exact ⟨_,rfl,.inr ⟨rfl,ws.length-(i+1),by omega,i+1,rfl,by omega,by rw [hj]⟩⟩
  ·have he:i=ws.length:=by omega
   subst he
   simp only [b8,O2,List.take_length,show ¬ ((ws.length:Int)<(ws.length:Int)) from by omega]
   exact ⟨_,rfl,.inl ⟨0,rfl,rfl,rfl⟩⟩
 rintro _ _ H ⟨rfl,rfl⟩
 simp only [b8]
 exact j9.here rfl
def bxS (s:Bs):List V:=match B4 64 s 0 with
 | some k=>[.agg [.str [],.str (s.take k),.str (I8 (s.drop (k+1)))],.bool (G4 [] (s.take k) (I8 (s.drop (k+1))))]
 | none=>[.agg [.str [],.str s,.str []],.bool false]
theorem alM (s:Bs) (hs:s.length<=1000000):pc abq [.str s]=some (.o7 (bxS s)):=by
 have e1:qc O5 [.str s,.int .u8 64]=_:=aqc s 64 (by omega)
 unfold bxS
 refine acD (H:=[]) ?_ (by simp only [b8]) (by cases B4 64 s 0<;>simp only [b8])
 show cv _ _ _=_
 rw [amP]
 cases hq:B4 64 s 0 with
 | none =>
   have e2:=aem [] (by simp)
   rw [hq] at e1
   simp only [cuT] at e1
   simp only [b8,e1,e2]
   rfl
 | some k =>
   have hk:=(adS hq).2
   have e2:=aem (s.drop (k+1)) (by simp; omega)
   have e3:=Z7 [] (s.take k) (I8 (s.drop (k+1))) (by simp) (by simp; omega) (by simp [I8]; omega)
   rw [hq] at e1
   simp only [cuT] at e1
   simp only [b8,e1,e2,e3]
theorem avE {s:Bs} {k:Nat} (h:C2 s=true) (h2:B4 60 (w9 s) 0=some k) (h3:((w9 s).drop (k+1)).getLast? ≠ some 62):S4 s=none:=by
 cases hw:F4 ((w9 s).take k) 0 true [] with
 | none=>exact alP h h2 hw
 | some ws=>rw [alD h h2 hw,if_neg h3]
theorem atB {n l d:Bs} (h:G4 n l d=true):G4 [] l d=true:=by
 unfold G4 at h ⊢
 rw [Bool.and_eq_true] at h
 rw [h.2]
 rfl
set_option maxRecDepth 100000 in
theorem agX (s:Bs) (hs:s.length<=1000000):pc P6 [.str s]=some (.o7 (X2 (S4 s))):=by
 have e0:=abB s (by omega)
 suffices h:cv P6 [.str s] []=some (.o7 (X2 (S4 s)),[]) by
  refine acD h (by simp only [b8]) ?_
  cases S4 s<;>simp only [X2,b8]
 rw [agJ]
 by_cases ht:C2 s=true
 ·have h200:=aje ht
  have e1:=atW s (by omega)
  have hTl:=ahD s
  rw [ht] at e0
  have e2:qc O5 [.str (w9 s),.int .u8 60]=_:=aqc (w9 s) 60 (by omega)
  cases hq:B4 60 (w9 s) 0 with
  | none =>
    rw [anZ ht hq]
    rw [hq] at e2
    simp only [cuT] at e2
    have e3:=alM (w9 s) (by omega)
    cases hb:B4 64 (w9 s) 0 with
    | none =>
      rw [aeL hb]
      simp only [bxS,hb] at e3
      simp only [b8,e0,e1,e2,e3,X2]
    | some j =>
      rw [aeF hb]
      simp only [bxS,hb] at e3
      by_cases ha:G4 [] ((w9 s).take j) (I8 ((w9 s).drop (j+1)))=true
      ·rw [ha] at e3
       rw [if_pos ha]
       simp only [b8,e0,e1,e2,e3,X2]
      ·have ha':G4 [] ((w9 s).take j) (I8 ((w9 s).drop (j+1)))=false:=by simpa using ha
       rw [ha'] at e3
       rw [if_neg ha]
       simp only [b8,e0,e1,e2,e3,X2]
  | some k =>
    have hk:=(adS hq).2
    rw [hq] at e2
    simp only [cuT] at e2
    have hzl:((w9 s).drop (k+1)).length<=200:=by simp; omega
    have e4:=asg ((w9 s).take k) (by simp; omega)
    by_cases hg:((w9 s).drop (k+1)).getLast? = some 62
    ·cases hw:F4 ((w9 s).take k) 0 true [] with
     | none =>
       rw [alP ht hq hw]
       rw [hw] at e4
       simp only [wdX] at e4
       have e5:qc T0 [.sl false []]=some (.str []):=amw false [] (by simp [L8])
       generalize (w9 s).drop (k+1)=z at *
       obtain ⟨y,rfl⟩:∃ y,z=y++[62]:=by
        rcases List.eq_nil_or_concat z with rfl | ⟨l,b,rfl⟩
        ·cases hg
        ·simp at hg; subst hg; exact ⟨l,by simp⟩
       have hz0:¬ (y++[62]=([]:Bs)):=by simp
       have a1:a8 (.int .i64) .sub (.int .i64 ((y.length+1:Nat):Int)) (.int .i64 1)=some (.int .i64 ((y.length:Nat):Int)):=aav _ (y.length+1) 1 (by omega) (by simp at hzl; omega)
       have i1:=D2 (y++[62]) .i64 y.length (by simp)
       rw [List.getElem_concat_length (by rfl)] at i1
       have p1:=abO (y++[62]) .i64 y.length (by simp)
       rw [List.take_left] at p1
       have hlen:(y++[(62:UInt8)]).length=y.length+1:=by simp
       have e6:=alM y (by simp at hzl; omega)
       cases hb:B4 64 y 0 with
       | none =>
         simp only [bxS,hb] at e6
         simp only [b8,e0,e1,e2,hz0,hlen,a1,i1,show (((62:UInt8).toNat:Int)=62) from rfl,e4,p1,e6,e5,X2]
       | some j =>
         simp only [bxS,hb] at e6
         simp only [b8,e0,e1,e2,hz0,hlen,a1,i1,show (((62:UInt8).toNat:Int)=62) from rfl,e4,p1,e6,e5,X2]
     | some ws =>
       rw [alD ht hq hw,if_pos hg]
       rw [hw] at e4
       simp only [wdX] at e4
       have htot:=afk hw
       have htk:((w9 s).take k).length<=(w9 s).length:=by simp; omega
       have e0w:L8 ([]:List Bs)=0:=rfl
       have hj:=ae8 ws
       have e5:=amw false ws (by omega)
       generalize (w9 s).drop (k+1)=z at *
       obtain ⟨y,rfl⟩:∃ y,z=y++[62]:=by
        rcases List.eq_nil_or_concat z with rfl | ⟨l,b,rfl⟩
        ·cases hg
        ·simp at hg; subst hg; exact ⟨l,by simp⟩
       have hz0:¬ (y++[62]=([]:Bs)):=by simp
       have a1:a8 (.int .i64) .sub (.int .i64 ((y.length+1:Nat):Int)) (.int .i64 1)=some (.int .i64 ((y.length:Nat):Int)):=aav _ (y.length+1) 1 (by omega) (by simp at hzl; omega)
       have i1:=D2 (y++[62]) .i64 y.length (by simp)
       rw [List.getElem_concat_length (by rfl)] at i1
       have p1:=abO (y++[62]) .i64 y.length (by simp)
       rw [List.take_left] at p1
       have hlen:(y++[(62:UInt8)]).length=y.length+1:=by simp
       have htk2:(y++[(62:UInt8)]).take ((y++[(62:UInt8)]).length-1)=y:=by rw [hlen]; simp
       rw [htk2]
       have e6:=alM y (by simp at hzl; omega)
       have hyl:y.length<=200:=by simp at hzl; omega
       cases hb:B4 64 y 0 with
       | none =>
         rw [aeL hb]
         simp only [bxS,hb] at e6
         simp only [b8,O2,e0,e1,e2,hz0,hlen,a1,i1,show (((62:UInt8).toNat:Int)=62) from rfl,e4,p1,e6,e5,X2]
       | some j =>
         rw [aeF hb]
         simp only [bxS,hb] at e6
         have e7:=Z7 (D1 [32] ws) (y.take j) (I8 (y.drop (j+1))) (by omega) (by simp; omega) (by simp [I8]; omega)
         by_cases ha:G4 (D1 [32] ws) (y.take j) (I8 (y.drop (j+1)))=true
         ·rw [atB ha] at e6
          rw [ha] at e7
          rw [if_pos ha]
          simp only [b8,O2,e0,e1,e2,hz0,hlen,a1,i1,show (((62:UInt8).toNat:Int)=62) from rfl,e4,p1,e6,e5,e7,X2]
         ·have ha':G4 (D1 [32] ws) (y.take j) (I8 (y.drop (j+1)))=false:=by simpa using ha
          rw [ha'] at e7
          rw [if_neg ha]
          cases hn:G4 [] (y.take j) (I8 (y.drop (j+1))) with
          | true =>
            rw [hn] at e6
            simp only [b8,O2,e0,e1,e2,hz0,hlen,a1,i1,show (((62:UInt8).toNat:Int)=62) from rfl,e4,p1,e6,e5,e7,X2]
          | false =>
            rw [hn] at e6
            simp only [b8,O2,e0,e1,e2,hz0,hlen,a1,i1,show (((62:UInt8).toNat:Int)=62) from rfl,e4,p1,e6,e5,e7,X2]
    ·rw [avE ht hq hg]
     generalize (w9 s).drop (k+1)=z at *
     rcases List.eq_nil_or_concat z with rfl | ⟨l,b,rfl⟩
     ·simp only [b8,e0,e1,e2,X2]
     ·have hb:¬ ((b.toNat:Int)=62):=fun e=>hg (by
       have:b=62:=UInt8.toNat_inj.1 (by simpa using Int.ofNat.inj e)
       subst this; simp)
      have hlen:(l.concat b).length=l.length+1:=by simp
      simp only [List.concat_eq_append] at hlen hzl e2 ⊢
      have hz0:¬ (l++[b]=([]:Bs)):=by simp
      have a1:a8 (.int .i64) .sub (.int .i64 ((l.length+1:Nat):Int)) (.int .i64 1)=some (.int .i64 ((l.length:Nat):Int)):=aav _ (l.length+1) 1 (by omega) (by simp at hzl; omega)
      have i1:=D2 (l++[b]) .i64 l.length (by simp)
      rw [List.getElem_concat_length (by rfl)] at i1
      simp only [b8,e0,e1,e2,hz0,hlen,a1,i1,hb,X2]
 ·have ht':C2 s=false:=by simpa using ht
  rw [an5 ht']
  rw [ht'] at e0
  simp only [b8,e0,X2]
theorem asp (s:Bs) (hs:s.length<=1000000):qc aac [.str s]=some (.str (afi s)):=by
 suffices h:j9 (cv aac [.str s] []) fun r=>r.1 = .str (afi s) by
  obtain ⟨⟨v,H⟩,e,h⟩:=h
  have h:v=_:=h
  subst h
  exact w8 e (by simp only [b8]) rfl
 rw [ak6]
 refine j9.P5 (I:=fun n st H=>∃ (i:Nat),n=s.length-i/\i<=s.length/\st=[.str s,.str (quI s i),.int .i64 (i:Nat)])
  (P:=fun q vs H=>q=0/\vs=[.str (quI s s.length)]) (n:=s.length) ?_ ⟨0,by omega,by omega,rfl⟩ ?_
 ·rintro n st H ⟨i,rfl,hi,rfl⟩
  rw [ahF]
  have hAl:=ah7 s i
  by_cases hlt:i<s.length
  ·have i1:=D2 s .i64 i hlt
   have h34 := @U9 s[i] 34 (by omega)
   have h92 := @U9 s[i] 92 (by omega)
   have e2:a8 (.int .i64) .add (.int .i64 (i:Int)) (.int .i64 1)=some (.int .i64 ((i+1:Nat):Int)):=y1 _ i 1 (by omega)
   have b1:aao (.sl true [[.int .u8 92]]) H=some (.str [92]):=by
    have:([[V.int .u8 92]]:List (List V))=vB [92]:=rfl
    rw [this]; simp only [aao,afx,Option.map_some]
   have p1:=agx s .i64 .i64 i (i+1) (by omega) (by omega)
   have hp:(s.drop i).take (i+1-i)=[s[i]]:=by
    rw [show i+1-i=1 by omega,List.drop_eq_getElem_cons hlt]; rfl
   rw [hp] at p1
   have a1:=E4 .str (quI s i) [92] (by simp; omega)
   have a2:=E4 .str (quI s i++[92]) [s[i]] (by simp; omega)
   have a3:=E4 .str (quI s i) [s[i]] (by simp; omega)
   by_cases h1:(s[i].toNat:Int)=34
   ·have hes:W1 s[i]=[92,s[i]]:=by unfold W1; rw [if_pos (.inl (h34.1 h1))]
    simp only [b8,i1,h1,b1,p1,a1,a2,e2,show ((i:Int)<(s.length:Int)) from by omega]
    exact ⟨_,rfl,.inr ⟨rfl,s.length-(i+1),by omega,i+1,rfl,by omega,by rw [acq hlt,hes]; simp⟩⟩
   ·by_cases h2:(s[i].toNat:Int)=92
    ·have hes:W1 s[i]=[92,s[i]]:=by unfold W1; rw [if_pos (.inr (h92.1 h2))]
     simp only [b8,i1,h1,h2,b1,p1,a1,a2,e2,show ¬ ((92:Int)=34) from by decide,show ((i:Int)<(s.length:Int)) from by omega]
     exact ⟨_,rfl,.inr ⟨rfl,s.length-(i+1),by omega,i+1,rfl,by omega,by rw [acq hlt,hes]; simp⟩⟩
    ·have hes:W1 s[i]=[s[i]]:=by unfold W1; rw [if_neg (fun h=>h.elim (fun e=>h1 (h34.2 e)) (fun e=>h2 (h92.2 e)))]
     simp only [b8,i1,h1,h2,p1,a3,e2,show ((i:Int)<(s.length:Int)) from by omega]
     exact ⟨_,rfl,.inr ⟨rfl,s.length-(i+1),by omega,i+1,rfl,by omega,by rw [acq hlt,hes]⟩⟩
  ·have he:i=s.length:=by omega
   subst he
   simp only [b8,show ¬ ((s.length:Int)<(s.length:Int)) from by omega]
   exact ⟨_,rfl,.inl ⟨0,rfl,rfl,rfl⟩⟩
 rintro _ _ H ⟨rfl,rfl⟩
 have hel:=ah7 s s.length
 have a1:=E4 .str (quI s s.length) [34] (by simp; omega)
 rw [aqk] at a1
 simp only [b8,a1]
 exact j9.here rfl
theorem ajw (s:Bs) (hs:s.length<=1000000):qc aa1 [.str s]=some (.str (Z5 s)):=by
 have e0:=abB s (by omega)
 have e1:=aep s (by omega)
 have e2:=asp s hs
 refine w8 (H:=[]) ?_ (by simp only [b8]) rfl
 show cv _ _ _=_
 rw [aiG]
 unfold Z5
 by_cases ht:C2 s=true
 ·rw [ht] at e0
  by_cases ha:R9 s=true
  ·rw [ha] at e1
   simp only [b8,e0,e1,ht,ha]
   try simp
  ·have ha':R9 s=false:=by simpa using ha
   rw [ha'] at e1
   simp only [b8,e0,e1,e2,ht,ha']
   try simp
 ·have ht':C2 s=false:=by simpa using ht
  rw [ht'] at e0
  simp only [b8,e0,ht']
  try simp
theorem agG (a:Bs × Bs × Bs) (hn:a.1.length<=400000) (hl:a.2.1.length<=4000000) (hd:a.2.2.length<=4000000):qc W6 [.agg [.str a.1,.str a.2.1,.str a.2.2]]=some (.str (fmA a)):=by
 obtain ⟨n,l,d⟩:=a
 simp only at hn hl hd
 have e1:=Z7 n l d (by omega) hl hd
 have e2:=ajw n (by omega)
 refine w8 (H:=[]) ?_ (by simp only [b8]) rfl
 show cv _ _ _=_
 rw [afL]
 unfold fmA
 by_cases h:G4 n l d=true
 ·have hl:=acY h
  have hq:=aji n
  rw [h] at e1
  have a1:=E4 .str l [64] (by simp; omega)
  have a2:=E4 .str (l++[64]) d (by simp; omega)
  by_cases h0:n=[]
  ·subst h0
   simp only [b8,e1,a1,a2,h]
   try simp
  ·have a3:=E4 .str (Z5 n) [32,60] (by simp; omega)
   have a4:=E4 .str (Z5 n++[32,60]) (l++[64]++d) (by simp; omega)
   have a5:=E4 .str (Z5 n++[32,60]++(l++[64]++d)) [62] (by simp; omega)
   simp only [b8,e1,h0,e2,a1,a2,a3,a4,a5,h]
   try simp
 ·have h':G4 n l d=false:=by simpa using h
  rw [h'] at e1
  simp only [b8,e1,h']
  try simp
end Go.Proofs.YtpbgpeojlfdpoaaGreatDoor.Q

/- Contracts: coded words. -/
import Derived.Test.YtmokcpfbeggigaaGreatDoorScriptNameCm0namepureZ
namespace Go.Proofs.YtmokcpfbeggigaaGreatDoor.Q
open Go Go.AM
set_option linter.unusedSimpArgs false
set_option linter.unusedVariables false
set_option linter.unusedSectionVars false
def aml (o:Option V) (m:Nat):Bool:=match o with | some (.int .u8 k)=>decide (k=(m:Int)) | _=>false
theorem ajG {o:Option V} {m:Nat} (h:aml o m=true):o=some (.int .u8 (m:Int)):=by
 unfold aml at h
 split at h
 ·rw [of_decide_eq_true h]
 ·cases h
theorem aqq (b:UInt8):a8 (.int .u8) .shr (.int .u8 (b.toNat:Int)) (.int .u64 4)=some (.int .u8 ((b.toNat / 16:Nat):Int)) :=
 ajG (abk (p:=fun b=>aml (a8 (.int .u8) .shr (.int .u8 (b.toNat:Int)) (.int .u64 4)) (b.toNat / 16)) (by decide +kernel) b)
theorem aqv (b:UInt8):a8 (.int .u8) .and (.int .u8 (b.toNat:Int)) (.int .u8 15)=some (.int .u8 ((b.toNat % 16:Nat):Int)) :=
 ajG (abk (p:=fun b=>aml (a8 (.int .u8) .and (.int .u8 (b.toNat:Int)) (.int .u8 15)) (b.toNat % 16)) (by decide +kernel) b)
theorem aue (b:UInt8) (h:b.toNat<255):a8 (.int .u8) .add (.int .u8 (b.toNat:Int)) (.int .u8 1)=some (.int .u8 ((b.toNat+1:Nat):Int)):=by
 have:=abk (p:=fun b=>decide (b.toNat=255)||aml (a8 (.int .u8) .add (.int .u8 (b.toNat:Int)) (.int .u8 1)) (b.toNat+1)) (by decide +kernel) b
 rw [decide_eq_false (by omega),Bool.false_or] at this
 exact ajG this
theorem ai2 (a:Nat) (h:a<16):a8 (.int .u8) .add (.int .u8 (a:Int)) (.int .u8 1)=some (.int .u8 ((a+1:Nat):Int)):=by
 have e:(UInt8.ofNat a).toNat=a:=by rw [UInt8.toNat_ofNat']; omega
 have:=aue (UInt8.ofNat a) (by omega)
 rwa [e] at this
theorem aiL (a:Nat) (h:a<16):w8 (.str [48,49,50,51,52,53,54,55,56,57,65,66,67,68,69,70]) (some (.int .u8 (a:Int))) (some (.int .u8 ((a+1:Nat):Int)))=some (.str [Q3 a]):=by
 have:=ak9 afl .u8 .u8 a (a+1) (by omega) (by show a+1<=16; omega)
 rw [show (afl.drop a).take (a+1-a)=[Q3 a] from by
  have hl:a<afl.length:=by show a<16; omega
  rw [Nat.add_sub_cancel_left,List.drop_eq_getElem_cons hl,List.take_succ_cons,List.take_zero]
  unfold Q3
  rw [List.getD_eq_getElem?_getD,List.getElem?_eq_getElem hl]; rfl] at this
 exact this
theorem aqU (b:UInt8):qc aa0 [.int .u8 (b.toNat:Int)]=some (.str [61,Q3 (b.toNat / 16),Q3 (b.toNat % 16)]):=by
 have hb:=b.toNat_lt
 have e1:=aqq b
 have e2:=aqv b
 have e3:=ai2 (b.toNat / 16) (by omega)
 have e4:=ai2 (b.toNat % 16) (by omega)
 have e5:=aiL (b.toNat / 16) (by omega)
 have e6:=aiL (b.toNat % 16) (by omega)
 have a1:=F1 .str [61] [Q3 (b.toNat / 16)] (by simp)
 have a2:=F1 .str ([61]++[Q3 (b.toNat / 16)]) [Q3 (b.toNat % 16)] (by simp)
 simp only [List.cons_append,List.nil_append] at a1 a2
 refine y5 (H:=[]) ?_ rfl rfl
 show cv _ _ _=_
 rw [aiT]
 simp only [j0,e1,e2,e3,e4,e5,e6,a1,a2]
theorem att (b:UInt8):qc acd [.int .u8 (b.toNat:Int)]=some (.str [61,Q3 (b.toNat / 16),Q3 (b.toNat % 16)]):=by
 have hb:=b.toNat_lt
 have e1:=aqq b
 have e2:=aqv b
 have e3:=ai2 (b.toNat / 16) (by omega)
 have e4:=ai2 (b.toNat % 16) (by omega)
 have e5:=aiL (b.toNat / 16) (by omega)
 have e6:=aiL (b.toNat % 16) (by omega)
 have a1:=F1 .str [61] [Q3 (b.toNat / 16)] (by simp)
 have a2:=F1 .str ([61]++[Q3 (b.toNat / 16)]) [Q3 (b.toNat % 16)] (by simp)
 simp only [List.cons_append,List.nil_append] at a1 a2
 refine y5 (H:=[]) ?_ rfl rfl
 show cv _ _ _=_
 rw [ak1]
 simp only [j0,e1,e2,e3,e4,e5,e6,a1,a2]
theorem ar5 (b:UInt8) (H:VH):aae (.sl true [[.int .u8 (b.toNat:Int)]]) H=some (.str [b]):=by
 have:=ajH [b]
 simp only [aae]
 rw [show [[V.int .u8 (b.toNat:Int)]]=vB [b] from rfl,this]; rfl
theorem aoF (b:UInt8):qc aaE [.int .u8 (b.toNat:Int)]=some (.str (N2 b)):=by
 have e1:=aoz (b.toNat:Int)
 have e2:=apW (b.toNat:Int)
 have e3:=aqU b
 have o1:=ar5 b []
 have h45 := @aaW b 45 (by omega)
 have h46 := @aaW b 46 (by omega)
 have h32 := @aaW b 32 (by omega)
 have hA:agb (b.toNat:Int)=(amo b.toNat||alG b.toNat):=by
  unfold agb amo alG
  rw [<-Bool.decide_or]
  exact decide_eq_decide.2 (by omega)
 refine y5 (H:=[]) ?_ rfl rfl
 show cv _ _ _=_
 rw [aiq]
 unfold N2
 rw [hA]
 cases c1:amo (b.toNat:Int) with
 | true =>
   rw [c1] at e1
   simp only [j0,e1,o1,Bool.true_or,true_or,if_true]
 | false =>
   rw [c1] at e1
   cases c2:alG (b.toNat:Int) with
   | true =>
     rw [c2] at e2
     simp only [j0,e1,e2,o1,Bool.or_true,true_or,if_true]
   | false =>
     rw [c2] at e2
     by_cases c3:(b.toNat:Int)=45
     ·rw [if_pos (.inr (.inl (h45.1 c3)))]
      simp only [j0,e1,e2,eq_true c3,o1]
     ·by_cases c4:(b.toNat:Int)=46
      ·rw [if_pos (.inr (.inr (h46.1 c4)))]
       simp only [j0,e1,e2,c3,eq_true c4,o1]
      ·have n1:¬ b=45:=fun e=>c3 (h45.2 e)
       have n2:¬ b=46:=fun e=>c4 (h46.2 e)
       by_cases c5:(b.toNat:Int)=32
       ·have hb:b=32:=h32.1 c5
        rw [if_neg (by simp [n1,n2]),if_pos hb]
        simp only [j0,e1,e2,c3,c4,eq_true c5]
       ·have n3:¬ b=32:=fun e=>c5 (h32.2 e)
        rw [if_neg (by simp [n1,n2]),if_neg n3]
        simp only [j0,e1,e2,c3,c4,c5,e3]
theorem arI (b:UInt8):qc abq [.int .u8 (b.toNat:Int)]=some (.str (N2 b)):=by
 have e1:=aoH (b.toNat:Int)
 have e3:=att b
 have o1:=ar5 b []
 have h45 := @aaW b 45 (by omega)
 have h46 := @aaW b 46 (by omega)
 have h32 := @aaW b 32 (by omega)
 refine y5 (H:=[]) ?_ rfl rfl
 show cv _ _ _=_
 rw [akh]
 unfold N2
 by_cases c5:(b.toNat:Int)=32
 ·have hb:b=32:=h32.1 c5
  subst hb
  rw [if_neg (by decide),if_pos rfl]
  simp only [j0,c5]
 ·have n3:¬ b=32:=fun e=>c5 (h32.2 e)
  cases c1:agb (b.toNat:Int) with
  | true =>
    rw [c1] at e1
    simp only [j0,e1,c5,o1,true_or,if_true]
  | false =>
    rw [c1] at e1
    by_cases c3:(b.toNat:Int)=45
    ·rw [if_pos (.inr (.inl (h45.1 c3)))]
     simp only [j0,e1,eq_true c3,c5,o1]
    ·by_cases c4:(b.toNat:Int)=46
     ·rw [if_pos (.inr (.inr (h46.1 c4)))]
      simp only [j0,e1,c3,eq_true c4,c5,o1]
     ·have n1:¬ b=45:=fun e=>c3 (h45.2 e)
      have n2:¬ b=46:=fun e=>c4 (h46.2 e)
      rw [if_neg (by simp [n1,n2]),if_neg n3]
      simp only [j0,e1,c3,c4,c5,e3]
theorem aeJ (s:Bs) (hs:s.length<=1000000):qc F7 [.str s]=some (.str (cw s)):=by
 suffices h:k9 (cv F7 [.str s] []) fun r=>r.1 = .str (cw s) by
  obtain ⟨⟨v,H⟩,e,h⟩:=h
  have h:v=_:=h
  subst h
  exact y5 e (by simp only [j0]) rfl
 rw [ahU]
 simp only [j0]
 refine k9.P6 (I:=fun n st H=>∃ i:Nat,n=s.length-i/\i<=s.length/\st=[.str s,.str (cwB++y1 (s.take i)),.int .i64 (s.length:Nat),.int .i64 (i:Nat)])
  (P:=fun q vs H=>q=0/\vs=[.str (cwB++y1 s)]) (n:=s.length) ?_ ⟨0,by omega,by omega,rfl⟩ ?_
 ·rintro n st H ⟨i,rfl,hi,rfl⟩
  rw [afx]
  by_cases hlt:i<s.length
  ·have i1:=R5 s .i64 i hlt
   have e1:=aoF s[i]
   have e2:a8 (.int .i64) .add (.int .i64 (i:Int)) (.int .i64 1)=some (.int .i64 ((i+1:Nat):Int)):=C0 _ i 1 (by omega)
   have h1:=(Q5 (s.take i)).2
   have h2:=afa s[i]
   have a1:=F1 .str (cwB++y1 (s.take i)) (N2 s[i]) (by simp [cwB] at *; omega)
   have hs':cwB++y1 (s.take (i+1))=cwB++y1 (s.take i)++N2 s[i]:=by rw [ago hlt,List.append_assoc]
   rw [<-hs'] at a1
   simp only [j0,i1,e1,e2,a1,show ((i:Int)<(s.length:Int)) from by omega]
   exact ⟨_,rfl,.inr ⟨rfl,s.length-(i+1),by omega,i+1,rfl,by omega,rfl⟩⟩
  ·have:i=s.length:=by omega
   subst this
   simp only [j0,List.take_length,show ¬ ((s.length:Int)<(s.length:Int)) from by omega]
   exact ⟨_,rfl,.inl ⟨0,rfl,rfl,rfl⟩⟩
 rintro _ _ H ⟨rfl,rfl⟩
 have h1:=(Q5 s).2
 have a2:=F1 .str (cwB++y1 s) [63,61] (by simp [cwB]; omega)
 simp only [j0,a2]
 exact k9.here rfl
theorem al9 (s:Bs) (hs:s.length<=1000000):qc S1 [.str s]=some (.str (y1 s)):=by
 suffices h:k9 (cv S1 [.str s] []) fun r=>r.1 = .str (y1 s) by
  obtain ⟨⟨v,H⟩,e,h⟩:=h
  have h:v=_:=h
  subst h
  exact y5 e (by simp only [j0]) rfl
 rw [aj3]
 refine k9.P6 (I:=fun n st H=>∃ i:Nat,n=s.length-i/\i<=s.length/\st=[.str s,.str (y1 (s.take i)),.int .i64 (i:Nat)])
  (P:=fun q vs H=>q=0/\vs=[.str (y1 s)]) (n:=s.length) ?_ ⟨0,by omega,by omega,rfl⟩ ?_
 ·rintro n st H ⟨i,rfl,hi,rfl⟩
  rw [ag9]
  by_cases hlt:i<s.length
  ·have i1:=R5 s .i64 i hlt
   have e1:=arI s[i]
   have e2:a8 (.int .i64) .add (.int .i64 (i:Int)) (.int .i64 1)=some (.int .i64 ((i+1:Nat):Int)):=C0 _ i 1 (by omega)
   have h1:=(Q5 (s.take i)).2
   have h2:=afa s[i]
   have a1:=F1 .str (y1 (s.take i)) (N2 s[i]) (by simp at *; omega)
   rw [<-ago hlt] at a1
   simp only [j0,i1,e1,e2,a1,show ((i:Int)<(s.length:Int)) from by omega]
   exact ⟨_,rfl,.inr ⟨rfl,s.length-(i+1),by omega,i+1,rfl,by omega,rfl⟩⟩
  ·have:i=s.length:=by omega
   subst this
   simp only [j0,List.take_length,show ¬ ((s.length:Int)<(s.length:Int)) from by omega]
   exact ⟨_,rfl,.inl ⟨0,rfl,rfl,rfl⟩⟩
 rintro _ _ H ⟨rfl,rfl⟩
 simp only [j0]
 exact k9.here rfl
def cwP (s:Bs):List V:=if 1<=s.length/\s.length<=40/\(cw s).length<=40 then [.str (cw s),.bool true] else [.str [],.bool false]
theorem aoe (s:Bs) (hs:s.length<=1000000):qc aaB [.str s]=some (.o8 (cwP s)):=by
 have e1:=aeJ s hs
 refine y5 (H:=[]) ?_ (by simp only [j0]) (by unfold cwP; split<;>simp only [j0])
 show cv _ _ _=_
 rw [aio]
 unfold cwP
 by_cases c1:1<=s.length
 ·by_cases c2:s.length<=40
  ·by_cases c3:(cw s).length<=40
   ·rw [if_pos ⟨c1,c2,c3⟩]
    simp only [j0,e1,show ¬ ((s.length:Int)=0) from by omega,show ¬ ((s.length:Int)>40) from by omega,show ¬ (((cw s).length:Int)>40) from by omega]
   ·rw [if_neg (fun q=>c3 q.2.2)]
    simp only [j0,e1,show ¬ ((s.length:Int)=0) from by omega,show ¬ ((s.length:Int)>40) from by omega,show (((cw s).length:Int)>40) from by omega]
  ·rw [if_neg (fun q=>c2 q.2.1)]
   simp only [j0,e1,show ¬ ((s.length:Int)=0) from by omega,show ((s.length:Int)>40) from by omega]
 ·rw [if_neg (fun q=>c1 q.1)]
  simp only [j0,show ((s.length:Int)=0) from by omega]
theorem aiA (s:Bs) (hs:s.length<=1000000):qc aaA [.str s]=some (.o8 (cwP s)):=by
 have e1:=al9 s hs
 have h1:=(Q5 s).2
 have a1:=F1 .str [61,63,117,116,102,45,56,63,113,63] (y1 s) (by simp; omega)
 have a2:a8 .str .add (.str ([61,63,117,116,102,45,56,63,113,63]++y1 s)) (.str [63,61])=some (.str (cw s)):=F1 .str (cwB++y1 s) [63,61] (by simp [cwB]; omega)
 simp only [List.cons_append,List.nil_append] at a1 a2
 refine y5 (H:=[]) ?_ (by simp only [j0]) (by unfold cwP; split<;>simp only [j0])
 show cv _ _ _=_
 rw [ahP]
 unfold cwP
 by_cases c1:1<=s.length
 ·by_cases c2:s.length<=40
  ·by_cases c3:(cw s).length<=40
   ·rw [if_pos ⟨c1,c2,c3⟩]
    simp only [j0,e1,a1,a2,show ¬ ((s.length:Int)<1) from by omega,show ¬ ((s.length:Int)>40) from by omega,show ¬ (((cw s).length:Int)>40) from by omega]
   ·rw [if_neg (fun q=>c3 q.2.2)]
    simp only [j0,e1,a1,a2,show ¬ ((s.length:Int)<1) from by omega,show ¬ ((s.length:Int)>40) from by omega,show (((cw s).length:Int)>40) from by omega]
  ·rw [if_neg (fun q=>c2 q.2.1)]
   simp only [j0,show ¬ ((s.length:Int)<1) from by omega,show ((s.length:Int)>40) from by omega]
 ·rw [if_neg (fun q=>c1 q.1)]
  simp only [j0,show ((s.length:Int)<1) from by omega]
theorem agj (s:Bs) (c:UInt8):qc E8 [.str s,.int .u8 (c.toNat:Int)]=some (.int .i64 (if c ∈ s then ((s.idxOf c:Nat):Int) else -1)):=by
 have e1:=ahn s c
 refine y5 (H:=[]) ?_ (by simp only [j0]) rfl
 show cv _ _ _=_
 rw [afj]
 simp only [j0,e1]
theorem ao8 (c:UInt8) : -1<=P0 c/\P0 c<=15:=by
 unfold P0
 split
 ·rename_i h
  have:afl.idxOf c<16:=List.idxOf_lt_length_iff.2 h
  omega
 ·omega
theorem atI (s:Bs) (hs:s.length<=1000000):∃ b:Bool,qc ach [.str s]=some (.o8 [.int .u8 ((hxO s).toNat:Int),.bool b]):=by
 match s,hs with
 | [],_ =>
   refine ⟨false,y5 (H:=[]) ?_ (by simp only [j0]) (by simp only [j0])⟩
   show cv _ _ _=_
   rw [aav]
   simp only [j0,List.length_nil,show (((0:Nat):Int)<3) from by omega]
   rfl
 | [a],_ =>
   refine ⟨false,y5 (H:=[]) ?_ (by simp only [j0]) (by simp only [j0])⟩
   show cv _ _ _=_
   rw [aav]
   simp only [j0,List.length_cons,List.length_nil,show (((0+1:Nat):Int)<3) from by omega]
   rfl
 | [a,c],_ =>
   refine ⟨false,y5 (H:=[]) ?_ (by simp only [j0]) (by simp only [j0])⟩
   show cv _ _ _=_
   rw [aav]
   simp only [j0,List.length_cons,List.length_nil,show (((0+1+1:Nat):Int)<3) from by omega]
   rfl
 | a::c::d::l,hs =>
   have i0:p9 (.str (a::c::d::l)) (.int .i64 0)=some (.int .u8 (a.toNat:Int)):=R5 (a::c::d::l) .i64 0 (by simp)
   have i1:p9 (.str (a::c::d::l)) (.int .i64 1)=some (.int .u8 (c.toNat:Int)):=R5 (a::c::d::l) .i64 1 (by simp)
   have i2:p9 (.str (a::c::d::l)) (.int .i64 2)=some (.int .u8 (d.toNat:Int)):=R5 (a::c::d::l) .i64 2 (by simp)
   have h61 := @aaW a 61 (by omega)
   have hn:¬ (((a::c::d::l).length:Int)<3):=by simp only [List.length_cons]; omega
   have eq:=aav (.str (a::c::d::l)) []
   by_cases ha:(a.toNat:Int)=61
   ·have hb:a=61:=h61.1 ha
    have e1:qc E8 [.str [48,49,50,51,52,53,54,55,56,57,65,66,67,68,69,70],.int .u8 (c.toNat:Int)]=some (.int .i64 (P0 c)):=agj afl c
    have e2:qc E8 [.str [48,49,50,51,52,53,54,55,56,57,65,66,67,68,69,70],.int .u8 (d.toNat:Int)]=some (.int .i64 (P0 d)):=agj afl d
    have q1:=ao8 c
    have q2:=ao8 d
    have m1:=agR (.int .i64) 16 (P0 c) (by omega) (by omega)
    have m2:=acw (.int .i64) (16*P0 c) (P0 d) (by omega) (by omega)
    have hO:hxO (a::c::d::l)=UInt8.ofNat ((16*P0 c+P0 d) % 256).toNat:=by
     unfold hxO; simp only; rw [if_pos hb]
    have hw:aai .u8 (.int .i64 (16*P0 c+P0 d))=some (.int .u8 ((hxO (a::c::d::l)).toNat:Int)):=by
     have hr:(UInt8.ofNat ((16*P0 c+P0 d) % 256).toNat).toNat=((16*P0 c+P0 d) % 256).toNat:=by
      rw [UInt8.toNat_ofNat']; omega
     rw [hO,hr]
     have hk:IntKind.u8.wrap (16*P0 c+P0 d)=(16*P0 c+P0 d) % 256:=by rfl
     show some (V.int .u8 (IntKind.u8.wrap (16*P0 c+P0 d)))=_
     rw [hk,Int.toNat_of_nonneg (by omega)]
    refine ⟨decide (0<=P0 c)&&decide (0<=P0 d),y5 (H:=[]) ?_ (by simp only [j0]) (by simp only [j0])⟩
    show cv _ _ _=_
    rw [eq]
    by_cases c1:0<=P0 c
    ·simp only [j0,hn,i0,i1,i2,ha,e1,e2,m1,m2,hw,show (P0 c>=0) from c1,decide_eq_true c1,Bool.true_and,ge_iff_le]
    ·simp only [j0,hn,i0,i1,i2,ha,e1,e2,m1,m2,hw,show ¬ (P0 c>=0) from c1,decide_eq_false c1,Bool.false_and]
   ·have hb:¬ a=61:=fun e=>ha (h61.2 e)
    have hO:hxO (a::c::d::l)=0:=by unfold hxO; simp only; rw [if_neg hb]
    rw [hO]
    refine ⟨false,y5 (H:=[]) ?_ (by simp only [j0]) (by simp only [j0])⟩
    show cv _ _ _=_
    rw [eq]
    simp only [j0,hn,i0,ha]
    rfl
def rdP (s:Bs):List V:=match rdW s with | some o=>[.str o,.bool true] | none=>[.str [],.bool false]
theorem aka (l:Bs) (b:UInt8) (h:l.length<=1000000):W8 false 1 1 (vB l) (.sl true [[.int .u8 (b.toNat:Int)]])=some (.sl true (vB (l++[b]))):=by
 have:=asF 1 1 (vB l) true (vB [b]) (age _) (age _) (by rw [aew,aew]; simp; omega)
 rw [show vB l++vB [b]=vB (l++[b]) from by simp [vB]] at this
 exact this
theorem ajM (s:Bs) (hs:s.length<=1000000):qc M1 [.str s]=some (.o8 (rdP s)):=by
 suffices h:k9 (cv M1 [.str s] []) fun r=>r.1 = .o8 (rdP s) by
  obtain ⟨⟨v,H⟩,e,h⟩:=h
  have h:v=_:=h
  subst h
  exact y5 e (by simp only [j0]) (by unfold rdP; split<;>simp only [j0])
 rw [aeT]
 unfold rdP rdW
 by_cases c1:s.length<=40
 ·by_cases c2:12<=s.length
  ·rw [if_pos ⟨c1,c2⟩]
   have a1:a8 (.int .i64) .sub (.int .i64 (s.length:Int)) (.int .i64 2)=some (.int .i64 ((s.length-2:Nat):Int)):=af2 _ s.length 2 (by omega) (by omega)
   have p1:w8 (.str s) (some (.int .i64 10)) (some (.int .i64 ((s.length-2:Nat):Int)))=some (.str ((s.drop 10).take (s.length-2-10))):=ak9 s .i64 .i64 10 (s.length-2) (by omega) (by omega)
   have hin:((s.drop 10).take (s.length-2-10)).length<=28:=by simp; omega
   generalize (s.drop 10).take (s.length-2-10)=u at *
   simp only [j0,a1,p1,show ¬ ((s.length:Int)>40) from by omega,show ¬ ((s.length:Int)<12) from by omega]
   refine k9.P6 (I:=fun n st H=>∃ (i:Nat) (o:Bs),n=u.length-i/\o.length<=i/\i<=u.length+2/\st=[.str s,.sl true (vB o),.str u,.int .i64 (i:Nat)]/\o++J8 (u.drop i)=J8 u)
    (P:=fun q vs H=>q=0/\vs=[.str s,.sl true (vB (J8 u))]/\(J8 u).length<=40) (n:=u.length) ?_ ⟨0,[],by omega,by simp,by omega,rfl,by simp⟩ ?_
   ·rintro n st H ⟨i,o,rfl,ho,hi,rfl,inv⟩
    rw [adm]
    by_cases hlt:i<u.length
    ·have i1:=R5 u .i64 i hlt
     have h95 := @aaW u[i] 95 (by omega)
     have h61 := @aaW u[i] 61 (by omega)
     have e2:a8 (.int .i64) .add (.int .i64 (i:Int)) (.int .i64 1)=some (.int .i64 ((i+1:Nat):Int)):=C0 _ i 1 (by omega)
     have hd:=List.drop_eq_getElem_cons hlt
     by_cases g1:(u[i].toNat:Int)=95
     ·have ap:W8 false 1 1 (vB o) (.sl true [[.int .u8 32]])=some (.sl true (vB (o++[32]))):=aka o 32 (by omega)
      simp only [j0,i1,g1,ap,e2,show ((i:Int)<(u.length:Int)) from by omega]
      refine ⟨_,rfl,.inr ⟨rfl,u.length-(i+1),by omega,i+1,o++[32],rfl,by simp; omega,by omega,rfl,?_⟩⟩
      rw [<-inv,hd,show u[i]=95 from h95.1 g1,anX]; simp
     ·by_cases g2:(u[i].toNat:Int)=61
      ·have p2:=agH u .i64 i (by omega)
       obtain ⟨b,e3⟩:=atI (u.drop i) (by simp; omega)
       have ap:=aka o (hxO (u.drop i)) (by omega)
       have e4:a8 (.int .i64) .add (.int .i64 (i:Int)) (.int .i64 2)=some (.int .i64 ((i+2:Nat):Int)):=C0 _ i 2 (by omega)
       have e5:a8 (.int .i64) .add (.int .i64 ((i+2:Nat):Int)) (.int .i64 1)=some (.int .i64 ((i+2+1:Nat):Int)):=C0 _ (i+2) 1 (by omega)
       simp only [j0,i1,g2,p2,e3,ap,e4,e5,show ¬ ((61:Int)=95) from by decide,show ((i:Int)<(u.length:Int)) from by omega]
       refine ⟨_,rfl,.inr ⟨rfl,u.length-(i+2+1),by omega,i+2+1,o++[hxO (u.drop i)],rfl,by simp; omega,by omega,rfl,?_⟩⟩
       rw [<-inv,hd,show u[i]=61 from h61.1 g2,apx,List.drop_drop,show i+1+2=i+2+1 by omega]; simp
      ·have ap:=aka o u[i] (by omega)
       simp only [j0,i1,g1,g2,ap,e2,show ((i:Int)<(u.length:Int)) from by omega]
       refine ⟨_,rfl,.inr ⟨rfl,u.length-(i+1),by omega,i+1,o++[u[i]],rfl,by simp; omega,by omega,rfl,?_⟩⟩
       rw [<-inv,hd,aqF _ (fun e=>g1 (h95.2 e)) (fun e=>g2 (h61.2 e))]; simp
    ·simp only [j0,show ¬ ((i:Int)<(u.length:Int)) from by omega]
     have hd:u.drop i=[]:=List.drop_eq_nil_of_le (by omega)
     have hnil:J8 []=[]:=by rw [J8]
     rw [hd,hnil,List.append_nil] at inv
     exact ⟨_,rfl,.inl ⟨0,rfl,rfl,by rw [<-inv],by rw [<-inv]; omega⟩⟩
   rintro _ _ H ⟨rfl,rfl,hdl⟩
   generalize J8 u=o at *
   have b1:aae (.sl false (vB o)) H=some (.str o):=by simp only [aae,ajH,Option.map_some]
   have e6:=aoe o (by omega)
   unfold cwP at e6
   by_cases g1:1<=o.length/\o.length<=40/\(cw o).length<=40
   ·rw [if_pos g1] at e6
    by_cases g2:cw o=s
    ·rw [if_pos ⟨g1.1,g1.2.1,g1.2.2,g2⟩]
     rw [g2] at e6
     simp only [j0,b1,e6]
     exact k9.here rfl
    ·rw [if_neg (fun q=>g2 q.2.2.2)]
     simp only [j0,b1,e6,g2]
     exact k9.here rfl
   ·rw [if_neg g1] at e6
    rw [if_neg (fun q=>g1 ⟨q.1,q.2.1,q.2.2.1⟩)]
    simp only [j0,b1,e6]
    exact k9.here rfl
  ·rw [if_neg (fun q=>c2 q.2)]
   simp only [j0,show ¬ ((s.length:Int)>40) from by omega,show ((s.length:Int)<12) from by omega]
   exact k9.here rfl
 ·rw [if_neg (fun q=>c1 q.1)]
  simp only [j0,show ((s.length:Int)>40) from by omega]
  exact k9.here rfl
end Go.Proofs.YtmokcpfbeggigaaGreatDoor.Q

/- Contracts: bytes, words, texts cut at a byte, in the reference. -/
import Derived.Test.YtmokcpfbeggigaaGreatDoorScriptKindC12wordsZ
namespace Go.Proofs.YtmokcpfbeggigaaGreatDoor.Q
open Go Go.AM
set_option linter.unusedSimpArgs false
set_option linter.unusedVariables false
set_option linter.unusedSectionVars false
def afh (c:Int):Bool:=decide (97<=c/\c<=122\/65<=c/\c<=90\/48<=c/\c<=57)
def afy:Bs:=[33,35,36,37,38,39,42,43,45,47,61,63,94,95,96,123,124,125,126]
def adm (b:UInt8):UInt8:=if 65<=b.toNat/\b.toNat<=90 then b+32 else b
def m7 (s:Bs):Bs:=s.map adm
theorem akG (c:Int):qc Y7 [.int .u8 c]=some (.bool (afh c)):=by
 refine u3 (H:=[]) ?_ rfl rfl
 show cv _ _ _=_
 rw [ajM]
 simp only [b8,decide_eq_true_eq,afh]
 repeat' (first | (exact congrArg (fun b=>some (V.bool b,([]:VH))) (decide_eq_true (by omega)).symm) | (exact congrArg (fun b=>some (V.bool b,([]:VH))) (decide_eq_false (by omega)).symm) | (exact congrArg (fun b=>some (V.bool b,([]:VH))) (decide_eq_decide.2 (by omega))) | (refine aoz (fun h=>?_) (fun h=>?_)))
theorem apy (c:Int):qc aaM [.int .u8 c]=some (.bool (M8 c)):=by
 have e1:=akG c
 refine u3 (H:=[]) ?_ rfl rfl
 show cv _ _ _=_
 rw [alY]
 have loop:=afu (B:=aaZ) (S:=fun i=>[.int .u8 c,.int .i64 (i:Nat)]) (H:=[]) (m0:=0) (m1:=1) (vs0:=[.int .u8 c]) (vs1:=[.bool true]) afy (fun b=>decide (c=(b.toNat:Int)))
  (fun i hi=>by
   have hl:afy.length=19:=rfl
   have i1:l8 (.str [33,35,36,37,38,39,42,43,45,47,61,63,94,95,96,123,124,125,126]) (.int .i64 (i:Int))=some (.int .u8 ((afy[i]).toNat:Int)):=G9 afy .i64 i hi
   have e2:a8 (.int .i64) .add (.int .i64 (i:Int)) (.int .i64 1)=some (.int .i64 ((i+1:Nat):Int)):=p6 _ i 1 (by omega)
   rw [adA]
   simp only [b8,i1,e2,show ((i:Int)<19) from by omega])
  (by
   rw [adA]
   rfl)
 have loop':l3 aaZ [.int .u8 c,.int .i64 0] []=_:=loop
 have ha:(afy.any fun b=>decide (c=(b.toNat:Int)))=decide (c=33\/c=35\/c=36\/c=37\/c=38\/c=39\/c=42\/c=43\/c=45\/c=47\/c=61\/c=63\/c=94\/c=95\/c=96\/c=123\/c=124\/c=125\/c=126):=by
  simp [afy]
 simp only [b8,loop',ha,decide_eq_true_eq]
 by_cases h:c=33\/c=35\/c=36\/c=37\/c=38\/c=39\/c=42\/c=43\/c=45\/c=47\/c=61\/c=63\/c=94\/c=95\/c=96\/c=123\/c=124\/c=125\/c=126
 ·have:M8 c=true:=decide_eq_true (by omega)
  rw [if_pos h]
  simp only [b8,this]
 ·have:M8 c=afh c:=decide_eq_decide.2 (by omega)
  rw [if_neg h]
  simp only [b8,this,e1]
theorem akB (s:Bs) (hs:s.length<=1000000000):qc abc [.str s]=some (.bool (aca s)):=by
 refine u3 (H:=[]) ?_ (by simp only [b8]) rfl
 show cv _ _ _=_
 rw [ajl]
 have loop:=afu (B:=U4) (S:=fun i=>[.str s,.int .i64 (i:Nat)]) (H:=[]) (m0:=0) (m1:=1) (vs0:=[.str s]) (vs1:=[.bool false]) (s.take 41) (fun b => !M8 b.toNat)
  (fun i hi=>by
   have hi':i<s.length/\i<41:=by simp at hi; omega
   have i1:=G9 s .i64 i hi'.1
   have e1:=apy (s[i].toNat:Int)
   have e2:a8 (.int .i64) .add (.int .i64 (i:Int)) (.int .i64 1)=some (.int .i64 ((i+1:Nat):Int)):=p6 _ i 1 (by omega)
   rw [abY]
   simp only [b8,i1,e1,e2,List.getElem_take,show ((i:Int)<(s.length:Int)) from by omega,show ((i:Int)<=40) from by omega])
  (by
   rw [abY]
   by_cases h:s.length<=40
   ·have:(s.take 41).length=s.length:=by simp; omega
    simp only [b8,this,show ¬ ((s.length:Int)<(s.length:Int)) from by omega]
   ·have:(s.take 41).length=41:=by simp; omega
    by_cases h2:(((41:Nat):Int)<(s.length:Int))
    ·simp only [b8,this,h2,show ¬ (((41:Nat):Int)<=40) from by decide]
    ·simp only [b8,this,h2])
 have loop':l3 U4 [.str s,.int .i64 0] []=_:=loop
 simp only [b8,loop']
 by_cases h:s.length<=40
 ·have ht:s.take 41=s:=List.take_of_length_le (by omega)
  have e:(s.all fun b=>M8 b.toNat) = !(s.any fun b => !M8 b.toNat):=by rw [List.not_any_eq_all_not]; simp
  rw [ht]
  unfold aca
  rw [e]
  by_cases hb:(s.any fun b => !M8 b.toNat)=true
  ·simp only [b8,hb,Bool.and_false]
  ·by_cases h1:1<=s.length
   ·simp only [b8,hb,show ((s.length:Int)>=1) from by omega,show ((s.length:Int)<=40) from by omega,show 1<=s.length/\s.length<=40 from ⟨h1,h⟩,Bool.true_and]
    simp [hb]
   ·simp only [b8,hb,show ¬ ((s.length:Int)>=1) from by omega,show ¬ (1<=s.length/\s.length<=40) from by omega,Bool.false_and]
 ·have:aca s=false:=by unfold aca; rw [decide_eq_false (by omega),Bool.false_and]
  rw [this]
  by_cases hb:((s.take 41).any fun b => !M8 b.toNat)=true
  ·simp only [b8,hb]
  ·simp only [b8,hb,show ((s.length:Int)>=1) from by omega,show ¬ ((s.length:Int)<=40) from by omega]
theorem abt (s:Bs) (hs:s.length<=1000000000):qc O9 [.str s]=some (.bool (u7 s)):=by
 refine u3 (H:=[]) ?_ (by simp only [b8]) rfl
 show cv _ _ _=_
 rw [ai7]
 have loop:=afu (B:=U0) (S:=fun i=>[.str s,.int .i64 (i:Nat)]) (H:=[]) (m0:=0) (m1:=1) (vs0:=[.str s]) (vs1:=[.bool false]) (s.take 201) (fun b=>wrB b.toNat)
  (fun i hi=>by
   have hi':i<s.length/\i<201:=by simp at hi; omega
   have i1:=G9 s .i64 i hi'.1
   have e2:a8 (.int .i64) .add (.int .i64 (i:Int)) (.int .i64 1)=some (.int .i64 ((i+1:Nat):Int)):=p6 _ i 1 (by omega)
   rw [abO]
   simp only [b8,i1,e2,wrB,List.getElem_take,show ((i:Int)<(s.length:Int)) from by omega,show ((i:Int)<=200) from by omega]
   by_cases e:(s[i].toNat:Int)<32
   ·simp only [b8,e,true_or]
   ·by_cases e3:(s[i].toNat:Int)>126
    ·simp only [b8,e,e3,show (126:Int)<(s[i].toNat:Int) from e3,or_true]
    ·simp only [b8,e,e2,e3,show ¬ (126:Int)<(s[i].toNat:Int) from e3,or_false])
  (by
   rw [abO]
   by_cases h:s.length<=200
   ·have:(s.take 201).length=s.length:=by simp; omega
    simp only [b8,this,show ¬ ((s.length:Int)<(s.length:Int)) from by omega]
   ·have:(s.take 201).length=201:=by simp; omega
    by_cases h2:(((201:Nat):Int)<(s.length:Int))
    ·simp only [b8,this,h2,show ¬ (((201:Nat):Int)<=200) from by decide]
    ·simp only [b8,this,h2])
 have loop':l3 U0 [.str s,.int .i64 0] []=_:=loop
 simp only [b8,loop']
 by_cases h:s.length<=200
 ·have ht:s.take 201=s:=List.take_of_length_le (by omega)
  rw [ht]
  unfold u7
  by_cases hb:(s.any fun b=>wrB b.toNat)=true
  ·simp only [b8,hb,Bool.false_and]
  ·simp only [b8,hb,h,show ((s.length:Int)<=200) from by omega,Bool.and_true]
   try simp [hb]
 ·have:u7 s=false:=by unfold u7; rw [decide_eq_false (by omega),Bool.and_false]
  rw [this]
  by_cases hb:((s.take 201).any fun b=>wrB b.toNat)=true
  ·simp only [b8,hb]
  ·simp only [b8,hb,show ¬ ((s.length:Int)<=200) from by omega]
theorem atU (s:Bs) (hs:s.length<=4000000):qc acn [.str s]=some (.bool (u7 s&&decide (s.length<=40))):=by
 have e1:=abt s (by omega)
 refine u3 (H:=[]) ?_ (by simp only [b8]) rfl
 show cv _ _ _=_
 rw [amO]
 have:decide ((s.length:Int)<=40)=decide (s.length<=40):=decide_eq_decide.2 (by omega)
 simp only [b8,e1,this]
 by_cases h:u7 s=true<;>simp [h]
theorem aph {b:UInt8} (h1:65<=(b.toNat:Int)) (h2:(b.toNat:Int)<=90):((adm b).toNat:Int)=(b.toNat:Int)+32:=by
 unfold adm
 rw [if_pos (by omega),UInt8.toNat_add]
 have:(32:UInt8).toNat=32:=rfl
 omega
theorem aiQ {b:UInt8} (h:¬ (65<=(b.toNat:Int)/\(b.toNat:Int)<=90)):adm b=b:=by
 unfold adm
 rw [if_neg (by omega)]
def V6 (s:Bs) (i:Nat):Bs:=(s.take i).map adm++s.drop i
theorem aev (s:Bs) (i:Nat):(V6 s i).length=s.length:=by simp [V6]; omega
theorem agv (s:Bs) (i:Nat) (h:i<s.length):(V6 s i)[i]'(by rw [aev]; exact h)=s[i]:=by
 simp only [V6]
 rw [List.getElem_append_right (by simp; omega)]
 simp only [List.length_map,List.length_take,List.getElem_drop]
 congr 1; omega
theorem aeY (s:Bs) (i:Nat) (h:i<s.length):(V6 s i).set i (adm s[i])=V6 s (i+1):=by
 have h0:((s.take i).map adm).length=i:=by simp; omega
 conv=>lhs; rw [V6,List.drop_eq_getElem_cons h,List.set_append_right _ _ (by omega),h0,Nat.sub_self,List.set_cons_zero]
 rw [V6,List.take_succ_eq_append_getElem h,List.map_append,List.append_assoc]
 rfl
theorem ao5 (s:Bs):V6 s s.length=m7 s:=by simp [V6,m7]
theorem M0 (s:Bs) (hs:s.length<=1000000000):qc D4 [.str s]=some (.str (m7 s)):=by
 suffices h:j2 (cv D4 [.str s] []) fun r=>r.1 = .str (m7 s) by
  obtain ⟨⟨v,H⟩,e,h⟩:=h
  have h:v=_:=h
  subst h
  exact u3 e (by simp only [b8]) rfl
 rw [aja]
 simp only [b8,avq,ah3,List.nil_append]
 refine j2.H5 (I:=fun n st H=>∃ i:Nat,n=s.length-i/\i<=s.length/\st=[.z7 0 0 s.length 1,.int .i64 (i:Nat)]/\H[0]? = some (cB (V6 s i)))
  (P:=fun m vs H=>m=0/\vs=[.z7 0 0 s.length 1]/\H[0]? = some (cB (m7 s))) (n:=s.length) ?_ ⟨0,by omega,by omega,rfl,by simp [V6]⟩ ?_
 ·rintro n st H ⟨i,rfl,hi,rfl,hk⟩
  rw [ag4]
  by_cases hlt:i<s.length
  ·have ho:=akJ 0 0 s.length 1 .i64 i hlt
   have hl:=ayg (g:=y9) (i:=i) hk (by rw [aev]; exact hlt)
   rw [agv s i hlt] at hl
   have e2:a8 (.int .i64) .add (.int .i64 (i:Int)) (.int .i64 1)=some (.int .i64 ((i+1:Nat):Int)):=p6 _ i 1 (by omega)
   have hst:=aya (i:=i) (adm s[i]) hk (by rw [aev]; exact hlt)
   rw [aeY s i hlt] at hst
   simp only [Nat.zero_add,Nat.mul_one] at ho
   have hself:(V6 s i).set i s[i]=V6 s i:=by
    have h:=agv s i hlt
    rw [<-h]
    exact List.set_getElem_self _
   have stay:adm s[i]=s[i]->H[0]? = some (cB (V6 s (i+1))):=fun hb=>by
    rw [hk,<-aeY s i hlt,hb,hself]
   by_cases h1:(s[i].toNat:Int)>=65
   ·by_cases h2:(s[i].toNat:Int)<=90
    ·have e3:=asm (.int .u8) (s[i].toNat:Int) 32 (by omega) (by omega)
     rw [<-aph h1 h2] at e3
     simp only [b8,ho,hl,h1,h2,e3,hst,e2,show ((i:Int)<(s.length:Int)) from by omega]
     exact ⟨_,rfl,.inr ⟨rfl,s.length-(i+1),by omega,i+1,rfl,by omega,rfl,by rw [List.getElem?_set,if_pos rfl,if_pos (List.getElem?_eq_some_iff.1 hk).1]⟩⟩
    ·simp only [b8,ho,hl,h1,h2,e2,show ((i:Int)<(s.length:Int)) from by omega]
     exact ⟨_,rfl,.inr ⟨rfl,s.length-(i+1),by omega,i+1,rfl,by omega,rfl,stay (aiQ (by omega))⟩⟩
   ·simp only [b8,ho,hl,h1,e2,show ((i:Int)<(s.length:Int)) from by omega]
    exact ⟨_,rfl,.inr ⟨rfl,s.length-(i+1),by omega,i+1,rfl,by omega,rfl,stay (aiQ (by omega))⟩⟩
  ·have:i=s.length:=by omega
   subst this
   simp only [b8,show ¬ ((s.length:Int)<(s.length:Int)) from by omega]
   exact ⟨_,rfl,.inl ⟨0,rfl,rfl,rfl,by rw [hk,ao5]⟩⟩
 rintro _ _ H ⟨rfl,rfl,hk⟩
 have hb:=avS hk
 have hl:(m7 s).length=s.length:=by simp [m7]
 rw [hl] at hb
 simp only [b8,hb]
 exact j2.here rfl
end Go.Proofs.YtmokcpfbeggigaaGreatDoor.Q

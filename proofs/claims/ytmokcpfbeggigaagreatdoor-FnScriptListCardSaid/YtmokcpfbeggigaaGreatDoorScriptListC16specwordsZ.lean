/- Contracts: bytes, words, texts cut at a byte, in the reference. -/
import Derived.Test.YtmokcpfbeggigaaGreatDoorScriptListC14suffixZ
namespace Go.Proofs.YtmokcpfbeggigaaGreatDoor.Q
open Go Go.AM
set_option linter.unusedSimpArgs false
set_option linter.unusedVariables false
set_option linter.unusedSectionVars false
def agO (c:Int):Bool:=decide (97<=c/\c<=122\/65<=c/\c<=90\/48<=c/\c<=57)
def af3:Bs:=[33,35,36,37,38,39,42,43,45,47,61,63,94,95,96,123,124,125,126]
def adK (b:UInt8):UInt8:=if 65<=b.toNat/\b.toNat<=90 then b+32 else b
def aaF (s:Bs):Bs:=s.map adK
def H8 (n l d:Bs):Bool:=(A9 n&&decide (n.length<=40))&&(aaE l&&aaD d)
def agR (cur:Bs):List Bs->List Bs
 | []=>[cur]
 | x::r=>(cur++x)::r
theorem amS (c:UInt8) (s:Bs):agR [] (j4 c s)=j4 c s:=by
 cases h:j4 c s with
 | nil=>exact absurd h (abY c s)
 | cons x r=>rfl
theorem arw (c b:UInt8) (cur l:Bs):agR cur (j4 c (b::l))=if b=c then cur::j4 c l else agR (cur++[b]) (j4 c l):=by
 conv=>lhs; unfold j4
 by_cases h:b=c
 ·simp [h,agR]
 ·rw [if_neg h,if_neg h]
  cases e:j4 c l with
  | nil=>exact absurd e (abY c l)
  | cons x r=>simp [agR]
theorem acg (c:UInt8) (s:Bs):∀ b ∈ s,b=c\/∃ t ∈ j4 c s,b ∈ t:=by
 induction s with
 | nil=>intro b hb; cases hb
 | cons x l ih =>
   intro b hb
   unfold j4
   by_cases h:x=c
   ·rw [if_pos h]
    rcases List.mem_cons.1 hb with rfl | hb
    ·exact .inl h
    ·rcases ih b hb with h1 | ⟨t,h1,h2⟩
     ·exact .inl h1
     ·exact .inr ⟨t,by simp [h1],h2⟩
   ·rw [if_neg h]
    cases e:j4 c l with
    | nil=>exact absurd e (abY c l)
    | cons y r =>
      rcases List.mem_cons.1 hb with rfl | hb
      ·exact .inr ⟨b::y,by simp,by simp⟩
      ·rcases ih b hb with h1 | ⟨t,h1,h2⟩
       ·exact .inl h1
       ·rw [e] at h1
        rcases List.mem_cons.1 h1 with rfl | h1
        ·exact .inr ⟨x::t,by simp,by simp [h2]⟩
        ·exact .inr ⟨t,by simp [h1],h2⟩
theorem awo {s:Bs} (h:aaD s=true):aaF s=s:=by
 simp only [aaD,Bool.and_eq_true,Bool.not_eq_true',List.any_eq_false] at h
 unfold aaF
 have:∀ b ∈ s,adK b=b:=by
  intro b hb
  rcases acg 46 s b hb with rfl | ⟨t,h1,h2⟩
  ·rfl
  ·have h3:abr t=true:=by have:=h.2 t h1; simpa using this
   simp only [abr,Bool.and_eq_true,List.all_eq_true] at h3
   have h4:=h3.2 b h2
   simp only [abl,decide_eq_true_eq] at h4
   unfold adK
   rw [if_neg (by omega)]
 exact (List.map_congr_left this).trans (List.map_id _)
theorem ak1 (c:Int):qc aac [.int .u8 c]=some (.bool (agO c)):=by
 refine y1 (H:=[]) ?_ rfl rfl
 show cv _ _ _=_
 rw [ajE]
 simp only [b8,decide_eq_true_eq,agO]
 repeat' (first | (exact congrArg (fun b=>some (V.bool b,([]:VH))) (decide_eq_true (by omega)).symm) | (exact congrArg (fun b=>some (V.bool b,([]:VH))) (decide_eq_false (by omega)).symm) | (exact congrArg (fun b=>some (V.bool b,([]:VH))) (decide_eq_decide.2 (by omega))) | (refine akr (fun h=>?_) (fun h=>?_)))
theorem auA (c:Int):qc acJ [.int .u8 c]=some (.bool (N9 c)):=by
 have e1:=ak1 c
 refine y1 (H:=[]) ?_ rfl rfl
 show cv _ _ _=_
 rw [amo]
 have loop:=adl (B:=aaY) (S:=fun i=>[.int .u8 c,.int .i64 (i:Nat)]) (H:=[]) (m0:=0) (m1:=1) (vs0:=[.int .u8 c]) (vs1:=[.bool true]) af3 (fun b=>decide (c=(b.toNat:Int)))
  (fun i hi=>by
   have hl:af3.length=19:=rfl
   have i1:o7 (.str [33,35,36,37,38,39,42,43,45,47,61,63,94,95,96,123,124,125,126]) (.int .i64 (i:Int))=some (.int .u8 ((af3[i]).toNat:Int)):=N8 af3 .i64 i hi
   have e2:a8 (.int .i64) .add (.int .i64 (i:Int)) (.int .i64 1)=some (.int .i64 ((i+1:Nat):Int)):=y4 _ i 1 (by omega)
   rw [adR]
   simp only [b8,i1,e2,show ((i:Int)<19) from by omega])
  (by
   rw [adR]
   rfl)
 have loop':o6 aaY [.int .u8 c,.int .i64 0] []=_:=loop
 have ha:(af3.any fun b=>decide (c=(b.toNat:Int)))=decide (c=33\/c=35\/c=36\/c=37\/c=38\/c=39\/c=42\/c=43\/c=45\/c=47\/c=61\/c=63\/c=94\/c=95\/c=96\/c=123\/c=124\/c=125\/c=126):=by
  simp [af3]
 simp only [b8,loop',ha,decide_eq_true_eq]
 by_cases h:c=33\/c=35\/c=36\/c=37\/c=38\/c=39\/c=42\/c=43\/c=45\/c=47\/c=61\/c=63\/c=94\/c=95\/c=96\/c=123\/c=124\/c=125\/c=126
 ·have:N9 c=true:=decide_eq_true (by omega)
  rw [if_pos h]
  simp only [b8,this]
 ·have:N9 c=agO c:=decide_eq_decide.2 (by omega)
  rw [if_neg h]
  simp only [b8,this,e1]
theorem aeQ (s:Bs) (hs:s.length<=1000000000):qc W7 [.str s]=some (.bool (N7 s)):=by
 refine y1 (H:=[]) ?_ (by simp only [b8]) rfl
 show cv _ _ _=_
 rw [ai3]
 have loop:=adl (B:=W9) (S:=fun i=>[.str s,.int .i64 (i:Nat)]) (H:=[]) (m0:=0) (m1:=1) (vs0:=[.str s]) (vs1:=[.bool false]) (s.take 41) (fun b => !N9 b.toNat)
  (fun i hi=>by
   have hi':i<s.length/\i<41:=by simp at hi; omega
   have i1:=N8 s .i64 i hi'.1
   have e1:=auA (s[i].toNat:Int)
   have e2:a8 (.int .i64) .add (.int .i64 (i:Int)) (.int .i64 1)=some (.int .i64 ((i+1:Nat):Int)):=y4 _ i 1 (by omega)
   rw [aci]
   simp only [b8,i1,e1,e2,List.getElem_take,show ((i:Int)<(s.length:Int)) from by omega,show ((i:Int)<=40) from by omega])
  (by
   rw [aci]
   by_cases h:s.length<=40
   ·have:(s.take 41).length=s.length:=by simp; omega
    simp only [b8,this,show ¬ ((s.length:Int)<(s.length:Int)) from by omega]
   ·have:(s.take 41).length=41:=by simp; omega
    by_cases h2:(((41:Nat):Int)<(s.length:Int))
    ·simp only [b8,this,h2,show ¬ (((41:Nat):Int)<=40) from by decide]
    ·simp only [b8,this,h2])
 have loop':o6 W9 [.str s,.int .i64 0] []=_:=loop
 simp only [b8,loop']
 by_cases h:s.length<=40
 ·have ht:s.take 41=s:=List.take_of_length_le (by omega)
  have e:(s.all fun b=>N9 b.toNat) = !(s.any fun b => !N9 b.toNat):=by rw [List.not_any_eq_all_not]; simp
  rw [ht]
  unfold N7
  rw [e]
  by_cases hb:(s.any fun b => !N9 b.toNat)=true
  ·simp only [b8,hb,Bool.and_false]
  ·by_cases h1:1<=s.length
   ·simp only [b8,hb,show ((s.length:Int)>=1) from by omega,show ((s.length:Int)<=40) from by omega,show 1<=s.length/\s.length<=40 from ⟨h1,h⟩,Bool.true_and]
    simp [hb]
   ·simp only [b8,hb,show ¬ ((s.length:Int)>=1) from by omega,show ¬ (1<=s.length/\s.length<=40) from by omega,Bool.false_and]
 ·have:N7 s=false:=by unfold N7; rw [decide_eq_false (by omega),Bool.false_and]
  rw [this]
  by_cases hb:((s.take 41).any fun b => !N9 b.toNat)=true
  ·simp only [b8,hb]
  ·simp only [b8,hb,show ((s.length:Int)>=1) from by omega,show ¬ ((s.length:Int)<=40) from by omega]
theorem aeL (s:Bs) (hs:s.length<=1000000000):qc X1 [.str s]=some (.bool (A9 s)):=by
 refine y1 (H:=[]) ?_ (by simp only [b8]) rfl
 show cv _ _ _=_
 rw [aiW]
 have loop:=adl (B:=W8) (S:=fun i=>[.str s,.int .i64 (i:Nat)]) (H:=[]) (m0:=0) (m1:=1) (vs0:=[.str s]) (vs1:=[.bool false]) (s.take 201) (fun b=>wrB b.toNat)
  (fun i hi=>by
   have hi':i<s.length/\i<201:=by simp at hi; omega
   have i1:=N8 s .i64 i hi'.1
   have e2:a8 (.int .i64) .add (.int .i64 (i:Int)) (.int .i64 1)=some (.int .i64 ((i+1:Nat):Int)):=y4 _ i 1 (by omega)
   rw [aca]
   simp only [b8,i1,e2,wrB,List.getElem_take,show ((i:Int)<(s.length:Int)) from by omega,show ((i:Int)<=200) from by omega]
   by_cases e:(s[i].toNat:Int)<32
   ·simp only [b8,e,true_or]
   ·by_cases e3:(s[i].toNat:Int)>126
    ·simp only [b8,e,e3,show (126:Int)<(s[i].toNat:Int) from e3,or_true]
    ·simp only [b8,e,e2,e3,show ¬ (126:Int)<(s[i].toNat:Int) from e3,or_false])
  (by
   rw [aca]
   by_cases h:s.length<=200
   ·have:(s.take 201).length=s.length:=by simp; omega
    simp only [b8,this,show ¬ ((s.length:Int)<(s.length:Int)) from by omega]
   ·have:(s.take 201).length=201:=by simp; omega
    by_cases h2:(((201:Nat):Int)<(s.length:Int))
    ·simp only [b8,this,h2,show ¬ (((201:Nat):Int)<=200) from by decide]
    ·simp only [b8,this,h2])
 have loop':o6 W8 [.str s,.int .i64 0] []=_:=loop
 simp only [b8,loop']
 by_cases h:s.length<=200
 ·have ht:s.take 201=s:=List.take_of_length_le (by omega)
  rw [ht]
  unfold A9
  by_cases hb:(s.any fun b=>wrB b.toNat)=true
  ·simp only [b8,hb,Bool.false_and]
  ·simp only [b8,hb,h,show ((s.length:Int)<=200) from by omega,Bool.and_true]
   try simp [hb]
 ·have:A9 s=false:=by unfold A9; rw [decide_eq_false (by omega),Bool.and_false]
  rw [this]
  by_cases hb:((s.take 201).any fun b=>wrB b.toNat)=true
  ·simp only [b8,hb]
  ·simp only [b8,hb,show ¬ ((s.length:Int)<=200) from by omega]
theorem am8 (s:Bs) (c:UInt8) (hs:s.length<=4000000):pc L9 [.str s,.int .u8 (c.toNat:Int)]=some (.sl true (vT (j4 c s))):=by
 have hcnt:s.count c<=s.length:=List.count_le_length
 have hlen:=aa8 c s
 suffices h:l3 (cv L9 [.str s,.int .u8 (c.toNat:Int)] []) fun r=>r.1 = .sl true (vT (j4 c s)) by
  obtain ⟨⟨v,H⟩,e,h⟩:=h
  have h:v=_:=h
  subst h
  exact adY e (by simp only [b8]) (by simp only [b8])
 rw [alx]
 refine l3.V3 (I:=fun n st H=>∃ (i start:Nat) (out:List Bs),n=s.length-i/\i<=s.length/\start<=i/\st=[.str s,.int .u8 (c.toNat:Int),.sl true (vT out),.int .i64 (start:Nat),.int .i64 (i:Nat)]/\out++agR ((s.drop start).take (i-start)) (j4 c (s.drop i))=j4 c s)
  (P:=fun m vs H=>∃ (start:Nat) (out:List Bs),m=0/\vs=[.str s,.sl true (vT out),.int .i64 (start:Nat)]/\start<=s.length/\out++[s.drop start]=j4 c s) (n:=s.length) ?_ ⟨0,0,[],by omega,by omega,by omega,rfl,by simpa using amS c s⟩ ?_
 ·rintro n st H ⟨i,start,out,rfl,hi,hst,rfl,inv⟩
  rw [ahr]
  have hol:out.length<=s.length+1:=by
   have:=congrArg List.length inv
   rw [List.length_append] at this; omega
  by_cases hlt:i<s.length
  ·have i1:=N8 s .i64 i hlt
   have e2:a8 (.int .i64) .add (.int .i64 (i:Int)) (.int .i64 1)=some (.int .i64 ((i+1:Nat):Int)):=y4 _ i 1 (by omega)
   rw [List.drop_eq_getElem_cons hlt,arw] at inv
   have hk:((s[i].toNat:Int)=(c.toNat:Int))<->s[i]=c:=by
    constructor
    ·intro h; exact UInt8.toNat_inj.1 (by omega)
    ·intro h; rw [h]
   by_cases he:s[i]=c
   ·rw [if_pos he] at inv
    have p1:=ari s .i64 .i64 start i (by omega) (by omega)
    have a1:I6 false 1 16 (vT out) (.sl true [[.str ((s.drop start).take (i-start))]])=some (.sl true (vT (out++[(s.drop start).take (i-start)]))):=by
     have:=ac2 1 16 (vT out) true (vT [(s.drop start).take (i-start)]) (aan _) (aan _) (by rw [aai,aai]; simp; omega)
     rw [ahF] at this
     exact this
    simp only [b8,i1,e2,hk,he,p1,a1,show ((i:Int)<(s.length:Int)) from by omega]
    refine ⟨_,rfl,.inr ⟨rfl,s.length-(i+1),by omega,i+1,i+1,_,rfl,by omega,by omega,rfl,?_⟩⟩
    rw [Nat.sub_self,List.take_zero,amS,List.append_assoc]
    exact inv
   ·rw [if_neg he] at inv
    simp only [b8,i1,e2,hk,he,show ((i:Int)<(s.length:Int)) from by omega]
    refine ⟨_,rfl,.inr ⟨rfl,s.length-(i+1),by omega,i+1,start,out,rfl,by omega,by omega,rfl,?_⟩⟩
    have:(s.drop start).take (i+1-start)=(s.drop start).take (i-start)++[s[i]]:=by
     rw [show i+1-start=(i-start)+1 from by omega,List.take_succ_eq_append_getElem (by simp; omega)]
     congr 2
     simp only [List.getElem_drop]
     congr 1; omega
    rw [this]
    exact inv
  ·have:i=s.length:=by omega
   subst this
   simp only [b8,show ¬ ((s.length:Int)<(s.length:Int)) from by omega]
   refine ⟨_,rfl,.inl ⟨0,rfl,start,out,rfl,rfl,hst,?_⟩⟩
   rw [List.drop_length] at inv
   simp only [j4,agR,List.append_nil] at inv
   rw [List.take_of_length_le (by simp)] at inv
   exact inv
 rintro _ _ H ⟨start,out,rfl,rfl,hst,inv⟩
 have hol:out.length<=s.length+1:=by
  have:=congrArg List.length inv
  rw [List.length_append] at this; omega
 have p1:=ade s .i64 start hst
 have a1:I6 false 1 16 (vT out) (.sl true [[.str (s.drop start)]])=some (.sl true (vT (out++[s.drop start]))):=by
  have:=ac2 1 16 (vT out) true (vT [s.drop start]) (aan _) (aan _) (by rw [aai,aai]; simp; omega)
  rw [ahF] at this
  exact this
 simp only [b8,p1,a1,inv]
 exact l3.here rfl
theorem atj (s:Bs) (hs:s.length<=4000000):qc ab6 [.str s]=some (.bool (aaE s)):=by
 have e0:pc L9 [.str s,.int .u8 46]=_:=am8 s 46 hs
 have hcnt:s.count 46<=s.length:=List.count_le_length
 have hlen:=aa8 46 s
 refine y1 (H:=[]) ?_ (by simp only [b8]) rfl
 show cv _ _ _=_
 rw [akI]
 have go:o6 L7 [.str s,.sl false (vT (j4 46 s)),.int .i64 ((0:Nat):Int)] []=if (j4 46 s).any (fun t => !N7 t)=true then some (1,[.bool false],[]) else some (0,[.str s],[]):=by
  have first:∀ (i:Nat) (h:i<(j4 46 s).length),L7 [.str s,.sl false (vT (j4 46 s)),.int .i64 (i:Nat)] []=if (fun t => !N7 t) (j4 46 s)[i]=true then some (some 1,[.bool false],[]) else some (none,[.str s,.sl false (vT (j4 46 s)),.int .i64 ((i+1:Nat):Int)],[]):=by
   intro i hi
   have i1:=aeA false (j4 46 s) .i64 i hi
   have hsm:=acw 46 s _ (List.getElem_mem hi)
   have e1:=aeQ (j4 46 s)[i] (by omega)
   have e2:a8 (.int .i64) .add (.int .i64 (i:Int)) (.int .i64 1)=some (.int .i64 ((i+1:Nat):Int)):=y4 _ i 1 (by omega)
   rw [adB]
   simp only [b8,i1,e1,e2,show ((i:Int)<((j4 46 s).length:Int)) from by omega]
  have last:L7 [.str s,.sl false (vT (j4 46 s)),.int .i64 ((j4 46 s).length:Nat)] []=some (some 0,[.str s],[]):=by
   rw [adB]
   simp only [b8,show ¬ (((j4 46 s).length:Int)<((j4 46 s).length:Int)) from by omega]
  have loop:=adl (B:=L7) (S:=fun i=>[.str s,.sl false (vT (j4 46 s)),.int .i64 (i:Nat)]) (H:=[]) (m0:=0) (m1:=1) (vs0:=[.str s]) (vs1:=[.bool false]) (j4 46 s) (fun t => !N7 t)
   (fun i hi=>first i hi) last
  exact loop
 have loop':o6 L7 [.str s,.sl false (vT (j4 46 s)),.int .i64 0] []=_:=go
 simp only [b8,e0,loop',aaE]
 by_cases hb:((j4 46 s).any fun t => !N7 t)=true
 ·simp only [b8,hb,Bool.and_false]
 ·simp only [b8,hb]
  by_cases h:s.length<=30
  ·simp [h,hb]; omega
  ·simp [h,hb]; omega
theorem aq4 (s:Bs) (hs:s.length<=4000000):qc abT [.str s]=some (.bool (aaD s)):=by
 have e0:pc L9 [.str s,.int .u8 46]=_:=am8 s 46 hs
 have hcnt:s.count 46<=s.length:=List.count_le_length
 have hlen:=aa8 46 s
 refine y1 (H:=[]) ?_ (by simp only [b8]) rfl
 show cv _ _ _=_
 rw [ajJ]
 have go:o6 K3 [.str s,.sl false (vT (j4 46 s)),.int .i64 ((0:Nat):Int)] []=if (j4 46 s).any (fun t => !abr t)=true then some (1,[.bool false],[]) else some (0,[.str s],[]):=by
  have first:∀ (i:Nat) (h:i<(j4 46 s).length),K3 [.str s,.sl false (vT (j4 46 s)),.int .i64 (i:Nat)] []=if (fun t => !abr t) (j4 46 s)[i]=true then some (some 1,[.bool false],[]) else some (none,[.str s,.sl false (vT (j4 46 s)),.int .i64 ((i+1:Nat):Int)],[]):=by
   intro i hi
   have i1:=aeA false (j4 46 s) .i64 i hi
   have hsm:=acw 46 s _ (List.getElem_mem hi)
   have e2:a8 (.int .i64) .add (.int .i64 (i:Int)) (.int .i64 1)=some (.int .i64 ((i+1:Nat):Int)):=y4 _ i 1 (by omega)
   have inner:=adl (B:=Z6) (S:=fun j=>[.str s,.sl false (vT (j4 46 s)),.int .i64 (i:Nat),.str (j4 46 s)[i],.int .i64 (j:Nat)]) (H:=[]) (m0:=0) (m1:=1) (vs0:=[.str s,.sl false (vT (j4 46 s)),.int .i64 (i:Nat)]) (vs1:=[.bool false]) (j4 46 s)[i] (fun b => !abl b.toNat)
    (fun j hj=>by
     have j1:=N8 (j4 46 s)[i] .i64 j hj
     have e4:a8 (.int .i64) .add (.int .i64 (j:Int)) (.int .i64 1)=some (.int .i64 ((j+1:Nat):Int)):=y4 _ j 1 (by omega)
     rw [acC]
     generalize ((j4 46 s)[i])[j]=b at *
     have e1:=ak1 (b.toNat:Int)
     simp only [b8,j1,e1,show ((j:Int)<(((j4 46 s)[i]).length:Int)) from by omega]
     by_cases h1:agO (b.toNat:Int)=true
     ·by_cases h2:(b.toNat:Int)>=65
      ·by_cases h3:(b.toNat:Int)<=90
       ·have:abl (b.toNat:Int)=false:=decide_eq_false (by simp only [agO,decide_eq_true_eq] at h1; omega)
        simp only [b8,h1,h2,h3,this]
       ·have:abl (b.toNat:Int)=true:=decide_eq_true (by simp only [agO,decide_eq_true_eq] at h1; omega)
        simp only [b8,h1,h2,h3,this,e4]
      ·have:abl (b.toNat:Int)=true:=decide_eq_true (by simp only [agO,decide_eq_true_eq] at h1; omega)
       simp only [b8,h1,h2,this,e4]
     ·by_cases h4:(b.toNat:Int)=45
      ·have:abl (b.toNat:Int)=true:=decide_eq_true (by omega)
       have h5:agO 45=false:=by decide
       have h6:abl 45=true:=by decide
       simp only [b8,h5,h6,h4,e4,show ¬ ((45:Int)>=65) from by decide]
      ·have:abl (b.toNat:Int)=false:=decide_eq_false (by simp only [agO,decide_eq_true_eq] at h1; omega)
       simp only [b8,h1,h4,this])
    (by
     rw [acC]
     simp only [b8,show ¬ ((((j4 46 s)[i]).length:Int)<(((j4 46 s)[i]).length:Int)) from by omega])
   rw [acD]
   generalize hp:(j4 46 s)[i]=p at *
   have inner':o6 Z6 [.str s,.sl false (vT (j4 46 s)),.int .i64 (i:Nat),.str p,.int .i64 0] []=_:=inner
   by_cases h0:p=[]
   ·subst h0
    simp only [b8,i1,show ((i:Int)<((j4 46 s).length:Int)) from by omega]
    rfl
   ·have hl:0<p.length:=List.length_pos_iff.2 h0
    have p1:o7 (.str p) (.int .i64 0)=some (.int .u8 (p[0].toNat:Int)):=N8 p .i64 0 hl
    have e3:a8 (.int .i64) .sub (.int .i64 (p.length:Int)) (.int .i64 1)=some (.int .i64 ((p.length-1:Nat):Int)):=adC _ p.length 1 (by omega) (by omega)
    have p2:=N8 p .i64 (p.length-1) (by omega)
    have hd:p.head? = some p[0]:=by rw [List.head?_eq_getElem?,List.getElem?_eq_getElem hl]
    have hz:p.getLast? = some p[p.length-1]:=by rw [List.getLast?_eq_getElem?,List.getElem?_eq_getElem (by omega)]
    have k:∀ b:UInt8,((b.toNat:Int)=45)<->b=45:=fun b=>by
     constructor
     ·intro h
      have:b.toNat=45:=by omega
      exact UInt8.toNat_inj.1 (by rw [this]; rfl)
     ·intro h; subst h; rfl
    have hall:(p.all fun b=>abl b.toNat) = !(p.any fun b => !abl b.toNat):=by rw [List.not_any_eq_all_not]; simp
    simp only [b8,i1,h0,p1,e3,p2,k,abr,hd,hz,hall,show ((i:Int)<((j4 46 s).length:Int)) from by omega]
    by_cases h1:p[0]=45
    ·simp [b8,h1]
    ·by_cases h2:p[p.length-1]=45
     ·simp [b8,h1,h2]
     ·by_cases h3:(p.any fun b => !abl b.toNat)=true
      ·rw [if_pos h3] at inner'
       simp only [b8,h1,h2,inner']
       simp [h0,h1,h2,h3]
      ·rw [if_neg h3] at inner'
       simp only [b8,h1,h2,inner',e2]
       simp [h0,h1,h2,h3]
  have last:K3 [.str s,.sl false (vT (j4 46 s)),.int .i64 ((j4 46 s).length:Nat)] []=some (some 0,[.str s],[]):=by
   rw [acD]
   simp only [b8,show ¬ (((j4 46 s).length:Int)<((j4 46 s).length:Int)) from by omega]
  have loop:=adl (B:=K3) (S:=fun i=>[.str s,.sl false (vT (j4 46 s)),.int .i64 (i:Nat)]) (H:=[]) (m0:=0) (m1:=1) (vs0:=[.str s]) (vs1:=[.bool false]) (j4 46 s) (fun t => !abr t)
   (fun i hi=>first i hi) last
  exact loop
 have loop':o6 K3 [.str s,.sl false (vT (j4 46 s)),.int .i64 0] []=_:=go
 simp only [b8,e0,loop',aaD]
 by_cases hb:((j4 46 s).any fun t => !abr t)=true
 ·simp only [b8,hb,Bool.and_false]
 ·simp only [b8,hb]
  by_cases h:s.length<=40
  ·simp [h,hb]; omega
  ·simp [h,hb]; omega
theorem auH (s:Bs) (hs:s.length<=4000000):qc acY [.str s]=some (.bool (A9 s&&decide (s.length<=40))):=by
 have e1:=aeL s (by omega)
 refine y1 (H:=[]) ?_ (by simp only [b8]) rfl
 show cv _ _ _=_
 rw [al8]
 have:decide ((s.length:Int)<=40)=decide (s.length<=40):=decide_eq_decide.2 (by omega)
 simp only [b8,e1,this]
 by_cases h:A9 s=true<;>simp [h]
theorem acE (n l d:Bs) (hn:n.length<=4000000) (hl:l.length<=4000000) (hd:d.length<=4000000):qc S0 [.agg [.str n,.str l,.str d]]=some (.bool (H8 n l d)):=by
 have e1:=auH n hn
 have e2:=atj l hl
 have e3:=aq4 d hd
 refine y1 (H:=[]) ?_ (by simp only [b8]) rfl
 show cv _ _ _=_
 rw [ags]
 simp only [b8,e1,e2,e3,H8]
 by_cases h1:(A9 n&&decide (n.length<=40))=true
 ·by_cases h2:(l.length:Int)<=30
  ·by_cases h3:aaE l=true
   ·by_cases h4:(d.length:Int)<=40
    ·simp [h1,h2,h3,h4]
    ·have:aaD d=false:=by unfold aaD; rw [decide_eq_false (by omega),Bool.false_and]
     simp [h1,h2,h3,h4,this]
   ·simp [h1,h2,h3]
  ·have:aaE l=false:=by unfold aaE; rw [decide_eq_false (by omega),Bool.false_and]
   simp [h1,h2,this]
 ·simp [h1]
theorem au4 {b:UInt8} (h1:65<=(b.toNat:Int)) (h2:(b.toNat:Int)<=90):((adK b).toNat:Int)=(b.toNat:Int)+32:=by
 unfold adK
 rw [if_pos (by omega),UInt8.toNat_add]
 have:(32:UInt8).toNat=32:=rfl
 omega
theorem aqy {b:UInt8} (h:¬ (65<=(b.toNat:Int)/\(b.toNat:Int)<=90)):adK b=b:=by
 unfold adK
 rw [if_neg (by omega)]
def abO (s:Bs) (i:Nat):Bs:=(s.take i).map adK++s.drop i
theorem ajO (s:Bs) (i:Nat):(abO s i).length=s.length:=by simp [abO]; omega
theorem aoZ (s:Bs) (i:Nat) (h:i<s.length):(abO s i)[i]'(by rw [ajO]; exact h)=s[i]:=by
 simp only [abO]
 rw [List.getElem_append_right (by simp; omega)]
 simp only [List.length_map,List.length_take,List.getElem_drop]
 congr 1; omega
theorem am5 (s:Bs) (i:Nat) (h:i<s.length):(abO s i).set i (adK s[i])=abO s (i+1):=by
 have h0:((s.take i).map adK).length=i:=by simp; omega
 conv=>lhs; rw [abO,List.drop_eq_getElem_cons h,List.set_append_right _ _ (by omega),h0,Nat.sub_self,List.set_cons_zero]
 rw [abO,List.take_succ_eq_append_getElem h,List.map_append,List.append_assoc]
 rfl
theorem auk (s:Bs):abO s s.length=aaF s:=by simp [abO,aaF]
end Go.Proofs.YtmokcpfbeggigaaGreatDoor.Q

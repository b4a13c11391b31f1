/- Contracts: bytes, words, texts cut at a byte, in the reference. -/
import Derived.Test.YtaapfgpeeghmeaaGreatDoorScriptMailC12wordsZ
namespace Go.Proofs.YtaapfgpeeghmeaaGreatDoor.Q
open Go Go.AM
set_option linter.unusedSimpArgs false
set_option linter.unusedVariables false
set_option linter.unusedSectionVars false
def ajU (c:Int):Bool:=decide (97<=c/\c<=122\/65<=c/\c<=90\/48<=c/\c<=57)
def ajd:Bs:=[33,35,36,37,38,39,42,43,45,47,61,63,94,95,96,123,124,125,126]
def aeq (b:UInt8):UInt8:=if 65<=b.toNat/\b.toNat<=90 then b+32 else b
def B4 (s:Bs):Bs:=s.map aeq
def ag5 (n l d:Bs):Bool:=(A6 n&&decide (n.length<=40))&&(ac8 l&&V7 d)
def akL (cur:Bs):List Bs->List Bs
 | []=>[cur]
 | x::r=>(cur++x)::r
theorem arG (c:UInt8) (s:Bs):akL [] (j7 c s)=j7 c s:=by
 cases h:j7 c s with
 | nil=>exact absurd h (aeM c s)
 | cons x r=>rfl
theorem awY (c b:UInt8) (cur l:Bs):akL cur (j7 c (b::l))=if b=c then cur::j7 c l else akL (cur++[b]) (j7 c l):=by
 conv=>lhs; unfold j7
 by_cases h:b=c
 ·simp [h,akL]
 ·rw [if_neg h,if_neg h]
  cases e:j7 c l with
  | nil=>exact absurd e (aeM c l)
  | cons x r=>simp [akL]
theorem ag9 (c:UInt8) (s:Bs):∀ b ∈ s,b=c\/∃ t ∈ j7 c s,b ∈ t:=by
 induction s with
 | nil=>intro b hb; cases hb
 | cons x l ih =>
   intro b hb
   unfold j7
   by_cases h:x=c
   ·rw [if_pos h]
    rcases List.mem_cons.1 hb with rfl | hb
    ·exact .inl h
    ·rcases ih b hb with h1 | ⟨t,h1,h2⟩
     ·exact .inl h1
     ·exact .inr ⟨t,by simp [h1],h2⟩
   ·rw [if_neg h]
    cases e:j7 c l with
    | nil=>exact absurd e (aeM c l)
    | cons y r =>
      rcases List.mem_cons.1 hb with rfl | hb
      ·exact .inr ⟨b::y,by simp,by simp⟩
      ·rcases ih b hb with h1 | ⟨t,h1,h2⟩
       ·exact .inl h1
       ·rw [e] at h1
        rcases List.mem_cons.1 h1 with rfl | h1
        ·exact .inr ⟨x::t,by simp,by simp [h2]⟩
        ·exact .inr ⟨t,by simp [h1],h2⟩
theorem awe {s:Bs} (h:V7 s=true):B4 s=s:=by
 simp only [V7,Bool.and_eq_true,Bool.not_eq_true',List.any_eq_false] at h
 unfold B4
 have:∀ b ∈ s,aeq b=b:=by
  intro b hb
  rcases ag9 46 s b hb with rfl | ⟨t,h1,h2⟩
  ·rfl
  ·have h3:ae3 t=true:=by have:=h.2 t h1; simpa using this
   simp only [ae3,Bool.and_eq_true,List.all_eq_true] at h3
   have h4:=h3.2 b h2
   simp only [adW,decide_eq_true_eq] at h4
   unfold aeq
   rw [if_neg (by omega)]
 exact (List.map_congr_left this).trans (List.map_id _)
theorem awd {s:Bs} (h:(34:UInt8) ∈ s):ac8 s=false:=by
 by_cases hl:ac8 s=true
 ·exfalso
  simp only [ac8,Bool.and_eq_true,Bool.not_eq_true',List.any_eq_false] at hl
  rcases ag9 46 s 34 h with h0 | ⟨t,h1,h2⟩
  ·exact absurd h0 (by decide)
  ·have h3:aaY t=true:=by have:=hl.2 t h1; simpa using this
   simp only [aaY,Bool.and_eq_true,List.all_eq_true] at h3
   have h4:=h3.2 34 h2
   exact absurd h4 (by decide)
 ·simpa using hl
theorem apM (c:Int):qc acq [.int .u8 c]=some (.bool (ajU c)):=by
 refine y4 (H:=[]) ?_ rfl rfl
 show cv _ _ _=_
 rw [aoD]
 simp only [c9,decide_eq_true_eq,ajU]
 repeat' (first | (exact congrArg (fun b=>some (V.bool b,([]:VH))) (decide_eq_true (by omega)).symm) | (exact congrArg (fun b=>some (V.bool b,([]:VH))) (decide_eq_false (by omega)).symm) | (exact congrArg (fun b=>some (V.bool b,([]:VH))) (decide_eq_decide.2 (by omega))) | (refine aoJ (fun h=>?_) (fun h=>?_)))
theorem azY (c:Int):qc afT [.int .u8 c]=some (.bool (adG c)):=by
 have e1:=apM c
 refine y4 (H:=[]) ?_ rfl rfl
 show cv _ _ _=_
 rw [aqo]
 have loop:=adl (B:=ads) (S:=fun i=>[.int .u8 c,.int .i64 (i:Nat)]) (H:=[]) (m0:=0) (m1:=1) (vs0:=[.int .u8 c]) (vs1:=[.bool true]) ajd (fun b=>decide (c=(b.toNat:Int)))
  (fun i hi=>by
   have hl:ajd.length=19:=rfl
   have i1:A9 (.str [33,35,36,37,38,39,42,43,45,47,61,63,94,95,96,123,124,125,126]) (.int .i64 (i:Int))=some (.int .u8 ((ajd[i]).toNat:Int)):=aal ajd .i64 i hi
   have e2:b7 (.int .i64) .add (.int .i64 (i:Int)) (.int .i64 1)=some (.int .i64 ((i+1:Nat):Int)):=A0 _ i 1 (by omega)
   rw [agS]
   simp only [c9,i1,e2,show ((i:Int)<19) from by omega])
  (by
   rw [agS]
   rfl)
 have loop':l6 ads [.int .u8 c,.int .i64 0] []=_:=loop
 have ha:(ajd.any fun b=>decide (c=(b.toNat:Int)))=decide (c=33\/c=35\/c=36\/c=37\/c=38\/c=39\/c=42\/c=43\/c=45\/c=47\/c=61\/c=63\/c=94\/c=95\/c=96\/c=123\/c=124\/c=125\/c=126):=by
  simp [ajd]
 simp only [c9,loop',ha,decide_eq_true_eq]
 by_cases h:c=33\/c=35\/c=36\/c=37\/c=38\/c=39\/c=42\/c=43\/c=45\/c=47\/c=61\/c=63\/c=94\/c=95\/c=96\/c=123\/c=124\/c=125\/c=126
 ·have:adG c=true:=decide_eq_true (by omega)
  rw [if_pos h]
  simp only [c9,this]
 ·have:adG c=ajU c:=decide_eq_decide.2 (by omega)
  rw [if_neg h]
  simp only [c9,this,e1]
theorem aoS (s:Bs) (hs:s.length<=1000000000):qc adS [.str s]=some (.bool (aaY s)):=by
 refine y4 (H:=[]) ?_ (by simp only [c9]) rfl
 show cv _ _ _=_
 rw [am8]
 have loop:=adl (B:=abC) (S:=fun i=>[.str s,.int .i64 (i:Nat)]) (H:=[]) (m0:=0) (m1:=1) (vs0:=[.str s]) (vs1:=[.bool false]) (s.take 41) (fun b => !adG b.toNat)
  (fun i hi=>by
   have hi':i<s.length/\i<41:=by simp at hi; omega
   have i1:=aal s .i64 i hi'.1
   have e1:=azY (s[i].toNat:Int)
   have e2:b7 (.int .i64) .add (.int .i64 (i:Int)) (.int .i64 1)=some (.int .i64 ((i+1:Nat):Int)):=A0 _ i 1 (by omega)
   rw [aeU]
   simp only [c9,i1,e1,e2,List.getElem_take,show ((i:Int)<(s.length:Int)) from by omega,show ((i:Int)<=40) from by omega])
  (by
   rw [aeU]
   by_cases h:s.length<=40
   ·have:(s.take 41).length=s.length:=by simp; omega
    simp only [c9,this,show ¬ ((s.length:Int)<(s.length:Int)) from by omega]
   ·have:(s.take 41).length=41:=by simp; omega
    by_cases h2:(((41:Nat):Int)<(s.length:Int))
    ·simp only [c9,this,h2,show ¬ (((41:Nat):Int)<=40) from by decide]
    ·simp only [c9,this,h2])
 have loop':l6 abC [.str s,.int .i64 0] []=_:=loop
 simp only [c9,loop']
 by_cases h:s.length<=40
 ·have ht:s.take 41=s:=List.take_of_length_le (by omega)
  have e:(s.all fun b=>adG b.toNat) = !(s.any fun b => !adG b.toNat):=by rw [List.not_any_eq_all_not]; simp
  rw [ht]
  unfold aaY
  rw [e]
  by_cases hb:(s.any fun b => !adG b.toNat)=true
  ·simp only [c9,hb,Bool.and_false]
  ·by_cases h1:1<=s.length
   ·simp only [c9,hb,show ((s.length:Int)>=1) from by omega,show ((s.length:Int)<=40) from by omega,show 1<=s.length/\s.length<=40 from ⟨h1,h⟩,Bool.true_and]
    simp [hb]
   ·simp only [c9,hb,show ¬ ((s.length:Int)>=1) from by omega,show ¬ (1<=s.length/\s.length<=40) from by omega,Bool.false_and]
 ·have:aaY s=false:=by unfold aaY; rw [decide_eq_false (by omega),Bool.false_and]
  rw [this]
  by_cases hb:((s.take 41).any fun b => !adG b.toNat)=true
  ·simp only [c9,hb]
  ·simp only [c9,hb,show ((s.length:Int)>=1) from by omega,show ¬ ((s.length:Int)<=40) from by omega]
theorem aeE (s:Bs) (hs:s.length<=1000000000):qc O6 [.str s]=some (.bool (A6 s)):=by
 refine y4 (H:=[]) ?_ (by simp only [c9]) rfl
 show cv _ _ _=_
 rw [anc]
 have loop:=adl (B:=abz) (S:=fun i=>[.str s,.int .i64 (i:Nat)]) (H:=[]) (m0:=0) (m1:=1) (vs0:=[.str s]) (vs1:=[.bool false]) (s.take 201) (fun b=>wrB b.toNat)
  (fun i hi=>by
   have hi':i<s.length/\i<201:=by simp at hi; omega
   have i1:=aal s .i64 i hi'.1
   have e2:b7 (.int .i64) .add (.int .i64 (i:Int)) (.int .i64 1)=some (.int .i64 ((i+1:Nat):Int)):=A0 _ i 1 (by omega)
   rw [aeT]
   simp only [c9,i1,e2,wrB,List.getElem_take,show ((i:Int)<(s.length:Int)) from by omega,show ((i:Int)<=200) from by omega]
   by_cases e:(s[i].toNat:Int)<32
   ·simp only [c9,e,true_or]
   ·by_cases e3:(s[i].toNat:Int)>126
    ·simp only [c9,e,e3,show (126:Int)<(s[i].toNat:Int) from e3,or_true]
    ·simp only [c9,e,e2,e3,show ¬ (126:Int)<(s[i].toNat:Int) from e3,or_false])
  (by
   rw [aeT]
   by_cases h:s.length<=200
   ·have:(s.take 201).length=s.length:=by simp; omega
    simp only [c9,this,show ¬ ((s.length:Int)<(s.length:Int)) from by omega]
   ·have:(s.take 201).length=201:=by simp; omega
    by_cases h2:(((201:Nat):Int)<(s.length:Int))
    ·simp only [c9,this,h2,show ¬ (((201:Nat):Int)<=200) from by decide]
    ·simp only [c9,this,h2])
 have loop':l6 abz [.str s,.int .i64 0] []=_:=loop
 simp only [c9,loop']
 by_cases h:s.length<=200
 ·have ht:s.take 201=s:=List.take_of_length_le (by omega)
  rw [ht]
  unfold A6
  by_cases hb:(s.any fun b=>wrB b.toNat)=true
  ·simp only [c9,hb,Bool.false_and]
  ·simp only [c9,hb,h,show ((s.length:Int)<=200) from by omega,Bool.and_true]
   try simp [hb]
 ·have:A6 s=false:=by unfold A6; rw [decide_eq_false (by omega),Bool.and_false]
  rw [this]
  by_cases hb:((s.take 201).any fun b=>wrB b.toNat)=true
  ·simp only [c9,hb]
  ·simp only [c9,hb,show ¬ ((s.length:Int)<=200) from by omega]
theorem arB (s:Bs) (c:UInt8) (hs:s.length<=4000000):pc S8 [.str s,.int .u8 (c.toNat:Int)]=some (.sl true (vT (j7 c s))):=by
 have hcnt:s.count c<=s.length:=List.count_le_length
 have hlen:=ado c s
 suffices h:j8 (cv S8 [.str s,.int .u8 (c.toNat:Int)] []) fun r=>r.1 = .sl true (vT (j7 c s)) by
  obtain ⟨⟨v,H⟩,e,h⟩:=h
  have h:v=_:=h
  subst h
  exact Y9 e (by simp only [c9]) (by simp only [c9])
 rw [apm]
 refine j8.N1 (I:=fun n st H=>∃ (i start:Nat) (out:List Bs),n=s.length-i/\i<=s.length/\start<=i/\st=[.str s,.int .u8 (c.toNat:Int),.sl true (vT out),.int .i64 (start:Nat),.int .i64 (i:Nat)]/\out++akL ((s.drop start).take (i-start)) (j7 c (s.drop i))=j7 c s)
  (P:=fun m vs H=>∃ (start:Nat) (out:List Bs),m=0/\vs=[.str s,.sl true (vT out),.int .i64 (start:Nat)]/\start<=s.length/\out++[s.drop start]=j7 c s) (n:=s.length) ?_ ⟨0,0,[],by omega,by omega,by omega,rfl,by simpa using arG c s⟩ ?_
 ·rintro n st H ⟨i,start,out,rfl,hi,hst,rfl,inv⟩
  rw [alG]
  have hol:out.length<=s.length+1:=by
   have:=congrArg List.length inv
   rw [List.length_append] at this; omega
  by_cases hlt:i<s.length
  ·have i1:=aal s .i64 i hlt
   have e2:b7 (.int .i64) .add (.int .i64 (i:Int)) (.int .i64 1)=some (.int .i64 ((i+1:Nat):Int)):=A0 _ i 1 (by omega)
   rw [List.drop_eq_getElem_cons hlt,awY] at inv
   have hk:((s[i].toNat:Int)=(c.toNat:Int))<->s[i]=c:=by
    constructor
    ·intro h; exact UInt8.toNat_inj.1 (by omega)
    ·intro h; rw [h]
   by_cases he:s[i]=c
   ·rw [if_pos he] at inv
    have p1:=asL s .i64 .i64 start i (by omega) (by omega)
    have a1:F8 false 1 16 (vT out) (.sl true [[.str ((s.drop start).take (i-start))]])=some (.sl true (vT (out++[(s.drop start).take (i-start)]))):=by
     have:=aeZ 1 16 (vT out) true (vT [(s.drop start).take (i-start)]) (abc _) (abc _) (by rw [aaA,aaA]; simp; omega)
     rw [alq] at this
     exact this
    simp only [c9,i1,e2,hk,he,p1,a1,show ((i:Int)<(s.length:Int)) from by omega]
    refine ⟨_,rfl,.inr ⟨rfl,s.length-(i+1),by omega,i+1,i+1,_,rfl,by omega,by omega,rfl,?_⟩⟩
    rw [Nat.sub_self,List.take_zero,arG,List.append_assoc]
    exact inv
   ·rw [if_neg he] at inv
    simp only [c9,i1,e2,hk,he,show ((i:Int)<(s.length:Int)) from by omega]
    refine ⟨_,rfl,.inr ⟨rfl,s.length-(i+1),by omega,i+1,start,out,rfl,by omega,by omega,rfl,?_⟩⟩
    have:(s.drop start).take (i+1-start)=(s.drop start).take (i-start)++[s[i]]:=by
     rw [show i+1-start=(i-start)+1 from by omega,List.take_succ_eq_append_getElem (by simp; omega)]
     congr 2
     simp only [List.getElem_drop]
     congr 1; omega
    rw [this]
    exact inv
  ·have:i=s.length:=by omega
   subst this
   simp only [c9,show ¬ ((s.length:Int)<(s.length:Int)) from by omega]
   refine ⟨_,rfl,.inl ⟨0,rfl,start,out,rfl,rfl,hst,?_⟩⟩
   rw [List.drop_length] at inv
   simp only [j7,akL,List.append_nil] at inv
   rw [List.take_of_length_le (by simp)] at inv
   exact inv
 rintro _ _ H ⟨start,out,rfl,rfl,hst,inv⟩
 have hol:out.length<=s.length+1:=by
  have:=congrArg List.length inv
  rw [List.length_append] at this; omega
 have p1:=aee s .i64 start hst
 have a1:F8 false 1 16 (vT out) (.sl true [[.str (s.drop start)]])=some (.sl true (vT (out++[s.drop start]))):=by
  have:=aeZ 1 16 (vT out) true (vT [s.drop start]) (abc _) (abc _) (by rw [aaA,aaA]; simp; omega)
  rw [alq] at this
  exact this
 simp only [c9,p1,a1,inv]
 exact j8.here rfl
theorem ax1 (s:Bs) (hs:s.length<=4000000):qc ae8 [.str s]=some (.bool (ac8 s)):=by
 have e0:pc S8 [.str s,.int .u8 46]=_:=arB s 46 hs
 have hcnt:s.count 46<=s.length:=List.count_le_length
 have hlen:=ado 46 s
 refine y4 (H:=[]) ?_ (by simp only [c9]) rfl
 show cv _ _ _=_
 rw [apR]
 have go:l6 T4 [.str s,.sl false (vT (j7 46 s)),.int .i64 ((0:Nat):Int)] []=if (j7 46 s).any (fun t => !aaY t)=true then some (1,[.bool false],[]) else some (0,[.str s],[]):=by
  have first:∀ (i:Nat) (h:i<(j7 46 s).length),T4 [.str s,.sl false (vT (j7 46 s)),.int .i64 (i:Nat)] []=if (fun t => !aaY t) (j7 46 s)[i]=true then some (some 1,[.bool false],[]) else some (none,[.str s,.sl false (vT (j7 46 s)),.int .i64 ((i+1:Nat):Int)],[]):=by
   intro i hi
   have i1:=P8 false (j7 46 s) .i64 i hi
   have hsm:=afe 46 s _ (List.getElem_mem hi)
   have e1:=aoS (j7 46 s)[i] (by omega)
   have e2:b7 (.int .i64) .add (.int .i64 (i:Int)) (.int .i64 1)=some (.int .i64 ((i+1:Nat):Int)):=A0 _ i 1 (by omega)
   rw [agi]
   simp only [c9,i1,e1,e2,show ((i:Int)<((j7 46 s).length:Int)) from by omega]
  have last:T4 [.str s,.sl false (vT (j7 46 s)),.int .i64 ((j7 46 s).length:Nat)] []=some (some 0,[.str s],[]):=by
   rw [agi]
   simp only [c9,show ¬ (((j7 46 s).length:Int)<((j7 46 s).length:Int)) from by omega]
  have loop:=adl (B:=T4) (S:=fun i=>[.str s,.sl false (vT (j7 46 s)),.int .i64 (i:Nat)]) (H:=[]) (m0:=0) (m1:=1) (vs0:=[.str s]) (vs1:=[.bool false]) (j7 46 s) (fun t => !aaY t)
   (fun i hi=>first i hi) last
  exact loop
 have loop':l6 T4 [.str s,.sl false (vT (j7 46 s)),.int .i64 0] []=_:=go
 simp only [c9,e0,loop',ac8]
 by_cases hb:((j7 46 s).any fun t => !aaY t)=true
 ·simp only [c9,hb,Bool.and_false]
 ·simp only [c9,hb]
  by_cases h:s.length<=30
  ·simp [h,hb]; omega
  ·simp [h,hb]; omega
theorem awo (s:Bs) (hs:s.length<=4000000):qc aep [.str s]=some (.bool (V7 s)):=by
 have e0:pc S8 [.str s,.int .u8 46]=_:=arB s 46 hs
 have hcnt:s.count 46<=s.length:=List.count_le_length
 have hlen:=ado 46 s
 refine y4 (H:=[]) ?_ (by simp only [c9]) rfl
 show cv _ _ _=_
 rw [an1]
 have go:l6 Q7 [.str s,.sl false (vT (j7 46 s)),.int .i64 ((0:Nat):Int)] []=if (j7 46 s).any (fun t => !ae3 t)=true then some (1,[.bool false],[]) else some (0,[.str s],[]):=by
  have first:∀ (i:Nat) (h:i<(j7 46 s).length),Q7 [.str s,.sl false (vT (j7 46 s)),.int .i64 (i:Nat)] []=if (fun t => !ae3 t) (j7 46 s)[i]=true then some (some 1,[.bool false],[]) else some (none,[.str s,.sl false (vT (j7 46 s)),.int .i64 ((i+1:Nat):Int)],[]):=by
   intro i hi
   have i1:=P8 false (j7 46 s) .i64 i hi
   have hsm:=afe 46 s _ (List.getElem_mem hi)
   have e2:b7 (.int .i64) .add (.int .i64 (i:Int)) (.int .i64 1)=some (.int .i64 ((i+1:Nat):Int)):=A0 _ i 1 (by omega)
   have inner:=adl (B:=ace) (S:=fun j=>[.str s,.sl false (vT (j7 46 s)),.int .i64 (i:Nat),.str (j7 46 s)[i],.int .i64 (j:Nat)]) (H:=[]) (m0:=0) (m1:=1) (vs0:=[.str s,.sl false (vT (j7 46 s)),.int .i64 (i:Nat)]) (vs1:=[.bool false]) (j7 46 s)[i] (fun b => !adW b.toNat)
    (fun j hj=>by
     have j1:=aal (j7 46 s)[i] .i64 j hj
     have e4:b7 (.int .i64) .add (.int .i64 (j:Int)) (.int .i64 1)=some (.int .i64 ((j+1:Nat):Int)):=A0 _ j 1 (by omega)
     rw [afA]
     generalize ((j7 46 s)[i])[j]=b at *
     have e1:=apM (b.toNat:Int)
     simp only [c9,j1,e1,show ((j:Int)<(((j7 46 s)[i]).length:Int)) from by omega]
     by_cases h1:ajU (b.toNat:Int)=true
     ·by_cases h2:(b.toNat:Int)>=65
      ·by_cases h3:(b.toNat:Int)<=90
       ·have:adW (b.toNat:Int)=false:=decide_eq_false (by simp only [ajU,decide_eq_true_eq] at h1; omega)
        simp only [c9,h1,h2,h3,this]
       ·have:adW (b.toNat:Int)=true:=decide_eq_true (by simp only [ajU,decide_eq_true_eq] at h1; omega)
        simp only [c9,h1,h2,h3,this,e4]
      ·have:adW (b.toNat:Int)=true:=decide_eq_true (by simp only [ajU,decide_eq_true_eq] at h1; omega)
       simp only [c9,h1,h2,this,e4]
     ·by_cases h4:(b.toNat:Int)=45
      ·have:adW (b.toNat:Int)=true:=decide_eq_true (by omega)
       have h5:ajU 45=false:=by decide
       have h6:adW 45=true:=by decide
       simp only [c9,h5,h6,h4,e4,show ¬ ((45:Int)>=65) from by decide]
      ·have:adW (b.toNat:Int)=false:=decide_eq_false (by simp only [ajU,decide_eq_true_eq] at h1; omega)
       simp only [c9,h1,h4,this])
    (by
     rw [afA]
     simp only [c9,show ¬ ((((j7 46 s)[i]).length:Int)<(((j7 46 s)[i]).length:Int)) from by omega])
   rw [afC]
   generalize hp:(j7 46 s)[i]=p at *
   have inner':l6 ace [.str s,.sl false (vT (j7 46 s)),.int .i64 (i:Nat),.str p,.int .i64 0] []=_:=inner
   by_cases h0:p=[]
   ·subst h0
    simp only [c9,i1,show ((i:Int)<((j7 46 s).length:Int)) from by omega]
    rfl
   ·have hl:0<p.length:=List.length_pos_iff.2 h0
    have p1:A9 (.str p) (.int .i64 0)=some (.int .u8 (p[0].toNat:Int)):=aal p .i64 0 hl
    have e3:b7 (.int .i64) .sub (.int .i64 (p.length:Int)) (.int .i64 1)=some (.int .i64 ((p.length-1:Nat):Int)):=ac7 _ p.length 1 (by omega) (by omega)
    have p2:=aal p .i64 (p.length-1) (by omega)
    have hd:p.head? = some p[0]:=by rw [List.head?_eq_getElem?,List.getElem?_eq_getElem hl]
    have hz:p.getLast? = some p[p.length-1]:=by rw [List.getLast?_eq_getElem?,List.getElem?_eq_getElem (by omega)]
    have k:∀ b:UInt8,((b.toNat:Int)=45)<->b=45:=fun b=>by
     constructor
     ·intro h
      have:b.toNat=45:=by omega
      exact UInt8.toNat_inj.1 (by rw [this]; rfl)
     ·intro h; subst h; rfl
    have hall:(p.all fun b=>adW b.toNat) = !(p.any fun b => !adW b.toNat):=by rw [List.not_any_eq_all_not]; simp
    simp only [c9,i1,h0,p1,e3,p2,k,ae3,hd,hz,hall,show ((i:Int)<((j7 46 s).length:Int)) from by omega]
    by_cases h1:p[0]=45
    ·simp [c9,h1]
    ·by_cases h2:p[p.length-1]=45
     ·simp [c9,h1,h2]
     ·by_cases h3:(p.any fun b => !adW b.toNat)=true
      ·rw [if_pos h3] at inner'
       simp only [c9,h1,h2,inner']
       simp [h0,h1,h2,h3]
      ·rw [if_neg h3] at inner'
       simp only [c9,h1,h2,inner',e2]
       simp [h0,h1,h2,h3]
  have last:Q7 [.str s,.sl false (vT (j7 46 s)),.int .i64 ((j7 46 s).length:Nat)] []=some (some 0,[.str s],[]):=by
   rw [afC]
   simp only [c9,show ¬ (((j7 46 s).length:Int)<((j7 46 s).length:Int)) from by omega]
  have loop:=adl (B:=Q7) (S:=fun i=>[.str s,.sl false (vT (j7 46 s)),.int .i64 (i:Nat)]) (H:=[]) (m0:=0) (m1:=1) (vs0:=[.str s]) (vs1:=[.bool false]) (j7 46 s) (fun t => !ae3 t)
   (fun i hi=>first i hi) last
  exact loop
 have loop':l6 Q7 [.str s,.sl false (vT (j7 46 s)),.int .i64 0] []=_:=go
 simp only [c9,e0,loop',V7]
 by_cases hb:((j7 46 s).any fun t => !ae3 t)=true
 ·simp only [c9,hb,Bool.and_false]
 ·simp only [c9,hb]
  by_cases h:s.length<=40
  ·simp [h,hb]; omega
  ·simp [h,hb]; omega
theorem aAy (s:Bs) (hs:s.length<=4000000):qc afM [.str s]=some (.bool (A6 s&&decide (s.length<=40))):=by
 have e1:=aeE s (by omega)
 refine y4 (H:=[]) ?_ (by simp only [c9]) rfl
 show cv _ _ _=_
 rw [aro]
 have:decide ((s.length:Int)<=40)=decide (s.length<=40):=decide_eq_decide.2 (by omega)
 simp only [c9,e1,this]
 by_cases h:A6 s=true<;>simp [h]
theorem akY (n l d:Bs) (hn:n.length<=4000000) (hl:l.length<=4000000) (hd:d.length<=4000000):qc ab7 [.agg [.str n,.str l,.str d]]=some (.bool (ag5 n l d)):=by
 have e1:=aAy n hn
 have e2:=ax1 l hl
 have e3:=awo d hd
 refine y4 (H:=[]) ?_ (by simp only [c9]) rfl
 show cv _ _ _=_
 rw [akK]
 simp only [c9,e1,e2,e3,ag5]
 by_cases h1:(A6 n&&decide (n.length<=40))=true
 ·by_cases h2:(l.length:Int)<=30
  ·by_cases h3:ac8 l=true
   ·by_cases h4:(d.length:Int)<=40
    ·simp [h1,h2,h3,h4]
    ·have:V7 d=false:=by unfold V7; rw [decide_eq_false (by omega),Bool.false_and]
     simp [h1,h2,h3,h4,this]
   ·simp [h1,h2,h3]
  ·have:ac8 l=false:=by unfold ac8; rw [decide_eq_false (by omega),Bool.false_and]
   simp [h1,h2,this]
 ·simp [h1]
theorem at2 {b:UInt8} (h1:65<=(b.toNat:Int)) (h2:(b.toNat:Int)<=90):((aeq b).toNat:Int)=(b.toNat:Int)+32:=by
 unfold aeq
 rw [if_pos (by omega),UInt8.toNat_add]
 have:(32:UInt8).toNat=32:=rfl
 omega
theorem amy {b:UInt8} (h:¬ (65<=(b.toNat:Int)/\(b.toNat:Int)<=90)):aeq b=b:=by
 unfold aeq
 rw [if_neg (by omega)]
def abL (s:Bs) (i:Nat):Bs:=(s.take i).map aeq++s.drop i
theorem ah2 (s:Bs) (i:Nat):(abL s i).length=s.length:=by simp [abL]; omega
theorem akh (s:Bs) (i:Nat) (h:i<s.length):(abL s i)[i]'(by rw [ah2]; exact h)=s[i]:=by
 simp only [abL]
 rw [List.getElem_append_right (by simp; omega)]
 simp only [List.length_map,List.length_take,List.getElem_drop]
 congr 1; omega
theorem aic (s:Bs) (i:Nat) (h:i<s.length):(abL s i).set i (aeq s[i])=abL s (i+1):=by
 have h0:((s.take i).map aeq).length=i:=by simp; omega
 conv=>lhs; rw [abL,List.drop_eq_getElem_cons h,List.set_append_right _ _ (by omega),h0,Nat.sub_self,List.set_cons_zero]
 rw [abL,List.take_succ_eq_append_getElem h,List.map_append,List.append_assoc]
 rfl
theorem aub (s:Bs):abL s s.length=B4 s:=by simp [abL,B4]
theorem aoq (s:Bs) (hs:s.length<=1000000000):qc abq [.str s]=some (.str (B4 s)):=by
 suffices h:j8 (cv abq [.str s] []) fun r=>r.1 = .str (B4 s) by
  obtain ⟨⟨v,H⟩,e,h⟩:=h
  have h:v=_:=h
  subst h
  exact y4 e (by simp only [c9]) rfl
 rw [am3]
 simp only [c9,aBb,al1,List.nil_append]
 refine j8.N1 (I:=fun n st H=>∃ i:Nat,n=s.length-i/\i<=s.length/\st=[.y1 0 0 s.length 1,.int .i64 (i:Nat)]/\H[0]? = some (cB (abL s i)))
  (P:=fun m vs H=>m=0/\vs=[.y1 0 0 s.length 1]/\H[0]? = some (cB (B4 s))) (n:=s.length) ?_ ⟨0,by omega,by omega,rfl,by simp [abL]⟩ ?_
 ·rintro n st H ⟨i,rfl,hi,rfl,hk⟩
  rw [akC]
  by_cases hlt:i<s.length
  ·have ho:=apw 0 0 s.length 1 .i64 i hlt
   have hl:=aCS (g:=l5) (i:=i) hk (by rw [ah2]; exact hlt)
   rw [akh s i hlt] at hl
   have e2:b7 (.int .i64) .add (.int .i64 (i:Int)) (.int .i64 1)=some (.int .i64 ((i+1:Nat):Int)):=A0 _ i 1 (by omega)
   have hst:=aCV (i:=i) (aeq s[i]) hk (by rw [ah2]; exact hlt)
   rw [aic s i hlt] at hst
   simp only [Nat.zero_add,Nat.mul_one] at ho
   have hself:(abL s i).set i s[i]=abL s i:=by
    have h:=akh s i hlt
    rw [<-h]
    exact List.set_getElem_self _
   have stay:aeq s[i]=s[i]->H[0]? = some (cB (abL s (i+1))):=fun hb=>by
    rw [hk,<-aic s i hlt,hb,hself]
   by_cases h1:(s[i].toNat:Int)>=65
   ·by_cases h2:(s[i].toNat:Int)<=90
    ·have e3:=azs (.int .u8) (s[i].toNat:Int) 32 (by omega) (by omega)
     rw [<-at2 h1 h2] at e3
     simp only [c9,ho,hl,h1,h2,e3,hst,e2,show ((i:Int)<(s.length:Int)) from by omega]
     exact ⟨_,rfl,.inr ⟨rfl,s.length-(i+1),by omega,i+1,rfl,by omega,rfl,by rw [List.getElem?_set,if_pos rfl,if_pos (List.getElem?_eq_some_iff.1 hk).1]⟩⟩
    ·simp only [c9,ho,hl,h1,h2,e2,show ((i:Int)<(s.length:Int)) from by omega]
     exact ⟨_,rfl,.inr ⟨rfl,s.length-(i+1),by omega,i+1,rfl,by omega,rfl,stay (amy (by omega))⟩⟩
   ·simp only [c9,ho,hl,h1,e2,show ((i:Int)<(s.length:Int)) from by omega]
    exact ⟨_,rfl,.inr ⟨rfl,s.length-(i+1),by omega,i+1,rfl,by omega,rfl,stay (amy (by omega))⟩⟩
  ·have:i=s.length:=by omega
   subst this
   simp only [c9,show ¬ ((s.length:Int)<(s.length:Int)) from by omega]
   exact ⟨_,rfl,.inl ⟨0,rfl,rfl,rfl,by rw [hk,aub]⟩⟩
 rintro _ _ H ⟨rfl,rfl,hk⟩
 have hb:=aB1 hk
 have hl:(B4 s).length=s.length:=by simp [B4]
 rw [hl] at hb
 simp only [c9,hb]
 exact j8.here rfl
theorem aAM (s:Bs) (a:Nat) (ha:a<s.length) (hs:s.length<=1000000000):∃ t j,qc adp [.str s,.int .i64 (a:Nat)]=some (.n9 [.str t,.int .i64 j])/\(j<0\/∃ k:Nat,j=k/\a<k/\k<=s.length):=by
 suffices h:j8 (cv adp [.str s,.int .i64 (a:Nat)] []) fun r=>∃ t j,r.1 = .n9 [.str t,.int .i64 j]/\(j<0\/∃ k:Nat,j=k/\a<k/\k<=s.length) by
  obtain ⟨⟨v,H⟩,e,t,j,h,hj⟩:=h
  have h:v=_:=h
  subst h
  exact ⟨t,j,y4 e (by simp only [c9]) (by simp only [c9]),hj⟩
 have e0:b7 (.int .i64) .add (.int .i64 (a:Int)) (.int .i64 1)=some (.int .i64 ((a+1:Nat):Int)):=A0 _ a 1 (by omega)
 rw [aq6]
 simp only [c9,e0]
 refine j8.N1 (I:=fun n st H=>∃ (i:Nat) (t:Bs),n=s.length-i/\a<i/\i<=s.length/\t.length<=i/\st=[.str s,.str t,.int .i64 (i:Nat)])
  (P:=fun m vs H=>(m=0/\vs=[])\/∃ (t:Bs) (j:Int),m=1/\vs=[.str t,.int .i64 j]/\(j<0\/∃ k:Nat,j=k/\a<k/\k<=s.length)) (n:=s.length-(a+1)) ?_ ⟨a+1,[],rfl,by omega,by omega,by simp,rfl⟩ ?_
 ·rintro n st H ⟨i,t,rfl,hai,hi,ht,rfl⟩
  rw [amX]
  by_cases hlt:i<s.length
  ·have i1:=aal s .i64 i hlt
   have e2:b7 (.int .i64) .add (.int .i64 (i:Int)) (.int .i64 1)=some (.int .i64 ((i+1:Nat):Int)):=A0 _ i 1 (by omega)
   by_cases h1:(s[i].toNat:Int)=34
   ·simp only [c9,i1,h1,e2,show ((i:Int)<(s.length:Int)) from by omega]
    exact ⟨_,rfl,.inl ⟨1,rfl,.inr ⟨t,_,rfl,rfl,.inr ⟨i+1,rfl,by omega,by omega⟩⟩⟩⟩
   ·by_cases h2:(s[i].toNat:Int)=92
    ·by_cases h3:i+1=s.length
     ·simp only [c9,i1,h1,h2,e2,show ¬ ((92:Int)=34) from by decide,show (((i+1:Nat):Int)=(s.length:Int)) from by omega,show ((i:Int)<(s.length:Int)) from by omega]
      exact ⟨_,rfl,.inl ⟨1,rfl,.inr ⟨[],-1,rfl,rfl,.inl (by omega)⟩⟩⟩
     ·have e3:b7 (.int .i64) .add (.int .i64 ((i+1:Nat):Int)) (.int .i64 1)=some (.int .i64 ((i+1+1:Nat):Int)):=A0 _ (i+1) 1 (by omega)
      have p1:=asL s .i64 .i64 (i+1) (i+1+1) (by omega) (by omega)
      have a1:=D9 .str t ((s.drop (i+1)).take (i+1+1-(i+1))) (by simp; omega)
      simp only [c9,i1,h1,h2,e2,e3,p1,a1,show ¬ ((92:Int)=34) from by decide,show ¬ (((i+1:Nat):Int)=(s.length:Int)) from by omega,show ((i:Int)<(s.length:Int)) from by omega]
      exact ⟨_,rfl,.inr ⟨rfl,s.length-(i+1+1),by omega,i+1+1,_,rfl,by omega,by omega,by simp; omega,rfl⟩⟩
    ·have p1:=asL s .i64 .i64 i (i+1) (by omega) (by omega)
     have a1:=D9 .str t ((s.drop i).take (i+1-i)) (by simp; omega)
     simp only [c9,i1,h1,h2,e2,p1,a1,show ((i:Int)<(s.length:Int)) from by omega]
     exact ⟨_,rfl,.inr ⟨rfl,s.length-(i+1),by omega,i+1,_,rfl,by omega,by omega,by simp; omega,rfl⟩⟩
  ·simp only [c9,show ¬ ((i:Int)<(s.length:Int)) from by omega]
   exact ⟨_,rfl,.inl ⟨0,rfl,.inl ⟨rfl,rfl⟩⟩⟩
 rintro _ _ H (⟨rfl,rfl⟩ | ⟨t,j,rfl,rfl,hj⟩)
 ·simp only [c9]
  exact j8.here ⟨[],-1,rfl,.inl (by omega)⟩
 ·simp only [c9]
  exact j8.here ⟨t,j,rfl,hj⟩
def anI (c:UInt8) (s a z:Bs) (ok:Bool):Prop:=((34:UInt8) ∉ E4 c s/\a=E4 c s/\z=E5 c s/\ok=decide (c ∈ s))\/((34:UInt8) ∈ E4 c s/\(34:UInt8) ∈ a/\a.length<=s.length/\z.length<=s.length)
theorem aCH {c:UInt8} {s:Bs} {i:Nat} (hi:i<s.length) (h:s[i]=c) (hn:c ∉ s.take i):c ∈ s/\s.idxOf c=i:=by
 have hm:c ∈ s:=by rw [<-h]; exact List.getElem_mem hi
 refine ⟨hm,?_⟩
 have e:s=s.take i++c::s.drop (i+1):=by
  conv=>lhs; rw [<-List.take_append_drop i s,List.drop_eq_getElem_cons hi,h]
 rw [e,List.idxOf_append,if_neg hn]
 simp; omega
theorem aCt (s:Bs) (c:UInt8) (hc:c ≠ 34) (hs:s.length<=1000000000):∃ a z ok,qc acv [.str s,.int .u8 (c.toNat:Int)]=some (.n9 [.str a,.str z,.bool ok])/\anI c s a z ok:=by
 suffices h:j8 (cv acv [.str s,.int .u8 (c.toNat:Int)] []) fun r=>∃ a z ok,r.1 = .n9 [.str a,.str z,.bool ok]/\anI c s a z ok by
  obtain ⟨⟨v,H⟩,e,a,z,ok,h,hj⟩:=h
  have h:v=_:=h
  subst h
  exact ⟨a,z,ok,y4 e (by simp only [c9]) (by simp only [c9]),hj⟩
 rw [asq]
 refine j8.N1 (I:=fun n st H=>∃ (i:Nat),n=s.length-i/\i<=s.length/\st=[.str s,.int .u8 (c.toNat:Int),.int .i64 (i:Nat)]/\((c ∉ s.take i/\(34:UInt8) ∉ s.take i)\/((34:UInt8) ∈ s.take i/\(34:UInt8) ∈ E4 c s)))
  (P:=fun m vs H=>(m=0/\vs=[.str s]/\anI c s s [] false)\/∃ a z ok,m=1/\vs=[.str a,.str z,.bool ok]/\anI c s a z ok) (n:=s.length) ?_ ⟨0,by omega,by omega,rfl,.inl ⟨by simp,by simp⟩⟩ ?_
 ·rintro n st H ⟨i,rfl,hi,rfl,inv⟩
  rw [anX]
  by_cases hlt:i<s.length
  ·have i1:=aal s .i64 i hlt
   have hts:s.take (i+1)=s.take i++[s[i]]:=List.take_succ_eq_append_getElem hlt
   have e2:b7 (.int .i64) .add (.int .i64 (i:Int)) (.int .i64 1)=some (.int .i64 ((i+1:Nat):Int)):=A0 _ i 1 (by omega)
   by_cases h1:(s[i].toNat:Int)=34
   ·have hq:s[i]=34:=UInt8.toNat_inj.1 (by rw [show s[i].toNat=34 from by omega]; rfl)
    have hA:(34:UInt8) ∈ E4 c s:=by
     rcases inv with ⟨hn,_⟩ | ⟨_,h⟩
     ·unfold E4
      split
      ·rename_i hm
       have hge:i+1<=s.idxOf c:=by
        by_cases hlt2:s.idxOf c<i+1
        ·exfalso
         have hlt3:=List.idxOf_lt_length_iff.2 hm
         have hg:s[s.idxOf c]=c:=List.getElem_idxOf hlt3
         by_cases he:s.idxOf c=i
         ·simp only [he] at hg; rw [hq] at hg; exact hc hg.symm
         ·exact hn (by
           have:c=(s.take i)[s.idxOf c]'(by simp; omega):=by rw [List.getElem_take,hg]
           rw [this]; exact List.getElem_mem _)
        ·omega
       have:(34:UInt8) ∈ s.take (i+1):=by rw [hts,hq]; simp
       exact List.take_subset_take_left s hge this
      ·rw [<-hq]; exact List.getElem_mem hlt
     ·exact h
    obtain ⟨t,j,e3,hj⟩:=aAM s i hlt hs
    rcases hj with hj | ⟨k,rfl,hk1,hk2⟩
    ·simp only [c9,i1,h1,e3,hj,show ((i:Int)<(s.length:Int)) from by omega]
     exact ⟨_,rfl,.inl ⟨1,rfl,.inr ⟨s,[],false,rfl,rfl,.inr ⟨hA,by rw [<-hq]; exact List.getElem_mem hlt,by simp,by simp⟩⟩⟩⟩
    ·simp only [c9,i1,h1,e3,show ¬ ((k:Int)<0) from by omega,show ((i:Int)<(s.length:Int)) from by omega]
     refine ⟨_,rfl,.inr ⟨rfl,s.length-k,by omega,k,rfl,hk2,rfl,.inr ⟨?_,hA⟩⟩⟩
     have:(34:UInt8) ∈ s.take (i+1):=by rw [hts,hq]; simp
     exact List.take_subset_take_left s hk1 this
   ·have hq:¬ (34:UInt8)=s[i]:=fun e=>h1 (by rw [<-e]; rfl)
    have hk:((s[i].toNat:Int)=(c.toNat:Int))<->s[i]=c:=by
     constructor
     ·intro h; exact UInt8.toNat_inj.1 (by omega)
     ·intro h; rw [h]
    by_cases h2:s[i]=c
    ·have p1:=aij s .i64 i (by omega)
     have p2:=aee s .i64 (i+1) (by omega)
     have h3:¬ (c.toNat:Int)=34:=by rw [<-h2]; exact h1
     rw [h2] at i1
     simp only [c9,i1,h3,e2,p1,p2,show ((i:Int)<(s.length:Int)) from by omega]
     refine ⟨_,rfl,.inl ⟨1,rfl,.inr ⟨s.take i,s.drop (i+1),true,rfl,rfl,?_⟩⟩⟩
     rcases inv with ⟨hn,hn2⟩ | ⟨h,hA⟩
     ·obtain ⟨hm,hix⟩:=aCH hlt h2 hn
      have eA:E4 c s=s.take i:=by unfold E4; rw [if_pos hm,hix]
      have eZ:E5 c s=s.drop (i+1):=by unfold E5; rw [if_pos hm,hix]
      exact .inl ⟨by rw [eA]; exact hn2,eA.symm,eZ.symm,(decide_eq_true hm).symm⟩
     ·exact .inr ⟨hA,h,by simp; omega,by simp⟩
    ·simp only [c9,i1,h1,hk,h2,e2,show ((i:Int)<(s.length:Int)) from by omega]
     refine ⟨_,rfl,.inr ⟨rfl,s.length-(i+1),by omega,i+1,rfl,by omega,rfl,?_⟩⟩
     rcases inv with ⟨hn,hn2⟩ | ⟨h,hA⟩
     ·refine .inl ⟨fun h=>?_,fun h=>?_⟩
      ·rw [hts,List.mem_append,List.mem_singleton] at h
       rcases h with h | h
       ·exact hn h
       ·exact h2 h.symm
      ·rw [hts,List.mem_append,List.mem_singleton] at h
       rcases h with h | h
       ·exact hn2 h
       ·exact hq h
     ·exact .inr ⟨by rw [hts,List.mem_append]; exact .inl h,hA⟩
  ·have:i=s.length:=by omega
   subst this
   simp only [c9,show ¬ ((s.length:Int)<(s.length:Int)) from by omega]
   refine ⟨_,rfl,.inl ⟨0,rfl,.inl ⟨rfl,rfl,?_⟩⟩⟩
   rw [List.take_length] at inv
   rcases inv with ⟨hn,hn2⟩ | ⟨h,hA⟩
   ·have eA:E4 c s=s:=by unfold E4; rw [if_neg hn]
    have eZ:E5 c s=[]:=by unfold E5; rw [if_neg hn]
    exact .inl ⟨by rw [eA]; exact hn2,eA.symm,eZ.symm,(decide_eq_false hn).symm⟩
   ·exact .inr ⟨hA,h,by simp,by simp⟩
 rintro _ _ H (⟨rfl,rfl,h⟩ | ⟨a,z,ok,rfl,rfl,h⟩)
 ·simp only [c9]
  exact j8.here ⟨s,[],false,rfl,h⟩
 ·simp only [c9]
  exact j8.here ⟨a,z,ok,rfl,h⟩
theorem anI.len {c:UInt8} {s a z:Bs} {ok:Bool} (h:anI c s a z ok):a.length<=s.length/\z.length<=s.length:=by
 rcases h with ⟨_,rfl,rfl,_⟩ | ⟨_,_,h⟩
 ·exact ⟨ajD c s,ahF c s⟩
 ·exact h
theorem aCD (s:Bs) (hs:s.length<=4000000):∃ a z ok,pc agw [.str s]=some (.n9 [.agg [.str [],.str a,.str (B4 z)],.bool (ok&&ag5 [] a (B4 z))])/\anI 64 s a z ok:=by
 obtain ⟨a,z,ok,e1,hR⟩:=aCt s 64 (by decide) (by omega)
 have hl:=hR.len
 have e1':qc acv [.str s,.int .u8 64]=_:=e1
 have e2:=aoq z (by omega)
 have e3:=akY [] a (B4 z) (by simp) (by omega) (by simp [B4]; omega)
 refine ⟨a,z,ok,Y9 (H:=[]) ?_ (by simp only [c9]) (by simp only [c9]),hR⟩
 show cv _ _ _=_
 rw [asr]
 simp only [c9,e1',e2,e3]
 by_cases h:ok=true
 ·simp [h]
 ·simp [h]
theorem aug (s:Bs) (hs:s.length<=4000000):qc adH [.str s]=some (.bool (G0 s)):=by
 obtain ⟨a,z,ok,e1,hR⟩:=aCD s hs
 have hl:=hR.len
 have hlow:(B4 z).length=z.length:=by simp [B4]
 have a1:=D9 .str a [64] (by simp; omega)
 have a2:=D9 .str (a++[64]) (B4 z) (by simp [hlow]; omega)
 refine y4 (H:=[]) ?_ (by simp only [c9]) rfl
 show cv _ _ _=_
 rw [ari]
 simp only [c9,e1,a1,a2]
 have key:G0 s=(ok&&ag5 [] a (B4 z)&&decide (a++[64]++B4 z=s)):=by
  rcases hR with ⟨hq,rfl,rfl,rfl⟩ | ⟨hq,hok,_,_⟩
  ·unfold G0
   by_cases hm:(64:UInt8) ∈ s
   ·rw [decide_eq_true hm,Bool.true_and,Bool.true_and]
    have ht:ag5 [] (E4 64 s) (B4 (E5 64 s))=(ac8 (E4 64 s)&&V7 (B4 (E5 64 s))):=by
     unfold ag5
     rw [show (A6 []&&decide (([]:Bs).length<=40))=true from rfl,Bool.true_and]
    rw [ht]
    by_cases hz:B4 (E5 64 s)=E5 64 s
    ·rw [hz,decide_eq_true (akn hm).symm,Bool.and_true]
    ·have h1:V7 (E5 64 s)=false:=by
      cases h:V7 (E5 64 s) with
      | false=>rfl
      | true=>exact absurd (awe h) hz
     have h2:¬ (E4 64 s++[64]++B4 (E5 64 s)=s):=fun h=>by
      have h3:=akn hm
      exact hz (List.append_cancel_left (h.trans h3))
     rw [h1,decide_eq_false h2,Bool.and_false,Bool.and_false]
   ·rw [decide_eq_false hm]; rfl
  ·have h1:G0 s=false:=by unfold G0; rw [awd hq,Bool.false_and,Bool.and_false]
   rw [h1]
   cases ok with
   | false=>rfl
   | true =>
     have h2:=awd hok
     have:ag5 [] a (B4 z)=false:=by unfold ag5; rw [h2,Bool.false_and,Bool.and_false]
     rw [this]; rfl
 rw [key]
 by_cases h:(ok&&ag5 [] a (B4 z))=true
 ·simp only [c9,h,Bool.true_and]
 ·simp only [c9,h,Bool.false_and]
  try simp
end Go.Proofs.YtaapfgpeeghmeaaGreatDoor.Q

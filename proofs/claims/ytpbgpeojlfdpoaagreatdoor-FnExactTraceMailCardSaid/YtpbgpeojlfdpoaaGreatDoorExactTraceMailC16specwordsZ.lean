/- Contracts: bytes, words, texts cut at a byte, in the reference. -/
import Derived.Test.YtpbgpeojlfdpoaaGreatDoorExactTraceMailC12wordsZ
namespace Go.Proofs.YtpbgpeojlfdpoaaGreatDoor.Q
open Go Go.AM
set_option linter.unusedSimpArgs false
set_option linter.unusedVariables false
set_option linter.unusedSectionVars false
def ag6 (c:Int):Bool:=decide (97<=c/\c<=122\/65<=c/\c<=90\/48<=c/\c<=57)
def agq:Bs:=[33,35,36,37,38,39,42,43,45,47,61,63,94,95,96,123,124,125,126]
def acG (b:UInt8):UInt8:=if 65<=b.toNat/\b.toNat<=90 then b+32 else b
def F2 (s:Bs):Bs:=s.map acG
def aeB (n l d:Bs):Bool:=(O3 n&&decide (n.length<=40))&&(abi l&&U2 d)
def agM (cur:Bs):List Bs->List Bs
 | []=>[cur]
 | x::r=>(cur++x)::r
theorem amU (c:UInt8) (s:Bs):agM [] (j5 c s)=j5 c s:=by
 cases h:j5 c s with
 | nil=>exact absurd h (acB c s)
 | cons x r=>rfl
theorem arI (c b:UInt8) (cur l:Bs):agM cur (j5 c (b::l))=if b=c then cur::j5 c l else agM (cur++[b]) (j5 c l):=by
 conv=>lhs; unfold j5
 by_cases h:b=c
 ·simp [h,agM]
 ·rw [if_neg h,if_neg h]
  cases e:j5 c l with
  | nil=>exact absurd e (acB c l)
  | cons x r=>simp [agM]
theorem aeM (c:UInt8) (s:Bs):∀ b ∈ s,b=c\/∃ t ∈ j5 c s,b ∈ t:=by
 induction s with
 | nil=>intro b hb; cases hb
 | cons x l ih =>
   intro b hb
   unfold j5
   by_cases h:x=c
   ·rw [if_pos h]
    rcases List.mem_cons.1 hb with rfl | hb
    ·exact .inl h
    ·rcases ih b hb with h1 | ⟨t,h1,h2⟩
     ·exact .inl h1
     ·exact .inr ⟨t,by simp [h1],h2⟩
   ·rw [if_neg h]
    cases e:j5 c l with
    | nil=>exact absurd e (acB c l)
    | cons y r =>
      rcases List.mem_cons.1 hb with rfl | hb
      ·exact .inr ⟨b::y,by simp,by simp⟩
      ·rcases ih b hb with h1 | ⟨t,h1,h2⟩
       ·exact .inl h1
       ·rw [e] at h1
        rcases List.mem_cons.1 h1 with rfl | h1
        ·exact .inr ⟨x::t,by simp,by simp [h2]⟩
        ·exact .inr ⟨t,by simp [h1],h2⟩
theorem awT {s:Bs} (h:U2 s=true):F2 s=s:=by
 simp only [U2,Bool.and_eq_true,Bool.not_eq_true',List.any_eq_false] at h
 unfold F2
 have:∀ b ∈ s,acG b=b:=by
  intro b hb
  rcases aeM 46 s b hb with rfl | ⟨t,h1,h2⟩
  ·rfl
  ·have h3:acW t=true:=by have:=h.2 t h1; simpa using this
   simp only [acW,Bool.and_eq_true,List.all_eq_true] at h3
   have h4:=h3.2 b h2
   simp only [abM,decide_eq_true_eq] at h4
   unfold acG
   rw [if_neg (by omega)]
 exact (List.map_congr_left this).trans (List.map_id _)
theorem aq1 {s:Bs} (h:(34:UInt8) ∈ s):abi s=false:=by
 by_cases hl:abi s=true
 ·exfalso
  simp only [abi,Bool.and_eq_true,Bool.not_eq_true',List.any_eq_false] at hl
  rcases aeM 46 s 34 h with h0 | ⟨t,h1,h2⟩
  ·exact absurd h0 (by decide)
  ·have h3:U7 t=true:=by have:=hl.2 t h1; simpa using this
   simp only [U7,Bool.and_eq_true,List.all_eq_true] at h3
   have h4:=h3.2 34 h2
   exact absurd h4 (by decide)
 ·simpa using hl
theorem alm (c:Int):qc aap [.int .u8 c]=some (.bool (ag6 c)):=by
 refine o7 (H:=[]) ?_ rfl rfl
 show cv _ _ _=_
 rw [akk]
 simp only [g9,decide_eq_true_eq,ag6]
 repeat' (first | (exact congrArg (fun b=>some (V.bool b,([]:VH))) (decide_eq_true (by omega)).symm) | (exact congrArg (fun b=>some (V.bool b,([]:VH))) (decide_eq_false (by omega)).symm) | (exact congrArg (fun b=>some (V.bool b,([]:VH))) (decide_eq_decide.2 (by omega))) | (refine akI (fun h=>?_) (fun h=>?_)))
theorem aur (c:Int):qc adr [.int .u8 c]=some (.bool (abA c)):=by
 have e1:=alm c
 refine o7 (H:=[]) ?_ rfl rfl
 show cv _ _ _=_
 rw [amg]
 have loop:=ab2 (B:=abJ) (S:=fun i=>[.int .u8 c,.int .i64 (i:Nat)]) (H:=[]) (m0:=0) (m1:=1) (vs0:=[.int .u8 c]) (vs1:=[.bool true]) agq (fun b=>decide (c=(b.toNat:Int)))
  (fun i hi=>by
   have hl:agq.length=19:=rfl
   have i1:y5 (.str [33,35,36,37,38,39,42,43,45,47,61,63,94,95,96,123,124,125,126]) (.int .i64 (i:Int))=some (.int .u8 ((agq[i]).toNat:Int)):=aam agq .i64 i hi
   have e2:b9 (.int .i64) .add (.int .i64 (i:Int)) (.int .i64 1)=some (.int .i64 ((i+1:Nat):Int)):=A6 _ i 1 (by omega)
   rw [aen]
   simp only [g9,i1,e2,show ((i:Int)<19) from by omega])
  (by
   rw [aen]
   rfl)
 have loop':m9 abJ [.int .u8 c,.int .i64 0] []=_:=loop
 have ha:(agq.any fun b=>decide (c=(b.toNat:Int)))=decide (c=33\/c=35\/c=36\/c=37\/c=38\/c=39\/c=42\/c=43\/c=45\/c=47\/c=61\/c=63\/c=94\/c=95\/c=96\/c=123\/c=124\/c=125\/c=126):=by
  simp [agq]
 simp only [g9,loop',ha,decide_eq_true_eq]
 by_cases h:c=33\/c=35\/c=36\/c=37\/c=38\/c=39\/c=42\/c=43\/c=45\/c=47\/c=61\/c=63\/c=94\/c=95\/c=96\/c=123\/c=124\/c=125\/c=126
 ·have:abA c=true:=decide_eq_true (by omega)
  rw [if_pos h]
  simp only [g9,this]
 ·have:abA c=ag6 c:=decide_eq_decide.2 (by omega)
  rw [if_neg h]
  simp only [g9,this,e1]
theorem akL (s:Bs) (hs:s.length<=1000000000):qc abQ [.str s]=some (.bool (U7 s)):=by
 refine o7 (H:=[]) ?_ (by simp only [g9]) rfl
 show cv _ _ _=_
 rw [ajh]
 have loop:=ab2 (B:=W6) (S:=fun i=>[.str s,.int .i64 (i:Nat)]) (H:=[]) (m0:=0) (m1:=1) (vs0:=[.str s]) (vs1:=[.bool false]) (s.take 41) (fun b => !abA b.toNat)
  (fun i hi=>by
   have hi':i<s.length/\i<41:=by simp at hi; omega
   have i1:=aam s .i64 i hi'.1
   have e1:=aur (s[i].toNat:Int)
   have e2:b9 (.int .i64) .add (.int .i64 (i:Int)) (.int .i64 1)=some (.int .i64 ((i+1:Nat):Int)):=A6 _ i 1 (by omega)
   rw [ac8]
   simp only [g9,i1,e1,e2,List.getElem_take,show ((i:Int)<(s.length:Int)) from by omega,show ((i:Int)<=40) from by omega])
  (by
   rw [ac8]
   by_cases h:s.length<=40
   ·have:(s.take 41).length=s.length:=by simp; omega
    simp only [g9,this,show ¬ ((s.length:Int)<(s.length:Int)) from by omega]
   ·have:(s.take 41).length=41:=by simp; omega
    by_cases h2:(((41:Nat):Int)<(s.length:Int))
    ·simp only [g9,this,h2,show ¬ (((41:Nat):Int)<=40) from by decide]
    ·simp only [g9,this,h2])
 have loop':m9 W6 [.str s,.int .i64 0] []=_:=loop
 simp only [g9,loop']
 by_cases h:s.length<=40
 ·have ht:s.take 41=s:=List.take_of_length_le (by omega)
  have e:(s.all fun b=>abA b.toNat) = !(s.any fun b => !abA b.toNat):=by rw [List.not_any_eq_all_not]; simp
  rw [ht]
  unfold U7
  rw [e]
  by_cases hb:(s.any fun b => !abA b.toNat)=true
  ·simp only [g9,hb,Bool.and_false]
  ·by_cases h1:1<=s.length
   ·simp only [g9,hb,show ((s.length:Int)>=1) from by omega,show ((s.length:Int)<=40) from by omega,show 1<=s.length/\s.length<=40 from ⟨h1,h⟩,Bool.true_and]
    simp [hb]
   ·simp only [g9,hb,show ¬ ((s.length:Int)>=1) from by omega,show ¬ (1<=s.length/\s.length<=40) from by omega,Bool.false_and]
 ·have:U7 s=false:=by unfold U7; rw [decide_eq_false (by omega),Bool.false_and]
  rw [this]
  by_cases hb:((s.take 41).any fun b => !abA b.toNat)=true
  ·simp only [g9,hb]
  ·simp only [g9,hb,show ((s.length:Int)>=1) from by omega,show ¬ ((s.length:Int)<=40) from by omega]
theorem afr (s:Bs) (hs:s.length<=1000000000):qc Y2 [.str s]=some (.bool (O3 s)):=by
 refine o7 (H:=[]) ?_ (by simp only [g9]) rfl
 show cv _ _ _=_
 rw [ajq]
 have loop:=ab2 (B:=W3) (S:=fun i=>[.str s,.int .i64 (i:Nat)]) (H:=[]) (m0:=0) (m1:=1) (vs0:=[.str s]) (vs1:=[.bool false]) (s.take 201) (fun b=>wrB b.toNat)
  (fun i hi=>by
   have hi':i<s.length/\i<201:=by simp at hi; omega
   have i1:=aam s .i64 i hi'.1
   have e2:b9 (.int .i64) .add (.int .i64 (i:Int)) (.int .i64 1)=some (.int .i64 ((i+1:Nat):Int)):=A6 _ i 1 (by omega)
   rw [acU]
   simp only [g9,i1,e2,wrB,List.getElem_take,show ((i:Int)<(s.length:Int)) from by omega,show ((i:Int)<=200) from by omega]
   by_cases e:(s[i].toNat:Int)<32
   ·simp only [g9,e,true_or]
   ·by_cases e3:(s[i].toNat:Int)>126
    ·simp only [g9,e,e3,show (126:Int)<(s[i].toNat:Int) from e3,or_true]
    ·simp only [g9,e,e2,e3,show ¬ (126:Int)<(s[i].toNat:Int) from e3,or_false])
  (by
   rw [acU]
   by_cases h:s.length<=200
   ·have:(s.take 201).length=s.length:=by simp; omega
    simp only [g9,this,show ¬ ((s.length:Int)<(s.length:Int)) from by omega]
   ·have:(s.take 201).length=201:=by simp; omega
    by_cases h2:(((201:Nat):Int)<(s.length:Int))
    ·simp only [g9,this,h2,show ¬ (((201:Nat):Int)<=200) from by decide]
    ·simp only [g9,this,h2])
 have loop':m9 W3 [.str s,.int .i64 0] []=_:=loop
 simp only [g9,loop']
 by_cases h:s.length<=200
 ·have ht:s.take 201=s:=List.take_of_length_le (by omega)
  rw [ht]
  unfold O3
  by_cases hb:(s.any fun b=>wrB b.toNat)=true
  ·simp only [g9,hb,Bool.false_and]
  ·simp only [g9,hb,h,show ((s.length:Int)<=200) from by omega,Bool.and_true]
   try simp [hb]
 ·have:O3 s=false:=by unfold O3; rw [decide_eq_false (by omega),Bool.and_false]
  rw [this]
  by_cases hb:((s.take 201).any fun b=>wrB b.toNat)=true
  ·simp only [g9,hb]
  ·simp only [g9,hb,show ¬ ((s.length:Int)<=200) from by omega]
theorem anf (s:Bs) (c:UInt8) (hs:s.length<=4000000):pc M1 [.str s,.int .u8 (c.toNat:Int)]=some (.sl true (vT (j5 c s))):=by
 have hcnt:s.count c<=s.length:=List.count_le_length
 have hlen:=abu c s
 suffices h:p9 (cv M1 [.str s,.int .u8 (c.toNat:Int)] []) fun r=>r.1 = .sl true (vT (j5 c s)) by
  obtain ⟨⟨v,H⟩,e,h⟩:=h
  have h:v=_:=h
  subst h
  exact ahi e (by simp only [g9]) (by simp only [g9])
 rw [alJ]
 refine p9.T6 (I:=fun n st H=>∃ (i start:Nat) (out:List Bs),n=s.length-i/\i<=s.length/\start<=i/\st=[.str s,.int .u8 (c.toNat:Int),.sl true (vT out),.int .i64 (start:Nat),.int .i64 (i:Nat)]/\out++agM ((s.drop start).take (i-start)) (j5 c (s.drop i))=j5 c s)
  (P:=fun m vs H=>∃ (start:Nat) (out:List Bs),m=0/\vs=[.str s,.sl true (vT out),.int .i64 (start:Nat)]/\start<=s.length/\out++[s.drop start]=j5 c s) (n:=s.length) ?_ ⟨0,0,[],by omega,by omega,by omega,rfl,by simpa using amU c s⟩ ?_
 ·rintro n st H ⟨i,start,out,rfl,hi,hst,rfl,inv⟩
  rw [aip]
  have hol:out.length<=s.length+1:=by
   have:=congrArg List.length inv
   rw [List.length_append] at this; omega
  by_cases hlt:i<s.length
  ·have i1:=aam s .i64 i hlt
   have e2:b9 (.int .i64) .add (.int .i64 (i:Int)) (.int .i64 1)=some (.int .i64 ((i+1:Nat):Int)):=A6 _ i 1 (by omega)
   rw [List.drop_eq_getElem_cons hlt,arI] at inv
   have hk:((s[i].toNat:Int)=(c.toNat:Int))<->s[i]=c:=by
    constructor
    ·intro h; exact UInt8.toNat_inj.1 (by omega)
    ·intro h; rw [h]
   by_cases he:s[i]=c
   ·rw [if_pos he] at inv
    have p1:=anI s .i64 .i64 start i (by omega) (by omega)
    have a1:Q9 false 1 16 (vT out) (.sl true [[.str ((s.drop start).take (i-start))]])=some (.sl true (vT (out++[(s.drop start).take (i-start)]))):=by
     have:=akS 1 16 (vT out) true (vT [(s.drop start).take (i-start)]) (aaY _) (aaY _) (by rw [U9,U9]; simp; omega)
     rw [alQ] at this
     exact this
    simp only [g9,i1,e2,hk,he,p1,a1,show ((i:Int)<(s.length:Int)) from by omega]
    refine ⟨_,rfl,.inr ⟨rfl,s.length-(i+1),by omega,i+1,i+1,_,rfl,by omega,by omega,rfl,?_⟩⟩
    rw [Nat.sub_self,List.take_zero,amU,List.append_assoc]
    exact inv
   ·rw [if_neg he] at inv
    simp only [g9,i1,e2,hk,he,show ((i:Int)<(s.length:Int)) from by omega]
    refine ⟨_,rfl,.inr ⟨rfl,s.length-(i+1),by omega,i+1,start,out,rfl,by omega,by omega,rfl,?_⟩⟩
    have:(s.drop start).take (i+1-start)=(s.drop start).take (i-start)++[s[i]]:=by
     rw [show i+1-start=(i-start)+1 from by omega,List.take_succ_eq_append_getElem (by simp; omega)]
     congr 2
     simp only [List.getElem_drop]
     congr 1; omega
    rw [this]
    exact inv
  ·have:i=s.length:=by omega
   subst this
   simp only [g9,show ¬ ((s.length:Int)<(s.length:Int)) from by omega]
   refine ⟨_,rfl,.inl ⟨0,rfl,start,out,rfl,rfl,hst,?_⟩⟩
   rw [List.drop_length] at inv
   simp only [j5,agM,List.append_nil] at inv
   rw [List.take_of_length_le (by simp)] at inv
   exact inv
 rintro _ _ H ⟨start,out,rfl,rfl,hst,inv⟩
 have hol:out.length<=s.length+1:=by
  have:=congrArg List.length inv
  rw [List.length_append] at this; omega
 have p1:=anH s .i64 start hst
 have a1:Q9 false 1 16 (vT out) (.sl true [[.str (s.drop start)]])=some (.sl true (vT (out++[s.drop start]))):=by
  have:=akS 1 16 (vT out) true (vT [s.drop start]) (aaY _) (aaY _) (by rw [U9,U9]; simp; omega)
  rw [alQ] at this
  exact this
 simp only [g9,p1,a1,inv]
 exact p9.here rfl
theorem asX (s:Bs) (hs:s.length<=4000000):qc acT [.str s]=some (.bool (abi s)):=by
 have e0:pc M1 [.str s,.int .u8 46]=_:=anf s 46 hs
 have hcnt:s.count 46<=s.length:=List.count_le_length
 have hlen:=abu 46 s
 refine o7 (H:=[]) ?_ (by simp only [g9]) rfl
 show cv _ _ _=_
 rw [alI]
 have go:m9 M4 [.str s,.sl false (vT (j5 46 s)),.int .i64 ((0:Nat):Int)] []=if (j5 46 s).any (fun t => !U7 t)=true then some (1,[.bool false],[]) else some (0,[.str s],[]):=by
  have first:∀ (i:Nat) (h:i<(j5 46 s).length),M4 [.str s,.sl false (vT (j5 46 s)),.int .i64 (i:Nat)] []=if (fun t => !U7 t) (j5 46 s)[i]=true then some (some 1,[.bool false],[]) else some (none,[.str s,.sl false (vT (j5 46 s)),.int .i64 ((i+1:Nat):Int)],[]):=by
   intro i hi
   have i1:=Z9 false (j5 46 s) .i64 i hi
   have hsm:=ade 46 s _ (List.getElem_mem hi)
   have e1:=akL (j5 46 s)[i] (by omega)
   have e2:b9 (.int .i64) .add (.int .i64 (i:Int)) (.int .i64 1)=some (.int .i64 ((i+1:Nat):Int)):=A6 _ i 1 (by omega)
   rw [adV]
   simp only [g9,i1,e1,e2,show ((i:Int)<((j5 46 s).length:Int)) from by omega]
  have last:M4 [.str s,.sl false (vT (j5 46 s)),.int .i64 ((j5 46 s).length:Nat)] []=some (some 0,[.str s],[]):=by
   rw [adV]
   simp only [g9,show ¬ (((j5 46 s).length:Int)<((j5 46 s).length:Int)) from by omega]
  have loop:=ab2 (B:=M4) (S:=fun i=>[.str s,.sl false (vT (j5 46 s)),.int .i64 (i:Nat)]) (H:=[]) (m0:=0) (m1:=1) (vs0:=[.str s]) (vs1:=[.bool false]) (j5 46 s) (fun t => !U7 t)
   (fun i hi=>first i hi) last
  exact loop
 have loop':m9 M4 [.str s,.sl false (vT (j5 46 s)),.int .i64 0] []=_:=go
 simp only [g9,e0,loop',abi]
 by_cases hb:((j5 46 s).any fun t => !U7 t)=true
 ·simp only [g9,hb,Bool.and_false]
 ·simp only [g9,hb]
  by_cases h:s.length<=30
  ·simp [h,hb]; omega
  ·simp [h,hb]; omega
theorem akV (s:Bs) (hs:s.length<=4000000):qc aai [.str s]=some (.bool (U2 s)):=by
 have e0:pc M1 [.str s,.int .u8 46]=_:=anf s 46 hs
 have hcnt:s.count 46<=s.length:=List.count_le_length
 have hlen:=abu 46 s
 refine o7 (H:=[]) ?_ (by simp only [g9]) rfl
 show cv _ _ _=_
 rw [ajU]
 have go:m9 J9 [.str s,.sl false (vT (j5 46 s)),.int .i64 ((0:Nat):Int)] []=if (j5 46 s).any (fun t => !acW t)=true then some (1,[.bool false],[]) else some (0,[.str s],[]):=by
  have first:∀ (i:Nat) (h:i<(j5 46 s).length),J9 [.str s,.sl false (vT (j5 46 s)),.int .i64 (i:Nat)] []=if (fun t => !acW t) (j5 46 s)[i]=true then some (some 1,[.bool false],[]) else some (none,[.str s,.sl false (vT (j5 46 s)),.int .i64 ((i+1:Nat):Int)],[]):=by
   intro i hi
   have i1:=Z9 false (j5 46 s) .i64 i hi
   have hsm:=ade 46 s _ (List.getElem_mem hi)
   have e2:b9 (.int .i64) .add (.int .i64 (i:Int)) (.int .i64 1)=some (.int .i64 ((i+1:Nat):Int)):=A6 _ i 1 (by omega)
   have inner:=ab2 (B:=aat) (S:=fun j=>[.str s,.sl false (vT (j5 46 s)),.int .i64 (i:Nat),.str (j5 46 s)[i],.int .i64 (j:Nat)]) (H:=[]) (m0:=0) (m1:=1) (vs0:=[.str s,.sl false (vT (j5 46 s)),.int .i64 (i:Nat)]) (vs1:=[.bool false]) (j5 46 s)[i] (fun b => !abM b.toNat)
    (fun j hj=>by
     have j1:=aam (j5 46 s)[i] .i64 j hj
     have e4:b9 (.int .i64) .add (.int .i64 (j:Int)) (.int .i64 1)=some (.int .i64 ((j+1:Nat):Int)):=A6 _ j 1 (by omega)
     rw [adk]
     generalize ((j5 46 s)[i])[j]=b at *
     have e1:=alm (b.toNat:Int)
     simp only [g9,j1,e1,show ((j:Int)<(((j5 46 s)[i]).length:Int)) from by omega]
     by_cases h1:ag6 (b.toNat:Int)=true
     ·by_cases h2:(b.toNat:Int)>=65
      ·by_cases h3:(b.toNat:Int)<=90
       ·have:abM (b.toNat:Int)=false:=decide_eq_false (by simp only [ag6,decide_eq_true_eq] at h1; omega)
        simp only [g9,h1,h2,h3,this]
       ·have:abM (b.toNat:Int)=true:=decide_eq_true (by simp only [ag6,decide_eq_true_eq] at h1; omega)
        simp only [g9,h1,h2,h3,this,e4]
      ·have:abM (b.toNat:Int)=true:=decide_eq_true (by simp only [ag6,decide_eq_true_eq] at h1; omega)
       simp only [g9,h1,h2,this,e4]
     ·by_cases h4:(b.toNat:Int)=45
      ·have:abM (b.toNat:Int)=true:=decide_eq_true (by omega)
       have h5:ag6 45=false:=by decide
       have h6:abM 45=true:=by decide
       simp only [g9,h5,h6,h4,e4,show ¬ ((45:Int)>=65) from by decide]
      ·have:abM (b.toNat:Int)=false:=decide_eq_false (by simp only [ag6,decide_eq_true_eq] at h1; omega)
       simp only [g9,h1,h4,this])
    (by
     rw [adk]
     simp only [g9,show ¬ ((((j5 46 s)[i]).length:Int)<(((j5 46 s)[i]).length:Int)) from by omega])
   rw [adg]
   generalize hp:(j5 46 s)[i]=p at *
   have inner':m9 aat [.str s,.sl false (vT (j5 46 s)),.int .i64 (i:Nat),.str p,.int .i64 0] []=_:=inner
   by_cases h0:p=[]
   ·subst h0
    simp only [g9,i1,show ((i:Int)<((j5 46 s).length:Int)) from by omega]
    rfl
   ·have hl:0<p.length:=List.length_pos_iff.2 h0
    have p1:y5 (.str p) (.int .i64 0)=some (.int .u8 (p[0].toNat:Int)):=aam p .i64 0 hl
    have e3:b9 (.int .i64) .sub (.int .i64 (p.length:Int)) (.int .i64 1)=some (.int .i64 ((p.length-1:Nat):Int)):=ahI _ p.length 1 (by omega) (by omega)
    have p2:=aam p .i64 (p.length-1) (by omega)
    have hd:p.head? = some p[0]:=by rw [List.head?_eq_getElem?,List.getElem?_eq_getElem hl]
    have hz:p.getLast? = some p[p.length-1]:=by rw [List.getLast?_eq_getElem?,List.getElem?_eq_getElem (by omega)]
    have k:∀ b:UInt8,((b.toNat:Int)=45)<->b=45:=fun b=>by
     constructor
     ·intro h
      have:b.toNat=45:=by omega
      exact UInt8.toNat_inj.1 (by rw [this]; rfl)
     ·intro h; subst h; rfl
    have hall:(p.all fun b=>abM b.toNat) = !(p.any fun b => !abM b.toNat):=by rw [List.not_any_eq_all_not]; simp
    simp only [g9,i1,h0,p1,e3,p2,k,acW,hd,hz,hall,show ((i:Int)<((j5 46 s).length:Int)) from by omega]
    by_cases h1:p[0]=45
    ·simp [g9,h1]
    ·by_cases h2:p[p.length-1]=45
     ·simp [g9,h1,h2]
     ·by_cases h3:(p.any fun b => !abM b.toNat)=true
      ·rw [if_pos h3] at inner'
       simp only [g9,h1,h2,inner']
       simp [h0,h1,h2,h3]
      ·rw [if_neg h3] at inner'
       simp only [g9,h1,h2,inner',e2]
       simp [h0,h1,h2,h3]
  have last:J9 [.str s,.sl false (vT (j5 46 s)),.int .i64 ((j5 46 s).length:Nat)] []=some (some 0,[.str s],[]):=by
   rw [adg]
   simp only [g9,show ¬ (((j5 46 s).length:Int)<((j5 46 s).length:Int)) from by omega]
  have loop:=ab2 (B:=J9) (S:=fun i=>[.str s,.sl false (vT (j5 46 s)),.int .i64 (i:Nat)]) (H:=[]) (m0:=0) (m1:=1) (vs0:=[.str s]) (vs1:=[.bool false]) (j5 46 s) (fun t => !acW t)
   (fun i hi=>first i hi) last
  exact loop
 have loop':m9 J9 [.str s,.sl false (vT (j5 46 s)),.int .i64 0] []=_:=go
 simp only [g9,e0,loop',U2]
 by_cases hb:((j5 46 s).any fun t => !acW t)=true
 ·simp only [g9,hb,Bool.and_false]
 ·simp only [g9,hb]
  by_cases h:s.length<=40
  ·simp [h,hb]; omega
  ·simp [h,hb]; omega
theorem au8 (s:Bs) (hs:s.length<=4000000):qc adv [.str s]=some (.bool (O3 s&&decide (s.length<=40))):=by
 have e1:=afr s (by omega)
 refine o7 (H:=[]) ?_ (by simp only [g9]) rfl
 show cv _ _ _=_
 rw [amI]
 have:decide ((s.length:Int)<=40)=decide (s.length<=40):=decide_eq_decide.2 (by omega)
 simp only [g9,e1,this]
 by_cases h:O3 s=true<;>simp [h]
theorem ahE (n l d:Bs) (hn:n.length<=4000000) (hl:l.length<=4000000) (hd:d.length<=4000000):qc aay [.agg [.str n,.str l,.str d]]=some (.bool (aeB n l d)):=by
 have e1:=au8 n hn
 have e2:=asX l hl
 have e3:=akV d hd
 refine o7 (H:=[]) ?_ (by simp only [g9]) rfl
 show cv _ _ _=_
 rw [agQ]
 simp only [g9,e1,e2,e3,aeB]
 by_cases h1:(O3 n&&decide (n.length<=40))=true
 ·by_cases h2:(l.length:Int)<=30
  ·by_cases h3:abi l=true
   ·by_cases h4:(d.length:Int)<=40
    ·simp [h1,h2,h3,h4]
    ·have:U2 d=false:=by unfold U2; rw [decide_eq_false (by omega),Bool.false_and]
     simp [h1,h2,h3,h4,this]
   ·simp [h1,h2,h3]
  ·have:abi l=false:=by unfold abi; rw [decide_eq_false (by omega),Bool.false_and]
   simp [h1,h2,this]
 ·simp [h1]
theorem apw {b:UInt8} (h1:65<=(b.toNat:Int)) (h2:(b.toNat:Int)<=90):((acG b).toNat:Int)=(b.toNat:Int)+32:=by
 unfold acG
 rw [if_pos (by omega),UInt8.toNat_add]
 have:(32:UInt8).toNat=32:=rfl
 omega
theorem aiT {b:UInt8} (h:¬ (65<=(b.toNat:Int)/\(b.toNat:Int)<=90)):acG b=b:=by
 unfold acG
 rw [if_neg (by omega)]
def Z6 (s:Bs) (i:Nat):Bs:=(s.take i).map acG++s.drop i
theorem afk (s:Bs) (i:Nat):(Z6 s i).length=s.length:=by simp [Z6]; omega
theorem agZ (s:Bs) (i:Nat) (h:i<s.length):(Z6 s i)[i]'(by rw [afk]; exact h)=s[i]:=by
 simp only [Z6]
 rw [List.getElem_append_right (by simp; omega)]
 simp only [List.length_map,List.length_take,List.getElem_drop]
 congr 1; omega
theorem afE (s:Bs) (i:Nat) (h:i<s.length):(Z6 s i).set i (acG s[i])=Z6 s (i+1):=by
 have h0:((s.take i).map acG).length=i:=by simp; omega
 conv=>lhs; rw [Z6,List.drop_eq_getElem_cons h,List.set_append_right _ _ (by omega),h0,Nat.sub_self,List.set_cons_zero]
 rw [Z6,List.take_succ_eq_append_getElem h,List.map_append,List.append_assoc]
 rfl
theorem aoq (s:Bs):Z6 s s.length=F2 s:=by simp [Z6,F2]
theorem acg (s:Bs) (hs:s.length<=1000000000):qc M5 [.str s]=some (.str (F2 s)):=by
 suffices h:p9 (cv M5 [.str s] []) fun r=>r.1 = .str (F2 s) by
  obtain ⟨⟨v,H⟩,e,h⟩:=h
  have h:v=_:=h
  subst h
  exact o7 e (by simp only [g9]) rfl
 rw [aje]
 simp only [g9,awl,aid,List.nil_append]
 refine p9.T6 (I:=fun n st H=>∃ i:Nat,n=s.length-i/\i<=s.length/\st=[.o9 0 0 s.length 1,.int .i64 (i:Nat)]/\H[0]? = some (cB (Z6 s i)))
  (P:=fun m vs H=>m=0/\vs=[.o9 0 0 s.length 1]/\H[0]? = some (cB (F2 s))) (n:=s.length) ?_ ⟨0,by omega,by omega,rfl,by simp [Z6]⟩ ?_
 ·rintro n st H ⟨i,rfl,hi,rfl,hk⟩
  rw [ahe]
  by_cases hlt:i<s.length
  ·have ho:=ak4 0 0 s.length 1 .i64 i hlt
   have hl:=ax0 (g:=I7) (i:=i) hk (by rw [afk]; exact hlt)
   rw [agZ s i hlt] at hl
   have e2:b9 (.int .i64) .add (.int .i64 (i:Int)) (.int .i64 1)=some (.int .i64 ((i+1:Nat):Int)):=A6 _ i 1 (by omega)
   have hst:=axk (i:=i) (acG s[i]) hk (by rw [afk]; exact hlt)
   rw [afE s i hlt] at hst
   simp only [Nat.zero_add,Nat.mul_one] at ho
   have hself:(Z6 s i).set i s[i]=Z6 s i:=by
    have h:=agZ s i hlt
    rw [<-h]
    exact List.set_getElem_self _
   have stay:acG s[i]=s[i]->H[0]? = some (cB (Z6 s (i+1))):=fun hb=>by
    rw [hk,<-afE s i hlt,hb,hself]
   by_cases h1:(s[i].toNat:Int)>=65
   ·by_cases h2:(s[i].toNat:Int)<=90
    ·have e3:=asn (.int .u8) (s[i].toNat:Int) 32 (by omega) (by omega)
     rw [<-apw h1 h2] at e3
     simp only [g9,ho,hl,h1,h2,e3,hst,e2,show ((i:Int)<(s.length:Int)) from by omega]
     exact ⟨_,rfl,.inr ⟨rfl,s.length-(i+1),by omega,i+1,rfl,by omega,rfl,by rw [List.getElem?_set,if_pos rfl,if_pos (List.getElem?_eq_some_iff.1 hk).1]⟩⟩
    ·simp only [g9,ho,hl,h1,h2,e2,show ((i:Int)<(s.length:Int)) from by omega]
     exact ⟨_,rfl,.inr ⟨rfl,s.length-(i+1),by omega,i+1,rfl,by omega,rfl,stay (aiT (by omega))⟩⟩
   ·simp only [g9,ho,hl,h1,e2,show ((i:Int)<(s.length:Int)) from by omega]
    exact ⟨_,rfl,.inr ⟨rfl,s.length-(i+1),by omega,i+1,rfl,by omega,rfl,stay (aiT (by omega))⟩⟩
  ·have:i=s.length:=by omega
   subst this
   simp only [g9,show ¬ ((s.length:Int)<(s.length:Int)) from by omega]
   exact ⟨_,rfl,.inl ⟨0,rfl,rfl,rfl,by rw [hk,aoq]⟩⟩
 rintro _ _ H ⟨rfl,rfl,hk⟩
 have hb:=avP hk
 have hl:(F2 s).length=s.length:=by simp [F2]
 rw [hl] at hb
 simp only [g9,hb]
 exact p9.here rfl
theorem aup (s:Bs) (a:Nat) (ha:a<s.length) (hs:s.length<=1000000000):∃ t j,qc abH [.str s,.int .i64 (a:Nat)]=some (.A5 [.str t,.int .i64 j])/\(j<0\/∃ k:Nat,j=k/\a<k/\k<=s.length):=by
 suffices h:p9 (cv abH [.str s,.int .i64 (a:Nat)] []) fun r=>∃ t j,r.1 = .A5 [.str t,.int .i64 j]/\(j<0\/∃ k:Nat,j=k/\a<k/\k<=s.length) by
  obtain ⟨⟨v,H⟩,e,t,j,h,hj⟩:=h
  have h:v=_:=h
  subst h
  exact ⟨t,j,o7 e (by simp only [g9]) (by simp only [g9]),hj⟩
 have e0:b9 (.int .i64) .add (.int .i64 (a:Int)) (.int .i64 1)=some (.int .i64 ((a+1:Nat):Int)):=A6 _ a 1 (by omega)
 rw [amE]
 simp only [g9,e0]
 refine p9.T6 (I:=fun n st H=>∃ (i:Nat) (t:Bs),n=s.length-i/\a<i/\i<=s.length/\t.length<=i/\st=[.str s,.str t,.int .i64 (i:Nat)])
  (P:=fun m vs H=>(m=0/\vs=[])\/∃ (t:Bs) (j:Int),m=1/\vs=[.str t,.int .i64 j]/\(j<0\/∃ k:Nat,j=k/\a<k/\k<=s.length)) (n:=s.length-(a+1)) ?_ ⟨a+1,[],rfl,by omega,by omega,by simp,rfl⟩ ?_
 ·rintro n st H ⟨i,t,rfl,hai,hi,ht,rfl⟩
  rw [ajj]
  by_cases hlt:i<s.length
  ·have i1:=aam s .i64 i hlt
   have e2:b9 (.int .i64) .add (.int .i64 (i:Int)) (.int .i64 1)=some (.int .i64 ((i+1:Nat):Int)):=A6 _ i 1 (by omega)
   by_cases h1:(s[i].toNat:Int)=34
   ·simp only [g9,i1,h1,e2,show ((i:Int)<(s.length:Int)) from by omega]
    exact ⟨_,rfl,.inl ⟨1,rfl,.inr ⟨t,_,rfl,rfl,.inr ⟨i+1,rfl,by omega,by omega⟩⟩⟩⟩
   ·by_cases h2:(s[i].toNat:Int)=92
    ·by_cases h3:i+1=s.length
     ·simp only [g9,i1,h1,h2,e2,show ¬ ((92:Int)=34) from by decide,show (((i+1:Nat):Int)=(s.length:Int)) from by omega,show ((i:Int)<(s.length:Int)) from by omega]
      exact ⟨_,rfl,.inl ⟨1,rfl,.inr ⟨[],-1,rfl,rfl,.inl (by omega)⟩⟩⟩
     ·have e3:b9 (.int .i64) .add (.int .i64 ((i+1:Nat):Int)) (.int .i64 1)=some (.int .i64 ((i+1+1:Nat):Int)):=A6 _ (i+1) 1 (by omega)
      have p1:=anI s .i64 .i64 (i+1) (i+1+1) (by omega) (by omega)
      have a1:=aal .str t ((s.drop (i+1)).take (i+1+1-(i+1))) (by simp; omega)
      simp only [g9,i1,h1,h2,e2,e3,p1,a1,show ¬ ((92:Int)=34) from by decide,show ¬ (((i+1:Nat):Int)=(s.length:Int)) from by omega,show ((i:Int)<(s.length:Int)) from by omega]
      exact ⟨_,rfl,.inr ⟨rfl,s.length-(i+1+1),by omega,i+1+1,_,rfl,by omega,by omega,by simp; omega,rfl⟩⟩
    ·have p1:=anI s .i64 .i64 i (i+1) (by omega) (by omega)
     have a1:=aal .str t ((s.drop i).take (i+1-i)) (by simp; omega)
     simp only [g9,i1,h1,h2,e2,p1,a1,show ((i:Int)<(s.length:Int)) from by omega]
     exact ⟨_,rfl,.inr ⟨rfl,s.length-(i+1),by omega,i+1,_,rfl,by omega,by omega,by simp; omega,rfl⟩⟩
  ·simp only [g9,show ¬ ((i:Int)<(s.length:Int)) from by omega]
   exact ⟨_,rfl,.inl ⟨0,rfl,.inl ⟨rfl,rfl⟩⟩⟩
 rintro _ _ H (⟨rfl,rfl⟩ | ⟨t,j,rfl,rfl,hj⟩)
 ·simp only [g9]
  exact p9.here ⟨[],-1,rfl,.inl (by omega)⟩
 ·simp only [g9]
  exact p9.here ⟨t,j,rfl,hj⟩
def akz (c:UInt8) (s a z:Bs) (ok:Bool):Prop:=((34:UInt8) ∉ R2 c s/\a=R2 c s/\z=U0 c s/\ok=decide (c ∈ s))\/((34:UInt8) ∈ R2 c s/\(34:UInt8) ∈ a/\a.length<=s.length/\z.length<=s.length)
theorem awL {c:UInt8} {s:Bs} {i:Nat} (hi:i<s.length) (h:s[i]=c) (hn:c ∉ s.take i):c ∈ s/\s.idxOf c=i:=by
 have hm:c ∈ s:=by rw [<-h]; exact List.getElem_mem hi
 refine ⟨hm,?_⟩
 have e:s=s.take i++c::s.drop (i+1):=by
  conv=>lhs; rw [<-List.take_append_drop i s,List.drop_eq_getElem_cons hi,h]
 rw [e,List.idxOf_append,if_neg hn]
 simp; omega
theorem awW (s:Bs) (c:UInt8) (hc:c ≠ 34) (hs:s.length<=1000000000):∃ a z ok,qc aaF [.str s,.int .u8 (c.toNat:Int)]=some (.A5 [.str a,.str z,.bool ok])/\akz c s a z ok:=by
 suffices h:p9 (cv aaF [.str s,.int .u8 (c.toNat:Int)] []) fun r=>∃ a z ok,r.1 = .A5 [.str a,.str z,.bool ok]/\akz c s a z ok by
  obtain ⟨⟨v,H⟩,e,a,z,ok,h,hj⟩:=h
  have h:v=_:=h
  subst h
  exact ⟨a,z,ok,o7 e (by simp only [g9]) (by simp only [g9]),hj⟩
 rw [anC]
 refine p9.T6 (I:=fun n st H=>∃ (i:Nat),n=s.length-i/\i<=s.length/\st=[.str s,.int .u8 (c.toNat:Int),.int .i64 (i:Nat)]/\((c ∉ s.take i/\(34:UInt8) ∉ s.take i)\/((34:UInt8) ∈ s.take i/\(34:UInt8) ∈ R2 c s)))
  (P:=fun m vs H=>(m=0/\vs=[.str s]/\akz c s s [] false)\/∃ a z ok,m=1/\vs=[.str a,.str z,.bool ok]/\akz c s a z ok) (n:=s.length) ?_ ⟨0,by omega,by omega,rfl,.inl ⟨by simp,by simp⟩⟩ ?_
 ·rintro n st H ⟨i,rfl,hi,rfl,inv⟩
  rw [ajP]
  by_cases hlt:i<s.length
  ·have i1:=aam s .i64 i hlt
   have hts:s.take (i+1)=s.take i++[s[i]]:=List.take_succ_eq_append_getElem hlt
   have e2:b9 (.int .i64) .add (.int .i64 (i:Int)) (.int .i64 1)=some (.int .i64 ((i+1:Nat):Int)):=A6 _ i 1 (by omega)
   by_cases h1:(s[i].toNat:Int)=34
   ·have hq:s[i]=34:=UInt8.toNat_inj.1 (by rw [show s[i].toNat=34 from by omega]; rfl)
    have hA:(34:UInt8) ∈ R2 c s:=by
     rcases inv with ⟨hn,_⟩ | ⟨_,h⟩
     ·unfold R2
      split
      ·rename_i hm
       have hge:i+1<=s.idxOf c:=by
        by_cases hlt2:s.idxOf c<i+1
        ·exfalso
         have hlt3:=List.idxOf_lt_length_iff.2 hm
         have hg:s[s.idxOf c]=c:=List.getElem_idxOf hlt3
         by_cases he:s.idxOf c=i
         ·simp only [he] at hg; rw [hq] at hg; exact hc hg.symm
         ·exact hn (by
           have:c=(s.take i)[s.idxOf c]'(by simp; omega):=by rw [List.getElem_take,hg]
           rw [this]; exact List.getElem_mem _)
        ·omega
       have:(34:UInt8) ∈ s.take (i+1):=by rw [hts,hq]; simp
       exact List.take_subset_take_left s hge this
      ·rw [<-hq]; exact List.getElem_mem hlt
     ·exact h
    obtain ⟨t,j,e3,hj⟩:=aup s i hlt hs
    rcases hj with hj | ⟨k,rfl,hk1,hk2⟩
    ·simp only [g9,i1,h1,e3,hj,show ((i:Int)<(s.length:Int)) from by omega]
     exact ⟨_,rfl,.inl ⟨1,rfl,.inr ⟨s,[],false,rfl,rfl,.inr ⟨hA,by rw [<-hq]; exact List.getElem_mem hlt,by simp,by simp⟩⟩⟩⟩
    ·simp only [g9,i1,h1,e3,show ¬ ((k:Int)<0) from by omega,show ((i:Int)<(s.length:Int)) from by omega]
     refine ⟨_,rfl,.inr ⟨rfl,s.length-k,by omega,k,rfl,hk2,rfl,.inr ⟨?_,hA⟩⟩⟩
     have:(34:UInt8) ∈ s.take (i+1):=by rw [hts,hq]; simp
     exact List.take_subset_take_left s hk1 this
   ·have hq:¬ (34:UInt8)=s[i]:=fun e=>h1 (by rw [<-e]; rfl)
    have hk:((s[i].toNat:Int)=(c.toNat:Int))<->s[i]=c:=by
     constructor
     ·intro h; exact UInt8.toNat_inj.1 (by omega)
     ·intro h; rw [h]
    by_cases h2:s[i]=c
    ·have p1:=alV s .i64 i (by omega)
     have p2:=anH s .i64 (i+1) (by omega)
     have h3:¬ (c.toNat:Int)=34:=by rw [<-h2]; exact h1
     rw [h2] at i1
     simp only [g9,i1,h3,e2,p1,p2,show ((i:Int)<(s.length:Int)) from by omega]
     refine ⟨_,rfl,.inl ⟨1,rfl,.inr ⟨s.take i,s.drop (i+1),true,rfl,rfl,?_⟩⟩⟩
     rcases inv with ⟨hn,hn2⟩ | ⟨h,hA⟩
     ·obtain ⟨hm,hix⟩:=awL hlt h2 hn
      have eA:R2 c s=s.take i:=by unfold R2; rw [if_pos hm,hix]
      have eZ:U0 c s=s.drop (i+1):=by unfold U0; rw [if_pos hm,hix]
      exact .inl ⟨by rw [eA]; exact hn2,eA.symm,eZ.symm,(decide_eq_true hm).symm⟩
     ·exact .inr ⟨hA,h,by simp; omega,by simp⟩
    ·simp only [g9,i1,h1,hk,h2,e2,show ((i:Int)<(s.length:Int)) from by omega]
     refine ⟨_,rfl,.inr ⟨rfl,s.length-(i+1),by omega,i+1,rfl,by omega,rfl,?_⟩⟩
     rcases inv with ⟨hn,hn2⟩ | ⟨h,hA⟩
     ·refine .inl ⟨fun h=>?_,fun h=>?_⟩
      ·rw [hts,List.mem_append,List.mem_singleton] at h
       rcases h with h | h
       ·exact hn h
       ·exact h2 h.symm
      ·rw [hts,List.mem_append,List.mem_singleton] at h
       rcases h with h | h
       ·exact hn2 h
       ·exact hq h
     ·exact .inr ⟨by rw [hts,List.mem_append]; exact .inl h,hA⟩
  ·have:i=s.length:=by omega
   subst this
   simp only [g9,show ¬ ((s.length:Int)<(s.length:Int)) from by omega]
   refine ⟨_,rfl,.inl ⟨0,rfl,.inl ⟨rfl,rfl,?_⟩⟩⟩
   rw [List.take_length] at inv
   rcases inv with ⟨hn,hn2⟩ | ⟨h,hA⟩
   ·have eA:R2 c s=s:=by unfold R2; rw [if_neg hn]
    have eZ:U0 c s=[]:=by unfold U0; rw [if_neg hn]
    exact .inl ⟨by rw [eA]; exact hn2,eA.symm,eZ.symm,(decide_eq_false hn).symm⟩
   ·exact .inr ⟨hA,h,by simp,by simp⟩
 rintro _ _ H (⟨rfl,rfl,h⟩ | ⟨a,z,ok,rfl,rfl,h⟩)
 ·simp only [g9]
  exact p9.here ⟨s,[],false,rfl,h⟩
 ·simp only [g9]
  exact p9.here ⟨a,z,ok,rfl,h⟩
theorem akz.len {c:UInt8} {s a z:Bs} {ok:Bool} (h:akz c s a z ok):a.length<=s.length/\z.length<=s.length:=by
 rcases h with ⟨_,rfl,rfl,_⟩ | ⟨_,_,h⟩
 ·exact ⟨aoJ c s,aoP c s⟩
 ·exact h
theorem awD (s:Bs) (hs:s.length<=4000000):∃ a z ok,pc aef [.str s]=some (.A5 [.agg [.str [],.str a,.str (F2 z)],.bool (ok&&aeB [] a (F2 z))])/\akz 64 s a z ok:=by
 obtain ⟨a,z,ok,e1,hR⟩:=awW s 64 (by decide) (by omega)
 have hl:=hR.len
 have e1':qc aaF [.str s,.int .u8 64]=_:=e1
 have e2:=acg z (by omega)
 have e3:=ahE [] a (F2 z) (by simp) (by omega) (by simp [F2]; omega)
 refine ⟨a,z,ok,ahi (H:=[]) ?_ (by simp only [g9]) (by simp only [g9]),hR⟩
 show cv _ _ _=_
 rw [anA]
 simp only [g9,e1',e2,e3]
 by_cases h:ok=true
 ·simp [h]
 ·simp [h]
theorem aps (s:Bs) (hs:s.length<=4000000):qc abn [.str s]=some (.bool (L6 s)):=by
 obtain ⟨a,z,ok,e1,hR⟩:=awD s hs
 have hl:=hR.len
 have hlow:(F2 z).length=z.length:=by simp [F2]
 have a1:=aal .str a [64] (by simp; omega)
 have a2:=aal .str (a++[64]) (F2 z) (by simp [hlow]; omega)
 refine o7 (H:=[]) ?_ (by simp only [g9]) rfl
 show cv _ _ _=_
 rw [amJ]
 simp only [g9,e1,a1,a2]
 have key:L6 s=(ok&&aeB [] a (F2 z)&&decide (a++[64]++F2 z=s)):=by
  rcases hR with ⟨hq,rfl,rfl,rfl⟩ | ⟨hq,hok,_,_⟩
  ·unfold L6
   by_cases hm:(64:UInt8) ∈ s
   ·rw [decide_eq_true hm,Bool.true_and,Bool.true_and]
    have ht:aeB [] (R2 64 s) (F2 (U0 64 s))=(abi (R2 64 s)&&U2 (F2 (U0 64 s))):=by
     unfold aeB
     rw [show (O3 []&&decide (([]:Bs).length<=40))=true from rfl,Bool.true_and]
    rw [ht]
    by_cases hz:F2 (U0 64 s)=U0 64 s
    ·rw [hz,decide_eq_true (ajH hm).symm,Bool.and_true]
    ·have h1:U2 (U0 64 s)=false:=by
      cases h:U2 (U0 64 s) with
      | false=>rfl
      | true=>exact absurd (awT h) hz
     have h2:¬ (R2 64 s++[64]++F2 (U0 64 s)=s):=fun h=>by
      have h3:=ajH hm
      exact hz (List.append_cancel_left (h.trans h3))
     rw [h1,decide_eq_false h2,Bool.and_false,Bool.and_false]
   ·rw [decide_eq_false hm]; rfl
  ·have h1:L6 s=false:=by unfold L6; rw [aq1 hq,Bool.false_and,Bool.and_false]
   rw [h1]
   cases ok with
   | false=>rfl
   | true =>
     have h2:=aq1 hok
     have:aeB [] a (F2 z)=false:=by unfold aeB; rw [h2,Bool.false_and,Bool.and_false]
     rw [this]; rfl
 rw [key]
 by_cases h:(ok&&aeB [] a (F2 z))=true
 ·simp only [g9,h,Bool.true_and]
 ·simp only [g9,h,Bool.false_and]
  try simp
end Go.Proofs.YtpbgpeojlfdpoaaGreatDoor.Q

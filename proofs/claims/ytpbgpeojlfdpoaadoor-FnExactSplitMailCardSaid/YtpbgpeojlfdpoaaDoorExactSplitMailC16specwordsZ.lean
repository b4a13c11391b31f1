/- Contracts: bytes, words, texts cut at a byte, in the reference. -/
import Derived.Test.YtpbgpeojlfdpoaaDoorExactSplitMailC12wordsZ
namespace Go.Proofs.YtpbgpeojlfdpoaaDoor.Q
open Go Go.AM
set_option linter.unusedSimpArgs false
set_option linter.unusedVariables false
set_option linter.unusedSectionVars false
def afZ (c:Int):Bool:=decide (97<=c/\c<=122\/65<=c/\c<=90\/48<=c/\c<=57)
def afv:Bs:=[33,35,36,37,38,39,42,43,45,47,61,63,94,95,96,123,124,125,126]
def adD (b:UInt8):UInt8:=if 65<=b.toNat/\b.toNat<=90 then b+32 else b
def Q1 (s:Bs):Bs:=s.map adD
def ad0 (n l d:Bs):Bool:=(P6 n&&decide (n.length<=40))&&(abH l&&ace d)
def af5 (cur:Bs):List Bs->List Bs
 | []=>[cur]
 | x::r=>(cur++x)::r
theorem alU (c:UInt8) (s:Bs):af5 [] (c6 c s)=c6 c s:=by
 cases h:c6 c s with
 | nil=>exact absurd h (abU c s)
 | cons x r=>rfl
theorem apR (c b:UInt8) (cur l:Bs):af5 cur (c6 c (b::l))=if b=c then cur::c6 c l else af5 (cur++[b]) (c6 c l):=by
 conv=>lhs; unfold c6
 by_cases h:b=c
 ·simp [h,af5]
 ·rw [if_neg h,if_neg h]
  cases e:c6 c l with
  | nil=>exact absurd e (abU c l)
  | cons x r=>simp [af5]
theorem ajL (c:UInt8) (s:Bs):∀ b ∈ s,b=c\/∃ t ∈ c6 c s,b ∈ t:=by
 induction s with
 | nil=>intro b hb; cases hb
 | cons x l ih =>
   intro b hb
   unfold c6
   by_cases h:x=c
   ·rw [if_pos h]
    rcases List.mem_cons.1 hb with rfl | hb
    ·exact .inl h
    ·rcases ih b hb with h1 | ⟨t,h1,h2⟩
     ·exact .inl h1
     ·exact .inr ⟨t,by simp [h1],h2⟩
   ·rw [if_neg h]
    cases e:c6 c l with
    | nil=>exact absurd e (abU c l)
    | cons y r =>
      rcases List.mem_cons.1 hb with rfl | hb
      ·exact .inr ⟨b::y,by simp,by simp⟩
      ·rcases ih b hb with h1 | ⟨t,h1,h2⟩
       ·exact .inl h1
       ·rw [e] at h1
        rcases List.mem_cons.1 h1 with rfl | h1
        ·exact .inr ⟨x::t,by simp,by simp [h2]⟩
        ·exact .inr ⟨t,by simp [h1],h2⟩
theorem avd {s:Bs} (h:ace s=true):Q1 s=s:=by
 simp only [ace,Bool.and_eq_true,Bool.not_eq_true',List.any_eq_false] at h
 unfold Q1
 have:∀ b ∈ s,adD b=b:=by
  intro b hb
  rcases ajL 46 s b hb with rfl | ⟨t,h1,h2⟩
  ·rfl
  ·have h3:adz t=true:=by have:=h.2 t h1; simpa using this
   simp only [adz,Bool.and_eq_true,List.all_eq_true] at h3
   have h4:=h3.2 b h2
   simp only [abG,decide_eq_true_eq] at h4
   unfold adD
   rw [if_neg (by omega)]
 exact (List.map_congr_left this).trans (List.map_id _)
theorem akW {s:Bs} (h:(34:UInt8) ∈ s):abH s=false:=by
 by_cases hl:abH s=true
 ·exfalso
  simp only [abH,Bool.and_eq_true,Bool.not_eq_true',List.any_eq_false] at hl
  rcases ajL 46 s 34 h with h0 | ⟨t,h1,h2⟩
  ·exact absurd h0 (by decide)
  ·have h3:Y8 t=true:=by have:=hl.2 t h1; simpa using this
   simp only [Y8,Bool.and_eq_true,List.all_eq_true] at h3
   have h4:=h3.2 34 h2
   exact absurd h4 (by decide)
 ·simpa using hl
theorem ajW (c:Int):qc Y4 [.int .u8 c]=some (.bool (afZ c)):=by
 refine s7 (H:=[]) ?_ rfl rfl
 show cv _ _ _=_
 rw [ajd]
 simp only [b9,decide_eq_true_eq,afZ]
 repeat' (first | (exact congrArg (fun b=>some (V.bool b,([]:VH))) (decide_eq_true (by omega)).symm) | (exact congrArg (fun b=>some (V.bool b,([]:VH))) (decide_eq_false (by omega)).symm) | (exact congrArg (fun b=>some (V.bool b,([]:VH))) (decide_eq_decide.2 (by omega))) | (refine ai3 (fun h=>?_) (fun h=>?_)))
theorem ath (c:Int):qc acH [.int .u8 c]=some (.bool (abA c)):=by
 have e1:=ajW c
 refine s7 (H:=[]) ?_ rfl rfl
 show cv _ _ _=_
 rw [alq]
 have loop:=aat (B:=aaP) (S:=fun i=>[.int .u8 c,.int .i64 (i:Nat)]) (H:=[]) (m0:=0) (m1:=1) (vs0:=[.int .u8 c]) (vs1:=[.bool true]) afv (fun b=>decide (c=(b.toNat:Int)))
  (fun i hi=>by
   have hl:afv.length=19:=rfl
   have i1:p8 (.str [33,35,36,37,38,39,42,43,45,47,61,63,94,95,96,123,124,125,126]) (.int .i64 (i:Int))=some (.int .u8 ((afv[i]).toNat:Int)):=Y3 afv .i64 i hi
   have e2:a8 (.int .i64) .add (.int .i64 (i:Int)) (.int .i64 1)=some (.int .i64 ((i+1:Nat):Int)):=s9 _ i 1 (by omega)
   rw [adG]
   simp only [b9,i1,e2,show ((i:Int)<19) from by omega])
  (by
   rw [adG]
   rfl)
 have loop':j4 aaP [.int .u8 c,.int .i64 0] []=_:=loop
 have ha:(afv.any fun b=>decide (c=(b.toNat:Int)))=decide (c=33\/c=35\/c=36\/c=37\/c=38\/c=39\/c=42\/c=43\/c=45\/c=47\/c=61\/c=63\/c=94\/c=95\/c=96\/c=123\/c=124\/c=125\/c=126):=by
  simp [afv]
 simp only [b9,loop',ha,decide_eq_true_eq]
 by_cases h:c=33\/c=35\/c=36\/c=37\/c=38\/c=39\/c=42\/c=43\/c=45\/c=47\/c=61\/c=63\/c=94\/c=95\/c=96\/c=123\/c=124\/c=125\/c=126
 ·have:abA c=true:=decide_eq_true (by omega)
  rw [if_pos h]
  simp only [b9,this]
 ·have:abA c=afZ c:=decide_eq_decide.2 (by omega)
  rw [if_neg h]
  simp only [b9,this,e1]
theorem ajg (s:Bs) (hs:s.length<=1000000000):qc abf [.str s]=some (.bool (Y8 s)):=by
 refine s7 (H:=[]) ?_ (by simp only [b9]) rfl
 show cv _ _ _=_
 rw [ail]
 have loop:=aat (B:=U6) (S:=fun i=>[.str s,.int .i64 (i:Nat)]) (H:=[]) (m0:=0) (m1:=1) (vs0:=[.str s]) (vs1:=[.bool false]) (s.take 41) (fun b => !abA b.toNat)
  (fun i hi=>by
   have hi':i<s.length/\i<41:=by simp at hi; omega
   have i1:=Y3 s .i64 i hi'.1
   have e1:=ath (s[i].toNat:Int)
   have e2:a8 (.int .i64) .add (.int .i64 (i:Int)) (.int .i64 1)=some (.int .i64 ((i+1:Nat):Int)):=s9 _ i 1 (by omega)
   rw [abY]
   simp only [b9,i1,e1,e2,List.getElem_take,show ((i:Int)<(s.length:Int)) from by omega,show ((i:Int)<=40) from by omega])
  (by
   rw [abY]
   by_cases h:s.length<=40
   ·have:(s.take 41).length=s.length:=by simp; omega
    simp only [b9,this,show ¬ ((s.length:Int)<(s.length:Int)) from by omega]
   ·have:(s.take 41).length=41:=by simp; omega
    by_cases h2:(((41:Nat):Int)<(s.length:Int))
    ·simp only [b9,this,h2,show ¬ (((41:Nat):Int)<=40) from by decide]
    ·simp only [b9,this,h2])
 have loop':j4 U6 [.str s,.int .i64 0] []=_:=loop
 simp only [b9,loop']
 by_cases h:s.length<=40
 ·have ht:s.take 41=s:=List.take_of_length_le (by omega)
  have e:(s.all fun b=>abA b.toNat) = !(s.any fun b => !abA b.toNat):=by rw [List.not_any_eq_all_not]; simp
  rw [ht]
  unfold Y8
  rw [e]
  by_cases hb:(s.any fun b => !abA b.toNat)=true
  ·simp only [b9,hb,Bool.and_false]
  ·by_cases h1:1<=s.length
   ·simp only [b9,hb,show ((s.length:Int)>=1) from by omega,show ((s.length:Int)<=40) from by omega,show 1<=s.length/\s.length<=40 from ⟨h1,h⟩,Bool.true_and]
    simp [hb]
   ·simp only [b9,hb,show ¬ ((s.length:Int)>=1) from by omega,show ¬ (1<=s.length/\s.length<=40) from by omega,Bool.false_and]
 ·have:Y8 s=false:=by unfold Y8; rw [decide_eq_false (by omega),Bool.false_and]
  rw [this]
  by_cases hb:((s.take 41).any fun b => !abA b.toNat)=true
  ·simp only [b9,hb]
  ·simp only [b9,hb,show ((s.length:Int)>=1) from by omega,show ¬ ((s.length:Int)<=40) from by omega]
theorem aeh (s:Bs) (hs:s.length<=1000000000):qc V2 [.str s]=some (.bool (P6 s)):=by
 refine s7 (H:=[]) ?_ (by simp only [b9]) rfl
 show cv _ _ _=_
 rw [ah4]
 have loop:=aat (B:=U7) (S:=fun i=>[.str s,.int .i64 (i:Nat)]) (H:=[]) (m0:=0) (m1:=1) (vs0:=[.str s]) (vs1:=[.bool false]) (s.take 201) (fun b=>wrB b.toNat)
  (fun i hi=>by
   have hi':i<s.length/\i<201:=by simp at hi; omega
   have i1:=Y3 s .i64 i hi'.1
   have e2:a8 (.int .i64) .add (.int .i64 (i:Int)) (.int .i64 1)=some (.int .i64 ((i+1:Nat):Int)):=s9 _ i 1 (by omega)
   rw [acr]
   simp only [b9,i1,e2,wrB,List.getElem_take,show ((i:Int)<(s.length:Int)) from by omega,show ((i:Int)<=200) from by omega]
   by_cases e:(s[i].toNat:Int)<32
   ·simp only [b9,e,true_or]
   ·by_cases e3:(s[i].toNat:Int)>126
    ·simp only [b9,e,e3,show (126:Int)<(s[i].toNat:Int) from e3,or_true]
    ·simp only [b9,e,e2,e3,show ¬ (126:Int)<(s[i].toNat:Int) from e3,or_false])
  (by
   rw [acr]
   by_cases h:s.length<=200
   ·have:(s.take 201).length=s.length:=by simp; omega
    simp only [b9,this,show ¬ ((s.length:Int)<(s.length:Int)) from by omega]
   ·have:(s.take 201).length=201:=by simp; omega
    by_cases h2:(((201:Nat):Int)<(s.length:Int))
    ·simp only [b9,this,h2,show ¬ (((201:Nat):Int)<=200) from by decide]
    ·simp only [b9,this,h2])
 have loop':j4 U7 [.str s,.int .i64 0] []=_:=loop
 simp only [b9,loop']
 by_cases h:s.length<=200
 ·have ht:s.take 201=s:=List.take_of_length_le (by omega)
  rw [ht]
  unfold P6
  by_cases hb:(s.any fun b=>wrB b.toNat)=true
  ·simp only [b9,hb,Bool.false_and]
  ·simp only [b9,hb,h,show ((s.length:Int)<=200) from by omega,Bool.and_true]
   try simp [hb]
 ·have:P6 s=false:=by unfold P6; rw [decide_eq_false (by omega),Bool.and_false]
  rw [this]
  by_cases hb:((s.take 201).any fun b=>wrB b.toNat)=true
  ·simp only [b9,hb]
  ·simp only [b9,hb,show ¬ ((s.length:Int)<=200) from by omega]
theorem alC (s:Bs) (c:UInt8) (hs:s.length<=4000000):pc K0 [.str s,.int .u8 (c.toNat:Int)]=some (.sl true (vT (c6 c s))):=by
 have hcnt:s.count c<=s.length:=List.count_le_length
 have hlen:=aaY c s
 suffices h:o9 (cv K0 [.str s,.int .u8 (c.toNat:Int)] []) fun r=>r.1 = .sl true (vT (c6 c s)) by
  obtain ⟨⟨v,H⟩,e,h⟩:=h
  have h:v=_:=h
  subst h
  exact ahI e (by simp only [b9]) (by simp only [b9])
 rw [ajR]
 refine o9.P8 (I:=fun n st H=>∃ (i start:Nat) (out:List Bs),n=s.length-i/\i<=s.length/\start<=i/\st=[.str s,.int .u8 (c.toNat:Int),.sl true (vT out),.int .i64 (start:Nat),.int .i64 (i:Nat)]/\out++af5 ((s.drop start).take (i-start)) (c6 c (s.drop i))=c6 c s)
  (P:=fun m vs H=>∃ (start:Nat) (out:List Bs),m=0/\vs=[.str s,.sl true (vT out),.int .i64 (start:Nat)]/\start<=s.length/\out++[s.drop start]=c6 c s) (n:=s.length) ?_ ⟨0,0,[],by omega,by omega,by omega,rfl,by simpa using alU c s⟩ ?_
 ·rintro n st H ⟨i,start,out,rfl,hi,hst,rfl,inv⟩
  rw [ahz]
  have hol:out.length<=s.length+1:=by
   have:=congrArg List.length inv
   rw [List.length_append] at this; omega
  by_cases hlt:i<s.length
  ·have i1:=Y3 s .i64 i hlt
   have e2:a8 (.int .i64) .add (.int .i64 (i:Int)) (.int .i64 1)=some (.int .i64 ((i+1:Nat):Int)):=s9 _ i 1 (by omega)
   rw [List.drop_eq_getElem_cons hlt,apR] at inv
   have hk:((s[i].toNat:Int)=(c.toNat:Int))<->s[i]=c:=by
    constructor
    ·intro h; exact UInt8.toNat_inj.1 (by omega)
    ·intro h; rw [h]
   by_cases he:s[i]=c
   ·rw [if_pos he] at inv
    have p1:=ap4 s .i64 .i64 start i (by omega) (by omega)
    have a1:F1 false 1 16 (vT out) (.sl true [[.str ((s.drop start).take (i-start))]])=some (.sl true (vT (out++[(s.drop start).take (i-start)]))):=by
     have:=adV 1 16 (vT out) true (vT [(s.drop start).take (i-start)]) (W6 _) (W6 _) (by rw [P3,P3]; simp; omega)
     rw [am3] at this
     exact this
    simp only [b9,i1,e2,hk,he,p1,a1,show ((i:Int)<(s.length:Int)) from by omega]
    refine ⟨_,rfl,.inr ⟨rfl,s.length-(i+1),by omega,i+1,i+1,_,rfl,by omega,by omega,rfl,?_⟩⟩
    rw [Nat.sub_self,List.take_zero,alU,List.append_assoc]
    exact inv
   ·rw [if_neg he] at inv
    simp only [b9,i1,e2,hk,he,show ((i:Int)<(s.length:Int)) from by omega]
    refine ⟨_,rfl,.inr ⟨rfl,s.length-(i+1),by omega,i+1,start,out,rfl,by omega,by omega,rfl,?_⟩⟩
    have:(s.drop start).take (i+1-start)=(s.drop start).take (i-start)++[s[i]]:=by
     rw [show i+1-start=(i-start)+1 from by omega,List.take_succ_eq_append_getElem (by simp; omega)]
     congr 2
     simp only [List.getElem_drop]
     congr 1; omega
    rw [this]
    exact inv
  ·have:i=s.length:=by omega
   subst this
   simp only [b9,show ¬ ((s.length:Int)<(s.length:Int)) from by omega]
   refine ⟨_,rfl,.inl ⟨0,rfl,start,out,rfl,rfl,hst,?_⟩⟩
   rw [List.drop_length] at inv
   simp only [c6,af5,List.append_nil] at inv
   rw [List.take_of_length_le (by simp)] at inv
   exact inv
 rintro _ _ H ⟨start,out,rfl,rfl,hst,inv⟩
 have hol:out.length<=s.length+1:=by
  have:=congrArg List.length inv
  rw [List.length_append] at this; omega
 have p1:=amn s .i64 start hst
 have a1:F1 false 1 16 (vT out) (.sl true [[.str (s.drop start)]])=some (.sl true (vT (out++[s.drop start]))):=by
  have:=adV 1 16 (vT out) true (vT [s.drop start]) (W6 _) (W6 _) (by rw [P3,P3]; simp; omega)
  rw [am3] at this
  exact this
 simp only [b9,p1,a1,inv]
 exact o9.here rfl
theorem arI (s:Bs) (hs:s.length<=4000000):qc ab7 [.str s]=some (.bool (abH s)):=by
 have e0:pc K0 [.str s,.int .u8 46]=_:=alC s 46 hs
 have hcnt:s.count 46<=s.length:=List.count_le_length
 have hlen:=aaY 46 s
 refine s7 (H:=[]) ?_ (by simp only [b9]) rfl
 show cv _ _ _=_
 rw [akG]
 have go:j4 K8 [.str s,.sl false (vT (c6 46 s)),.int .i64 ((0:Nat):Int)] []=if (c6 46 s).any (fun t => !Y8 t)=true then some (1,[.bool false],[]) else some (0,[.str s],[]):=by
  have first:∀ (i:Nat) (h:i<(c6 46 s).length),K8 [.str s,.sl false (vT (c6 46 s)),.int .i64 (i:Nat)] []=if (fun t => !Y8 t) (c6 46 s)[i]=true then some (some 1,[.bool false],[]) else some (none,[.str s,.sl false (vT (c6 46 s)),.int .i64 ((i+1:Nat):Int)],[]):=by
   intro i hi
   have i1:=M0 false (c6 46 s) .i64 i hi
   have hsm:=ab8 46 s _ (List.getElem_mem hi)
   have e1:=ajg (c6 46 s)[i] (by omega)
   have e2:a8 (.int .i64) .add (.int .i64 (i:Int)) (.int .i64 1)=some (.int .i64 ((i+1:Nat):Int)):=s9 _ i 1 (by omega)
   rw [adh]
   simp only [b9,i1,e1,e2,show ((i:Int)<((c6 46 s).length:Int)) from by omega]
  have last:K8 [.str s,.sl false (vT (c6 46 s)),.int .i64 ((c6 46 s).length:Nat)] []=some (some 0,[.str s],[]):=by
   rw [adh]
   simp only [b9,show ¬ (((c6 46 s).length:Int)<((c6 46 s).length:Int)) from by omega]
  have loop:=aat (B:=K8) (S:=fun i=>[.str s,.sl false (vT (c6 46 s)),.int .i64 (i:Nat)]) (H:=[]) (m0:=0) (m1:=1) (vs0:=[.str s]) (vs1:=[.bool false]) (c6 46 s) (fun t => !Y8 t)
   (fun i hi=>first i hi) last
  exact loop
 have loop':j4 K8 [.str s,.sl false (vT (c6 46 s)),.int .i64 0] []=_:=go
 simp only [b9,e0,loop',abH]
 by_cases hb:((c6 46 s).any fun t => !Y8 t)=true
 ·simp only [b9,hb,Bool.and_false]
 ·simp only [b9,hb]
  by_cases h:s.length<=30
  ·simp [h,hb]; omega
  ·simp [h,hb]; omega
theorem aqf (s:Bs) (hs:s.length<=4000000):qc abK [.str s]=some (.bool (ace s)):=by
 have e0:pc K0 [.str s,.int .u8 46]=_:=alC s 46 hs
 have hcnt:s.count 46<=s.length:=List.count_le_length
 have hlen:=aaY 46 s
 refine s7 (H:=[]) ?_ (by simp only [b9]) rfl
 show cv _ _ _=_
 rw [aiM]
 have go:j4 J0 [.str s,.sl false (vT (c6 46 s)),.int .i64 ((0:Nat):Int)] []=if (c6 46 s).any (fun t => !adz t)=true then some (1,[.bool false],[]) else some (0,[.str s],[]):=by
  have first:∀ (i:Nat) (h:i<(c6 46 s).length),J0 [.str s,.sl false (vT (c6 46 s)),.int .i64 (i:Nat)] []=if (fun t => !adz t) (c6 46 s)[i]=true then some (some 1,[.bool false],[]) else some (none,[.str s,.sl false (vT (c6 46 s)),.int .i64 ((i+1:Nat):Int)],[]):=by
   intro i hi
   have i1:=M0 false (c6 46 s) .i64 i hi
   have hsm:=ab8 46 s _ (List.getElem_mem hi)
   have e2:a8 (.int .i64) .add (.int .i64 (i:Int)) (.int .i64 1)=some (.int .i64 ((i+1:Nat):Int)):=s9 _ i 1 (by omega)
   have inner:=aat (B:=X0) (S:=fun j=>[.str s,.sl false (vT (c6 46 s)),.int .i64 (i:Nat),.str (c6 46 s)[i],.int .i64 (j:Nat)]) (H:=[]) (m0:=0) (m1:=1) (vs0:=[.str s,.sl false (vT (c6 46 s)),.int .i64 (i:Nat)]) (vs1:=[.bool false]) (c6 46 s)[i] (fun b => !abG b.toNat)
    (fun j hj=>by
     have j1:=Y3 (c6 46 s)[i] .i64 j hj
     have e4:a8 (.int .i64) .add (.int .i64 (j:Int)) (.int .i64 1)=some (.int .i64 ((j+1:Nat):Int)):=s9 _ j 1 (by omega)
     rw [acB]
     generalize ((c6 46 s)[i])[j]=b at *
     have e1:=ajW (b.toNat:Int)
     simp only [b9,j1,e1,show ((j:Int)<(((c6 46 s)[i]).length:Int)) from by omega]
     by_cases h1:afZ (b.toNat:Int)=true
     ·by_cases h2:(b.toNat:Int)>=65
      ·by_cases h3:(b.toNat:Int)<=90
       ·have:abG (b.toNat:Int)=false:=decide_eq_false (by simp only [afZ,decide_eq_true_eq] at h1; omega)
        simp only [b9,h1,h2,h3,this]
       ·have:abG (b.toNat:Int)=true:=decide_eq_true (by simp only [afZ,decide_eq_true_eq] at h1; omega)
        simp only [b9,h1,h2,h3,this,e4]
      ·have:abG (b.toNat:Int)=true:=decide_eq_true (by simp only [afZ,decide_eq_true_eq] at h1; omega)
       simp only [b9,h1,h2,this,e4]
     ·by_cases h4:(b.toNat:Int)=45
      ·have:abG (b.toNat:Int)=true:=decide_eq_true (by omega)
       have h5:afZ 45=false:=by decide
       have h6:abG 45=true:=by decide
       simp only [b9,h5,h6,h4,e4,show ¬ ((45:Int)>=65) from by decide]
      ·have:abG (b.toNat:Int)=false:=decide_eq_false (by simp only [afZ,decide_eq_true_eq] at h1; omega)
       simp only [b9,h1,h4,this])
    (by
     rw [acB]
     simp only [b9,show ¬ ((((c6 46 s)[i]).length:Int)<(((c6 46 s)[i]).length:Int)) from by omega])
   rw [acA]
   generalize hp:(c6 46 s)[i]=p at *
   have inner':j4 X0 [.str s,.sl false (vT (c6 46 s)),.int .i64 (i:Nat),.str p,.int .i64 0] []=_:=inner
   by_cases h0:p=[]
   ·subst h0
    simp only [b9,i1,show ((i:Int)<((c6 46 s).length:Int)) from by omega]
    rfl
   ·have hl:0<p.length:=List.length_pos_iff.2 h0
    have p1:p8 (.str p) (.int .i64 0)=some (.int .u8 (p[0].toNat:Int)):=Y3 p .i64 0 hl
    have e3:a8 (.int .i64) .sub (.int .i64 (p.length:Int)) (.int .i64 1)=some (.int .i64 ((p.length-1:Nat):Int)):=amV _ p.length 1 (by omega) (by omega)
    have p2:=Y3 p .i64 (p.length-1) (by omega)
    have hd:p.head? = some p[0]:=by rw [List.head?_eq_getElem?,List.getElem?_eq_getElem hl]
    have hz:p.getLast? = some p[p.length-1]:=by rw [List.getLast?_eq_getElem?,List.getElem?_eq_getElem (by omega)]
    have k:∀ b:UInt8,((b.toNat:Int)=45)<->b=45:=fun b=>by
     constructor
     ·intro h
      have:b.toNat=45:=by omega
      exact UInt8.toNat_inj.1 (by rw [this]; rfl)
     ·intro h; subst h; rfl
    have hall:(p.all fun b=>abG b.toNat) = !(p.any fun b => !abG b.toNat):=by rw [List.not_any_eq_all_not]; simp
    simp only [b9,i1,h0,p1,e3,p2,k,adz,hd,hz,hall,show ((i:Int)<((c6 46 s).length:Int)) from by omega]
    by_cases h1:p[0]=45
    ·simp [b9,h1]
    ·by_cases h2:p[p.length-1]=45
     ·simp [b9,h1,h2]
     ·by_cases h3:(p.any fun b => !abG b.toNat)=true
      ·rw [if_pos h3] at inner'
       simp only [b9,h1,h2,inner']
       simp [h0,h1,h2,h3]
      ·rw [if_neg h3] at inner'
       simp only [b9,h1,h2,inner',e2]
       simp [h0,h1,h2,h3]
  have last:J0 [.str s,.sl false (vT (c6 46 s)),.int .i64 ((c6 46 s).length:Nat)] []=some (some 0,[.str s],[]):=by
   rw [acA]
   simp only [b9,show ¬ (((c6 46 s).length:Int)<((c6 46 s).length:Int)) from by omega]
  have loop:=aat (B:=J0) (S:=fun i=>[.str s,.sl false (vT (c6 46 s)),.int .i64 (i:Nat)]) (H:=[]) (m0:=0) (m1:=1) (vs0:=[.str s]) (vs1:=[.bool false]) (c6 46 s) (fun t => !adz t)
   (fun i hi=>first i hi) last
  exact loop
 have loop':j4 J0 [.str s,.sl false (vT (c6 46 s)),.int .i64 0] []=_:=go
 simp only [b9,e0,loop',ace]
 by_cases hb:((c6 46 s).any fun t => !adz t)=true
 ·simp only [b9,hb,Bool.and_false]
 ·simp only [b9,hb]
  by_cases h:s.length<=40
  ·simp [h,hb]; omega
  ·simp [h,hb]; omega
theorem ate (s:Bs) (hs:s.length<=4000000):qc acG [.str s]=some (.bool (P6 s&&decide (s.length<=40))):=by
 have e1:=aeh s (by omega)
 refine s7 (H:=[]) ?_ (by simp only [b9]) rfl
 show cv _ _ _=_
 rw [alm]
 have:decide ((s.length:Int)<=40)=decide (s.length<=40):=decide_eq_decide.2 (by omega)
 simp only [b9,e1,this]
 by_cases h:P6 s=true<;>simp [h]
theorem agD (n l d:Bs) (hn:n.length<=4000000) (hl:l.length<=4000000) (hd:d.length<=4000000):qc Z3 [.agg [.str n,.str l,.str d]]=some (.bool (ad0 n l d)):=by
 have e1:=ate n hn
 have e2:=arI l hl
 have e3:=aqf d hd
 refine s7 (H:=[]) ?_ (by simp only [b9]) rfl
 show cv _ _ _=_
 rw [agf]
 simp only [b9,e1,e2,e3,ad0]
 by_cases h1:(P6 n&&decide (n.length<=40))=true
 ·by_cases h2:(l.length:Int)<=30
  ·by_cases h3:abH l=true
   ·by_cases h4:(d.length:Int)<=40
    ·simp [h1,h2,h3,h4]
    ·have:ace d=false:=by unfold ace; rw [decide_eq_false (by omega),Bool.false_and]
     simp [h1,h2,h3,h4,this]
   ·simp [h1,h2,h3]
  ·have:abH l=false:=by unfold abH; rw [decide_eq_false (by omega),Bool.false_and]
   simp [h1,h2,this]
 ·simp [h1]
theorem asH {b:UInt8} (h1:65<=(b.toNat:Int)) (h2:(b.toNat:Int)<=90):((adD b).toNat:Int)=(b.toNat:Int)+32:=by
 unfold adD
 rw [if_pos (by omega),UInt8.toNat_add]
 have:(32:UInt8).toNat=32:=rfl
 omega
theorem aoS {b:UInt8} (h:¬ (65<=(b.toNat:Int)/\(b.toNat:Int)<=90)):adD b=b:=by
 unfold adD
 rw [if_neg (by omega)]
def abF (s:Bs) (i:Nat):Bs:=(s.take i).map adD++s.drop i
theorem ajf (s:Bs) (i:Nat):(abF s i).length=s.length:=by simp [abF]; omega
theorem amy (s:Bs) (i:Nat) (h:i<s.length):(abF s i)[i]'(by rw [ajf]; exact h)=s[i]:=by
 simp only [abF]
 rw [List.getElem_append_right (by simp; omega)]
 simp only [List.length_map,List.length_take,List.getElem_drop]
 congr 1; omega
theorem alP (s:Bs) (i:Nat) (h:i<s.length):(abF s i).set i (adD s[i])=abF s (i+1):=by
 have h0:((s.take i).map adD).length=i:=by simp; omega
 conv=>lhs; rw [abF,List.drop_eq_getElem_cons h,List.set_append_right _ _ (by omega),h0,Nat.sub_self,List.set_cons_zero]
 rw [abF,List.take_succ_eq_append_getElem h,List.map_append,List.append_assoc]
 rfl
theorem asY (s:Bs):abF s s.length=Q1 s:=by simp [abF,Q1]
theorem aiX (s:Bs) (hs:s.length<=1000000000):qc U8 [.str s]=some (.str (Q1 s)):=by
 suffices h:o9 (cv U8 [.str s] []) fun r=>r.1 = .str (Q1 s) by
  obtain ⟨⟨v,H⟩,e,h⟩:=h
  have h:v=_:=h
  subst h
  exact s7 e (by simp only [b9]) rfl
 rw [aij]
 simp only [b9,axw,ajV,List.nil_append]
 refine o9.P8 (I:=fun n st H=>∃ i:Nat,n=s.length-i/\i<=s.length/\st=[.m8 0 0 s.length 1,.int .i64 (i:Nat)]/\H[0]? = some (cB (abF s i)))
  (P:=fun m vs H=>m=0/\vs=[.m8 0 0 s.length 1]/\H[0]? = some (cB (Q1 s))) (n:=s.length) ?_ ⟨0,by omega,by omega,rfl,by simp [abF]⟩ ?_
 ·rintro n st H ⟨i,rfl,hi,rfl,hk⟩
  rw [agi]
  by_cases hlt:i<s.length
  ·have ho:=ane 0 0 s.length 1 .i64 i hlt
   have hl:=axR (g:=o7) (i:=i) hk (by rw [ajf]; exact hlt)
   rw [amy s i hlt] at hl
   have e2:a8 (.int .i64) .add (.int .i64 (i:Int)) (.int .i64 1)=some (.int .i64 ((i+1:Nat):Int)):=s9 _ i 1 (by omega)
   have hst:=axQ (i:=i) (adD s[i]) hk (by rw [ajf]; exact hlt)
   rw [alP s i hlt] at hst
   simp only [Nat.zero_add,Nat.mul_one] at ho
   have hself:(abF s i).set i s[i]=abF s i:=by
    have h:=amy s i hlt
    rw [<-h]
    exact List.set_getElem_self _
   have stay:adD s[i]=s[i]->H[0]? = some (cB (abF s (i+1))):=fun hb=>by
    rw [hk,<-alP s i hlt,hb,hself]
   by_cases h1:(s[i].toNat:Int)>=65
   ·by_cases h2:(s[i].toNat:Int)<=90
    ·have e3:=avY (.int .u8) (s[i].toNat:Int) 32 (by omega) (by omega)
     rw [<-asH h1 h2] at e3
     simp only [b9,ho,hl,h1,h2,e3,hst,e2,show ((i:Int)<(s.length:Int)) from by omega]
     exact ⟨_,rfl,.inr ⟨rfl,s.length-(i+1),by omega,i+1,rfl,by omega,rfl,by rw [List.getElem?_set,if_pos rfl,if_pos (List.getElem?_eq_some_iff.1 hk).1]⟩⟩
    ·simp only [b9,ho,hl,h1,h2,e2,show ((i:Int)<(s.length:Int)) from by omega]
     exact ⟨_,rfl,.inr ⟨rfl,s.length-(i+1),by omega,i+1,rfl,by omega,rfl,stay (aoS (by omega))⟩⟩
   ·simp only [b9,ho,hl,h1,e2,show ((i:Int)<(s.length:Int)) from by omega]
    exact ⟨_,rfl,.inr ⟨rfl,s.length-(i+1),by omega,i+1,rfl,by omega,rfl,stay (aoS (by omega))⟩⟩
  ·have:i=s.length:=by omega
   subst this
   simp only [b9,show ¬ ((s.length:Int)<(s.length:Int)) from by omega]
   exact ⟨_,rfl,.inl ⟨0,rfl,rfl,rfl,by rw [hk,asY]⟩⟩
 rintro _ _ H ⟨rfl,rfl,hk⟩
 have hb:=axx hk
 have hl:(Q1 s).length=s.length:=by simp [Q1]
 rw [hl] at hb
 simp only [b9,hb]
 exact o9.here rfl
theorem asN (s:Bs) (a:Nat) (ha:a<s.length) (hs:s.length<=1000000000):∃ t j,qc aaZ [.str s,.int .i64 (a:Nat)]=some (.u6 [.str t,.int .i64 j])/\(j<0\/∃ k:Nat,j=k/\a<k/\k<=s.length):=by
 suffices h:o9 (cv aaZ [.str s,.int .i64 (a:Nat)] []) fun r=>∃ t j,r.1 = .u6 [.str t,.int .i64 j]/\(j<0\/∃ k:Nat,j=k/\a<k/\k<=s.length) by
  obtain ⟨⟨v,H⟩,e,t,j,h,hj⟩:=h
  have h:v=_:=h
  subst h
  exact ⟨t,j,s7 e (by simp only [b9]) (by simp only [b9]),hj⟩
 have e0:a8 (.int .i64) .add (.int .i64 (a:Int)) (.int .i64 1)=some (.int .i64 ((a+1:Nat):Int)):=s9 _ a 1 (by omega)
 rw [alp]
 simp only [b9,e0]
 refine o9.P8 (I:=fun n st H=>∃ (i:Nat) (t:Bs),n=s.length-i/\a<i/\i<=s.length/\t.length<=i/\st=[.str s,.str t,.int .i64 (i:Nat)])
  (P:=fun m vs H=>(m=0/\vs=[])\/∃ (t:Bs) (j:Int),m=1/\vs=[.str t,.int .i64 j]/\(j<0\/∃ k:Nat,j=k/\a<k/\k<=s.length)) (n:=s.length-(a+1)) ?_ ⟨a+1,[],rfl,by omega,by omega,by simp,rfl⟩ ?_
 ·rintro n st H ⟨i,t,rfl,hai,hi,ht,rfl⟩
  rw [aic]
  by_cases hlt:i<s.length
  ·have i1:=Y3 s .i64 i hlt
   have e2:a8 (.int .i64) .add (.int .i64 (i:Int)) (.int .i64 1)=some (.int .i64 ((i+1:Nat):Int)):=s9 _ i 1 (by omega)
   by_cases h1:(s[i].toNat:Int)=34
   ·simp only [b9,i1,h1,e2,show ((i:Int)<(s.length:Int)) from by omega]
    exact ⟨_,rfl,.inl ⟨1,rfl,.inr ⟨t,_,rfl,rfl,.inr ⟨i+1,rfl,by omega,by omega⟩⟩⟩⟩
   ·by_cases h2:(s[i].toNat:Int)=92
    ·by_cases h3:i+1=s.length
     ·simp only [b9,i1,h1,h2,e2,show ¬ ((92:Int)=34) from by decide,show (((i+1:Nat):Int)=(s.length:Int)) from by omega,show ((i:Int)<(s.length:Int)) from by omega]
      exact ⟨_,rfl,.inl ⟨1,rfl,.inr ⟨[],-1,rfl,rfl,.inl (by omega)⟩⟩⟩
     ·have e3:a8 (.int .i64) .add (.int .i64 ((i+1:Nat):Int)) (.int .i64 1)=some (.int .i64 ((i+1+1:Nat):Int)):=s9 _ (i+1) 1 (by omega)
      have p1:=ap4 s .i64 .i64 (i+1) (i+1+1) (by omega) (by omega)
      have a1:=ahZ .str t ((s.drop (i+1)).take (i+1+1-(i+1))) (by simp; omega)
      simp only [b9,i1,h1,h2,e2,e3,p1,a1,show ¬ ((92:Int)=34) from by decide,show ¬ (((i+1:Nat):Int)=(s.length:Int)) from by omega,show ((i:Int)<(s.length:Int)) from by omega]
      exact ⟨_,rfl,.inr ⟨rfl,s.length-(i+1+1),by omega,i+1+1,_,rfl,by omega,by omega,by simp; omega,rfl⟩⟩
    ·have p1:=ap4 s .i64 .i64 i (i+1) (by omega) (by omega)
     have a1:=ahZ .str t ((s.drop i).take (i+1-i)) (by simp; omega)
     simp only [b9,i1,h1,h2,e2,p1,a1,show ((i:Int)<(s.length:Int)) from by omega]
     exact ⟨_,rfl,.inr ⟨rfl,s.length-(i+1),by omega,i+1,_,rfl,by omega,by omega,by simp; omega,rfl⟩⟩
  ·simp only [b9,show ¬ ((i:Int)<(s.length:Int)) from by omega]
   exact ⟨_,rfl,.inl ⟨0,rfl,.inl ⟨rfl,rfl⟩⟩⟩
 rintro _ _ H (⟨rfl,rfl⟩ | ⟨t,j,rfl,rfl,hj⟩)
 ·simp only [b9]
  exact o9.here ⟨[],-1,rfl,.inl (by omega)⟩
 ·simp only [b9]
  exact o9.here ⟨t,j,rfl,hj⟩
def ahC (c:UInt8) (s a z:Bs) (ok:Bool):Prop:=((34:UInt8) ∉ P7 c s/\a=P7 c s/\z=R1 c s/\ok=decide (c ∈ s))\/((34:UInt8) ∈ P7 c s/\(34:UInt8) ∈ a/\a.length<=s.length/\z.length<=s.length)
theorem avz {c:UInt8} {s:Bs} {i:Nat} (hi:i<s.length) (h:s[i]=c) (hn:c ∉ s.take i):c ∈ s/\s.idxOf c=i:=by
 have hm:c ∈ s:=by rw [<-h]; exact List.getElem_mem hi
 refine ⟨hm,?_⟩
 have e:s=s.take i++c::s.drop (i+1):=by
  conv=>lhs; rw [<-List.take_append_drop i s,List.drop_eq_getElem_cons hi,h]
 rw [e,List.idxOf_append,if_neg hn]
 simp; omega
theorem ao0 (s:Bs) (c:UInt8) (hc:c ≠ 34) (hs:s.length<=1000000000):∃ a z ok,qc O6 [.str s,.int .u8 (c.toNat:Int)]=some (.u6 [.str a,.str z,.bool ok])/\ahC c s a z ok:=by
 suffices h:o9 (cv O6 [.str s,.int .u8 (c.toNat:Int)] []) fun r=>∃ a z ok,r.1 = .u6 [.str a,.str z,.bool ok]/\ahC c s a z ok by
  obtain ⟨⟨v,H⟩,e,a,z,ok,h,hj⟩:=h
  have h:v=_:=h
  subst h
  exact ⟨a,z,ok,s7 e (by simp only [b9]) (by simp only [b9]),hj⟩
 rw [amd]
 refine o9.P8 (I:=fun n st H=>∃ (i:Nat),n=s.length-i/\i<=s.length/\st=[.str s,.int .u8 (c.toNat:Int),.int .i64 (i:Nat)]/\((c ∉ s.take i/\(34:UInt8) ∉ s.take i)\/((34:UInt8) ∈ s.take i/\(34:UInt8) ∈ P7 c s)))
  (P:=fun m vs H=>(m=0/\vs=[.str s]/\ahC c s s [] false)\/∃ a z ok,m=1/\vs=[.str a,.str z,.bool ok]/\ahC c s a z ok) (n:=s.length) ?_ ⟨0,by omega,by omega,rfl,.inl ⟨by simp,by simp⟩⟩ ?_
 ·rintro n st H ⟨i,rfl,hi,rfl,inv⟩
  rw [aji]
  by_cases hlt:i<s.length
  ·have i1:=Y3 s .i64 i hlt
   have hts:s.take (i+1)=s.take i++[s[i]]:=List.take_succ_eq_append_getElem hlt
   have e2:a8 (.int .i64) .add (.int .i64 (i:Int)) (.int .i64 1)=some (.int .i64 ((i+1:Nat):Int)):=s9 _ i 1 (by omega)
   by_cases h1:(s[i].toNat:Int)=34
   ·have hq:s[i]=34:=UInt8.toNat_inj.1 (by rw [show s[i].toNat=34 from by omega]; rfl)
    have hA:(34:UInt8) ∈ P7 c s:=by
     rcases inv with ⟨hn,_⟩ | ⟨_,h⟩
     ·unfold P7
      split
      ·rename_i hm
       have hge:i+1<=s.idxOf c:=by
        by_cases hlt2:s.idxOf c<i+1
        ·exfalso
         have hlt3:=List.idxOf_lt_length_iff.2 hm
         have hg:s[s.idxOf c]=c:=List.getElem_idxOf hlt3
         by_cases he:s.idxOf c=i
         ·simp only [he] at hg; rw [hq] at hg; exact hc hg.symm
         ·exact hn (by
           have:c=(s.take i)[s.idxOf c]'(by simp; omega):=by rw [List.getElem_take,hg]
           rw [this]; exact List.getElem_mem _)
        ·omega
       have:(34:UInt8) ∈ s.take (i+1):=by rw [hts,hq]; simp
       exact List.take_subset_take_left s hge this
      ·rw [<-hq]; exact List.getElem_mem hlt
     ·exact h
    obtain ⟨t,j,e3,hj⟩:=asN s i hlt hs
    rcases hj with hj | ⟨k,rfl,hk1,hk2⟩
    ·simp only [b9,i1,h1,e3,hj,show ((i:Int)<(s.length:Int)) from by omega]
     exact ⟨_,rfl,.inl ⟨1,rfl,.inr ⟨s,[],false,rfl,rfl,.inr ⟨hA,by rw [<-hq]; exact List.getElem_mem hlt,by simp,by simp⟩⟩⟩⟩
    ·simp only [b9,i1,h1,e3,show ¬ ((k:Int)<0) from by omega,show ((i:Int)<(s.length:Int)) from by omega]
     refine ⟨_,rfl,.inr ⟨rfl,s.length-k,by omega,k,rfl,hk2,rfl,.inr ⟨?_,hA⟩⟩⟩
     have:(34:UInt8) ∈ s.take (i+1):=by rw [hts,hq]; simp
     exact List.take_subset_take_left s hk1 this
   ·have hq:¬ (34:UInt8)=s[i]:=fun e=>h1 (by rw [<-e]; rfl)
    have hk:((s[i].toNat:Int)=(c.toNat:Int))<->s[i]=c:=by
     constructor
     ·intro h; exact UInt8.toNat_inj.1 (by omega)
     ·intro h; rw [h]
    by_cases h2:s[i]=c
    ·have p1:=aqv s .i64 i (by omega)
     have p2:=amn s .i64 (i+1) (by omega)
     have h3:¬ (c.toNat:Int)=34:=by rw [<-h2]; exact h1
     rw [h2] at i1
     simp only [b9,i1,h3,e2,p1,p2,show ((i:Int)<(s.length:Int)) from by omega]
     refine ⟨_,rfl,.inl ⟨1,rfl,.inr ⟨s.take i,s.drop (i+1),true,rfl,rfl,?_⟩⟩⟩
     rcases inv with ⟨hn,hn2⟩ | ⟨h,hA⟩
     ·obtain ⟨hm,hix⟩:=avz hlt h2 hn
      have eA:P7 c s=s.take i:=by unfold P7; rw [if_pos hm,hix]
      have eZ:R1 c s=s.drop (i+1):=by unfold R1; rw [if_pos hm,hix]
      exact .inl ⟨by rw [eA]; exact hn2,eA.symm,eZ.symm,(decide_eq_true hm).symm⟩
     ·exact .inr ⟨hA,h,by simp; omega,by simp⟩
    ·simp only [b9,i1,h1,hk,h2,e2,show ((i:Int)<(s.length:Int)) from by omega]
     refine ⟨_,rfl,.inr ⟨rfl,s.length-(i+1),by omega,i+1,rfl,by omega,rfl,?_⟩⟩
     rcases inv with ⟨hn,hn2⟩ | ⟨h,hA⟩
     ·refine .inl ⟨fun h=>?_,fun h=>?_⟩
      ·rw [hts,List.mem_append,List.mem_singleton] at h
       rcases h with h | h
       ·exact hn h
       ·exact h2 h.symm
      ·rw [hts,List.mem_append,List.mem_singleton] at h
       rcases h with h | h
       ·exact hn2 h
       ·exact hq h
     ·exact .inr ⟨by rw [hts,List.mem_append]; exact .inl h,hA⟩
  ·have:i=s.length:=by omega
   subst this
   simp only [b9,show ¬ ((s.length:Int)<(s.length:Int)) from by omega]
   refine ⟨_,rfl,.inl ⟨0,rfl,.inl ⟨rfl,rfl,?_⟩⟩⟩
   rw [List.take_length] at inv
   rcases inv with ⟨hn,hn2⟩ | ⟨h,hA⟩
   ·have eA:P7 c s=s:=by unfold P7; rw [if_neg hn]
    have eZ:R1 c s=[]:=by unfold R1; rw [if_neg hn]
    exact .inl ⟨by rw [eA]; exact hn2,eA.symm,eZ.symm,(decide_eq_false hn).symm⟩
   ·exact .inr ⟨hA,h,by simp,by simp⟩
 rintro _ _ H (⟨rfl,rfl,h⟩ | ⟨a,z,ok,rfl,rfl,h⟩)
 ·simp only [b9]
  exact o9.here ⟨s,[],false,rfl,h⟩
 ·simp only [b9]
  exact o9.here ⟨a,z,ok,rfl,h⟩
theorem ahC.len {c:UInt8} {s a z:Bs} {ok:Bool} (h:ahC c s a z ok):a.length<=s.length/\z.length<=s.length:=by
 rcases h with ⟨_,rfl,rfl,_⟩ | ⟨_,_,h⟩
 ·exact ⟨anj c s,aom c s⟩
 ·exact h
theorem ave (s:Bs) (hs:s.length<=4000000):∃ a z ok,pc adw [.str s]=some (.u6 [.agg [.str [],.str a,.str (Q1 z)],.bool (ok&&ad0 [] a (Q1 z))])/\ahC 64 s a z ok:=by
 obtain ⟨a,z,ok,e1,hR⟩:=ao0 s 64 (by decide) (by omega)
 have hl:=hR.len
 have e1':qc O6 [.str s,.int .u8 64]=_:=e1
 have e2:=aiX z (by omega)
 have e3:=agD [] a (Q1 z) (by simp) (by omega) (by simp [Q1]; omega)
 refine ⟨a,z,ok,ahI (H:=[]) ?_ (by simp only [b9]) (by simp only [b9]),hR⟩
 show cv _ _ _=_
 rw [amf]
 simp only [b9,e1',e2,e3]
 by_cases h:ok=true
 ·simp [h]
 ·simp [h]
theorem am9 (s:Bs) (hs:s.length<=4000000):qc aaW [.str s]=some (.bool (J5 s)):=by
 obtain ⟨a,z,ok,e1,hR⟩:=ave s hs
 have hl:=hR.len
 have hlow:(Q1 z).length=z.length:=by simp [Q1]
 have a1:=ahZ .str a [64] (by simp; omega)
 have a2:=ahZ .str (a++[64]) (Q1 z) (by simp [hlow]; omega)
 refine s7 (H:=[]) ?_ (by simp only [b9]) rfl
 show cv _ _ _=_
 rw [akJ]
 simp only [b9,e1,a1,a2]
 have key:J5 s=(ok&&ad0 [] a (Q1 z)&&decide (a++[64]++Q1 z=s)):=by
  rcases hR with ⟨hq,rfl,rfl,rfl⟩ | ⟨hq,hok,_,_⟩
  ·unfold J5
   by_cases hm:(64:UInt8) ∈ s
   ·rw [decide_eq_true hm,Bool.true_and,Bool.true_and]
    have ht:ad0 [] (P7 64 s) (Q1 (R1 64 s))=(abH (P7 64 s)&&ace (Q1 (R1 64 s))):=by
     unfold ad0
     rw [show (P6 []&&decide (([]:Bs).length<=40))=true from rfl,Bool.true_and]
    rw [ht]
    by_cases hz:Q1 (R1 64 s)=R1 64 s
    ·rw [hz,decide_eq_true (anR hm).symm,Bool.and_true]
    ·have h1:ace (R1 64 s)=false:=by
      cases h:ace (R1 64 s) with
      | false=>rfl
      | true=>exact absurd (avd h) hz
     have h2:¬ (P7 64 s++[64]++Q1 (R1 64 s)=s):=fun h=>by
      have h3:=anR hm
      exact hz (List.append_cancel_left (h.trans h3))
     rw [h1,decide_eq_false h2,Bool.and_false,Bool.and_false]
   ·rw [decide_eq_false hm]; rfl
  ·have h1:J5 s=false:=by unfold J5; rw [akW hq,Bool.false_and,Bool.and_false]
   rw [h1]
   cases ok with
   | false=>rfl
   | true =>
     have h2:=akW hok
     have:ad0 [] a (Q1 z)=false:=by unfold ad0; rw [h2,Bool.false_and,Bool.and_false]
     rw [this]; rfl
 rw [key]
 by_cases h:(ok&&ad0 [] a (Q1 z))=true
 ·simp only [b9,h,Bool.true_and]
 ·simp only [b9,h,Bool.false_and]
  try simp
end Go.Proofs.YtpbgpeojlfdpoaaDoor.Q

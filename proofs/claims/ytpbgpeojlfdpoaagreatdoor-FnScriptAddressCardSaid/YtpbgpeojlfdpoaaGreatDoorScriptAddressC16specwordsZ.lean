/- Contracts: bytes, words, texts cut at a byte, in the reference. -/
import Derived.Test.YtpbgpeojlfdpoaaGreatDoorScriptAddressC14suffixZ
namespace Go.Proofs.YtpbgpeojlfdpoaaGreatDoor.Q
open Go Go.AM
set_option linter.unusedSimpArgs false
set_option linter.unusedVariables false
set_option linter.unusedSectionVars false
def agi (c:Int):Bool:=decide (97<=c/\c<=122\/65<=c/\c<=90\/48<=c/\c<=57)
def afD:Bs:=[33,35,36,37,38,39,42,43,45,47,61,63,94,95,96,123,124,125,126]
def adm (b:UInt8):UInt8:=if 65<=b.toNat/\b.toNat<=90 then b+32 else b
def I8 (s:Bs):Bs:=s.map adm
def G4 (n l d:Bs):Bool:=(C2 n&&decide (n.length<=40))&&(aef l&&agC d)
def agt (cur:Bs):List Bs->List Bs
 | []=>[cur]
 | x::r=>(cur++x)::r
theorem amB (c:UInt8) (s:Bs):agt [] (j2 c s)=j2 c s:=by
 cases h:j2 c s with
 | nil=>exact absurd h (acS c s)
 | cons x r=>rfl
theorem aqv (c b:UInt8) (cur l:Bs):agt cur (j2 c (b::l))=if b=c then cur::j2 c l else agt (cur++[b]) (j2 c l):=by
 conv=>lhs; unfold j2
 by_cases h:b=c
 ·simp [h,agt]
 ·rw [if_neg h,if_neg h]
  cases e:j2 c l with
  | nil=>exact absurd e (acS c l)
  | cons x r=>simp [agt]
theorem akt (c:Int):qc X9 [.int .u8 c]=some (.bool (agi c)):=by
 refine w8 (H:=[]) ?_ rfl rfl
 show cv _ _ _=_
 rw [ajn]
 simp only [b8,decide_eq_true_eq,agi]
 repeat' (first | (exact congrArg (fun b=>some (V.bool b,([]:VH))) (decide_eq_true (by omega)).symm) | (exact congrArg (fun b=>some (V.bool b,([]:VH))) (decide_eq_false (by omega)).symm) | (exact congrArg (fun b=>some (V.bool b,([]:VH))) (decide_eq_decide.2 (by omega))) | (refine ajR (fun h=>?_) (fun h=>?_)))
theorem anG (c:Int):qc aaU [.int .u8 c]=some (.bool (O9 c)):=by
 have e1:=akt c
 refine w8 (H:=[]) ?_ rfl rfl
 show cv _ _ _=_
 rw [al4]
 have loop:=ade (B:=aaS) (S:=fun i=>[.int .u8 c,.int .i64 (i:Nat)]) (H:=[]) (m0:=0) (m1:=1) (vs0:=[.int .u8 c]) (vs1:=[.bool true]) afD (fun b=>decide (c=(b.toNat:Int)))
  (fun i hi=>by
   have hl:afD.length=19:=rfl
   have i1:l4 (.str [33,35,36,37,38,39,42,43,45,47,61,63,94,95,96,123,124,125,126]) (.int .i64 (i:Int))=some (.int .u8 ((afD[i]).toNat:Int)):=D2 afD .i64 i hi
   have e2:a8 (.int .i64) .add (.int .i64 (i:Int)) (.int .i64 1)=some (.int .i64 ((i+1:Nat):Int)):=y1 _ i 1 (by omega)
   rw [adu]
   simp only [b8,i1,e2,show ((i:Int)<19) from by omega])
  (by
   rw [adu]
   rfl)
 have loop':n7 aaS [.int .u8 c,.int .i64 0] []=_:=loop
 have ha:(afD.any fun b=>decide (c=(b.toNat:Int)))=decide (c=33\/c=35\/c=36\/c=37\/c=38\/c=39\/c=42\/c=43\/c=45\/c=47\/c=61\/c=63\/c=94\/c=95\/c=96\/c=123\/c=124\/c=125\/c=126):=by
  simp [afD]
 simp only [b8,loop',ha,decide_eq_true_eq]
 by_cases h:c=33\/c=35\/c=36\/c=37\/c=38\/c=39\/c=42\/c=43\/c=45\/c=47\/c=61\/c=63\/c=94\/c=95\/c=96\/c=123\/c=124\/c=125\/c=126
 ·have:O9 c=true:=decide_eq_true (by omega)
  rw [if_pos h]
  simp only [b8,this]
 ·have:O9 c=agi c:=decide_eq_decide.2 (by omega)
  rw [if_neg h]
  simp only [b8,this,e1]
theorem aep (s:Bs) (hs:s.length<=1000000000):qc V6 [.str s]=some (.bool (R9 s)):=by
 refine w8 (H:=[]) ?_ (by simp only [b8]) rfl
 show cv _ _ _=_
 rw [aiK]
 have loop:=ade (B:=V4) (S:=fun i=>[.str s,.int .i64 (i:Nat)]) (H:=[]) (m0:=0) (m1:=1) (vs0:=[.str s]) (vs1:=[.bool false]) (s.take 41) (fun b => !O9 b.toNat)
  (fun i hi=>by
   have hi':i<s.length/\i<41:=by simp at hi; omega
   have i1:=D2 s .i64 i hi'.1
   have e1:=anG (s[i].toNat:Int)
   have e2:a8 (.int .i64) .add (.int .i64 (i:Int)) (.int .i64 1)=some (.int .i64 ((i+1:Nat):Int)):=y1 _ i 1 (by omega)
   rw [ab0]
   simp only [b8,i1,e1,e2,List.getElem_take,show ((i:Int)<(s.length:Int)) from by omega,show ((i:Int)<=40) from by omega])
  (by
   rw [ab0]
   by_cases h:s.length<=40
   ·have:(s.take 41).length=s.length:=by simp; omega
    simp only [b8,this,show ¬ ((s.length:Int)<(s.length:Int)) from by omega]
   ·have:(s.take 41).length=41:=by simp; omega
    by_cases h2:(((41:Nat):Int)<(s.length:Int))
    ·simp only [b8,this,h2,show ¬ (((41:Nat):Int)<=40) from by decide]
    ·simp only [b8,this,h2])
 have loop':n7 V4 [.str s,.int .i64 0] []=_:=loop
 simp only [b8,loop']
 by_cases h:s.length<=40
 ·have ht:s.take 41=s:=List.take_of_length_le (by omega)
  have e:(s.all fun b=>O9 b.toNat) = !(s.any fun b => !O9 b.toNat):=by rw [List.not_any_eq_all_not]; simp
  rw [ht]
  unfold R9
  rw [e]
  by_cases hb:(s.any fun b => !O9 b.toNat)=true
  ·simp only [b8,hb,Bool.and_false]
  ·by_cases h1:1<=s.length
   ·simp only [b8,hb,show ((s.length:Int)>=1) from by omega,show ((s.length:Int)<=40) from by omega,show 1<=s.length/\s.length<=40 from ⟨h1,h⟩,Bool.true_and]
    simp [hb]
   ·simp only [b8,hb,show ¬ ((s.length:Int)>=1) from by omega,show ¬ (1<=s.length/\s.length<=40) from by omega,Bool.false_and]
 ·have:R9 s=false:=by unfold R9; rw [decide_eq_false (by omega),Bool.false_and]
  rw [this]
  by_cases hb:((s.take 41).any fun b => !O9 b.toNat)=true
  ·simp only [b8,hb]
  ·simp only [b8,hb,show ((s.length:Int)>=1) from by omega,show ¬ ((s.length:Int)<=40) from by omega]
theorem abB (s:Bs) (hs:s.length<=1000000000):qc O8 [.str s]=some (.bool (C2 s)):=by
 refine w8 (H:=[]) ?_ (by simp only [b8]) rfl
 show cv _ _ _=_
 rw [aiz]
 have loop:=ade (B:=V2) (S:=fun i=>[.str s,.int .i64 (i:Nat)]) (H:=[]) (m0:=0) (m1:=1) (vs0:=[.str s]) (vs1:=[.bool false]) (s.take 201) (fun b=>wrB b.toNat)
  (fun i hi=>by
   have hi':i<s.length/\i<201:=by simp at hi; omega
   have i1:=D2 s .i64 i hi'.1
   have e2:a8 (.int .i64) .add (.int .i64 (i:Int)) (.int .i64 1)=some (.int .i64 ((i+1:Nat):Int)):=y1 _ i 1 (by omega)
   rw [abK]
   simp only [b8,i1,e2,wrB,List.getElem_take,show ((i:Int)<(s.length:Int)) from by omega,show ((i:Int)<=200) from by omega]
   by_cases e:(s[i].toNat:Int)<32
   ·simp only [b8,e,true_or]
   ·by_cases e3:(s[i].toNat:Int)>126
    ·simp only [b8,e,e3,show (126:Int)<(s[i].toNat:Int) from e3,or_true]
    ·simp only [b8,e,e2,e3,show ¬ (126:Int)<(s[i].toNat:Int) from e3,or_false])
  (by
   rw [abK]
   by_cases h:s.length<=200
   ·have:(s.take 201).length=s.length:=by simp; omega
    simp only [b8,this,show ¬ ((s.length:Int)<(s.length:Int)) from by omega]
   ·have:(s.take 201).length=201:=by simp; omega
    by_cases h2:(((201:Nat):Int)<(s.length:Int))
    ·simp only [b8,this,h2,show ¬ (((201:Nat):Int)<=200) from by decide]
    ·simp only [b8,this,h2])
 have loop':n7 V2 [.str s,.int .i64 0] []=_:=loop
 simp only [b8,loop']
 by_cases h:s.length<=200
 ·have ht:s.take 201=s:=List.take_of_length_le (by omega)
  rw [ht]
  unfold C2
  by_cases hb:(s.any fun b=>wrB b.toNat)=true
  ·simp only [b8,hb,Bool.false_and]
  ·simp only [b8,hb,h,show ((s.length:Int)<=200) from by omega,Bool.and_true]
   try simp [hb]
 ·have:C2 s=false:=by unfold C2; rw [decide_eq_false (by omega),Bool.and_false]
  rw [this]
  by_cases hb:((s.take 201).any fun b=>wrB b.toNat)=true
  ·simp only [b8,hb]
  ·simp only [b8,hb,show ¬ ((s.length:Int)<=200) from by omega]
theorem amE (s:Bs) (c:UInt8) (hs:s.length<=4000000):pc J9 [.str s,.int .u8 (c.toNat:Int)]=some (.sl true (vT (j2 c s))):=by
 have hcnt:s.count c<=s.length:=List.count_le_length
 have hlen:=aaM c s
 suffices h:j9 (cv J9 [.str s,.int .u8 (c.toNat:Int)] []) fun r=>r.1 = .sl true (vT (j2 c s)) by
  obtain ⟨⟨v,H⟩,e,h⟩:=h
  have h:v=_:=h
  subst h
  exact acD e (by simp only [b8]) (by simp only [b8])
 rw [akN]
 refine j9.P5 (I:=fun n st H=>∃ (i start:Nat) (out:List Bs),n=s.length-i/\i<=s.length/\start<=i/\st=[.str s,.int .u8 (c.toNat:Int),.sl true (vT out),.int .i64 (start:Nat),.int .i64 (i:Nat)]/\out++agt ((s.drop start).take (i-start)) (j2 c (s.drop i))=j2 c s)
  (P:=fun m vs H=>∃ (start:Nat) (out:List Bs),m=0/\vs=[.str s,.sl true (vT out),.int .i64 (start:Nat)]/\start<=s.length/\out++[s.drop start]=j2 c s) (n:=s.length) ?_ ⟨0,0,[],by omega,by omega,by omega,rfl,by simpa using amB c s⟩ ?_
 ·rintro n st H ⟨i,start,out,rfl,hi,hst,rfl,inv⟩
  rw [ahP]
  have hol:out.length<=s.length+1:=by
   have:=congrArg List.length inv
   rw [List.length_append] at this; omega
  by_cases hlt:i<s.length
  ·have i1:=D2 s .i64 i hlt
   have e2:a8 (.int .i64) .add (.int .i64 (i:Int)) (.int .i64 1)=some (.int .i64 ((i+1:Nat):Int)):=y1 _ i 1 (by omega)
   rw [List.drop_eq_getElem_cons hlt,aqv] at inv
   have hk:((s[i].toNat:Int)=(c.toNat:Int))<->s[i]=c:=by
    constructor
    ·intro h; exact UInt8.toNat_inj.1 (by omega)
    ·intro h; rw [h]
   by_cases he:s[i]=c
   ·rw [if_pos he] at inv
    have p1:=agx s .i64 .i64 start i (by omega) (by omega)
    have a1:L7 false 1 16 (vT out) (.sl true [[.str ((s.drop start).take (i-start))]])=some (.sl true (vT (out++[(s.drop start).take (i-start)]))):=by
     have:=af5 1 16 (vT out) true (vT [(s.drop start).take (i-start)]) (abc _) (abc _) (by rw [abd,abd]; simp; omega)
     rw [akw] at this
     exact this
    simp only [b8,i1,e2,hk,he,p1,a1,show ((i:Int)<(s.length:Int)) from by omega]
    refine ⟨_,rfl,.inr ⟨rfl,s.length-(i+1),by omega,i+1,i+1,_,rfl,by omega,by omega,rfl,?_⟩⟩
    rw [Nat.sub_self,List.take_zero,amB,List.append_assoc]
    exact inv
   ·rw [if_neg he] at inv
    simp only [b8,i1,e2,hk,he,show ((i:Int)<(s.length:Int)) from by omega]
    refine ⟨_,rfl,.inr ⟨rfl,s.length-(i+1),by omega,i+1,start,out,rfl,by omega,by omega,rfl,?_⟩⟩
    have:(s.drop start).take (i+1-start)=(s.drop start).take (i-start)++[s[i]]:=by
     rw [show i+1-start=(i-start)+1 from by omega,List.take_succ_eq_append_getElem (by simp; omega)]
     congr 2
     simp only [List.getElem_drop]
     congr 1; omega
    rw [this]
    exact inv
  ·have:i=s.length:=by omega
   subst this
   simp only [b8,show ¬ ((s.length:Int)<(s.length:Int)) from by omega]
   refine ⟨_,rfl,.inl ⟨0,rfl,start,out,rfl,rfl,hst,?_⟩⟩
   rw [List.drop_length] at inv
   simp only [j2,agt,List.append_nil] at inv
   rw [List.take_of_length_le (by simp)] at inv
   exact inv
 rintro _ _ H ⟨start,out,rfl,rfl,hst,inv⟩
 have hol:out.length<=s.length+1:=by
  have:=congrArg List.length inv
  rw [List.length_append] at this; omega
 have p1:=abk s .i64 start hst
 have a1:L7 false 1 16 (vT out) (.sl true [[.str (s.drop start)]])=some (.sl true (vT (out++[s.drop start]))):=by
  have:=af5 1 16 (vT out) true (vT [s.drop start]) (abc _) (abc _) (by rw [abd,abd]; simp; omega)
  rw [akw] at this
  exact this
 simp only [b8,p1,a1,inv]
 exact j9.here rfl
theorem asA (s:Bs) (hs:s.length<=4000000):qc abU [.str s]=some (.bool (aef s)):=by
 have e0:pc J9 [.str s,.int .u8 46]=_:=amE s 46 hs
 have hcnt:s.count 46<=s.length:=List.count_le_length
 have hlen:=aaM 46 s
 refine w8 (H:=[]) ?_ (by simp only [b8]) rfl
 show cv _ _ _=_
 rw [akP]
 have go:n7 K8 [.str s,.sl false (vT (j2 46 s)),.int .i64 ((0:Nat):Int)] []=if (j2 46 s).any (fun t => !R9 t)=true then some (1,[.bool false],[]) else some (0,[.str s],[]):=by
  have first:∀ (i:Nat) (h:i<(j2 46 s).length),K8 [.str s,.sl false (vT (j2 46 s)),.int .i64 (i:Nat)] []=if (fun t => !R9 t) (j2 46 s)[i]=true then some (some 1,[.bool false],[]) else some (none,[.str s,.sl false (vT (j2 46 s)),.int .i64 ((i+1:Nat):Int)],[]):=by
   intro i hi
   have i1:=ac5 false (j2 46 s) .i64 i hi
   have hsm:=abT 46 s _ (List.getElem_mem hi)
   have e1:=aep (j2 46 s)[i] (by omega)
   have e2:a8 (.int .i64) .add (.int .i64 (i:Int)) (.int .i64 1)=some (.int .i64 ((i+1:Nat):Int)):=y1 _ i 1 (by omega)
   rw [acV]
   simp only [b8,i1,e1,e2,show ((i:Int)<((j2 46 s).length:Int)) from by omega]
  have last:K8 [.str s,.sl false (vT (j2 46 s)),.int .i64 ((j2 46 s).length:Nat)] []=some (some 0,[.str s],[]):=by
   rw [acV]
   simp only [b8,show ¬ (((j2 46 s).length:Int)<((j2 46 s).length:Int)) from by omega]
  have loop:=ade (B:=K8) (S:=fun i=>[.str s,.sl false (vT (j2 46 s)),.int .i64 (i:Nat)]) (H:=[]) (m0:=0) (m1:=1) (vs0:=[.str s]) (vs1:=[.bool false]) (j2 46 s) (fun t => !R9 t)
   (fun i hi=>first i hi) last
  exact loop
 have loop':n7 K8 [.str s,.sl false (vT (j2 46 s)),.int .i64 0] []=_:=go
 simp only [b8,e0,loop',aef]
 by_cases hb:((j2 46 s).any fun t => !R9 t)=true
 ·simp only [b8,hb,Bool.and_false]
 ·simp only [b8,hb]
  by_cases h:s.length<=30
  ·simp [h,hb]; omega
  ·simp [h,hb]; omega
theorem aqZ (s:Bs) (hs:s.length<=4000000):qc abr [.str s]=some (.bool (agC s)):=by
 have e0:pc J9 [.str s,.int .u8 46]=_:=amE s 46 hs
 have hcnt:s.count 46<=s.length:=List.count_le_length
 have hlen:=aaM 46 s
 refine w8 (H:=[]) ?_ (by simp only [b8]) rfl
 show cv _ _ _=_
 rw [ajG]
 have go:n7 I6 [.str s,.sl false (vT (j2 46 s)),.int .i64 ((0:Nat):Int)] []=if (j2 46 s).any (fun t => !afd t)=true then some (1,[.bool false],[]) else some (0,[.str s],[]):=by
  have first:∀ (i:Nat) (h:i<(j2 46 s).length),I6 [.str s,.sl false (vT (j2 46 s)),.int .i64 (i:Nat)] []=if (fun t => !afd t) (j2 46 s)[i]=true then some (some 1,[.bool false],[]) else some (none,[.str s,.sl false (vT (j2 46 s)),.int .i64 ((i+1:Nat):Int)],[]):=by
   intro i hi
   have i1:=ac5 false (j2 46 s) .i64 i hi
   have hsm:=abT 46 s _ (List.getElem_mem hi)
   have e2:a8 (.int .i64) .add (.int .i64 (i:Int)) (.int .i64 1)=some (.int .i64 ((i+1:Nat):Int)):=y1 _ i 1 (by omega)
   have inner:=ade (B:=Y2) (S:=fun j=>[.str s,.sl false (vT (j2 46 s)),.int .i64 (i:Nat),.str (j2 46 s)[i],.int .i64 (j:Nat)]) (H:=[]) (m0:=0) (m1:=1) (vs0:=[.str s,.sl false (vT (j2 46 s)),.int .i64 (i:Nat)]) (vs1:=[.bool false]) (j2 46 s)[i] (fun b => !ab3 b.toNat)
    (fun j hj=>by
     have j1:=D2 (j2 46 s)[i] .i64 j hj
     have e4:a8 (.int .i64) .add (.int .i64 (j:Int)) (.int .i64 1)=some (.int .i64 ((j+1:Nat):Int)):=y1 _ j 1 (by omega)
     rw [ach]
     generalize ((j2 46 s)[i])[j]=b at *
     have e1:=akt (b.toNat:Int)
     simp only [b8,j1,e1,show ((j:Int)<(((j2 46 s)[i]).length:Int)) from by omega]
     by_cases h1:agi (b.toNat:Int)=true
     ·by_cases h2:(b.toNat:Int)>=65
      ·by_cases h3:(b.toNat:Int)<=90
       ·have:ab3 (b.toNat:Int)=false:=decide_eq_false (by simp only [agi,decide_eq_true_eq] at h1; omega)
        simp only [b8,h1,h2,h3,this]
       ·have:ab3 (b.toNat:Int)=true:=decide_eq_true (by simp only [agi,decide_eq_true_eq] at h1; omega)
        simp only [b8,h1,h2,h3,this,e4]
      ·have:ab3 (b.toNat:Int)=true:=decide_eq_true (by simp only [agi,decide_eq_true_eq] at h1; omega)
       simp only [b8,h1,h2,this,e4]
     ·by_cases h4:(b.toNat:Int)=45
      ·have:ab3 (b.toNat:Int)=true:=decide_eq_true (by omega)
       have h5:agi 45=false:=by decide
       have h6:ab3 45=true:=by decide
       simp only [b8,h5,h6,h4,e4,show ¬ ((45:Int)>=65) from by decide]
      ·have:ab3 (b.toNat:Int)=false:=decide_eq_false (by simp only [agi,decide_eq_true_eq] at h1; omega)
       simp only [b8,h1,h4,this])
    (by
     rw [ach]
     simp only [b8,show ¬ ((((j2 46 s)[i]).length:Int)<(((j2 46 s)[i]).length:Int)) from by omega])
   rw [ace]
   generalize hp:(j2 46 s)[i]=p at *
   have inner':n7 Y2 [.str s,.sl false (vT (j2 46 s)),.int .i64 (i:Nat),.str p,.int .i64 0] []=_:=inner
   by_cases h0:p=[]
   ·subst h0
    simp only [b8,i1,show ((i:Int)<((j2 46 s).length:Int)) from by omega]
    rfl
   ·have hl:0<p.length:=List.length_pos_iff.2 h0
    have p1:l4 (.str p) (.int .i64 0)=some (.int .u8 (p[0].toNat:Int)):=D2 p .i64 0 hl
    have e3:a8 (.int .i64) .sub (.int .i64 (p.length:Int)) (.int .i64 1)=some (.int .i64 ((p.length-1:Nat):Int)):=aav _ p.length 1 (by omega) (by omega)
    have p2:=D2 p .i64 (p.length-1) (by omega)
    have hd:p.head? = some p[0]:=by rw [List.head?_eq_getElem?,List.getElem?_eq_getElem hl]
    have hz:p.getLast? = some p[p.length-1]:=by rw [List.getLast?_eq_getElem?,List.getElem?_eq_getElem (by omega)]
    have k:∀ b:UInt8,((b.toNat:Int)=45)<->b=45:=fun b=>by
     constructor
     ·intro h
      have:b.toNat=45:=by omega
      exact UInt8.toNat_inj.1 (by rw [this]; rfl)
     ·intro h; subst h; rfl
    have hall:(p.all fun b=>ab3 b.toNat) = !(p.any fun b => !ab3 b.toNat):=by rw [List.not_any_eq_all_not]; simp
    simp only [b8,i1,h0,p1,e3,p2,k,afd,hd,hz,hall,show ((i:Int)<((j2 46 s).length:Int)) from by omega]
    by_cases h1:p[0]=45
    ·simp [b8,h1]
    ·by_cases h2:p[p.length-1]=45
     ·simp [b8,h1,h2]
     ·by_cases h3:(p.any fun b => !ab3 b.toNat)=true
      ·rw [if_pos h3] at inner'
       simp only [b8,h1,h2,inner']
       simp [h0,h1,h2,h3]
      ·rw [if_neg h3] at inner'
       simp only [b8,h1,h2,inner',e2]
       simp [h0,h1,h2,h3]
  have last:I6 [.str s,.sl false (vT (j2 46 s)),.int .i64 ((j2 46 s).length:Nat)] []=some (some 0,[.str s],[]):=by
   rw [ace]
   simp only [b8,show ¬ (((j2 46 s).length:Int)<((j2 46 s).length:Int)) from by omega]
  have loop:=ade (B:=I6) (S:=fun i=>[.str s,.sl false (vT (j2 46 s)),.int .i64 (i:Nat)]) (H:=[]) (m0:=0) (m1:=1) (vs0:=[.str s]) (vs1:=[.bool false]) (j2 46 s) (fun t => !afd t)
   (fun i hi=>first i hi) last
  exact loop
 have loop':n7 I6 [.str s,.sl false (vT (j2 46 s)),.int .i64 0] []=_:=go
 simp only [b8,e0,loop',agC]
 by_cases hb:((j2 46 s).any fun t => !afd t)=true
 ·simp only [b8,hb,Bool.and_false]
 ·simp only [b8,hb]
  by_cases h:s.length<=40
  ·simp [h,hb]; omega
  ·simp [h,hb]; omega
theorem aty (s:Bs) (hs:s.length<=4000000):qc acp [.str s]=some (.bool (C2 s&&decide (s.length<=40))):=by
 have e1:=abB s (by omega)
 refine w8 (H:=[]) ?_ (by simp only [b8]) rfl
 show cv _ _ _=_
 rw [alW]
 have:decide ((s.length:Int)<=40)=decide (s.length<=40):=decide_eq_decide.2 (by omega)
 simp only [b8,e1,this]
 by_cases h:C2 s=true<;>simp [h]
theorem Z7 (n l d:Bs) (hn:n.length<=4000000) (hl:l.length<=4000000) (hd:d.length<=4000000):qc J7 [.agg [.str n,.str l,.str d]]=some (.bool (G4 n l d)):=by
 have e1:=aty n hn
 have e2:=asA l hl
 have e3:=aqZ d hd
 refine w8 (H:=[]) ?_ (by simp only [b8]) rfl
 show cv _ _ _=_
 rw [af2]
 simp only [b8,e1,e2,e3,G4]
 by_cases h1:(C2 n&&decide (n.length<=40))=true
 ·by_cases h2:(l.length:Int)<=30
  ·by_cases h3:aef l=true
   ·by_cases h4:(d.length:Int)<=40
    ·simp [h1,h2,h3,h4]
    ·have:agC d=false:=by unfold agC; rw [decide_eq_false (by omega),Bool.false_and]
     simp [h1,h2,h3,h4,this]
   ·simp [h1,h2,h3]
  ·have:aef l=false:=by unfold aef; rw [decide_eq_false (by omega),Bool.false_and]
   simp [h1,h2,this]
 ·simp [h1]
theorem anb {b:UInt8} (h1:65<=(b.toNat:Int)) (h2:(b.toNat:Int)<=90):((adm b).toNat:Int)=(b.toNat:Int)+32:=by
 unfold adm
 rw [if_pos (by omega),UInt8.toNat_add]
 have:(32:UInt8).toNat=32:=rfl
 omega
theorem aiv {b:UInt8} (h:¬ (65<=(b.toNat:Int)/\(b.toNat:Int)<=90)):adm b=b:=by
 unfold adm
 rw [if_neg (by omega)]
def V8 (s:Bs) (i:Nat):Bs:=(s.take i).map adm++s.drop i
theorem aeq (s:Bs) (i:Nat):(V8 s i).length=s.length:=by simp [V8]; omega
theorem afZ (s:Bs) (i:Nat) (h:i<s.length):(V8 s i)[i]'(by rw [aeq]; exact h)=s[i]:=by
 simp only [V8]
 rw [List.getElem_append_right (by simp; omega)]
 simp only [List.length_map,List.length_take,List.getElem_drop]
 congr 1; omega
theorem ae6 (s:Bs) (i:Nat) (h:i<s.length):(V8 s i).set i (adm s[i])=V8 s (i+1):=by
 have h0:((s.take i).map adm).length=i:=by simp; omega
 conv=>lhs; rw [V8,List.drop_eq_getElem_cons h,List.set_append_right _ _ (by omega),h0,Nat.sub_self,List.set_cons_zero]
 rw [V8,List.take_succ_eq_append_getElem h,List.map_append,List.append_assoc]
 rfl
theorem anX (s:Bs):V8 s s.length=I8 s:=by simp [V8,I8]
theorem aem (s:Bs) (hs:s.length<=1000000000):qc V0 [.str s]=some (.str (I8 s)):=by
 suffices h:j9 (cv V0 [.str s] []) fun r=>r.1 = .str (I8 s) by
  obtain ⟨⟨v,H⟩,e,h⟩:=h
  have h:v=_:=h
  subst h
  exact w8 e (by simp only [b8]) rfl
 rw [aiN]
 simp only [b8,auK,ah0,List.nil_append]
 refine j9.P5 (I:=fun n st H=>∃ i:Nat,n=s.length-i/\i<=s.length/\st=[.z8 0 0 s.length 1,.int .i64 (i:Nat)]/\H[0]? = some (cB (V8 s i)))
  (P:=fun m vs H=>m=0/\vs=[.z8 0 0 s.length 1]/\H[0]? = some (cB (I8 s))) (n:=s.length) ?_ ⟨0,by omega,by omega,rfl,by simp [V8]⟩ ?_
 ·rintro n st H ⟨i,rfl,hi,rfl,hk⟩
  rw [af8]
  by_cases hlt:i<s.length
  ·have ho:=ala 0 0 s.length 1 .i64 i hlt
   have hl:=aw1 (g:=C5) (i:=i) hk (by rw [aeq]; exact hlt)
   rw [afZ s i hlt] at hl
   have e2:a8 (.int .i64) .add (.int .i64 (i:Int)) (.int .i64 1)=some (.int .i64 ((i+1:Nat):Int)):=y1 _ i 1 (by omega)
   have hst:=awK (i:=i) (adm s[i]) hk (by rw [aeq]; exact hlt)
   rw [ae6 s i hlt] at hst
   simp only [Nat.zero_add,Nat.mul_one] at ho
   have hself:(V8 s i).set i s[i]=V8 s i:=by
    have h:=afZ s i hlt
    rw [<-h]
    exact List.set_getElem_self _
   have stay:adm s[i]=s[i]->H[0]? = some (cB (V8 s (i+1))):=fun hb=>by
    rw [hk,<-ae6 s i hlt,hb,hself]
   by_cases h1:(s[i].toNat:Int)>=65
   ·by_cases h2:(s[i].toNat:Int)<=90
    ·have e3:=arJ (.int .u8) (s[i].toNat:Int) 32 (by omega) (by omega)
     rw [<-anb h1 h2] at e3
     simp only [b8,ho,hl,h1,h2,e3,hst,e2,show ((i:Int)<(s.length:Int)) from by omega]
     exact ⟨_,rfl,.inr ⟨rfl,s.length-(i+1),by omega,i+1,rfl,by omega,rfl,by rw [List.getElem?_set,if_pos rfl,if_pos (List.getElem?_eq_some_iff.1 hk).1]⟩⟩
    ·simp only [b8,ho,hl,h1,h2,e2,show ((i:Int)<(s.length:Int)) from by omega]
     exact ⟨_,rfl,.inr ⟨rfl,s.length-(i+1),by omega,i+1,rfl,by omega,rfl,stay (aiv (by omega))⟩⟩
   ·simp only [b8,ho,hl,h1,e2,show ((i:Int)<(s.length:Int)) from by omega]
    exact ⟨_,rfl,.inr ⟨rfl,s.length-(i+1),by omega,i+1,rfl,by omega,rfl,stay (aiv (by omega))⟩⟩
  ·have:i=s.length:=by omega
   subst this
   simp only [b8,show ¬ ((s.length:Int)<(s.length:Int)) from by omega]
   exact ⟨_,rfl,.inl ⟨0,rfl,rfl,rfl,by rw [hk,anX]⟩⟩
 rintro _ _ H ⟨rfl,rfl,hk⟩
 have hb:=auS hk
 have hl:(I8 s).length=s.length:=by simp [I8]
 rw [hl] at hb
 simp only [b8,hb]
 exact j9.here rfl
def axl (c:UInt8) (s a z:Bs) (ok:Bool):Prop:=((34:UInt8) ∉ aes c s/\a=aes c s/\z=agN c s/\ok=decide (c ∈ s))\/((34:UInt8) ∈ aes c s/\(34:UInt8) ∈ a/\a.length<=s.length/\z.length<=s.length)
theorem axl.len {c:UInt8} {s a z:Bs} {ok:Bool} (h:axl c s a z ok):a.length<=s.length/\z.length<=s.length:=by
 rcases h with ⟨_,rfl,rfl,_⟩ | ⟨_,_,h⟩
 ·exact ⟨atX c s,ath c s⟩
 ·exact h
end Go.Proofs.YtpbgpeojlfdpoaaGreatDoor.Q

/- Contracts: names that are coded and read. -/
import Derived.Test.YtmokcpfbeggigaaGreatDoorScriptNameCm1namecodeZ
namespace Go.Proofs.YtmokcpfbeggigaaGreatDoor.Q
open Go Go.AM
set_option linter.unusedSimpArgs false
set_option linter.unusedVariables false
set_option linter.unusedSectionVars false
theorem avX (s:Bs) (hs:s.length<=1000000) (H:VH):cv abg [.str s,.str [61,63]] H=some (.bool (G9 s),H):=by
 show G7 vb _ _ _=_
 rw [aiw vb _ _ _ (g:=alw) rfl]
 simp only [alw]
 rw [if_pos (by omega),aq2]
theorem am0 (s:Bs) (hs:s.length<=1000000):qc aad [.str s]=some (.bool (ndC s)):=by
 have e1:=ane s (by omega)
 have e2:=ar2 s (by omega)
 have e3:=avX s hs []
 refine y5 (H:=[]) ?_ (by simp only [j0]) rfl
 show cv _ _ _=_
 rw [ag0]
 unfold ndC
 cases c1:aat s with
 | false =>
   rw [c1] at e1
   simp only [j0,e1,Bool.not_false,Bool.true_or]
 | true =>
   rw [c1] at e1
   by_cases c2:agW s=s
   ·rw [c2] at e2
    rw [c2]
    cases c3:G9 s with
    | true =>
      rw [c3] at e3
      simp only [j0,e1,e2,e3,ne_eq,not_true,decide_false,Bool.not_true,Bool.false_or,Bool.true_or]
    | false =>
      rw [c3] at e3
      have hd:decide (120<s.length)=decide ((s.length:Int)>120):=decide_eq_decide.2 (by omega)
      simp only [j0,e1,e2,e3,ne_eq,not_true,decide_false,Bool.not_true,Bool.false_or,hd]
   ·simp only [j0,e1,e2,c2,ne_eq,not_false_eq_true,decide_true,Bool.not_true,Bool.false_or,Bool.true_or]
theorem atb {s:Bs} {i:Nat} (h:i+1<s.length):G9 (s.drop i)=((decide (s[i]=61)&&decide (s[i+1]=63))||G9 (s.drop (i+1))):=by
 rw [List.drop_eq_getElem_cons (show i<s.length by omega),List.drop_eq_getElem_cons h]
 rfl
theorem arW {s:Bs} {i:Nat} (h:¬ i+1<s.length):G9 (s.drop i)=false:=by
 by_cases hi:i<s.length
 ·rw [List.drop_eq_getElem_cons hi,List.drop_eq_nil_of_le (by omega)]; rfl
 ·rw [List.drop_eq_nil_of_le (by omega)]; rfl
theorem aie (s:Bs) (hs:s.length<=1000000):qc R9 [.str s]=some (.bool (ndC s)):=by
 have e1:=air s (by omega)
 have e2:=arF s (by omega)
 suffices h:k9 (cv R9 [.str s] []) fun r=>r.1 = .bool (ndC s) by
  obtain ⟨⟨v,H⟩,e,h⟩:=h
  have h:v=_:=h
  subst h
  exact y5 e (by simp only [j0]) rfl
 rw [ahi]
 refine k9.P6 (I:=fun n st H=>∃ i:Nat,n=s.length-i/\st=[.str s,.int .i64 (i:Nat)]/\i<=s.length/\G9 (s.drop i)=G9 s)
  (P:=fun q vs H=>(q=0/\G9 s=false/\vs=[.str s])\/(q=1/\G9 s=true/\vs=[.bool true])) (n:=s.length) ?_ ⟨0,by omega,rfl,by omega,rfl⟩ ?_
 ·rintro n st H ⟨i,rfl,rfl,hi,inv⟩
  rw [aeD]
  have e3:a8 (.int .i64) .add (.int .i64 (i:Int)) (.int .i64 1)=some (.int .i64 ((i+1:Nat):Int)):=C0 _ i 1 (by omega)
  by_cases hlt:i+1<s.length
  ·have i1:=R5 s .i64 i (by omega)
   have i2:=R5 s .i64 (i+1) hlt
   have h61 := @aaW s[i] 61 (by omega)
   have h63 := @aaW s[i+1] 63 (by omega)
   rw [atb hlt] at inv
   by_cases g1:(s[i].toNat:Int)=61
   ·by_cases g2:(s[i+1].toNat:Int)=63
    ·have b1:s[i]=61:=h61.1 g1
     have b2:s[i+1]=63:=h63.1 g2
     simp only [b1,b2,decide_true,Bool.true_and,Bool.true_or] at inv
     simp only [j0,e3,i1,i2,eq_true g1,eq_true g2,show (((i+1:Nat):Int)<(s.length:Int)) from by omega]
     exact ⟨_,rfl,.inl ⟨1,rfl,.inr ⟨rfl,inv.symm,rfl⟩⟩⟩
    ·have b2:¬ s[i+1]=63:=fun e=>g2 (h63.2 e)
     simp only [b2,decide_false,Bool.and_false,Bool.false_or] at inv
     simp only [j0,e3,i1,i2,eq_true g1,g2,show (((i+1:Nat):Int)<(s.length:Int)) from by omega]
     exact ⟨_,rfl,.inr ⟨rfl,s.length-(i+1),by omega,i+1,rfl,rfl,by omega,inv⟩⟩
   ·have b1:¬ s[i]=61:=fun e=>g1 (h61.2 e)
    simp only [b1,decide_false,Bool.false_and,Bool.false_or] at inv
    simp only [j0,e3,i1,g1,show (((i+1:Nat):Int)<(s.length:Int)) from by omega]
    exact ⟨_,rfl,.inr ⟨rfl,s.length-(i+1),by omega,i+1,rfl,rfl,by omega,inv⟩⟩
  ·rw [arW hlt] at inv
   simp only [j0,e3,show ¬ (((i+1:Nat):Int)<(s.length:Int)) from by omega]
   exact ⟨_,rfl,.inl ⟨0,rfl,.inl ⟨rfl,inv.symm,rfl⟩⟩⟩
 rintro _ _ H (⟨rfl,hq,rfl⟩ | ⟨rfl,hq,rfl⟩)
 ·unfold ndC
  rw [hq]
  cases c1:aat s with
  | false =>
    rw [c1] at e1
    simp only [j0,e1,Bool.not_false,Bool.true_or]
    exact k9.here rfl
  | true =>
    rw [c1] at e1
    by_cases c2:agW s=s
    ·rw [c2] at e2
     rw [c2]
     have hd:decide (120<s.length)=decide ((s.length:Int)>120):=decide_eq_decide.2 (by omega)
     simp only [j0,e1,e2,ne_eq,not_true,decide_false,Bool.not_true,Bool.false_or,hd]
     exact k9.here rfl
    ·simp only [j0,e1,e2,c2,ne_eq,not_false_eq_true,decide_true,Bool.not_true,Bool.false_or,Bool.true_or]
     exact k9.here rfl
 ·unfold ndC
  rw [hq]
  simp only [j0,Bool.true_or,Bool.or_true]
  exact k9.here rfl
def enT:Option Bs->List V
 | some s=>[.str s,.bool true]
 | none=>[.str [],.bool false]
theorem aiG (l:List Bs) (h:∀ c ∈ l,(cw c).length<=40):(C8 [32] (l.map cw)).length<=41*l.length:=by
 cases l with
 | nil=>simp [C8]
 | cons a l =>
   have ha:=h a (by simp)
   have ht:(tlW (l.map cw)).length<=41*l.length:=by
    clear ha
    have h':∀ c ∈ l,(cw c).length<=40:=fun c hc=>h c (by simp [hc])
    clear h
    induction l with
    | nil=>simp [tlW]
    | cons b l ih =>
      have:=ih fun c hc=>h' c (by simp [hc])
      have hb:=h' b (by simp)
      have e:tlW ((b::l).map cw)=32::cw b++tlW (l.map cw):=by simp [tlW]
      rw [e]
      simp only [List.length_append,List.length_cons]; omega
   rw [List.map_cons,U9]
   simp only [List.length_append,List.length_cons]; omega
theorem af7 (b:Bs) (hb:b.length<=1000000):qc K5 [.str b]=some (.o8 (enT (V0 b))):=by
 suffices h:k9 (cv K5 [.str b] []) fun r=>r.1 = .o8 (enT (V0 b)) by
  obtain ⟨⟨v,H⟩,e,h⟩:=h
  have h:v=_:=h
  subst h
  exact y5 e (by simp only [j0]) (by cases V0 b<;>simp only [enT,j0])
 have e1:=am0 b hb
 rw [afN]
 unfold V0
 by_cases c1:120<b.length
 ·rw [if_pos c1]
  simp only [j0,show ((b.length:Int)>120) from by omega,enT]
  exact k9.here rfl
 ·rw [if_neg c1]
  cases c2:ndC b with
  | false =>
    rw [c2] at e1
    simp only [j0,e1,show ¬ ((b.length:Int)>120) from by omega,enT]
    exact k9.here rfl
  | true =>
    rw [c2] at e1
    rw [if_neg (by decide)]
    simp only [j0,e1,show ¬ ((b.length:Int)>120) from by omega,enT]
    have hok:=agD b
    have hm:=afH b
    have hcl:=(Q5 b).2
    refine k9.P6 (I:=fun n st H=>∃ (t:Bs) (acc:List Bs),n=t.length/\st=[.str t,.sl true (vT (acc.map cw))]/\t.length+acc.length<=b.length/\acc++Q7 t=Q7 b)
     (P:=fun q vs H=>q=0/\vs=[.sl true (vT ((Q7 b).map cw))]) (n:=b.length) ?_ ⟨b,[],rfl,rfl,by simp,rfl⟩ ?_
    ·rintro n st H ⟨t,acc,rfl,rfl,hta,inv⟩
     rw [aeB]
     by_cases h0:t=[]
     ·subst h0
      rw [aby,List.append_nil] at inv
      simp only [j0,List.length_nil,show ¬ (((0:Nat):Int)>0) from by omega]
      exact ⟨_,rfl,.inl ⟨0,rfl,rfl,by rw [inv]⟩⟩
     ·have hl:=List.length_pos_iff.2 h0
      have hg:=aei h0
      simp only [j0,show ((t.length:Int)>0) from by omega]
      refine k9.P6 (I:=fun n st G=>∃ k:Nat,n=t.length-k/\st=[.str t,.sl true (vT (acc.map cw)),.int .i64 (k:Nat)]/\k<=t.length/\gN t k=gN t 1)
       (P:=fun q vs G=>q=0/\vs=[.str t,.sl true (vT (acc.map cw)),.int .i64 ((gN t 1:Nat):Int)]) (n:=t.length-1) ?_ ⟨1,rfl,rfl,by omega,rfl⟩ ?_
      ·rintro n st G ⟨k,rfl,rfl,hk,inv2⟩
       rw [aey]
       by_cases hlt:k<t.length
       ·have a1:a8 (.int .i64) .add (.int .i64 (k:Int)) (.int .i64 1)=some (.int .i64 ((k+1:Nat):Int)):=C0 _ k 1 (by omega)
        have p1:=agP t .i64 (k+1) (by omega)
        have f1:=aeJ (t.take (k+1)) (by simp; omega)
        have hcw:=ad4 (t.take (k+1))
        by_cases h28:(y1 (t.take (k+1))).length<=28
        ·rw [aop hlt h28] at inv2
         simp only [j0,a1,p1,f1,show ((k:Int)<(t.length:Int)) from by omega,show (((cw (t.take (k+1))).length:Int)<=40) from by omega]
         exact ⟨_,rfl,.inr ⟨rfl,t.length-(k+1),by omega,k+1,rfl,rfl,by omega,inv2⟩⟩
        ·rw [aiz (fun q=>h28 q.2)] at inv2
         simp only [j0,a1,p1,f1,show ((k:Int)<(t.length:Int)) from by omega,show ¬ (((cw (t.take (k+1))).length:Int)<=40) from by omega]
         exact ⟨_,rfl,.inl ⟨0,rfl,rfl,by rw [inv2]⟩⟩
       ·rw [aiz (fun q=>hlt q.1)] at inv2
        simp only [j0,show ¬ ((k:Int)<(t.length:Int)) from by omega]
        exact ⟨_,rfl,.inl ⟨0,rfl,rfl,by rw [inv2]⟩⟩
      rintro _ _ G ⟨rfl,rfl⟩
      have he:=ab3 h0
      generalize gN t 1=k at *
      have p1:=agP t .i64 k (by omega)
      have p2:=agH t .i64 k (by omega)
      have f1:=aeJ (t.take k) (by simp; omega)
      have ap:W8 false 1 16 (vT (acc.map cw)) (.sl true [[.str (cw (t.take k))]])=some (.sl true (vT ((acc++[t.take k]).map cw))):=by
       have:=asF 1 16 (vT (acc.map cw)) true (vT [cw (t.take k)]) (ajy _) (ajy _) (by rw [agp,agp]; simp; omega)
       rw [atZ] at this
       rw [List.map_append]
       exact this
      simp only [j0,p1,p2,f1,ap]
      exact k9.here (.inr ⟨rfl,(t.drop k).length,by simp; omega,t.drop k,acc++[t.take k],rfl,rfl,by simp; omega,by rw [<-inv,he]; simp⟩)
    rintro _ _ H ⟨rfl,rfl⟩
    have hjl:=aiG (Q7 b) fun c hc=>(hok c hc).2
    have ej:=auX false ((Q7 b).map cw) [32] H (by simp; omega) (by omega)
    simp only [j0,ac2,ej]
    exact k9.here rfl
theorem as7 (a b:List Bs):tlW (a++b)=tlW a++tlW b:=by simp [tlW]
def adN (acc:List Bs):Bs:=C8 [32] (acc.map cw)
theorem apP (acc:List Bs) (c:Bs):adN (acc++[c])=(if acc=[] then [] else adN acc++[32])++cw c:=by
 unfold adN
 cases acc with
 | nil=>simp [C8]
 | cons a l =>
   rw [if_neg (by simp)]
   simp only [List.cons_append,List.map_cons,List.map_append,List.map_nil,U9,as7]
   simp [tlW]
theorem ag8 (b:Bs) (hb:b.length<=1000000):qc P3 [.str b]=some (.o8 (enT (V0 b))):=by
 suffices h:k9 (cv P3 [.str b] []) fun r=>r.1 = .o8 (enT (V0 b)) by
  obtain ⟨⟨v,H⟩,e,h⟩:=h
  have h:v=_:=h
  subst h
  exact y5 e (by simp only [j0]) (by cases V0 b<;>simp only [enT,j0])
 have e1:=aie b hb
 rw [afI]
 unfold V0
 by_cases c1:120<b.length
 ·rw [if_pos c1]
  simp only [j0,show ((b.length:Int)>120) from by omega,enT]
  exact k9.here rfl
 ·rw [if_neg c1]
  cases c2:ndC b with
  | false =>
    rw [c2] at e1
    simp only [j0,e1,show ¬ ((b.length:Int)>120) from by omega,enT]
    exact k9.here rfl
  | true =>
    rw [c2] at e1
    rw [if_neg (by decide)]
    simp only [j0,e1,show ¬ ((b.length:Int)>120) from by omega,enT]
    have hok:=agD b
    refine k9.P6 (I:=fun n st H=>∃ (s:Nat) (acc:List Bs),n=b.length-s/\s<=b.length/\st=[.str b,.str (adN acc),.int .i64 (s:Nat)]/\acc.length<=s/\(acc=[]<->s=0)/\acc++Q7 (b.drop s)=Q7 b)
     (P:=fun q vs H=>q=0/\vs=[.str (C8 [32] ((Q7 b).map cw))]) (n:=b.length) ?_ ⟨0,[],rfl,by omega,rfl,by simp,by simp,by simp⟩ ?_
    ·rintro n st H ⟨s,acc,rfl,hs,rfl,hal,hz,inv⟩
     rw [ad7]
     by_cases hlt0:s<b.length
     ·have h0:b.drop s ≠ []:=by
       intro e
       have:=congrArg List.length e
       simp at this; omega
      have hg:=aei h0
      rw [List.length_drop] at hg
      have a0:a8 (.int .i64) .add (.int .i64 (s:Int)) (.int .i64 1)=some (.int .i64 ((s+1:Nat):Int)):=C0 _ s 1 (by omega)
      simp only [j0,a0,show ((s:Int)<(b.length:Int)) from by omega]
      refine k9.P6 (I:=fun n st G=>∃ k:Nat,n=b.length-s-k/\st=[.str b,.str (adN acc),.int .i64 (s:Nat),.int .i64 ((s+k:Nat):Int)]/\s+k<=b.length/\gN (b.drop s) k=gN (b.drop s) 1)
       (P:=fun q vs G=>q=0/\vs=[.str b,.str (adN acc),.int .i64 (s:Nat),.int .i64 ((s+gN (b.drop s) 1:Nat):Int)]) (n:=b.length-s-1) ?_ ⟨1,rfl,rfl,by omega,rfl⟩ ?_
      ·rintro n st G ⟨k,rfl,rfl,hk,inv2⟩
       rw [aec]
       by_cases hlt:s+k<b.length
       ·have a1:a8 (.int .i64) .add (.int .i64 ((s+k:Nat):Int)) (.int .i64 1)=some (.int .i64 ((s+k+1:Nat):Int)):=C0 _ (s+k) 1 (by omega)
        have p1:=ak9 b .i64 .i64 s (s+k+1) (by omega) (by omega)
        rw [show s+k+1-s=k+1 by omega] at p1
        have f1:=al9 ((b.drop s).take (k+1)) (by simp; omega)
        by_cases h28:(y1 ((b.drop s).take (k+1))).length<=28
        ·rw [aop (by rw [List.length_drop]; omega) h28] at inv2
         simp only [j0,a1,p1,f1,show (((s+k:Nat):Int)<(b.length:Int)) from by omega,show (((y1 ((b.drop s).take (k+1))).length:Int)<=28) from by omega]
         exact ⟨_,rfl,.inr ⟨rfl,b.length-s-(k+1),by omega,k+1,rfl,rfl,by omega,inv2⟩⟩
        ·rw [aiz (fun q=>h28 q.2)] at inv2
         simp only [j0,a1,p1,f1,show (((s+k:Nat):Int)<(b.length:Int)) from by omega,show ¬ (((y1 ((b.drop s).take (k+1))).length:Int)<=28) from by omega]
         exact ⟨_,rfl,.inl ⟨0,rfl,rfl,by rw [inv2]⟩⟩
       ·rw [aiz (fun q=>hlt (by have:=q.1; rw [List.length_drop] at this; omega))] at inv2
        simp only [j0,show ¬ (((s+k:Nat):Int)<(b.length:Int)) from by omega]
        exact ⟨_,rfl,.inl ⟨0,rfl,rfl,by rw [inv2]⟩⟩
      rintro _ _ G ⟨rfl,rfl⟩
      have he:=ab3 h0
      rw [he] at inv
      have hok2:=hok ((b.drop s).take (gN (b.drop s) 1)) (by rw [<-inv]; simp)
      have hjl:=aiG acc fun c hc=>(hok c (by rw [<-inv]; simp [hc])).2
      generalize gN (b.drop s) 1=k at *
      have p1:=ak9 b .i64 .i64 s (s+k) (by omega) (by omega)
      rw [Nat.add_sub_cancel_left] at p1
      have f1:=aiA ((b.drop s).take k) (by simp; omega)
      unfold cwP at f1
      have hkl:((b.drop s).take k).length<=40:=by
       have:=(Q5 ((b.drop s).take k)).1
       have:=ad4 ((b.drop s).take k)
       omega
      rw [if_pos ⟨hok2.1,hkl,hok2.2⟩] at f1
      have hsn:=apP acc ((b.drop s).take k)
      have hol:(adN acc).length<=41*acc.length:=hjl
      by_cases hs0:s=0
      ·have hacc:acc=[]:=hz.2 hs0
       subst hacc
       rw [if_pos rfl,List.nil_append] at hsn
       have a3:a8 .str .add (.str (adN [])) (.str (cw ((b.drop s).take k)))=some (.str (cw ((b.drop s).take k))):=F1 .str [] (cw ((b.drop s).take k)) (by simp; omega)
       simp only [j0,p1,f1,a3,show ¬ ((s:Int)>0) from by omega]
       refine k9.here (.inr ⟨rfl,b.length-(s+k),by omega,s+k,[(b.drop s).take k],rfl,by omega,?_,by simp; omega,by simp; omega,?_⟩)
       ·rw [List.nil_append] at hsn; rw [hsn]
       ·rw [<-inv,List.drop_drop]; simp
      ·have hacc:acc ≠ []:=fun e=>hs0 (hz.1 e)
       rw [if_neg hacc] at hsn
       have a2:=F1 .str (adN acc) [32] (by simp; omega)
       have a3:=F1 .str (adN acc++[32]) (cw ((b.drop s).take k)) (by simp; omega)
       rw [<-hsn] at a3
       simp only [j0,p1,f1,a2,a3,show ((s:Int)>0) from by omega]
       refine k9.here (.inr ⟨rfl,b.length-(s+k),by omega,s+k,acc++[(b.drop s).take k],rfl,by omega,rfl,by simp; omega,by simp; omega,?_⟩)
       rw [<-inv,List.drop_drop]; simp
     ·have hd:b.drop s=[]:=List.drop_eq_nil_of_le (by omega)
      rw [hd,aby,List.append_nil] at inv
      simp only [j0,show ¬ ((s:Int)<(b.length:Int)) from by omega]
      exact ⟨_,rfl,.inl ⟨0,rfl,rfl,by rw [<-inv]; rfl⟩⟩
    rintro _ _ H ⟨rfl,rfl⟩
    simp only [j0]
    exact k9.here rfl
theorem alx (s:Bs) (hs:s.length<=1000000):qc O5 [.str s]=some (.o8 (enT (dcW s))):=by
 suffices h:k9 (cv O5 [.str s] []) fun r=>r.1 = .o8 (enT (dcW s)) by
  obtain ⟨⟨v,H⟩,e,h⟩:=h
  have h:v=_:=h
  subst h
  exact y5 e (by simp only [j0]) (by cases dcW s<;>simp only [enT,j0])
 rw [afB]
 unfold dcW
 by_cases c1:600<s.length
 ·rw [if_pos c1]
  simp only [j0,show ((s.length:Int)>600) from by omega,enT]
  exact k9.here rfl
 ·rw [if_neg c1]
  have e1:pc K0 [.str s,.str [32]]=_:=an7 s 32 (by omega)
  have hsm:=alr 32 s
  have hlen:=aje 32 s
  have hcnt:s.count 32<=s.length:=List.count_le_length
  generalize j9 32 s=l at *
  have hL:J7 (.sl false (vT l))=some (.int .i64 (l.length:Nat)):=by rw [<-agp]; rfl
  simp only [j0,e1,hL,show ¬ ((s.length:Int)>600) from by omega]
  refine k9.P6 (I:=fun n st H=>∃ (i:Nat) (out:Bs) (cd:Bool),n=l.length-i/\i<=l.length/\out.length<=2000*i/\st=[.str out,.bool cd,.sl false (vT l),.int .i64 (l.length:Nat),.int .i64 (i:Nat)]/\out++Z6 (decide (i=0)) cd (l.drop i)=Z6 true false l)
   (P:=fun q vs H=>q=0/\vs=[.str (Z6 true false l)]) (n:=l.length) ?_ ⟨0,[],false,by omega,by omega,by simp,rfl,by simp⟩ ?_
  ·rintro n st H ⟨i,out,cd,rfl,hi,ho,rfl,inv⟩
   rw [aeC]
   by_cases hlt:i<l.length
   ·have i1:=aiR false l .i64 i hlt
    have htl:=hsm _ (List.getElem_mem hlt)
    have f1:=ajM l[i] (by omega)
    have e2:a8 (.int .i64) .add (.int .i64 (i:Int)) (.int .i64 1)=some (.int .i64 ((i+1:Nat):Int)):=C0 _ i 1 (by omega)
    rw [List.drop_eq_getElem_cons hlt] at inv
    simp only [Z6] at inv
    have a1:=F1 .str out [32] (by simp; omega)
    unfold rdP at f1
    have hrl:∀ o,rdW l[i]=some o->o.length<=40:=fun o h=>by
     unfold rdW at h
     split at h
     ·split at h
      ·rename_i q; cases h; exact q.2.1
      ·cases h
     ·cases h
    have fin:∀ (out' p:Bs) (cd':Bool),out'++(p++Z6 false cd' (l.drop (i+1)))=Z6 true false l->out'.length+p.length<=2000*(i+1)->∃ n',n'<l.length-i/\∃ (i':Nat) (out2:Bs) (cd2:Bool),n'=l.length-i'/\i'<=l.length/\out2.length<=2000*i'/\[V.str (out'++p),.bool cd',.sl false (vT l),.int .i64 (l.length:Nat),.int .i64 ((i+1:Nat):Int)]=[.str out2,.bool cd2,.sl false (vT l),.int .i64 (l.length:Nat),.int .i64 (i':Nat)]/\out2++Z6 (decide (i'=0)) cd2 (l.drop i')=Z6 true false l:=fun out' p cd' h1 h2 =>
     ⟨l.length-(i+1),by omega,i+1,out'++p,cd',rfl,by omega,by simp; omega,rfl,by rw [decide_eq_false (by omega),List.append_assoc]; exact h1⟩
    by_cases h0:i=0
    ·rw [if_neg (by simp [h0]),List.nil_append] at inv
     cases hr:rdW l[i] with
     | none =>
       rw [hr] at f1 inv
       simp only [Option.getD_none,Option.isSome_none] at inv
       have a2:=F1 .str out l[i] (by omega)
       simp only [j0,i1,f1,a2,e2,show ¬ ((i:Int)>0) from by omega,show ((i:Int)<(l.length:Int)) from by omega]
       exact ⟨_,rfl,.inr ⟨rfl,fin out l[i] false inv (by omega)⟩⟩
     | some o =>
       have hol:=hrl o hr
       rw [hr] at f1 inv
       simp only [Option.getD_some,Option.isSome_some] at inv
       have a2:=F1 .str out o (by omega)
       simp only [j0,i1,f1,a2,e2,show ¬ ((i:Int)>0) from by omega,show ((i:Int)<(l.length:Int)) from by omega]
       exact ⟨_,rfl,.inr ⟨rfl,fin out o true inv (by omega)⟩⟩
    ·cases hr:rdW l[i] with
     | none =>
       rw [hr] at f1 inv
       simp only [Option.getD_none,Option.isSome_none,Bool.and_false,decide_eq_false h0,and_self,if_true,<-List.append_assoc] at inv
       rw [List.append_assoc] at inv
       have a2:=F1 .str (out++[32]) l[i] (by simp; omega)
       cases cd with
       | true =>
         simp only [j0,i1,f1,a1,a2,e2,show ((i:Int)>0) from by omega,show ((i:Int)<(l.length:Int)) from by omega]
         exact ⟨_,rfl,.inr ⟨rfl,fin (out++[32]) l[i] false inv (by simp; omega)⟩⟩
       | false =>
         simp only [j0,i1,f1,a1,a2,e2,show ((i:Int)>0) from by omega,show ((i:Int)<(l.length:Int)) from by omega]
         exact ⟨_,rfl,.inr ⟨rfl,fin (out++[32]) l[i] false inv (by simp; omega)⟩⟩
     | some o =>
       have hol:=hrl o hr
       rw [hr] at f1 inv
       cases cd with
       | true =>
         have a2:=F1 .str out o (by omega)
         simp only [Option.getD_some,Option.isSome_some,Bool.and_true,decide_eq_false h0,true_and,Bool.true_eq_false,if_false,List.nil_append] at inv
         simp only [j0,i1,f1,a1,a2,e2,show ((i:Int)>0) from by omega,show ((i:Int)<(l.length:Int)) from by omega]
         exact ⟨_,rfl,.inr ⟨rfl,fin out o true inv (by omega)⟩⟩
       | false =>
         have a2:=F1 .str (out++[32]) o (by simp; omega)
         simp only [Option.getD_some,Option.isSome_some,Bool.and_true,decide_eq_false h0,and_self,if_true,<-List.append_assoc] at inv
         rw [List.append_assoc] at inv
         simp only [j0,i1,f1,a1,a2,e2,show ((i:Int)>0) from by omega,show ((i:Int)<(l.length:Int)) from by omega]
         exact ⟨_,rfl,.inr ⟨rfl,fin (out++[32]) o true inv (by simp; omega)⟩⟩
   ·have he:i=l.length:=by omega
    rw [he,List.drop_length] at inv
    simp only [Z6,List.append_nil] at inv
    simp only [j0,show ¬ ((i:Int)<(l.length:Int)) from by omega]
    exact ⟨_,rfl,.inl ⟨0,rfl,rfl,by rw [inv]⟩⟩
  rintro _ _ H ⟨rfl,rfl⟩
  by_cases c2:120<(Z6 true false l).length
  ·rw [if_pos c2]
   simp only [j0,show (((Z6 true false l).length:Int)>120) from by omega,enT]
   exact k9.here rfl
  ·rw [if_neg c2]
   simp only [j0,show ¬ (((Z6 true false l).length:Int)>120) from by omega,enT]
   exact k9.here rfl
end Go.Proofs.YtmokcpfbeggigaaGreatDoor.Q

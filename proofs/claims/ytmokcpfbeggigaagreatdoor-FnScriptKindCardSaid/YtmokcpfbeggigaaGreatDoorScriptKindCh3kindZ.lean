/- Contracts: kinds are read and written. -/
import Derived.Test.YtmokcpfbeggigaaGreatDoorScriptKindCh2addressZ
namespace Go.Proofs.YtmokcpfbeggigaaGreatDoor.Q
open Go Go.AM
set_option linter.unusedSimpArgs false
set_option linter.unusedVariables false
set_option linter.unusedSectionVars false
theorem amo (c:UInt8) (s:Bs):(C3 c s).length<=s.length:=by unfold C3; split<;>simp; omega
theorem amw (c:UInt8) (s:Bs):(H7 c s).length<=s.length:=by unfold H7; split<;>simp
def Q8 (c:UInt8) (s:Bs):List Bs:=match h:y5 c s 0 with
 | none=>[s]
 | some k=>s.take k::Q8 c (s.drop (k+1))
termination_by s.length
decreasing_by
 have:=(abE h).2
 rw [List.length_drop]; omega
theorem adb {c:UInt8} {s:Bs} (h:y5 c s 0=none):Q8 c s=[s]:=by
 rw [Q8]
 split
 ·rfl
 ·rename_i k hk; rw [h] at hk; cases hk
theorem acN {c:UInt8} {s:Bs} {k:Nat} (h:y5 c s 0=some k):Q8 c s=s.take k::Q8 c (s.drop (k+1)):=by
 conv=>lhs; rw [Q8]
 split
 ·rename_i hk; rw [h] at hk; cases hk
 ·rename_i k' hk; rw [h] at hk; cases hk; rfl
theorem aoh (c:UInt8) (s:Bs):(Q8 c s).length<=s.length+1:=by
 cases h:y5 c s 0 with
 | none=>rw [adb h]; simp
 | some k =>
   have h1:=(abE h).2
   have:=aoh c (s.drop (k+1))
   rw [acN h]
   rw [List.length_drop] at this
   simp only [List.length_cons]; omega
termination_by s.length
decreasing_by
 rw [List.length_drop]; omega
theorem aos (c:UInt8) (s:Bs):∀ t ∈ Q8 c s,(∀ b ∈ t,b ∈ s)/\t.length<=s.length:=by
 cases h:y5 c s 0 with
 | none=>rw [adb h]; intro t ht; simp only [List.mem_singleton] at ht; subst ht; exact ⟨fun _ h=>h,Nat.le_refl _⟩
 | some k =>
   have h1:=(abE h).2
   have ih:=aos c (s.drop (k+1))
   rw [acN h]
   intro t ht
   rcases List.mem_cons.1 ht with rfl | ht
   ·exact ⟨fun b hb=>List.mem_of_mem_take hb,by simp; omega⟩
   ·obtain ⟨a1,a2⟩:=ih t ht
    rw [List.length_drop] at a2
    exact ⟨fun b hb=>List.mem_of_mem_drop (a1 b hb),by omega⟩
termination_by s.length
decreasing_by
 rw [List.length_drop]; omega
abbrev F2:=Bs × Bs
def vF (l:List F2):List (List V):=l.map fun p=>[.str p.1,.str p.2]
def nmB (c:Int):Bool:=ael c||(ahG c||decide (c=45))
def S7 (s:Bs):Bool:=decide (1<=s.length/\s.length<=30)&&((s.head?.any fun b=>ael b.toNat)&&s.all fun b=>nmB b.toNat)
def N3 (s:Bs):Bool:=S7 s&&decide (m7 s=s)
def acd (ps:List F2) (n:Bs):Bool:=ps.any fun p=>decide (m7 p.1=m7 n)
def X4 (ps:List F2) (i:Nat):Bool:=match ps[i]? with
 | none=>false
 | some p=>N3 p.1&&(u7 p.2&&(decide (p.2.length<=40) && !acd (ps.take i) p.1))
def I9 (main sub:Bs) (ps:List F2):Bs:=main++[47]++sub++(ps.map fun p=>[59,32]++p.1++[61]++aaG p.2).flatten
def L9 (main sub:Bs) (ps:List F2):Bool:=N3 main&&(N3 sub&&(decide (ps.length<=4)&&((List.range ps.length).all (X4 ps)&&decide ((I9 main sub ps).length<=150))))
def aba (p:Bs):Option F2:=if (61:UInt8) ∈ p then match B3 (H7 61 p) 0 true [] with | some [w]=>some (m7 (l7 (C3 61 p)),w) | _=>none else none
def B7:List Bs->Option (List F2)
 | []=>some []
 | p::l=>match aba p with | none=>none | some x=>match B7 l with | none=>none | some xs=>some (x::xs)
abbrev Knd:=Bs × Bs × List F2
def Y4 (s:Bs):Option Knd:=if u7 s=false then none else match Q8 59 s with
 | []=>none
 | p::r=>match B7 r with
   | none=>none
   | some ps=>if (47:UInt8) ∈ l7 p/\L9 (m7 (C3 47 (l7 p))) (m7 (H7 47 (l7 p))) ps=true then some (m7 (C3 47 (l7 p)),m7 (H7 47 (l7 p)),ps) else none
def kn3:Option Knd->List V
 | some k=>[.agg [.str k.1,.str k.2.1,.sl true (vF k.2.2)],.bool true]
 | none=>[.agg [.str [],.str [],.sl true []],.bool false]
theorem aak (l:List F2):(vF l).length=l.length:=by simp [vF]
theorem alo (l:List F2):C6 2 (vF l)=true:=by
 simp only [C6,List.all_eq_true]
 intro x hx
 obtain ⟨p,_,rfl⟩:=List.mem_map.1 hx
 rfl
theorem aqu (l:List F2) (n:Nat):(vF l).take n=vF (l.take n):=by simp [vF,List.map_take]
theorem alR:∀ (l:List F2),I8 (vF l)=true
 | []=>rfl
 | p::l=>by
   show (B9 [V.str p.1,V.str p.2]&&I8 (vF l))=true
   rw [alR l]; rfl
theorem p5:∀ (l:List F2),m6 (vF l)=vF l
 | []=>rfl
 | p::l=>by
   show [V.str p.1,V.str p.2]::m6 (vF l)=_
   rw [p5 l]; rfl
theorem Q7:∀ (l:List F2),D9 (vF l)=true
 | []=>rfl
 | p::l=>by
   show (u1 [V.str p.1,V.str p.2]&&D9 (vF l))=true
   rw [Q7 l]; rfl
theorem ad0 (o:Bool) (l:List F2) (i:Nat) (h:i<l.length):A1 2 (.sl o (vF l)) (.int .i64 (i:Int))=some (.D3 [.str l[i].1,.str l[i].2] 0):=by
 rw [anE 2 o (vF l) .i64 i [.str l[i].1,.str l[i].2] (by simp [vF,List.getElem?_eq_getElem h]) rfl]; rfl
theorem al4 (l:List F2) (x:F2) (h:l.length<=1000000):I5 false 2 32 (vF l) (.sl true [[.str x.1,.str x.2]])=some (.sl true (vF (l++[x]))):=by
 have:=agD 2 32 (vF l) true (vF [x]) (alo _) (alo _) (by rw [aak,aak]; simp; omega)
 rw [show vF l++vF [x]=vF (l++[x]) from by simp [vF]] at this
 exact this
theorem amh (s:Bs) (c:UInt8) (hs:s.length<=1000000):pc J7 [.str s,.int .u8 (c.toNat:Int)]=some (.sl true (vT (Q8 c s))):=by
 suffices h:j2 (cv J7 [.str s,.int .u8 (c.toNat:Int)] []) fun r=>r.1 = .sl true (vT (Q8 c s)) by
  obtain ⟨⟨v,H⟩,e,h⟩:=h
  have h:v=_:=h
  subst h
  exact aeW e (by simp only [b8]) (by simp only [b8])
 rw [agC]
 refine j2.H5 (I:=fun n st H=>∃ (t:Bs) (acc:List Bs),n=t.length/\t.length+acc.length<=s.length/\st=[.str t,.int .u8 (c.toNat:Int),.sl true (vT acc)]/\acc++Q8 c t=Q8 c s)
  (P:=fun q vs H=>q=0/\vs=[.sl true (vT (Q8 c s))]) (n:=s.length) ?_ ⟨s,[],rfl,by simp,rfl,rfl⟩ ?_
 ·rintro n st H ⟨t,acc,rfl,ht,rfl,inv⟩
  rw [aeE]
  have e1:=asj t c (by omega)
  have ap1:∀ x:Bs,I5 false 1 16 (vT acc) (.sl true [[.str x]])=some (.sl true (vT (acc++[x]))):=fun x=>by
   have:=agD 1 16 (vT acc) true (vT [x]) (abS _) (abS _) (by rw [abW,abW]; simp; omega)
   rw [aoH] at this
   exact this
  cases hq:y5 c t 0 with
  | none =>
    rw [hq] at e1
    simp only [ouI] at e1
    rw [adb hq] at inv
    simp only [b8,e1,ap1,show ((-1:Int)<0) from by decide]
    exact ⟨_,rfl,.inl ⟨0,rfl,rfl,by rw [<-inv]⟩⟩
  | some k =>
    have hk:=(abE hq).2
    rw [hq] at e1
    simp only [ouI] at e1
    rw [acN hq] at inv
    have p1:=agA t .i64 k (by omega)
    have e2:a8 (.int .i64) .add (.int .i64 (k:Int)) (.int .i64 1)=some (.int .i64 ((k+1:Nat):Int)):=p6 _ k 1 (by omega)
    have p2:=adC t .i64 (k+1) (by omega)
    simp only [b8,e1,p1,ap1,e2,p2,show ¬ ((k:Int)<0) from by omega]
    exact ⟨_,rfl,.inr ⟨rfl,(t.drop (k+1)).length,by simp; omega,t.drop (k+1),acc++[t.take k],rfl,by simp; omega,rfl,by rw [<-inv]; simp⟩⟩
 rintro _ _ H ⟨rfl,rfl⟩
 simp only [b8]
 exact j2.here rfl
theorem arZ (c:Int):qc Y6 [.int .u8 c]=some (.bool (nmB c)):=by
 have e1:=ag7 c
 have e2:=anh c
 refine u3 (H:=[]) ?_ rfl rfl
 show cv _ _ _=_
 rw [akv]
 unfold nmB
 cases h1:ael c with
 | true =>
   rw [h1] at e1
   simp only [b8,e1,Bool.true_or]
 | false =>
   rw [h1] at e1
   cases h2:ahG c with
   | true =>
     rw [h2] at e2
     simp only [b8,e1,e2,Bool.true_or,Bool.false_or]
   | false =>
     rw [h2] at e2
     simp only [b8,e1,e2,Bool.false_or]
theorem auq (s:Bs) (hs:s.length<=1000000000):qc aco [.str s]=some (.bool (S7 s)):=by
 have e1:=ak5 Y6 nmB arZ s hs
 refine u3 (H:=[]) ?_ (by simp only [b8]) rfl
 show cv _ _ _=_
 rw [amt]
 unfold S7
 by_cases h1:1<=s.length
 ·by_cases h2:s.length<=30
  ·cases s with
   | nil=>simp at h1
   | cons b l =>
     have i1:l8 (.str (b::l)) (.int .i64 0)=some (.int .u8 (b.toNat:Int)):=G9 (b::l) .i64 0 (by simp)
     have e2:=ag7 (b.toNat:Int)
     have hd:decide (1<=(b::l).length/\(b::l).length<=30)=true:=decide_eq_true ⟨h1,h2⟩
     rw [hd]
     simp only [List.head?_cons,Option.any_some,Bool.true_and]
     generalize hm:b::l=s at *
     cases h3:ael b.toNat with
     | true =>
       rw [h3] at e2
       simp only [b8,i1,e2,e1,show ((s.length:Int)>=1) from by omega,show ((s.length:Int)<=30) from by omega,Bool.true_and]
     | false =>
       rw [h3] at e2
       simp only [b8,i1,e2,show ((s.length:Int)>=1) from by omega,show ((s.length:Int)<=30) from by omega,Bool.false_and]
  ·rw [decide_eq_false (by omega)]
   simp only [b8,show ((s.length:Int)>=1) from by omega,show ¬ ((s.length:Int)<=30) from by omega,Bool.false_and]
 ·rw [decide_eq_false (by omega)]
  simp only [b8,show ¬ ((s.length:Int)>=1) from by omega,Bool.false_and]
theorem adf (s:Bs) (hs:s.length<=1000000000):qc L7 [.str s]=some (.bool (N3 s)):=by
 have e1:=auq s hs
 have e2:=M3 s hs
 refine u3 (H:=[]) ?_ (by simp only [b8]) rfl
 show cv _ _ _=_
 rw [ahi]
 unfold N3
 by_cases h:S7 s=true
 ·simp only [b8,e1,e2,h,Bool.true_and]
 ·have h':S7 s=false:=by simpa using h
  simp only [b8,e1,h',Bool.false_and]
theorem ala (main sub:Bs) (ps:List F2) (h1:main.length<=1000) (h2:sub.length<=1000) (h3:ps.length<=1000) (h4:∀ p ∈ ps,p.1.length<=1000/\p.2.length<=1000):qc Q5 [.agg [.str main,.str sub,.sl false (vF ps)]]=some (.str (I9 main sub ps)):=by
 suffices h:j2 (cv Q5 [.agg [.str main,.str sub,.sl false (vF ps)]] []) fun r=>r.1 = .str (I9 main sub ps) by
  obtain ⟨⟨v,H⟩,e,h⟩:=h
  have h:v=_:=h
  subst h
  exact u3 e (by simp only [b8,Q7]) rfl
 have a1:=G3 .str main [47] (by simp; omega)
 have a2:=G3 .str (main++[47]) sub (by simp; omega)
 have hlen:y0 (.sl false (vF ps))=some (.int .i64 (ps.length:Nat)):=by rw [<-aak]; rfl
 have hb:∀ i,i<=ps.length->(I9 main sub (ps.take i)).length<=2001+3006*i:=fun i hi=>by
  induction i with
  | zero=>simp [I9]; omega
  | succ i ih =>
    have:=ih (by omega)
    have hq:=aei (ps[i]'(by omega)).2
    have hp:=h4 _ (List.getElem_mem (show i<ps.length by omega))
    unfold I9 at this ⊢
    rw [List.take_succ_eq_append_getElem (by omega),List.map_append,List.flatten_append]
    simp only [List.length_append,List.map_cons,List.map_nil,List.flatten_cons,List.flatten_nil,List.length_cons,List.length_nil] at this ⊢
    omega
 have k0:I9 main sub []=main++[47]++sub:=by simp [I9]
 rw [akA]
 simp only [b8,a1,a2,p5,hlen]
 refine j2.H5 (I:=fun n st H=>∃ (i:Nat),n=ps.length-i/\i<=ps.length/\st=[.str (I9 main sub (ps.take i)),.sl false (vF ps),.int .i64 (ps.length:Nat),.int .i64 (i:Nat)])
  (P:=fun q vs H=>q=0/\vs=[.str (I9 main sub ps)]) (n:=ps.length) ?_ ⟨0,by omega,by omega,by rw [List.take_zero,k0]; rfl⟩ ?_
 ·rintro n st H ⟨i,rfl,hi,rfl⟩
  rw [ahj]
  by_cases hlt:i<ps.length
  ·have i1:=ad0 false ps i hlt
   have hp:=h4 _ (List.getElem_mem hlt)
   have e1:=apK ps[i].2 (by omega)
   have e2:a8 (.int .i64) .add (.int .i64 (i:Int)) (.int .i64 1)=some (.int .i64 ((i+1:Nat):Int)):=p6 _ i 1 (by omega)
   have hq:=aei ps[i].2
   have hbi:=hb i hi
   have w1:=G3 .str [59,32] ps[i].1 (by simp; omega)
   have w2:=G3 .str ([59,32]++ps[i].1) [61] (by simp; omega)
   have w3:=G3 .str ([59,32]++ps[i].1++[61]) (aaG ps[i].2) (by simp; omega)
   have w4:=G3 .str (I9 main sub (ps.take i)) ([59,32]++ps[i].1++[61]++aaG ps[i].2) (by simp; omega)
   have hs:I9 main sub (ps.take (i+1))=I9 main sub (ps.take i)++([59,32]++ps[i].1++[61]++aaG ps[i].2):=by
    unfold I9
    rw [List.take_succ_eq_append_getElem hlt,List.map_append,List.flatten_append]
    simp only [List.map_cons,List.map_nil,List.flatten_cons,List.flatten_nil,List.append_assoc,List.append_nil]
   rw [<-hs] at w4
   simp only [List.cons_append,List.nil_append] at w1 w2 w3 w4
   simp only [b8,i1,e1,w1,w2,w3,w4,e2,show ((i:Int)<(ps.length:Int)) from by omega]
   exact ⟨_,rfl,.inr ⟨rfl,ps.length-(i+1),by omega,i+1,rfl,by omega,rfl⟩⟩
  ·have:i=ps.length:=by omega
   subst this
   simp only [b8,List.take_length,show ¬ ((ps.length:Int)<(ps.length:Int)) from by omega]
   exact ⟨_,rfl,.inl ⟨0,rfl,rfl,rfl⟩⟩
 rintro _ _ H ⟨rfl,rfl⟩
 simp only [b8]
 exact j2.here rfl
theorem ajY (a b:Bs) (ha:a.length<=1000000000) (hb:b.length<=1000000000):qc aby [.str a,.str b]=some (.bool (decide (m7 a=m7 b))):=by
 have e1:=M3 a ha
 have e2:=M3 b hb
 refine u3 (H:=[]) ?_ (by simp only [b8]) rfl
 show cv _ _ _=_
 rw [akf]
 simp only [b8,e1,e2]
theorem amx (p:F2) (n:Bs) (h1:p.1.length<=1000000000) (h2:n.length<=1000000000):qc G0 [.agg [.str p.1,.str p.2],.D3 [.str n] 0]=some (.bool (decide (m7 p.1=m7 n))):=by
 have e1:=ajY p.1 n h1 h2
 refine u3 (H:=[]) ?_ (by simp only [b8]) rfl
 show cv _ _ _=_
 rw [agq]
 simp only [b8,e1]
theorem an3 (l:List F2) (n:Bs) (hl:l.length<=1000000000) (h1:∀ p ∈ l,p.1.length<=1000000000) (h2:n.length<=1000000000) :
 qc C1 [.sl false (vF l),.fn G0 [.D3 [.str n] 0]]=some (.int .i64 (if acd l n=true then ((l.findIdx (fun p=>decide (m7 p.1=m7 n)):Nat):Int) else -1)):=by
 refine u3 (H:=[]) ?_ (by simp only [b8,Q7]) rfl
 show cv _ _ _=_
 have hlen:y0 (.sl false (vF l))=some (.int .i64 (l.length:Nat)):=by rw [<-aak]; rfl
 rw [T6]
 have loop:=aov (B:=y8) (S:=fun i=>[.sl false (vF l),.fn G0 [.D3 [.str n] 0],.int .i64 l.length,.int .i64 (i:Nat)]) (H:=[]) (m0:=0) (m1:=1) (vs0:=[]) l (fun p=>decide (m7 p.1=m7 n))
  (fun i hi=>by
   have i1:=ad0 false l i hi
   have e1:=amx l[i] n (h1 _ (List.getElem_mem hi)) h2
   have e2:a8 (.int .i64) .add (.int .i64 (i:Int)) (.int .i64 1)=some (.int .i64 ((i+1:Nat):Int)):=p6 _ i 1 (by omega)
   rw [F9]
   by_cases hp:m7 l[i].1=m7 n
   ·rw [decide_eq_true hp] at e1
    simp only [b8,p5,i1,e1,hp,decide_true,e2,show ((i:Int)<(l.length:Int)) from by omega]
   ·rw [decide_eq_false hp] at e1
    simp only [b8,p5,i1,e1,hp,decide_false,e2,show ((i:Int)<(l.length:Int)) from by omega])
  (by
   rw [F9]
   simp only [b8,show ¬ ((l.length:Int)<(l.length:Int)) from by omega])
 have loop':l3 y8 [.sl false (vF l),.fn G0 [.D3 [.str n] 0],.int .i64 l.length,.int .i64 0] []=_:=loop
 unfold acd
 simp only [b8,p5,hlen,loop']
 by_cases h:l.any (fun p=>decide (m7 p.1=m7 n))=true<;>simp only [b8,h]
theorem aoq (l:List F2) (n:Bs) (hl:l.length<=1000000000) (h1:∀ p ∈ l,p.1.length<=1000000000) (h2:n.length<=1000000000) :
 qc aaj [.sl false (vF l),.str n]=some (.int .i64 (if acd l n=true then ((l.findIdx (fun p=>decide (m7 p.1=m7 n)):Nat):Int) else -1)):=by
 have e1:=an3 l n hl h1 h2
 have hf:afk (([[V.str n]]:VH).getD ([]:VH).length []) ([]:VH).length 0 = .D3 [.str n] 0:=rfl
 refine u3 (H:=[[.str n]]) ?_ (by simp only [b8,Q7]) rfl
 show cv _ _ _=_
 rw [aid]
 simp only [b8,p5,hf,e1]
theorem ae3 {n:Nat} {p:Nat->Bool} {i:Nat} (hi:i<n) (h:p i=false):(List.range n).all p=false:=by
 rw [List.all_eq_false]
 exact ⟨i,by simpa using hi,by rw [h]; decide⟩
theorem ajD (main sub:Bs) (ps:List F2) (h1:main.length<=1000) (h2:sub.length<=1000) (h3:ps.length<=1000) (h4:∀ p ∈ ps,p.1.length<=1000/\p.2.length<=1000):qc O8 [.agg [.str main,.str sub,.sl false (vF ps)]]=some (.bool (L9 main sub ps)):=by
 suffices h:j2 (cv O8 [.agg [.str main,.str sub,.sl false (vF ps)]] []) fun r=>r.1 = .bool (L9 main sub ps) by
  obtain ⟨⟨v,H⟩,e,h⟩:=h
  have h:v=_:=h
  subst h
  exact u3 e (by simp only [b8,Q7]) rfl
 have e1:=adf main (by omega)
 have e2:=adf sub (by omega)
 have e3:=ala main sub ps h1 h2 h3 h4
 have hlen:y0 (.sl false (vF ps))=some (.int .i64 (ps.length:Nat)):=by rw [<-aak]; rfl
 rw [ajm]
 unfold L9
 cases c1:N3 main with
 | false=>rw [c1] at e1; simp only [b8,e1,Bool.false_and]; exact j2.here rfl
 | true =>
 rw [c1] at e1
 cases c2:N3 sub with
 | false=>rw [c2] at e2; simp only [b8,e1,e2,Bool.false_and,Bool.true_and]; exact j2.here rfl
 | true =>
 rw [c2] at e2
 by_cases c3:ps.length<=4
 ·simp only [b8,e1,e2,p5,hlen,c3,decide_true,Bool.true_and,show ¬ ((ps.length:Int)>4) from by omega]
  refine j2.H5 (I:=fun n st H=>∃ (i:Nat),n=ps.length-i/\i<=ps.length/\st=[.sl false (vF ps),.int .i64 (ps.length:Nat),.int .i64 (i:Nat),.str main,.str sub,.sl false (vF ps)]/\∀ j,j<i->X4 ps j=true)
   (P:=fun q vs H=>(q=0/\vs=[.str main,.str sub,.sl false (vF ps)]/\(List.range ps.length).all (X4 ps)=true)\/(q=1/\vs=[.bool false]/\(List.range ps.length).all (X4 ps)=false)) (n:=ps.length) ?_ ⟨0,by omega,by omega,rfl,fun j hj=>by omega⟩ ?_
  ·rintro n st H ⟨i,rfl,hi,rfl,inv⟩
   rw [agr]
   by_cases hlt:i<ps.length
   ·have i1:=ad0 false ps i hlt
    have hp:=h4 _ (List.getElem_mem hlt)
    have f1:=adf ps[i].1 (by omega)
    have f2:=acK ps[i].2 (by omega)
    have f3:=aoq (ps.take i) ps[i].1 (by simp; omega) (fun p hp=>by have:=h4 p (List.mem_of_mem_take hp); omega) (by omega)
    have f4:F1 2 (.sl false (vF ps)) none (some (.int .i64 (i:Nat)))=some (.sl false (vF (ps.take i))):=by
     have:=arC 2 false (vF ps) .i64 i (alo _) (by rw [aak]; omega)
     rw [aqu,p5] at this
     exact this
    have e5:a8 (.int .i64) .add (.int .i64 (i:Int)) (.int .i64 1)=some (.int .i64 ((i+1:Nat):Int)):=p6 _ i 1 (by omega)
    have hB:X4 ps i=(N3 ps[i].1&&(u7 ps[i].2&&(decide (ps[i].2.length<=40) && !acd (ps.take i) ps[i].1))):=by
     unfold X4; rw [List.getElem?_eq_getElem hlt]
    have bad:X4 ps i=false->(List.range ps.length).all (X4 ps)=false:=fun h=>ae3 hlt h
    cases d1:N3 ps[i].1 with
    | false =>
      rw [d1] at f1
      simp only [b8,i1,f1,show ((i:Int)<(ps.length:Int)) from by omega]
      exact ⟨_,rfl,.inl ⟨1,rfl,.inr ⟨rfl,rfl,bad (by rw [hB,d1]; rfl)⟩⟩⟩
    | true =>
    rw [d1] at f1
    cases d2:u7 ps[i].2 with
    | false =>
      rw [d2] at f2
      simp only [b8,i1,f1,f2,show ((i:Int)<(ps.length:Int)) from by omega]
      exact ⟨_,rfl,.inl ⟨1,rfl,.inr ⟨rfl,rfl,bad (by rw [hB,d1,d2]; rfl)⟩⟩⟩
    | true =>
    rw [d2] at f2
    by_cases d3:ps[i].2.length<=40
    ·cases d4:acd (ps.take i) ps[i].1 with
     | true =>
       rw [d4,if_pos rfl] at f3
       simp only [b8,p5,i1,f1,f2,f4,f3,show ¬ ((ps[i].2.length:Int)>40) from by omega,show ((((ps.take i).findIdx (fun p=>decide (m7 p.1=m7 ps[i].1)):Nat):Int)>=0) from by omega,show ((i:Int)<(ps.length:Int)) from by omega]
       exact ⟨_,rfl,.inl ⟨1,rfl,.inr ⟨rfl,rfl,bad (by rw [hB,d1,d2,d4]; simp)⟩⟩⟩
     | false =>
       rw [d4,if_neg (by decide)] at f3
       simp only [b8,p5,i1,f1,f2,f4,f3,e5,show ¬ ((ps[i].2.length:Int)>40) from by omega,show ¬ ((-1:Int)>=0) from by decide,show ((i:Int)<(ps.length:Int)) from by omega]
       refine ⟨_,rfl,.inr ⟨rfl,ps.length-(i+1),by omega,i+1,rfl,by omega,rfl,fun j hj=>?_⟩⟩
       by_cases hji:j=i
       ·subst hji; rw [hB,d1,d2,d4,decide_eq_true d3]; rfl
       ·exact inv j (by omega)
    ·simp only [b8,i1,f1,f2,show ((ps[i].2.length:Int)>40) from by omega,show ((i:Int)<(ps.length:Int)) from by omega]
     exact ⟨_,rfl,.inl ⟨1,rfl,.inr ⟨rfl,rfl,bad (by rw [hB,d1,d2,decide_eq_false d3]; rfl)⟩⟩⟩
   ·have:i=ps.length:=by omega
    subst this
    simp only [b8,show ¬ ((ps.length:Int)<(ps.length:Int)) from by omega]
    exact ⟨_,rfl,.inl ⟨0,rfl,.inl ⟨rfl,rfl,List.all_eq_true.2 fun j hj=>inv j (by simpa using hj)⟩⟩⟩
  rintro _ _ H (⟨rfl,rfl,hA⟩ | ⟨rfl,rfl,hA⟩)
  ·rw [hA]
   have hd:decide ((I9 main sub ps).length<=150)=decide (((I9 main sub ps).length:Int)<=150):=decide_eq_decide.2 (by omega)
   simp only [b8,p5,e3,Bool.true_and,hd]
   exact j2.here rfl
  ·rw [hA]
   simp only [b8,Bool.false_and]
   exact j2.here rfl
 ·simp only [b8,e1,e2,p5,hlen,c3,decide_false,Bool.true_and,Bool.false_and,show ((ps.length:Int)>4) from by omega]
  exact j2.here rfl
def fmK (k:Knd):Bs:=if L9 k.1 k.2.1 k.2.2=true then I9 k.1 k.2.1 k.2.2 else []
theorem adY (k:Knd) (h1:k.1.length<=1000) (h2:k.2.1.length<=1000) (h3:k.2.2.length<=1000) (h4:∀ p ∈ k.2.2,p.1.length<=1000/\p.2.length<=1000):qc N0 [.agg [.str k.1,.str k.2.1,.sl false (vF k.2.2)]]=some (.str (fmK k)):=by
 obtain ⟨main,sub,ps⟩:=k
 simp only at h1 h2 h3 h4
 have e1:=ajD main sub ps h1 h2 h3 h4
 have e2:=ala main sub ps h1 h2 h3 h4
 refine u3 (H:=[]) ?_ (by simp only [b8,Q7]) rfl
 show cv _ _ _=_
 rw [aif]
 unfold fmK
 cases h:L9 main sub ps with
 | true=>rw [h] at e1; simp only [b8,p5,e1,e2,h]; try rfl
 | false=>rw [h] at e1; simp only [b8,p5,e1,h]; try rfl
theorem auK {p:Bs} {x:F2} (h:aba p=some x) (hp:p.length<=200):x.1.length<=200/\x.2.length<=1000:=by
 unfold aba at h
 split at h
 ·split at h
  ·rename_i w hw
   cases h
   have h1:=afW hw
   have h2:=amw 61 p
   have h3:=amo 61 p
   have h4:=aaE (C3 61 p)
   have e:aaA [w]=w.length+1:=by simp [aaA]
   have e0:aaA ([]:List Bs)=0:=rfl
   simp only [m7,List.length_map]
   omega
  ·cases h
 ·cases h
theorem ail:∀ {l:List Bs} {xs:List F2},B7 l=some xs->xs.length=l.length
 | [],xs,h=>by simp only [B7] at h; cases h; rfl
 | p::l,xs,h=>by
   simp only [B7] at h
   split at h
   ·cases h
   ·split at h
    ·cases h
    ·rename_i hx; cases h
     simp only [List.length_cons,ail hx]
theorem amZ:∀ {l:List Bs} {xs:List F2},B7 l=some xs->(∀ p ∈ l,p.length<=200)->∀ x ∈ xs,x.1.length<=200/\x.2.length<=1000
 | [],xs,h,_,x,hx=>by simp only [B7] at h; cases h; cases hx
 | p::l,xs,h,hl,x,hx=>by
   simp only [B7] at h
   split at h
   ·cases h
   ·rename_i y hy
    split at h
    ·cases h
    ·rename_i ys hys
     cases h
     rcases List.mem_cons.1 hx with rfl | hx
     ·exact auK hy (hl p (by simp))
     ·exact amZ hys (fun q hq=>hl q (by simp [hq])) x hx
theorem ani:∀ {a:List Bs} {xs:List F2} {b:List Bs},B7 a=some xs->B7 (a++b)=(B7 b).map fun ys=>xs++ys
 | [],xs,b,h=>by simp only [B7] at h; cases h; simp
 | p::a,xs,b,h=>by
   simp only [B7] at h
   split at h
   ·cases h
   ·rename_i y hy
    split at h
    ·cases h
    ·rename_i ys hys
     cases h
     simp only [List.cons_append,B7,hy,ani (b:=b) hys]
     cases B7 b<;>rfl
theorem acU:∀ {l:List Bs} {i:Nat} (h:i<l.length),aba l[i]=none->B7 l=none
 | [],i,h,_=>by simp at h
 | p::l,0,h,hp=>by
   simp only [List.getElem_cons_zero] at hp
   simp only [B7,hp]
 | p::l,i+1,h,hp=>by
   simp only [List.getElem_cons_succ] at hp
   have:=acU (l:=l) (i:=i) (by simpa using h) hp
   simp only [B7,this]
   split<;>rfl
section
variable {s:Bs} {p:Bs} {r:List Bs} {ps:List F2}
theorem auS (h:u7 s=false):Y4 s=none:=by unfold Y4; rw [if_pos h]
theorem asY (h:u7 s=true) (h2:Q8 59 s=p::r) (h3:B7 r=none):Y4 s=none:=by
 unfold Y4; rw [if_neg (by rw [h]; decide),h2]; simp only [h3]
theorem asX (h:u7 s=true) (h2:Q8 59 s=p::r) (h3:B7 r=some ps):Y4 s=if (47:UInt8) ∈ l7 p/\L9 (m7 (C3 47 (l7 p))) (m7 (H7 47 (l7 p))) ps=true then some (m7 (C3 47 (l7 p)),m7 (H7 47 (l7 p)),ps) else none:=by
 unfold Y4; rw [if_neg (by rw [h]; decide),h2]; simp only [h3]
end
theorem awu (c:UInt8) (s:Bs):∃ p r,Q8 c s=p::r:=by
 cases h:y5 c s 0 with
 | none=>exact ⟨s,[],adb h⟩
 | some k=>exact ⟨_,_,acN h⟩
theorem ajA (s:Bs) (hs:s.length<=1000000):pc P0 [.str s]=some (.n8 (kn3 (Y4 s))):=by
 have e0:=acK s (by omega)
 suffices h:j2 (cv P0 [.str s] []) fun r=>r.1 = .n8 (kn3 (Y4 s)) by
  obtain ⟨⟨v,H⟩,e,h⟩:=h
  have h:v=_:=h
  subst h
  refine aeW e (by simp only [b8]) ?_
  cases Y4 s<;>simp only [kn3,b8,alR]
 rw [ajb]
 by_cases ht:u7 s=true
 ·have h200:=Y0 ht
  rw [ht] at e0
  have e1:pc J7 [.str s,.int .u8 59]=_:=amh s 59 (by omega)
  have hsub:=aos 59 s
  have hln:=aoh 59 s
  obtain ⟨p,r,hpr⟩:=awu 59 s
  rw [hpr] at e1 hsub hln
  have hpt:u7 p=true:=agV ht (hsub p (by simp)).1 (hsub p (by simp)).2
  have hrt:∀ q ∈ r,u7 q=true:=fun q hq=>agV ht (hsub q (by simp [hq])).1 (hsub q (by simp [hq])).2
  have hp200:=Y0 hpt
  have e2:=ao0 p (by omega)
  have hTl:=aaE p
  have e3:=arF (l7 p) 47 (by omega)
  have l1:=amo 47 (l7 p)
  have l2:=amw 47 (l7 p)
  have e4:=M3 (C3 47 (l7 p)) (by omega)
  have e5:=M3 (H7 47 (l7 p)) (by omega)
  have i0:A1 1 (.sl false (vT (p::r))) (.int .i64 0)=some (.D3 [.str p] 0):=aep false (p::r) .i64 0 (by simp)
  have v1:F1 1 (.sl false (vT (p::r))) (some (.int .i64 1)) none=some (.sl false (vT r)):=by
   have:=ayC 1 false (vT (p::r)) .i64 1 (abS _) (by rw [abW]; simp)
   rw [awd] at this
   have h1:m6 (vT ((p::r).drop 1))=vT r:=by rw [acz]; rfl
   rw [h1] at this
   exact this
  simp only [List.length_cons] at hln
  have hml:(m7 (C3 47 (l7 p))).length<=200:=by simp [m7]; omega
  have hsl:(m7 (H7 47 (l7 p))).length<=200:=by simp [m7]; omega
  generalize hM:m7 (C3 47 (l7 p))=M at *
  generalize hS:m7 (H7 47 (l7 p))=S at *
  simp only [b8,e0,e1,i0,e2,e3,e4,e5,v1]
  refine j2.H5 (I:=fun n st H=>∃ (i:Nat) (xs:List F2),n=r.length-i/\i<=r.length/\B7 (r.take i)=some xs/\st=[.bool (decide ((47:UInt8) ∈ l7 p)),.sl false (vT r),.int .i64 (r.length:Nat),.int .i64 (i:Nat),.str [],.str [],.sl true [],.str M,.str S,.sl true (vF xs)])
   (P:=fun q vs H=>(q=0/\∃ xs,B7 r=some xs/\vs=[.bool (decide ((47:UInt8) ∈ l7 p)),.str [],.str [],.sl true [],.str M,.str S,.sl true (vF xs)])\/(q=1/\B7 r=none/\vs=[.bool false,.str [],.str [],.sl true []])) (n:=r.length) ?_ ⟨0,[],by omega,by omega,rfl,rfl⟩ ?_
  ·rintro n st H ⟨i,xs,rfl,hi,hxs,rfl⟩
   rw [agM]
   by_cases hlt:i<r.length
   ·have i1:=aep false r .i64 i hlt
    have hqt:=hrt _ (List.getElem_mem hlt)
    have hq200:=Y0 hqt
    have f1:=arF r[i] 61 (by omega)
    have la:=amo 61 r[i]
    have lz:=amw 61 r[i]
    have hzt:u7 (H7 61 r[i])=true:=by
     unfold H7
     split
     ·exact amU hqt _
     ·rfl
    have f2:=aog (H7 61 r[i]) hzt
    have f3:=ao0 (C3 61 r[i]) (by omega)
    have lt:=aaE (C3 61 r[i])
    have f4:=M3 (l7 (C3 61 r[i])) (by omega)
    have e6:a8 (.int .i64) .add (.int .i64 (i:Int)) (.int .i64 1)=some (.int .i64 ((i+1:Nat):Int)):=p6 _ i 1 (by omega)
    have hxl:=ail hxs
    have htk:(r.take i).length<=200:=by simp; omega
    by_cases c1:(61:UInt8) ∈ r[i]
    ·rw [decide_eq_true c1] at f1
     cases hw:B3 (H7 61 r[i]) 0 true [] with
     | none =>
       rw [hw] at f2
       simp only [wdX] at f2
       simp only [b8,i1,f1,f2,show ((i:Int)<(r.length:Int)) from by omega]
       exact ⟨_,rfl,.inl ⟨1,rfl,.inr ⟨rfl,acU hlt (by unfold aba; rw [if_pos c1,hw]),rfl⟩⟩⟩
     | some ws =>
       rw [hw] at f2
       simp only [wdX] at f2
       match ws,hw,f2 with
       | [w],hw,f2 =>
         have j0:A1 1 (.sl false (vT [w])) (.int .i64 0)=some (.D3 [.str w] 0):=aep false [w] .i64 0 (by simp)
         have ap:=al4 xs (m7 (l7 (C3 61 r[i])),w) (by omega)
         have hpp:aba r[i]=some (m7 (l7 (C3 61 r[i])),w):=by unfold aba; rw [if_pos c1,hw]
         simp only [b8,i1,f1,f2,f3,f4,j0,ap,e6,List.length_cons,List.length_nil,show (((0+1:Nat)):Int)=1 from rfl,show ((i:Int)<(r.length:Int)) from by omega]
         refine ⟨_,rfl,.inr ⟨rfl,r.length-(i+1),by omega,i+1,xs++[(m7 (l7 (C3 61 r[i])),w)],rfl,by omega,?_,rfl⟩⟩
         rw [List.take_succ_eq_append_getElem hlt,ani hxs]
         simp only [B7,hpp,Option.map_some]
       | [],hw,f2 =>
         simp only [b8,i1,f1,f2,List.length_nil,show ((i:Int)<(r.length:Int)) from by omega]
         exact ⟨_,rfl,.inl ⟨1,rfl,.inr ⟨rfl,acU hlt (by unfold aba; rw [if_pos c1,hw]),rfl⟩⟩⟩
       | w::w2::l,hw,f2 =>
         simp only [b8,i1,f1,f2,List.length_cons,show ¬ (((l.length+1+1:Nat):Int)=1) from by omega,show ((i:Int)<(r.length:Int)) from by omega]
         exact ⟨_,rfl,.inl ⟨1,rfl,.inr ⟨rfl,acU hlt (by unfold aba; rw [if_pos c1,hw]),rfl⟩⟩⟩
    ·rw [decide_eq_false c1] at f1
     obtain ⟨u,b,hub⟩:∃ u b,wdX (B3 (H7 61 r[i]) 0 true [])=[u,.bool b]:=by
      cases B3 (H7 61 r[i]) 0 true [] with
      | none=>exact ⟨_,_,rfl⟩
      | some ws=>exact ⟨_,_,rfl⟩
     rw [hub] at f2
     simp only [b8,i1,f1,f2,show ((i:Int)<(r.length:Int)) from by omega]
     exact ⟨_,rfl,.inl ⟨1,rfl,.inr ⟨rfl,acU hlt (by unfold aba; rw [if_neg c1]),rfl⟩⟩⟩
   ·have:i=r.length:=by omega
    subst this
    rw [List.take_length] at hxs
    simp only [b8,show ¬ ((r.length:Int)<(r.length:Int)) from by omega]
    exact ⟨_,rfl,.inl ⟨0,rfl,.inl ⟨rfl,xs,hxs,rfl⟩⟩⟩
  rintro _ _ H (⟨rfl,xs,hxs,rfl⟩ | ⟨rfl,hxs,rfl⟩)
  ·have hxm:=amZ hxs fun q hq=>Y0 (hrt q hq)
   have hxl:=ail hxs
   have e6:=ajD M S xs (by omega) (by omega) (by omega) (fun q hq=>by have:=hxm q hq; omega)
   rw [asX ht hpr hxs,hM,hS]
   by_cases c2:(47:UInt8) ∈ l7 p
   ·cases c3:L9 M S xs with
    | true =>
      rw [c3] at e6
      rw [if_pos ⟨c2,rfl⟩]
      simp only [b8,c2,decide_true,p5,e6]
      exact j2.here rfl
    | false =>
      rw [c3] at e6
      rw [if_neg (fun h=>by cases h.2)]
      simp only [b8,c2,decide_true,p5,e6]
      exact j2.here rfl
   ·rw [if_neg (fun h=>c2 h.1)]
    simp only [b8,c2,decide_false]
    exact j2.here rfl
  ·rw [asY ht hpr hxs]
   simp only [b8]
   exact j2.here rfl
 ·have ht':u7 s=false:=by simpa using ht
  rw [auS ht']
  rw [ht'] at e0
  simp only [b8,e0]
  exact j2.here rfl
end Go.Proofs.YtmokcpfbeggigaaGreatDoor.Q

/- Part 2 of the machines: what is proved is told at each theorem; no condition. -/
import Derived.Test.YtpbgpeojlfdpoaaGreatDoorFnExactTraceMailK1
import Derived.Below
import Derived.Shelf.Spec.SlicesInsertGrow
import Derived.Shelf.SlGeneric
import Derived.Deep.RegionLaw
import Derived.Shelf.RegionOpenPlain
/- A region that draws its order: what the orders have in common. -/
namespace Go.AM
set_option linter.unusedSimpArgs false
set_option linter.unusedVariables false
theorem akK {acc:List Nat} {i:Nat}:∀ {es:List Edge},(ahR acc es).testBit i=true->∃ e ∈ es,Region.binds .any e=true/\(e.on=i\/(acc.getD e.on 0).testBit i=true)
 | [],h=>by simp [ahR] at h
 | e::es,h=>by
   simp only [ahR] at h
   split at h
   ·rename_i hb
    rw [Nat.testBit_or,Nat.testBit_or,Bool.or_eq_true,Bool.or_eq_true] at h
    rcases h with (h | h) | h
    ·obtain ⟨e',h1,h2⟩:=akK h
     exact ⟨e',by simp [h1],h2⟩
    ·rw [Nat.testBit_two_pow] at h
     exact ⟨e,by simp,hb,.inl (by simpa using h)⟩
    ·exact ⟨e,by simp,hb,.inr h⟩
   ·obtain ⟨e',h1,h2⟩:=akK h
    exact ⟨e',by simp [h1],h2⟩
theorem anZ:∀ (os:List Oper) (acc:List Nat),(adq os acc).length=acc.length+os.length
 | [],acc=>rfl
 | o::os,acc=>by rw [adq,anZ os]; simp; omega
theorem ajW:∀ (os:List Oper) (acc:List Nat) (j:Nat),j<acc.length->(adq os acc)[j]? = acc[j]?
 | [],acc,j,h=>rfl
 | o::os,acc,j,h=>by rw [adq,ajW os _ j (by simp; omega),List.getElem?_append_left h]
theorem apk:∀ (os:List Oper) (acc:List Nat) (k:Nat) (o:Oper),os[k]? = some o->∃ acc',acc'.length=acc.length+k/\(adq os acc)[acc.length+k]? = some (ahR acc' o.after.toList)/\∀ j,j<acc.length+k->acc'[j]? = (adq os acc)[j]?
 | [],acc,k,o,h=>by simp at h
 | o'::os,acc,0,o,h=>by
   simp at h; subst h
   refine ⟨acc,rfl,?_,fun j hj=>?_⟩
   ·rw [adq,ajW os _ _ (by simp),Nat.add_zero,List.getElem?_append_right (Nat.le_refl _)]; simp
   ·rw [adq,ajW os _ j (by simp at hj ⊢; omega),List.getElem?_append_left (by simpa using hj)]
 | o'::os,acc,k+1,o,h=>by
   simp at h
   obtain ⟨acc',h1,h2,h3⟩:=apk os (acc++[ahR acc o'.after.toList]) k o h
   simp only [List.length_append,List.length_cons,List.length_nil] at h1 h2 h3
   refine ⟨acc',by omega,?_,fun j hj=>?_⟩
   ·rw [adq,<-h2]; congr 1; omega
   ·rw [adq]; exact h3 j (by omega)
def ab3 (ops:Array Oper) (i j:Nat):Prop:=((adq ops.toList []).getD j 0).testBit i=true
theorem ajB {ops:Array Oper} {i j:Nat} (h:ab3 ops i j):∃ o,ops[j]? = some o/\∃ e ∈ o.after,Region.binds .any e=true/\(e.on=i\/(e.on<j/\ab3 ops i e.on)\/¬ e.on<j):=by
 unfold ab3 at h
 have hj:j<ops.toList.length:=by
  rcases Nat.lt_or_ge j ops.toList.length with h' | h'
  ·exact h'
  ·rw [List.getD_eq_getElem?_getD,List.getElem?_eq_none (by rw [anZ]; simp; simpa using h')] at h
   simp at h
 obtain ⟨acc',h1,h2,h3⟩:=apk ops.toList [] j ops.toList[j] (List.getElem?_eq_getElem hj)
 simp only [List.length_nil,Nat.zero_add] at h1 h2 h3
 rw [List.getD_eq_getElem?_getD,h2] at h
 simp only [Option.getD_some] at h
 obtain ⟨e,he,hb,hc⟩:=akK h
 refine ⟨ops.toList[j],by simp at hj ⊢,e,by simpa using he,hb,?_⟩
 rcases hc with hc | hc
 ·exact .inl hc
 ·by_cases hl:e.on<j
  ·refine .inr (.inl ⟨hl,?_⟩)
   unfold ab3
   rw [List.getD_eq_getElem?_getD,<-h3 e.on hl,<-List.getD_eq_getElem?_getD]
   exact hc
  ·exact .inr (.inr hl)
theorem agF {ops:Array Oper} (h:acD ops=true) {j:Nat} {o:Oper} (ho:ops[j]? = some o) {e:Edge} (he:e ∈ o.after) (hb:Region.binds .any e=true):e.on<j:=by
 unfold acD at h
 rw [List.all_eq_true] at h
 have hm:(o,j) ∈ ops.toList.zipIdx:=by
  rw [List.mem_zipIdx_iff_getElem?]
  simpa using ho
 have:=h _ hm
 simp only [Array.all_eq_true'] at this
 have:=this e he
 simp [hb] at this
 exact this
def Down (ops:Array Oper) (D:Nat->Prop):Prop:=∀ j o,ops[j]? = some o->D j->∀ e ∈ o.after,Region.binds .any e=true->D e.on
theorem Down.before {ops:Array Oper} {D:Nat->Prop} (hd:Down ops D) (he:acD ops=true):∀ (j i:Nat),ab3 ops i j->D j->D i:=by
 intro j
 induction j using Nat.strongRecOn with
 | _ j ih =>
   intro i hb hj
   obtain ⟨o,ho,e,hem,hbd,hc⟩:=ajB hb
   have hlt:=agF he ho hem hbd
   have hDe:=hd j o ho hj e hem hbd
   rcases hc with rfl | ⟨hl,hb'⟩ | hn
   ·exact hDe
   ·exact ih e.on hl i hb' hDe
   ·exact absurd hlt hn
theorem aol {ops:Array Oper} {D:Nat->Prop} (hd:Down ops D) (he:acD ops=true) {j:Nat} {o:Oper} (ho:ops[j]? = some o) (hr:∀ e ∈ o.after,Region.binds .any e=true->D e.on) {i:Nat} (hb:ab3 ops i j):D i:=by
 obtain ⟨o',ho',e,hem,hbd,hc⟩:=ajB hb
 rw [ho] at ho'; cases ho'
 rcases hc with rfl | ⟨hl,hb'⟩ | hn
 ·exact hr e hem hbd
 ·exact hd.before he e.on i hb' (hr e hem hbd)
 ·exact absurd (agF he ho hem hbd) hn
structure Run (P:Program) (X:Ctx) (ops:Array Oper) (S:Nat->St) (E:Nat->EV) (C:Nat->D7) (G:Nat->Bool) (k m:Nat):Prop where
 env:∀ i o,k<=i->i<m->ops[i]? = some o->∀ t,look (S (i+1)).env t=if o.dst=some t then some (E i) else look (S i).env t
 run:∀ i o,k<=i->i<m->ops[i]? = some o->G i=true->y0 P X o (S i) (E i) (S (i+1)).loc (S (i+1)).hp (C i)
 pass:∀ i o,k<=i->i<m->ops[i]? = some o->G i=false->E i = .E6/\C i = .P/\(S (i+1)).loc=(S i).loc/\(S (i+1)).hp=(S i).hp
 guard:∀ i o,k<=i->i<m->ops[i]? = some o->match o.guard with
  | none=>G i=true
  | some (j,want)=>∃ d,aeG ops j=some d/\((∃ b,look (S i).env d=some (.val (.bool b))/\G i=(b==want))\/(look (S i).env d=some .E6/\G i=false))
def asy (a b:List (Nat × EV)):Prop:=∀ t,look a t=look b t
theorem y0.look {P:Program} {X:Ctx} {o:Oper} {st:St} {env:List (Nat × EV)} {e:EV} {loc':List (Nat × List Value)} {hp':Heap} {c:D7} (h:y0 P X o ⟨env,st.loc,st.hp⟩ e loc' hp' c) (he:asy env st.env):y0 P X o st e loc' hp' c:=by
 have hop:∀ ι ρ a,T1 X ι ρ st a o->T1 X ι ρ ⟨env,st.loc,st.hp⟩ a o:=fun ι ρ a hr=>⟨hr.1,hr.2.1,fun t e hm hl=>hr.2.2 t e hm (by rw [<-he t]; exact hl)⟩
 cases c with
 | P =>
   obtain ⟨h1,h2,h3,h4⟩:=h
   exact ⟨h1,h2,fun k d hk=>by obtain ⟨t,d',h,hm⟩:=h3 k d hk; exact ⟨t,d',by rw [<-he t]; exact h,hm⟩,fun ι ρ a w hr=>h4 ι ρ a w (hop _ _ _ hr)⟩
 | L k =>
   obtain ⟨h1,h2,v,cells,h3,h4,h5⟩:=h
   exact ⟨h1,h2,v,cells,h3,h4,fun ι ρ a w hr=>h5 ι ρ a w (hop _ _ _ hr)⟩
 | S k =>
   obtain ⟨h1,h2,y3,cells,h3,h4,h5,h6⟩:=h
   exact ⟨h1,h2,y3,cells,h3,h4,h5,fun ι ρ a w hr=>h6 ι ρ a w (hop _ _ _ hr)⟩
 | N k =>
   obtain ⟨h1,h2,h3,h4,cells,h5,h6⟩:=h
   exact ⟨h1,h2,h3,h4,cells,h5,fun ι ρ a w hr=>h6 ι ρ a w (hop _ _ _ hr)⟩
 | H =>
   obtain ⟨h1,h2,v,h3,h4⟩:=h
   exact ⟨h1,h2,v,h3,fun ι ρ a w B Nx Q hr=>h4 ι ρ a w B Nx Q (hop _ _ _ hr)⟩
 | A =>
   obtain ⟨h1,h2,v,h3,h4⟩:=h
   exact ⟨h1,h2,v,h3,fun ι ρ a w B Nx Q hr=>h4 ι ρ a w B Nx Q (hop _ _ _ hr)⟩
 | W =>
   obtain ⟨h1,h2,h3,h4⟩:=h
   exact ⟨h1,h2,h3,fun ι ρ a w B Nx Q hr=>h4 ι ρ a w B Nx Q (hop _ _ _ hr)⟩
theorem as5 {R:Type} {ops:Array Oper} {o:Oper} {env:List (Nat × EV)} {run pass:List (Nat × EV)->Option R} {r:R} (h:O7 ops o env run pass=some r) :
 ∃ env' g,asy env' env/\(if g then run env' else pass env')=some r/\(match o.guard with
 | none=>g=true
 | some (j,want)=>∃ d,aeG ops j=some d/\((∃ b,look env d=some (.val (.bool b))/\g=(b==want))\/(look env d=some .E6/\g=false))):=by
 unfold O7 at h
 cases hg:o.guard with
 | none=>rw [hg] at h; exact ⟨env,true,fun _=>rfl,h,rfl⟩
 | some p =>
   obtain ⟨j,want⟩:=p
   rw [hg] at h
   simp only at h
   cases hd:aeG ops j with
   | none=>rw [hd] at h; cases h
   | some d =>
     rw [hd] at h
     simp only at h
     cases hl:look env d with
     | none=>rw [hl] at h; cases h
     | some e =>
       cases e with
       | loc k o=>rw [hl] at h; cases h
       | E6=>rw [hl] at h; exact ⟨env,false,fun _=>rfl,h,d,hd,.inr ⟨hl,rfl⟩⟩
       | val v =>
         rw [hl] at h
         simp only at h
         have hv:∃ b,v = .bool b:=by
          cases v with
          | bool b=>exact ⟨b,rfl⟩
          | _=>cases want<;>cases h
         obtain ⟨b,rfl⟩:=hv
         refine ⟨(d,.val (.bool b))::env,b==want,fun t=>?_,?_,d,hd,.inl ⟨b,hl,rfl⟩⟩
         ·rw [j9]; split
          ·rename_i e; subst e; exact hl.symm
          ·rfl
         ·cases b<;>cases want<;>simp only [T9] at h<;>exact h
theorem akh {P:Program} {X:Ctx} {A:T8} (hX:XOk P X) {R:Type} {r:R} {ops:Array Oper}:∀ {os:List Oper} {k:Nat} {cl:List D7} {st:St} {K:List D7->St->Option R},(∀ j,os[j]? = ops[k+j]?)->aba X A ops os cl st K=some r →
 ∃ S E C G,Run P X ops S E C G k (k+os.length)/\S k=st/\∃ cl',K cl' (S (k+os.length))=some r/\cl'.reverse=cl.reverse++(List.range' k os.length).map C
 | [],k,cl,st,K,_,h=>⟨fun _=>st,fun _ => .E6,fun _ => .P,fun _=>true,⟨fun i o h1 h2=>by simp at h2; omega,fun i o h1 h2=>by simp at h2; omega,fun i o h1 h2=>by simp at h2; omega,fun i o h1 h2=>by simp at h2; omega⟩,rfl,cl,h,by simp⟩
 | o::os,k,cl,st,K,hos,h=>by
   simp only [aba] at h
   have ho:ops[k]? = some o:=by simpa using (hos 0).symm
   obtain ⟨env',g,hle,hrun,hgd⟩:=as5 h
   have hos':∀ j,os[j]? = ops[(k+1)+j]?:=fun j=>by have:=hos (j+1); simpa [Nat.add_assoc,Nat.add_comm 1 j] using this
   have key:∃ e loc' hp' c S E C G,Run P X ops S E C G (k+1) (k+1+os.length)/\S (k+1)=⟨aej env' o.dst e,loc',hp'⟩/\(g=true->y0 P X o st e loc' hp' c)/\(g=false->e = .E6/\c = .P/\loc'=st.loc/\hp'=st.hp) ∧
    ∃ cl',K cl' (S (k+1+os.length))=some r/\cl'.reverse=(c::cl).reverse++(List.range' (k+1) os.length).map C:=by
    cases g with
    | true =>
      simp only [if_true] at hrun
      obtain ⟨e,loc',hp',c,hk,hs⟩:=ais hX hrun
      obtain ⟨S,E,C,G,h1,h2,h3⟩:=akh hX hos' hk
      exact ⟨e,loc',hp',c,S,E,C,G,h1,h2,fun _=>hs.look hle,fun h=>by (cases h),h3⟩
    | false =>
      simp only [Bool.false_eq_true,if_false] at hrun
      obtain ⟨S,E,C,G,h1,h2,h3⟩:=akh hX hos' hrun
      exact ⟨.E6,st.loc,st.hp,.P,S,E,C,G,h1,h2,fun h=>by (cases h),fun _=>⟨rfl,rfl,rfl,rfl⟩,h3⟩
   obtain ⟨e,loc',hp',c,S,E,C,G,h1,h2,h3,h4,cl',h5,h6⟩:=key
   have sk:∀ (n:Nat) (x y:St),(if n+1=n then x else y)=y:=fun n x y=>if_neg (by omega)
   refine ⟨fun i=>if i=k then st else S i,fun i=>if i=k then e else E i,fun i=>if i=k then c else C i,fun i=>if i=k then g else G i,⟨fun i o' hi1 hi2 ho' t=>?_,fun i o' hi1 hi2 ho' hg=>?_,fun i o' hi1 hi2 ho' hg=>?_,fun i o' hi1 hi2 ho'=>?_⟩,if_pos rfl,cl',?_,?_⟩
   ·by_cases hik:i=k
    ·subst hik
     rw [ho] at ho'; cases ho'
     simp only [if_true,sk,h2,P3]
     rw [hle t]
    ·rw [if_neg hik,if_neg hik,if_neg (by omega)]
     exact h1.env i o' (by omega) (by simp at hi2; omega) ho' t
   ·by_cases hik:i=k
    ·subst hik
     rw [ho] at ho'; cases ho'
     simp only [if_true] at hg
     simp only [if_true,sk,h2]
     exact h3 hg
    ·simp only [if_neg hik,if_neg (show ¬ i+1=k by omega)] at hg ⊢
     exact h1.run i o' (by omega) (by simp at hi2; omega) ho' hg
   ·by_cases hik:i=k
    ·subst hik
     simp only [if_true] at hg
     simp only [if_true,sk,h2]
     exact h4 hg
    ·simp only [if_neg hik,if_neg (show ¬ i+1=k by omega)] at hg ⊢
     exact h1.pass i o' (by omega) (by simp at hi2; omega) ho' hg
   ·by_cases hik:i=k
    ·subst hik
     rw [ho] at ho'; cases ho'
     simp only [if_true]
     exact hgd
    ·simp only [if_neg hik]
     exact h1.guard i o' (by omega) (by simp at hi2; omega) ho'
   ·have:k+(o::os).length=k+1+os.length:=by simp; omega
    rw [this]
    show K cl' (if k+1+os.length=k then st else S (k+1+os.length))=some r
    rw [if_neg (by omega)]
    exact h5
   ·rw [h6]
    simp only [List.reverse_cons,List.append_assoc,List.length_cons,List.range'_succ,List.map_cons,if_true,List.singleton_append,List.cons_append,List.nil_append]
    congr 2
    refine List.map_congr_left fun i hi=>?_
    have:k+1<=i:=(List.mem_range'_1.1 hi).1
    rw [if_neg (by omega)]
end Go.AM

/- A region that draws its order: every order comes to what the text's order comes to. -/
namespace Go.AM
set_option linter.unusedSimpArgs false
set_option linter.unusedVariables false
def D4 (ι:m8) (hp:Heap):m8:=fun b=>if b<hp.length then ι b else none
theorem o8 {ι:m8} {hp:Heap} {b:Nat} {x:Img}:D4 ι hp b=some x<->b<hp.length/\ι b=some x:=by
 unfold D4
 by_cases h:b<hp.length
 ·rw [if_pos h]; exact ⟨fun h'=>⟨h,h'⟩,fun h'=>h'.2⟩
 ·rw [if_neg h]; exact ⟨fun h'=>(by cases h'),fun h'=>absurd h'.1 h⟩
theorem ads {ι:m8} {hp hp':Heap} (h:hp.length<=hp'.length):Sub (D4 ι hp) (D4 ι hp'):=fun b x hb=>by
 obtain ⟨h1,h2⟩:=o8.1 hb
 exact o8.2 ⟨by omega,h2⟩
section
variable (ops:Array Oper) (S:Nat->St) (C:Nat->D7)
def ClE (D:Nat->Prop) (i t:Nat):Prop:=∀ j o,ops[j]? = some o->o.dst=some t->(D j<->j<i)
def ClL (D:Nat->Prop) (i k:Nat):Prop:=∀ j,j<ops.size->(C j = .S k\/C j = .N k)->(D j<->j<i)
def ClW (D:Nat->Prop) (i:Nat):Prop:=∀ j,j<ops.size->C j = .W->(D j<->j<i)
def Kn (D:Nat->Prop) (k:Nat):Prop:=(look (S 0).loc k).isSome=true\/∃ j,j<ops.size/\C j = .N k/\D j
end
structure Inv (X:Ctx) (E0:Entry) (ops:Array Oper) (S:Nat->St) (C:Nat->D7) (sz:Nat) (ι0:m8) (ρ:Nat->Nat) (D:Nat->Prop) (ι:m8) (a:Act) (w:World):Prop where
 size:a.tmps.size=sz
 defers:a.defers=[]
 y3:∀ b,b<(S 0).hp.length->ι b=ι0 b
 C5:∀ b x,ι b=some x->b<(S 0).hp.length\/∃ j,j<ops.size/\D j/\(S j).hp.length<=b/\b<(S (j+1)).hp.length
 env:∀ i t e,i<=ops.size->ClE ops D i t->look (S i).env t=some e->ER (D4 ι (S i).hp) ρ e (a.eval (.tmp t))
 loc:∀ i k c,i<=ops.size->ClL ops C D i k->look (S i).loc k=some c->abd (D4 ι (S i).hp) c w (ρ k)
 R8:∀ i,i<=ops.size->ajX (D4 ι (S i).hp) (S i).hp
 rel:∀ i,i<=ops.size->ClW ops C D i->Rel X.ng (D4 ι (S i).hp) (S i).hp w E0.B
 S8:∀ i t k d,i<=ops.size->ClE ops D i t->look (S i).env t=some (.loc k d)->Kn ops S C D k
 llt:∀ k,Kn ops S C D k->ρ k<w.heap.size
 O0:∀ i,i<=ops.size->ClW ops C D i->∀ k b x q,Kn ops S C D k->D4 ι (S i).hp b=some x->l9 (S i).hp b=some q->x.o6 ≠ ρ k
 L0:∀ k k',Kn ops S C D k->Kn ops S C D k'->ρ k=ρ k'->k=k'
 abk:∀ k,Kn ops S C D k->E0.w.heap.size<=ρ k
 fr:Fr E0.ι E0.hp E0.w w
 own:∀ i,i<=ops.size->ClW ops C D i->Own E0.ι E0.hp E0.w (D4 ι (S i).hp) (S i).hp
structure Fix (P:Program) (X:Ctx) (E0:Entry) (ops:Array Oper) (S:Nat->St) (E:Nat->EV) (C:Nat->D7) (G:Nat->Bool) (sz:Nat) (ι0:m8):Prop where
 run:Run P X ops S E C G 0 ops.size
 anU:acD ops=true
 free:∀ (i j:Nat),i<j->j<ops.size->ab3 ops i j\/(adZ ops i j=true/\J8 (C i) (C j)=true)
 dst:∀ (i:Nat) (o:Oper),ops[i]? = some o->∀ d,o.dst=some d->d<sz
 mono:∀ (i j:Nat),i<=j->j<=ops.size->s6 (S i).hp (S j).hp
 keys:∀ (i k:Nat),i<=ops.size->(look (S i).loc k).isSome=true->(look (S 0).loc k).isSome=true\/∃ j,j<i/\C j = .N k
 amr:∀ (j k:Nat),j<ops.size->C j = .N k->look (S 0).loc k=none/\∀ j',j'<ops.size->C j' = .N k->j'=j
 I1:GOk X.ng ι0
 auy:∀ b x,ι0 b=some x->b<(S 0).hp.length
 e0:E0.hp.length<=(S 0).hp.length
 azf:S7 E0.hp.length E0.ι ι0
section
variable {P:Program} {X:Ctx} {E0:Entry} {ops:Array Oper} {S:Nat->St} {E:Nat->EV} {C:Nat->D7} {G:Nat->Bool} {sz:Nat} {ι0:m8} {ρ:Nat->Nat}
theorem L2 {i:Nat} (h:i<ops.size):ops[i]? = some ops[i]:=Array.getElem?_eq_getElem h
theorem Fix.len (F:Fix P X E0 ops S E C G sz ι0) {i j:Nat} (h:i<=j) (hj:j<=ops.size):(S i).hp.length<=(S j).hp.length:=(F.mono i j h hj).len
theorem Fix.step (F:Fix P X E0 ops S E C G sz ι0) {i:Nat} (h:i<ops.size):C i ≠ .W->∃ new,(S (i+1)).hp=(S i).hp++new:=by
 intro hw
 cases hg:G i with
 | false=>exact ⟨[],by rw [(F.run.pass i _ (Nat.zero_le _) h (L2 h) hg).2.2.2]; simp⟩
 | true =>
   have hs:=F.run.run i _ (Nat.zero_le _) h (L2 h) hg
   generalize hc:C i=c at hs
   cases c with
   | P=>exact ⟨[],by rw [hs.2.1]; simp⟩
   | L k=>exact ⟨[],by rw [hs.2.1]; simp⟩
   | S k=>exact ⟨[],by rw [hs.2.1]; simp⟩
   | N k=>exact ⟨[],by rw [hs.2.2.1]; simp⟩
   | H=>exact ⟨[],by rw [hs.2.1]; simp⟩
   | A=>exact hs.2.1
   | W=>exact absurd hc hw
theorem Fix.akY (F:Fix P X E0 ops S E C G sz ι0) {i j:Nat} (h:i<=j) (hj:j<=ops.size) (hn:∀ k,i<=k->k<j->C k ≠ .W):∃ new,(S j).hp=(S i).hp++new:=by
 induction j with
 | zero=>have:i=0:=by omega
         subst this; exact ⟨[],by simp⟩
 | succ j ih =>
   by_cases hij:i=j+1
   ·subst hij; exact ⟨[],by simp⟩
   ·obtain ⟨new,h1⟩:=ih (by omega) (by omega) (fun k h1 h2=>hn k h1 (by omega))
    obtain ⟨new',h2⟩:=F.step (i:=j) (by omega) (hn j (by omega) (by omega))
    exact ⟨new++new',by rw [h2,h1,List.append_assoc]⟩
theorem ClW.same {D:Nat->Prop} {i j:Nat} (h1:ClW ops C D i) (h2:ClW ops C D j) (hij:i<=j) (hj:j<=ops.size):∀ k,i<=k->k<j->C k ≠ .W:=by
 intro k hk1 hk2 hc
 have a:=h1 k (by omega) hc
 have b:=h2 k (by omega) hc
 have:=b.2 hk2
 have:=a.1 this
 omega
theorem Fix.o6 (F:Fix P X E0 ops S E C G sz ι0) {D:Nat->Prop} {i j:Nat} (h1:ClW ops C D i) (h2:ClW ops C D j) (hi:i<=ops.size) (hj:j<=ops.size) {b:Nat} (hb1:b<(S i).hp.length) (hb2:b<(S j).hp.length):l9 (S i).hp b=l9 (S j).hp b:=by
 rcases Nat.le_total i j with h | h
 ·obtain ⟨new,e⟩:=F.akY h hj (h1.same h2 h hj)
  rw [e,y1 _ hb1]
 ·obtain ⟨new,e⟩:=F.akY h hi (h2.same h1 h hi)
  rw [e,y1 _ hb2]
theorem Fix.order (F:Fix P X E0 ops S E C G sz ι0) {D:Nat->Prop} (hd:Down ops D) {i:Nat} (hi:i<ops.size) (hni:¬ D i) (hr:∀ e ∈ ops[i].after,Region.binds .any e=true->D e.on) {j:Nat} (hj:j<ops.size) (hne:j ≠ i)
 (hc:adZ ops (min i j) (max i j)=false\/J8 (C (min i j)) (C (max i j))=false):D j<->j<i:=by
 rcases Nat.lt_or_gt_of_ne hne with h | h
 ·rw [Nat.min_eq_right (by omega),Nat.max_eq_left (by omega)] at hc
  have hb:ab3 ops j i:=(F.free j i h hi).resolve_right fun ⟨a,b⟩=>by
   rcases hc with hc | hc
   ·rw [a] at hc; cases hc
   ·rw [b] at hc; cases hc
  exact ⟨fun _=>h,fun _=>aol hd F.anU (L2 hi) hr hb⟩
 ·rw [Nat.min_eq_left (by omega),Nat.max_eq_right (by omega)] at hc
  have hb:ab3 ops i j:=(F.free i j h hj).resolve_right fun ⟨a,b⟩=>by
   rcases hc with hc | hc
   ·rw [a] at hc; cases hc
   ·rw [b] at hc; cases hc
  exact ⟨fun hDj=>absurd (hd.before F.anU j i hb hDj) hni,fun h'=>by omega⟩
theorem afU {i j:Nat} (hij:i ≠ j) {oi oj:Oper} (hi:ops[i]? = some oi) (hj:ops[j]? = some oj) (h:(∃ d,oi.dst=some d/\d ∈ oj.looksAt ops)\/(∃ d,oj.dst=some d/\d ∈ oi.looksAt ops)\/(∃ d,oi.dst=some d/\oj.dst=some d)) :
 adZ ops (min i j) (max i j)=false:=by
 cases hb:adZ ops (min i j) (max i j) with
 | false=>rfl
 | true =>
   exfalso
   rcases Nat.lt_or_gt_of_ne hij with hlt | hlt
   ·rw [Nat.min_eq_left (by omega),Nat.max_eq_right (by omega)] at hb
    simp only [adZ,hi,hj] at hb
    obtain ⟨h1,h2,h3⟩:=Oper.apart_spec hb
    rcases h with ⟨d,a,b⟩ | ⟨d,a,b⟩ | ⟨d,a,b⟩
    ·exact h1 d a b
    ·exact h3 d a b
    ·exact h2 d a b
   ·rw [Nat.min_eq_right (by omega),Nat.max_eq_left (by omega)] at hb
    simp only [adZ,hi,hj] at hb
    obtain ⟨h1,h2,h3⟩:=Oper.apart_spec hb
    rcases h with ⟨d,a,b⟩ | ⟨d,a,b⟩ | ⟨d,a,b⟩
    ·exact h3 d a b
    ·exact h1 d a b
    ·exact h2 d b a
theorem aeK (a b:D7):J8 a b=J8 b a:=by
 cases a<;>cases b<;>simp [J8]<;>rename_i k k'<;>(cases h:Nat.beq k k'<;>cases h':Nat.beq k' k<;>first | rfl | (have:=Nat.eq_of_beq_eq_true h; subst this; rw [Nat.beq_refl] at h'; cases h') | (have:=Nat.eq_of_beq_eq_true h'; subst this; rw [Nat.beq_refl] at h; cases h))
theorem ag5 {i j:Nat} (h:J8 (C i) (C j)=false):J8 (C (min i j)) (C (max i j))=false:=by
 rcases Nat.le_total i j with hh | hh
 ·rw [Nat.min_eq_left hh,Nat.max_eq_right hh]; exact h
 ·rw [Nat.min_eq_right hh,Nat.max_eq_left hh,aeK]; exact h
theorem Fix.afT (F:Fix P X E0 ops S E C G sz ι0) {t i j:Nat} (h:i<=j) (hj:j<=ops.size) (hn:∀ k o,i<=k->k<j->ops[k]? = some o->o.dst ≠ some t):look (S j).env t=look (S i).env t:=by
 induction j with
 | zero=>have:i=0:=by omega
         subst this; rfl
 | succ j ih =>
   by_cases hij:i=j+1
   ·subst hij; rfl
   ·rw [F.run.env j _ (Nat.zero_le _) (by omega) (L2 (by omega)),if_neg (hn j _ (by omega) (by omega) (L2 (by omega)))]
    exact ih (by omega) (by omega) fun k o h1 h2=>hn k o h1 (by omega)
theorem Fix.aj6 (F:Fix P X E0 ops S E C G sz ι0) {k i j:Nat} (h:i<=j) (hj:j<=ops.size) (hn:∀ l,i<=l->l<j->¬ (C l = .S k\/C l = .N k)):look (S j).loc k=look (S i).loc k:=by
 induction j with
 | zero=>have:i=0:=by omega
         subst this; rfl
 | succ j ih =>
   by_cases hij:i=j+1
   ·subst hij; rfl
   ·have hstep:look (S (j+1)).loc k=look (S j).loc k:=by
     have hjs:j<ops.size:=by omega
     cases hg:G j with
     | false=>rw [(F.run.pass j _ (Nat.zero_le _) hjs (L2 hjs) hg).2.2.1]
     | true =>
       have hs:=F.run.run j _ (Nat.zero_le _) hjs (L2 hjs) hg
       generalize hc:C j=c at hs
       cases c with
       | P=>rw [hs.1]
       | L _=>rw [hs.1]
       | S k' =>
         obtain ⟨_,_,y3,cells,h1,h2,_⟩:=hs
         rw [h2,V2,if_neg]
         rintro rfl
         exact hn j (by omega) (by omega) (.inl hc)
       | N k' =>
         obtain ⟨_,_,_,_,cells,h1,_⟩:=hs
         rw [h1,j9,if_neg]
         rintro rfl
         exact hn j (by omega) (by omega) (.inr hc)
       | H=>rw [hs.1]
       | A=>rw [hs.1]
       | W=>rw [hs.1]
    rw [hstep]
    exact ih (by omega) (by omega) fun l h1 h2=>hn l h1 (by omega)
theorem Fix.operands (F:Fix P X E0 ops S E C G sz ι0) {D:Nat->Prop} (hd:Down ops D) {ι:m8} {a:Act} {w:World} (I:Inv X E0 ops S C sz ι0 ρ D ι a w) {i:Nat} (hi:i<ops.size) (hni:¬ D i) (hr:∀ e ∈ ops[i].after,Region.binds .any e=true->D e.on) :
 (∀ t ∈ ops[i].looksAt ops,ClE ops D i t)/\T1 X (D4 ι (S i).hp) ρ (S i) a ops[i]:=by
 have hcl:∀ t ∈ ops[i].looksAt ops,ClE ops D i t:=by
  intro t ht j o hj hdst
  by_cases hji:j=i
  ·subst hji; exact ⟨fun h=>absurd h hni,fun h=>by omega⟩
  ·exact F.order hd hi hni hr (Array.getElem?_eq_some_iff.1 hj).1 hji (.inl (afU (Ne.symm hji) (L2 hi) hj (.inr (.inl ⟨t,hdst,ht⟩))))
 refine ⟨hcl,fun g hg=>?_,I.R8 i (by omega),fun t e hm hl=>I.env i t e (by omega) (hcl t ?_) hl⟩
 ·obtain ⟨x,h1,h2⟩:=F.I1 g hg
  have hdm:=F.auy g x h1
  exact ⟨x,o8.2 ⟨Nat.lt_of_lt_of_le hdm (F.len (Nat.zero_le _) (by omega)),by rw [I.y3 g hdm]; exact h1⟩,h2⟩
 ·unfold Oper.looksAt
  refine List.mem_append_left _ (List.mem_filterMap.2 ⟨.tmp t,by simpa using hm,rfl⟩)
theorem ER.re {ι:m8} {ρ ρ':Nat->Nat} {e:EV} {v:Value} (h:ER ι ρ e v) (hl:∀ k d,e = .loc k d->ρ' k=ρ k):ER ι ρ' e v:=by
 cases h with
 | val h=>exact .val h
 | loc k o=>have:=hl k o rfl; rw [<-this]; exact .loc k o
 | E6=>exact .E6
theorem Fix.known (F:Fix P X E0 ops S E C G sz ι0) {D:Nat->Prop} {i k:Nat} {c:List Value} (hi:i<=ops.size) (hc:ClL ops C D i k) (hl:look (S i).loc k=some c):Kn ops S C D k:=by
 rcases F.keys i k hi (by rw [hl]; rfl) with h | ⟨j,hj,hn⟩
 ·exact .inl h
 ·exact .inr ⟨j,by omega,hn,(hc j (by omega) (.inr hn)).2 hj⟩
theorem Fix.anx (F:Fix P X E0 ops S E C G sz ι0) {D:Nat->Prop} (hd:Down ops D) {ι ι':m8} {a:Act} {w:World} (I:Inv X E0 ops S C sz ι0 ρ D ι a w) {i:Nat} (hi:i<ops.size) (hni:¬ D i) (hr:∀ e ∈ ops[i].after,Region.binds .any e=true->D e.on)
 (hsub:Sub ι ι') {ρ':Nat->Nat} (hρ:∀ k,Kn ops S C D k->ρ' k=ρ k) {v':Value} (hv:ER (D4 ι' (S (i+1)).hp) ρ' (E i) v') :
 ∀ i0 t e,i0<=ops.size->ClE ops (fun j=>D j\/j=i) i0 t->look (S i0).env t=some e->ER (D4 ι' (S i0).hp) ρ' e ((a.put ops[i].dst v').eval (.tmp t)):=by
 intro i0 t e h0 hc hl
 have hsubc:Sub (D4 ι (S i0).hp) (D4 ι' (S i0).hp):=fun b x hb=>by
  obtain ⟨h1,h2⟩:=o8.1 hb
  exact o8.2 ⟨h1,hsub _ _ h2⟩
 rw [eval_put a _ v' t (fun d hd'=>by rw [I.size]; exact F.dst i _ (L2 hi) d hd')]
 by_cases hdt:ops[i].dst=some t
 ·rw [if_pos hdt]
  have hlt:i<i0:=(hc i _ (L2 hi) hdt).1 (.inr rfl)
  have hsame:look (S i0).env t=look (S (i+1)).env t:=F.afT (by omega) h0 fun k o h1 h2 hk hdk=>by
   have hDk:D k:=((hc k o hk hdk).2 h2).resolve_right (by omega)
   have:=(F.order hd hi hni hr (Array.getElem?_eq_some_iff.1 hk).1 (show k ≠ i by omega) (.inl (afU (by omega) (L2 hi) hk (.inr (.inr ⟨t,hdt,hdk⟩))))).1 hDk
   omega
  rw [hsame,F.run.env i _ (Nat.zero_le _) hi (L2 hi),if_pos hdt] at hl
  cases hl
  exact hv.mono (ads (F.len (by omega) h0))
 ·rw [if_neg hdt]
  have hcd:ClE ops D i0 t:=fun j o hj hdj=>by
   have:=hc j o hj hdj
   constructor
   ·intro h; exact this.1 (.inl h)
   ·intro h
    refine (this.2 h).resolve_right ?_
    rintro rfl
    rw [L2 hi] at hj; cases hj
    exact hdt hdj
  exact ((I.env i0 t e h0 hcd hl).mono hsubc).re fun k d he=>hρ k (I.S8 i0 t k d h0 hcd (by rw [hl,he]))
theorem Fix.ahn (F:Fix P X E0 ops S E C G sz ι0) {D:Nat->Prop} (hd:Down ops D) {ι ι':m8} {a:Act} {w:World} (I:Inv X E0 ops S C sz ι0 ρ D ι a w) {i:Nat} (hi:i<ops.size) (hni:¬ D i) (hr:∀ e ∈ ops[i].after,Region.binds .any e=true->D e.on)
 (hsub:Sub ι ι') {v':Value} (hv:ER (D4 ι' (S (i+1)).hp) ρ (E i) v') :
 ∀ i0 t e,i0<=ops.size->ClE ops (fun j=>D j\/j=i) i0 t->look (S i0).env t=some e->ER (D4 ι' (S i0).hp) ρ e ((a.put ops[i].dst v').eval (.tmp t)) :=
 F.anx hd I hi hni hr hsub (fun _ _=>rfl) hv
theorem Kn.mono {D D':Nat->Prop} (h:∀ j,D j->D' j) {k:Nat} (hk:Kn ops S C D k):Kn ops S C D' k:=by
 rcases hk with hk | ⟨j,h1,h2,h3⟩
 ·exact .inl hk
 ·exact .inr ⟨j,h1,h2,h j h3⟩
theorem H6 {D:Nat->Prop} {i k:Nat} (hn:∀ k,C i ≠ .N k) (hk:Kn ops S C (fun j=>D j\/j=i) k):Kn ops S C D k:=by
 rcases hk with hk | ⟨j,h1,h2,h3⟩
 ·exact .inl hk
 ·refine .inr ⟨j,h1,h2,h3.resolve_right ?_⟩
  rintro rfl
  exact hn k h2
theorem Fix.adU (F:Fix P X E0 ops S E C G sz ι0) {D:Nat->Prop} (hd:Down ops D) {ι:m8} {a:Act} {w:World} (I:Inv X E0 ops S C sz ι0 ρ D ι a w) {i:Nat} (hi:i<ops.size) (hni:¬ D i) (hr:∀ e ∈ ops[i].after,Region.binds .any e=true->D e.on)
 (hE:∀ k d,E i = .loc k d->Kn ops S C (fun j=>D j\/j=i) k) :
 ∀ i0 t k d,i0<=ops.size->ClE ops (fun j=>D j\/j=i) i0 t->look (S i0).env t=some (.loc k d)->Kn ops S C (fun j=>D j\/j=i) k:=by
 intro i0 t k d h0 hc hl
 by_cases hdt:ops[i].dst=some t
 ·have hlt:i<i0:=(hc i _ (L2 hi) hdt).1 (.inr rfl)
  have hsame:look (S i0).env t=look (S (i+1)).env t:=F.afT (by omega) h0 fun k o h1 h2 hk hdk=>by
   have hDk:D k:=((hc k o hk hdk).2 h2).resolve_right (by omega)
   have:=(F.order hd hi hni hr (Array.getElem?_eq_some_iff.1 hk).1 (show k ≠ i by omega) (.inl (afU (by omega) (L2 hi) hk (.inr (.inr ⟨t,hdt,hdk⟩))))).1 hDk
   omega
  rw [hsame,F.run.env i _ (Nat.zero_le _) hi (L2 hi),if_pos hdt] at hl
  exact hE k d (Option.some.inj hl)
 ·refine (I.S8 i0 t k d h0 (fun j o hj hdj=>?_) hl).mono fun j h => .inl h
  have:=hc j o hj hdj
  constructor
  ·intro h; exact this.1 (.inl h)
  ·intro h
   refine (this.2 h).resolve_right ?_
   rintro rfl
   rw [L2 hi] at hj; cases hj
   exact hdt hdj
theorem K1 {D:Nat->Prop} {i i0:Nat} (hw:C i ≠ .W):ClW ops C (fun j=>D j\/j=i) i0<->ClW ops C D i0:=by
 constructor
 ·intro h j hj hc
  have:=h j hj hc
  have hne:j ≠ i:=by rintro rfl; exact hw hc
  exact ⟨fun hD=>this.1 (.inl hD),fun hl=>(this.2 hl).resolve_right hne⟩
 ·intro h j hj hc
  have:=h j hj hc
  have hne:j ≠ i:=by rintro rfl; exact hw hc
  exact ⟨fun hD=>this.1 (hD.resolve_right hne),fun hl => .inl (this.2 hl)⟩
theorem afn {D:Nat->Prop} {i i0 k:Nat} (hs:C i ≠ .S k) (hn:C i ≠ .N k):ClL ops C (fun j=>D j\/j=i) i0 k<->ClL ops C D i0 k:=by
 constructor
 ·intro h j hj hc
  have:=h j hj hc
  have hne:j ≠ i:=by rintro rfl; exact hc.elim hs hn
  exact ⟨fun hD=>this.1 (.inl hD),fun hl=>(this.2 hl).resolve_right hne⟩
 ·intro h j hj hc
  have:=h j hj hc
  have hne:j ≠ i:=by rintro rfl; exact hc.elim hs hn
  exact ⟨fun hD=>this.1 (hD.resolve_right hne),fun hl => .inl (this.2 hl)⟩
theorem ahp {D:Nat->Prop} {i:Nat} {b:Nat} (h:b<(S 0).hp.length\/∃ j,j<ops.size/\D j/\(S j).hp.length<=b/\b<(S (j+1)).hp.length) :
 b<(S 0).hp.length\/∃ j,j<ops.size/\(D j\/j=i)/\(S j).hp.length<=b/\b<(S (j+1)).hp.length:=by
 rcases h with h | ⟨j,h1,h2,h3⟩
 ·exact .inl h
 ·exact .inr ⟨j,h1,.inl h2,h3⟩
theorem Fr.chain {ι0 ι:m8} {hp0 hp:Heap} {w0 w w':World} (h:Fr ι0 hp0 w0 w) (ho:Own ι0 hp0 w0 ι hp) (h3:Fr ι hp w w'):Fr ι0 hp0 w0 w':=by
 refine ⟨h3.os.trans h.os,h3.tape.trans h.tape,h3.output.trans h.output,Nat.le_trans h.size h3.size,fun j hj hno=>?_⟩
 rw [<-h.block j hj hno]
 refine h3.block j (Nat.lt_of_lt_of_le hj h.size) fun b x k hb hk hrw he=>?_
 obtain ⟨b0,x0,k0,g1,g2,_,g3,g4⟩:=ho b x k hb hk (by omega)
 exact hno b0 x0 k0 g1 g2 (g3 hrw) (by omega)
theorem apl (F:Fix P X E0 ops S E C G sz ι0) {D:Nat->Prop} (hd:Down ops D) {i:Nat} (hi:i<ops.size) (hni:¬ D i) (hr:∀ e ∈ ops[i].after,Region.binds .any e=true->D e.on) (hc:J8 (C i) .W=false):ClW ops C D i:=by
 intro j hj hcj
 by_cases hji:j=i
 ·subst hji; exact ⟨fun h=>absurd h hni,fun h=>by omega⟩
 ·refine F.order hd hi hni hr hj hji (.inr ?_)
  rw [Nat.min_comm,Nat.max_comm]
  refine ag5 (i:=j) (j:=i) ?_
  rw [aeK,hcj]; exact hc
theorem aiB (F:Fix P X E0 ops S E C G sz ι0) {D:Nat->Prop} (hd:Down ops D) {i k:Nat} (hi:i<ops.size) (hni:¬ D i) (hr:∀ e ∈ ops[i].after,Region.binds .any e=true->D e.on) (hc:J8 (C i) (.S k)=false) (hc2:J8 (C i) (.N k)=false):ClL ops C D i k:=by
 intro j hj hcj
 by_cases hji:j=i
 ·subst hji; exact ⟨fun h=>absurd h hni,fun h=>by omega⟩
 ·refine F.order hd hi hni hr hj hji (.inr ?_)
  rw [Nat.min_comm,Nat.max_comm]
  refine ag5 (i:=j) (j:=i) ?_
  rcases hcj with hcj | hcj
  ·rw [aeK,hcj]; exact hc
  ·rw [aeK,hcj]; exact hc2
theorem ajZ (k:Nat):J8 (.S k) (.S k)=false:=by simp [J8,Nat.beq_refl]
theorem at7 (k:Nat):J8 (.L k) (.S k)=false:=by simp [J8,Nat.beq_refl]
theorem akd (k:Nat):J8 (.S k) (.N k)=false:=by simp [J8,Nat.beq_refl]
theorem au6 (k:Nat):J8 (.L k) (.N k)=false:=by simp [J8,Nat.beq_refl]
theorem auo (k:Nat):J8 (.N k) (.S k)=false:=by simp [J8,Nat.beq_refl]
theorem auq (k:Nat):J8 (.N k) (.N k)=false:=by simp [J8,Nat.beq_refl]
theorem Fix.still (F:Fix P X E0 ops S E C G sz ι0) {D:Nat->Prop} (hd:Down ops D) {ι:m8} {a:Act} {w:World} (I:Inv X E0 ops S C sz ι0 ρ D ι a w) {i:Nat} (hi:i<ops.size) (hni:¬ D i) (hr:∀ e ∈ ops[i].after,Region.binds .any e=true->D e.on)
 (hw:C i ≠ .W) (hs:∀ k,C i ≠ .S k) (hN:∀ k,C i ≠ .N k) (hE:∀ k d,E i = .loc k d->Kn ops S C (fun j=>D j\/j=i) k) {v':Value} (hv:ER (D4 ι (S (i+1)).hp) ρ (E i) v'):Inv X E0 ops S C sz ι0 ρ (fun j=>D j\/j=i) ι (a.put ops[i].dst v') w where
 size:=by rw [aas]; exact I.size
 defers:=by cases hdd:ops[i].dst<;>simp [Act.put,I.defers]
 y3:=I.y3
 C5:=fun b x hb=>ahp (I.C5 b x hb)
 env:=F.ahn hd I hi hni hr (Sub.refl _) hv
 S8:=F.adU hd I hi hni hr hE
 loc:=fun i0 k c h0 hc hl=>I.loc i0 k c h0 ((afn (hs k) (hN k)).1 hc) hl
 R8:=I.R8
 rel:=fun i0 h0 hc=>I.rel i0 h0 ((K1 hw).1 hc)
 llt:=fun k hk=>I.llt k (H6 hN hk)
 O0:=fun i0 h0 hc k b x q hk=>I.O0 i0 h0 ((K1 hw).1 hc) k b x q (H6 hN hk)
 L0:=fun k k' hk hk'=>I.L0 k k' (H6 hN hk) (H6 hN hk')
 abk:=fun k hk=>I.abk k (H6 hN hk)
 fr:=I.fr
 own:=fun i0 h0 hc=>I.own i0 h0 ((K1 hw).1 hc)
theorem Fix.azo (F:Fix P X E0 ops S E C G sz ι0) {D:Nat->Prop} (hd:Down ops D) {ι:m8} {a:Act} {w w':World} (I:Inv X E0 ops S C sz ι0 ρ D ι a w) {i:Nat} (hi:i<ops.size) (hni:¬ D i) (hr:∀ e ∈ ops[i].after,Region.binds .any e=true->D e.on)
 {k:Nat} (hs:C i = .S k) (hE:∀ k d,E i = .loc k d->Kn ops S C (fun j=>D j\/j=i) k) {v':Value} (hv:ER (D4 ι (S (i+1)).hp) ρ (E i) v') {y3 cells:List Value} (hold:look (S i).loc k=some y3) (hnew:look (S (i+1)).loc k=some cells)
 (h1:abd (D4 ι (S i).hp) cells w' (ρ k)) (e1:w'.os=w.os) (e2:w'.tape=w.tape) (e3:w'.output=w.output) (e4:w'.heap.size=w.heap.size) (e5:∀ j,j ≠ ρ k->w'.heap[j]? = w.heap[j]?) :
 Inv X E0 ops S C sz ι0 ρ (fun j=>D j\/j=i) ι (a.put ops[i].dst v') w':=by
 have hw:C i ≠ .W:=by rw [hs]; intro h; cases h
 have hN:∀ k,C i ≠ .N k:=fun k=>by rw [hs]; intro h; cases h
 have hkn:Kn ops S C D k:=F.known (by omega) (aiB F hd hi hni hr (by rw [hs]; exact ajZ k) (by rw [hs]; exact akd k)) hold
 exact {
  size:=by rw [aas]; exact I.size
  defers:=by cases hdd:ops[i].dst<;>simp [Act.put,I.defers]
  y3:=I.y3
  C5:=fun b x hb=>ahp (I.C5 b x hb)
  env:=F.ahn hd I hi hni hr (Sub.refl _) hv
  loc:=fun i0 k' c h0 hc hl=>by
   by_cases hkk:k'=k
   ·subst hkk
    have hlt:i<i0:=(hc i hi (.inl hs)).1 (.inr rfl)
    have hsame:look (S i0).loc k'=look (S (i+1)).loc k':=F.aj6 (by omega) h0 fun l hl1 hl2 hcl=>by
     have hDl:D l:=((hc l (by omega) hcl).2 hl2).resolve_right (by omega)
     have:=aiB F hd hi hni hr (k:=k') (by rw [hs]; exact ajZ k') (by rw [hs]; exact akd k') l (by omega) hcl
     have:=this.1 hDl; omega
    rw [hsame,hnew] at hl; cases hl
    exact h1.mono (ads (F.len (by omega) h0))
   ·have hcd:=(afn (by rw [hs]; intro h; cases h; exact hkk rfl) (hN k')).1 hc
    exact (I.loc i0 k' c h0 hcd hl).aaM (e5 _ fun he=>hkk (I.L0 k' k (F.known h0 hcd hl) hkn he))
  R8:=I.R8
  rel:=fun i0 h0 hc=>(I.rel i0 h0 ((K1 hw).1 hc)).aaM (by omega) fun b x q hb hq=>e5 _ (I.O0 i0 h0 ((K1 hw).1 hc) k b x q hkn hb hq)
  llt:=fun k h=>by rw [e4]; exact I.llt k (H6 hN h)
  O0:=fun i0 h0 hc k b x q hk=>I.O0 i0 h0 ((K1 hw).1 hc) k b x q (H6 hN hk)
  L0:=fun k k' hk hk'=>I.L0 k k' (H6 hN hk) (H6 hN hk')
  abk:=fun k hk=>I.abk k (H6 hN hk)
  S8:=F.adU hd I hi hni hr hE
  fr:=⟨e1.trans I.fr.os,e2.trans I.fr.tape,e3.trans I.fr.output,by have:=I.fr.size; omega,fun j hj hno=>by rw [e5 j (by have:=I.abk k hkn; omega)]; exact I.fr.block j hj hno⟩
  own:=fun i0 h0 hc=>I.own i0 h0 ((K1 hw).1 hc) }
theorem H3.back {ι ι':m8} (hs:Sub ι ι') {cells:List Value} {cs cs':Array Value} {off:Nat} (h:H3 ι cells cs off) (h':H3 ι' cells cs' off):H3 ι cells cs' off:=fun j v e=>by
 obtain ⟨g1,x,g2,g3⟩:=h j v e
 obtain ⟨_,y,f2,f3⟩:=h' j v e
 exact ⟨g1,y,f2,g3.back hs f3⟩
theorem Y7.mono {ι ι':m8} (hs:Sub ι ι') {x:Img} {k:l3} {w:World} {B:Nat} (h:Y7 ι x k w B):Y7 ι' x k w B:=by
 obtain ⟨cs,el,fr,h1,h2,h3,h4,h5⟩:=h
 exact ⟨cs,el,fr,h1,h2,h3,h4.mono hs,h5⟩
theorem Y7.back {ι ι':m8} (hs:Sub ι ι') {x:Img} {k:l3} {w w':World} {B:Nat} (h:Y7 ι x k w B) (h':Y7 ι' x k w' B):Y7 ι x k w' B:=by
 obtain ⟨cs,el,fr,h1,h2,h3,h4,h5⟩:=h
 obtain ⟨cs',el',fr',g1,g2,g3,g4,g5⟩:=h'
 exact ⟨cs',el',fr',g1,g2,g3,h4.back hs g4,g5⟩
theorem Y7.aaM {ι:m8} {x:Img} {k:l3} {w w':World} {B:Nat} (h:Y7 ι x k w B) (e:w'.heap[x.o6]? = w.heap[x.o6]?):Y7 ι x k w' B:=by
 obtain ⟨cs,el,fr,h1,h2⟩:=h
 exact ⟨cs,el,fr,by rw [e]; exact h1,h2⟩
theorem Y7.lt {ι:m8} {x:Img} {k:l3} {w:World} {B:Nat} (h:Y7 ι x k w B):x.o6<w.heap.size:=by
 obtain ⟨cs,el,fr,h1,h2⟩:=h
 exact (Array.getElem?_eq_some_iff.1 h1).1
def F8 (ι ι1:m8) (n m:Nat):m8:=fun b=>if n<=b/\b<m then ι1 b else ι b
theorem Fix.fresh (F:Fix P X E0 ops S E C G sz ι0) {D:Nat->Prop} {ι:m8} {a:Act} {w:World} (I:Inv X E0 ops S C sz ι0 ρ D ι a w) {i:Nat} (hi:i<ops.size) (hni:¬ D i) {b:Nat} (h1:(S i).hp.length<=b) (h2:b<(S (i+1)).hp.length):ι b=none:=by
 cases hb:ι b with
 | none=>rfl
 | some x =>
   exfalso
   have h0:=F.len (Nat.zero_le i) (by omega)
   rcases I.C5 b x hb with h | ⟨j,hj,hD,g1,g2⟩
   ·omega
   ·rcases Nat.lt_trichotomy j i with h | h | h
    ·have:=F.len (show j+1<=i by omega) (by omega); omega
    ·subst h; exact hni hD
    ·have:=F.len (show i+1<=j by omega) (by omega); omega
theorem Fix.aqD (F:Fix P X E0 ops S E C G sz ι0) {D:Nat->Prop} {ι:m8} {a:Act} {w:World} (I:Inv X E0 ops S C sz ι0 ρ D ι a w) {i:Nat} (hi:i<ops.size) (hni:¬ D i) (ι1:m8):Sub ι (F8 ι ι1 (S i).hp.length (S (i+1)).hp.length):=fun b x hb=>by
 unfold F8
 by_cases h:(S i).hp.length<=b/\b<(S (i+1)).hp.length
 ·rw [F.fresh I hi hni h.1 h.2] at hb; cases hb
 ·rw [if_neg h]; exact hb
theorem Fix.aqV (F:Fix P X E0 ops S E C G sz ι0) {i:Nat} (hi:i<ops.size) {ι ι1:m8} (h1:S7 (S i).hp.length (D4 ι (S i).hp) ι1) (h2:∀ b x,ι1 b=some x->b<(S (i+1)).hp.length):D4 (F8 ι ι1 (S i).hp.length (S (i+1)).hp.length) (S (i+1)).hp=ι1:=by
 funext b
 have hl:=F.len (show i<=i+1 by omega) (by omega)
 unfold D4 F8
 by_cases hb:b<(S (i+1)).hp.length
 ·rw [if_pos hb]
  by_cases hb2:(S i).hp.length<=b
  ·rw [if_pos ⟨hb2,hb⟩]
  ·rw [if_neg (by omega),h1 b (by omega)]
   unfold D4
   rw [if_pos (by omega)]
 ·rw [if_neg hb]
  cases he:ι1 b with
  | none=>rfl
  | some x=>exact absurd (h2 b x he) hb
theorem Fix.alG (F:Fix P X E0 ops S E C G sz ι0) {D:Nat->Prop} {ι:m8} {a:Act} {w:World} (I:Inv X E0 ops S C sz ι0 ρ D ι a w) {i:Nat} (hi:i<ops.size) {ι1:m8} (h1:ajX ι1 (S (i+1)).hp) :
 ∀ i0,i0<=ops.size->ajX (D4 (F8 ι ι1 (S i).hp.length (S (i+1)).hp.length) (S i0).hp) (S i0).hp:=by
 intro i0 h0 b x k hb hk
 obtain ⟨hb1,hb2⟩:=o8.1 hb
 unfold F8 at hb2
 by_cases h:(S i).hp.length<=b/\b<(S (i+1)).hp.length
 ·rw [if_pos h] at hb2
  have hle:i+1<=i0:=by
   rcases Nat.lt_or_ge i i0 with hh | hh
   ·omega
   ·have:=F.len hh (by omega); omega
  obtain ⟨k',g1,g2⟩:=F.mono (i+1) i0 hle h0 b _ (List.getElem?_eq_getElem h.2)
  rw [hk] at g1; cases g1
  rw [g2]
  exact h1 b x _ hb2 (List.getElem?_eq_getElem h.2)
 ·rw [if_neg h] at hb2
  exact I.R8 i0 h0 b x k (o8.2 ⟨hb1,hb2⟩) hk
theorem Fix.gl (F:Fix P X E0 ops S E C G sz ι0) {ι:m8} (h:∀ b,b<(S 0).hp.length->ι b=ι0 b) {i:Nat} (hi:i<=ops.size):GOk X.ng (D4 ι (S i).hp):=fun g hg=>by
 obtain ⟨x,h1,h2⟩:=F.I1 g hg
 have hdm:=F.auy g x h1
 exact ⟨x,o8.2 ⟨Nat.lt_of_lt_of_le hdm (F.len (Nat.zero_le _) hi),by rw [h g hdm]; exact h1⟩,h2⟩
theorem Fix.aiX (F:Fix P X E0 ops S E C G sz ι0) {ι ι1:m8} {i:Nat} (hi:i<ops.size) (h:∀ b,b<(S 0).hp.length->ι b=ι0 b):∀ b,b<(S 0).hp.length->F8 ι ι1 (S i).hp.length (S (i+1)).hp.length b=ι0 b:=fun b hb=>by
 have:=F.len (Nat.zero_le i) (by omega)
 unfold F8
 rw [if_neg (by omega)]; exact h b hb
theorem Fix.aq4 (F:Fix P X E0 ops S E C G sz ι0) {D:Nat->Prop} {ι ι1:m8} {a:Act} {w:World} (I:Inv X E0 ops S C sz ι0 ρ D ι a w) {i:Nat} (hi:i<ops.size):∀ b x,F8 ι ι1 (S i).hp.length (S (i+1)).hp.length b=some x →
 b<(S 0).hp.length\/∃ j,j<ops.size/\(D j\/j=i)/\(S j).hp.length<=b/\b<(S (j+1)).hp.length:=fun b x hb=>by
 unfold F8 at hb
 by_cases h:(S i).hp.length<=b/\b<(S (i+1)).hp.length
 ·exact .inr ⟨i,hi,.inr rfl,h⟩
 ·rw [if_neg h] at hb; exact ahp (I.C5 b x hb)
theorem Fix.axN (F:Fix P X E0 ops S E C G sz ι0) {D:Nat->Prop} (hd:Down ops D) {ι:m8} {a:Act} {w w':World} (I:Inv X E0 ops S C sz ι0 ρ D ι a w) {i:Nat} (hi:i<ops.size) (hni:¬ D i) (hr:∀ e ∈ ops[i].after,Region.binds .any e=true->D e.on)
 (hw:C i ≠ .W) (hs:∀ k,C i ≠ .S k) (hN:∀ k,C i ≠ .N k) (hE:∀ k d,E i = .loc k d->Kn ops S C (fun j=>D j\/j=i) k) (hcw:ClW ops C D i) {ι1:m8} {v':Value} (h1:S7 (S i).hp.length (D4 ι (S i).hp) ι1) (h2:∀ b x k,(S i).hp.length<=b->ι1 b=some x->l9 (S (i+1)).hp b=some k->w.heap.size<=x.o6)
 (h3:Rel X.ng ι1 (S (i+1)).hp w' E0.B) (h4:Fr (D4 ι (S i).hp) (S i).hp w w') (hv:ER ι1 ρ (E i) v') :
 Inv X E0 ops S C sz ι0 ρ (fun j=>D j\/j=i) (F8 ι ι1 (S i).hp.length (S (i+1)).hp.length) (a.put ops[i].dst v') w':=by
 have hsub:=F.aqD I hi hni ι1
 have hcut:=F.aqV hi h1 h3.C5
 have hcw':ClW ops C D (i+1):=fun j hj hc=>by
  have:=hcw j hj hc
  have hne:j ≠ i:=by rintro rfl; exact hw hc
  rw [this]; omega
 have hsubc:∀ i0,Sub (D4 ι (S i0).hp) (D4 (F8 ι ι1 (S i).hp.length (S (i+1)).hp.length) (S i0).hp):=fun i0 b x hb=>by
  obtain ⟨g1,g2⟩:=o8.1 hb
  exact o8.2 ⟨g1,hsub _ _ g2⟩
 have hll:=F.len (show i<=i+1 by omega) (by omega)
 exact {
  size:=by rw [aas]; exact I.size
  defers:=by cases hdd:ops[i].dst<;>simp [Act.put,I.defers]
  y3:=F.aiX hi I.y3
  C5:=F.aq4 I hi
  env:=F.ahn hd I hi hni hr hsub (by rw [hcut]; exact hv)
  loc:=fun i0 k c h0 hc hl=>by
   have hcd:=(afn (hs k) (hN k)).1 hc
   have hL:=I.loc i0 k c h0 hcd hl
   exact (hL.mono (hsubc i0)).aaM (h4.block _ hL.lt fun b x q hb hq _=>I.O0 i (by omega) hcw k b x q (F.known h0 hcd hl) hb hq)
  S8:=F.adU hd I hi hni hr hE
  R8:=F.alG I hi h3.R8
  rel:=fun i0 h0 hc=>by
   have hc0:=(K1 hw).1 hc
   have R0:=I.rel i0 h0 hc0
   refine ⟨F.gl (F.aiX hi I.y3) h0,F.alG I hi h3.R8 i0 h0,fun b x hb=>(o8.1 hb).1,Nat.le_trans R0.base h4.size,fun b x k hb hk=>?_,fun b x k b' x' k' hb hk hrw hb' hk' he=>?_⟩
   ·obtain ⟨g1,g2⟩:=o8.1 hb
    by_cases hlt:b<(S (i+1)).hp.length
    ·have hb1:ι1 b=some x:=by rw [<-hcut]; exact o8.2 ⟨hlt,g2⟩
     have hbk:l9 (S (i+1)).hp b=some k:=by rw [<-hk]; exact F.o6 hcw' hc0 (by omega) h0 hlt g1
     have B1:=h3.ok b x k hb1 hbk
     rcases Nat.lt_or_ge i i0 with hh | hh
     ·have:Sub ι1 (D4 (F8 ι ι1 (S i).hp.length (S (i+1)).hp.length) (S i0).hp):=by
       have:=ads (ι:=F8 ι ι1 (S i).hp.length (S (i+1)).hp.length) (F.len (show i+1<=i0 by omega) h0)
       rwa [hcut] at this
      exact B1.mono this
     ·have hlb:b<(S i).hp.length:=Nat.lt_of_lt_of_le g1 (F.len hh (by omega))
      have hb0:ι b=some x:=by unfold F8 at g2; rwa [if_neg (by omega)] at g2
      have B0:=R0.ok b x k (o8.2 ⟨g1,hb0⟩) hk
      refine (B0.back ?_ B1).mono (hsubc i0)
      have:=(hsubc i0).trans (ads (ι:=F8 ι ι1 (S i).hp.length (S (i+1)).hp.length) (F.len (show i0<=i+1 by omega) (by omega)))
      rwa [hcut] at this
    ·have hb0:ι b=some x:=by unfold F8 at g2; rwa [if_neg (by omega)] at g2
     have B0:=R0.ok b x k (o8.2 ⟨g1,hb0⟩) hk
     refine (B0.mono (hsubc i0)).aaM (h4.block _ B0.lt fun b1 x1 k1 f1 f2 f3 f4=>?_)
     obtain ⟨f5,f6⟩:=o8.1 f1
     have hbk:l9 (S i0).hp b1=some k1:=by rw [<-f2]; exact F.o6 hc0 hcw h0 (by omega) (by omega) f5
     rcases R0.sep b1 x1 k1 b x k (o8.2 ⟨by omega,f6⟩) hbk f3 (o8.2 ⟨g1,hb0⟩) hk f4 with h | ⟨h,_⟩<;>omega
   ·obtain ⟨g1,g2⟩:=o8.1 hb
    obtain ⟨f1,f2⟩:=o8.1 hb'
    have hone:∀ b x k,b<(S i0).hp.length->F8 ι ι1 (S i).hp.length (S (i+1)).hp.length b=some x->l9 (S i0).hp b=some k →
     (((S i).hp.length<=b/\b<(S (i+1)).hp.length)/\ι1 b=some x/\l9 (S (i+1)).hp b=some k/\w.heap.size<=x.o6)\/(D4 ι (S i0).hp b=some x/\x.o6<w.heap.size):=by
     intro b x k g1 g2 g3
     by_cases h:(S i).hp.length<=b/\b<(S (i+1)).hp.length
     ·have hb1:ι1 b=some x:=by unfold F8 at g2; rwa [if_pos h] at g2
      have hbk:l9 (S (i+1)).hp b=some k:=by rw [<-g3]; exact F.o6 hcw' hc0 (by omega) h0 h.2 g1
      exact .inl ⟨h,hb1,hbk,h2 b x k h.1 hb1 hbk⟩
     ·have hb0:ι b=some x:=by unfold F8 at g2; rwa [if_neg h] at g2
      have hb0':=o8.2 ⟨g1,hb0⟩
      exact .inr ⟨hb0',(R0.ok b x k hb0' g3).lt⟩
    rcases hone b x k g1 g2 hk with ⟨m1,m2,m3,m4⟩ | ⟨m1,m2⟩<;>rcases hone b' x' k' f1 f2 hk' with ⟨n1,n2,n3,n4⟩ | ⟨n1,n2⟩
    ·exact h3.sep b x k b' x' k' m2 m3 hrw n2 n3 he
    ·omega
    ·omega
    ·exact R0.sep b x k b' x' k' m1 hk hrw n1 hk' he
  llt:=fun k h=>Nat.lt_of_lt_of_le (I.llt k (H6 hN h)) h4.size
  L0:=fun k k' hk hk'=>I.L0 k k' (H6 hN hk) (H6 hN hk')
  abk:=fun k hk=>I.abk k (H6 hN hk)
  O0:=fun i0 h0 hc k b x q hk' hb hq=>by
   have hk:=H6 hN hk'
   obtain ⟨g1,g2⟩:=o8.1 hb
   by_cases h:(S i).hp.length<=b/\b<(S (i+1)).hp.length
   ·have hb1:ι1 b=some x:=by unfold F8 at g2; rwa [if_pos h] at g2
    have:=h2 b x q h.1 hb1 (by rw [<-hq]; exact F.o6 hcw' ((K1 hw).1 hc) (by omega) h0 h.2 g1)
    have:=I.llt k hk
    omega
   ·have hb0:ι b=some x:=by unfold F8 at g2; rwa [if_neg h] at g2
    exact I.O0 i0 h0 ((K1 hw).1 hc) k b x q hk (o8.2 ⟨g1,hb0⟩) hq
  fr:=I.fr.chain (I.own i (by omega) hcw) h4
  own:=fun i0 h0 hc b x q hb hq hlt=>by
   obtain ⟨g1,g2⟩:=o8.1 hb
   by_cases h:(S i).hp.length<=b/\b<(S (i+1)).hp.length
   ·have hb1:ι1 b=some x:=by unfold F8 at g2; rwa [if_pos h] at g2
    have:=h2 b x q h.1 hb1 (by rw [<-hq]; exact F.o6 hcw' ((K1 hw).1 hc) (by omega) h0 h.2 g1)
    have:=I.fr.size
    omega
   ·have hb0:ι b=some x:=by unfold F8 at g2; rwa [if_neg h] at g2
    exact I.own i0 h0 ((K1 hw).1 hc) b x q (o8.2 ⟨g1,hb0⟩) hq hlt }
theorem Fix.writes (F:Fix P X E0 ops S E C G sz ι0) {D:Nat->Prop} (hd:Down ops D) {ι:m8} {a:Act} {w w':World} (I:Inv X E0 ops S C sz ι0 ρ D ι a w) {i:Nat} (hi:i<ops.size) (hni:¬ D i) (hr:∀ e ∈ ops[i].after,Region.binds .any e=true->D e.on)
 (hw:C i = .W) (hE:∀ k d,E i = .loc k d->Kn ops S C (fun j=>D j\/j=i) k) (hcw:ClW ops C D i) {ι1:m8} {v':Value} (h1:S7 (S i).hp.length (D4 ι (S i).hp) ι1)
 (h3:Rel X.ng ι1 (S (i+1)).hp w' E0.B) (h4:Fr (D4 ι (S i).hp) (S i).hp w w') (h5:Own (D4 ι (S i).hp) (S i).hp w ι1 (S (i+1)).hp) (hv:ER ι1 ρ (E i) v') :
 Inv X E0 ops S C sz ι0 ρ (fun j=>D j\/j=i) (F8 ι ι1 (S i).hp.length (S (i+1)).hp.length) (a.put ops[i].dst v') w':=by
 have hsub:=F.aqD I hi hni ι1
 have hcut:=F.aqV hi h1 h3.C5
 have hs:∀ k,C i ≠ .S k:=fun k h=>by rw [hw] at h; cases h
 have hN:∀ k,C i ≠ .N k:=fun k h=>by rw [hw] at h; cases h
 have hsubc:∀ i0,Sub (D4 ι (S i0).hp) (D4 (F8 ι ι1 (S i).hp.length (S (i+1)).hp.length) (S i0).hp):=fun i0 b x hb=>by
  obtain ⟨g1,g2⟩:=o8.1 hb
  exact o8.2 ⟨g1,hsub _ _ g2⟩
 have hll:=F.len (show i<=i+1 by omega) (by omega)
 have hdom:∀ b x,ι b=some x->b<(S i).hp.length:=fun b x hb=>by
  rcases I.C5 b x hb with h | ⟨j,hj,hD,g1,g2⟩
  ·exact Nat.lt_of_lt_of_le h (F.len (Nat.zero_le i) (by omega))
  ·have hne:j ≠ i:=by rintro rfl; exact hni hD
   have hlt:j<i:=by
    have hq:J8 (C j) .W=false:=by
     cases hg:G j with
     | false=>rw [(F.run.pass j _ (Nat.zero_le _) hj (L2 hj) hg).2.2.2] at g2; omega
     | true =>
       have hs:=F.run.run j _ (Nat.zero_le _) hj (L2 hj) hg
       generalize C j=c at hs
       cases c with
       | P=>rw [hs.2.1] at g2; omega
       | L k=>rw [hs.2.1] at g2; omega
       | S k=>rw [hs.2.1] at g2; omega
       | N k=>have:=hs.2.2.1; rw [this] at g2; omega
       | H=>rw [hs.2.1] at g2; omega
       | A=>rfl
       | W=>rfl
    refine (F.order hd hi hni hr hj hne (.inr ?_)).1 hD
    rw [Nat.min_comm,Nat.max_comm]
    refine ag5 (i:=j) (j:=i) ?_
    rw [hw]; exact hq
   have:=F.len (show j+1<=i by omega) (by omega); omega
 have hwd:∀ b x,F8 ι ι1 (S i).hp.length (S (i+1)).hp.length b=some x->b<(S (i+1)).hp.length/\ι1 b=some x:=fun b x hb=>by
  have hlt:b<(S (i+1)).hp.length:=by
   unfold F8 at hb
   by_cases h:(S i).hp.length<=b/\b<(S (i+1)).hp.length
   ·exact h.2
   ·rw [if_neg h] at hb; have:=hdom b x hb; omega
  exact ⟨hlt,by rw [<-hcut]; exact o8.2 ⟨hlt,hb⟩⟩
 have hcl:∀ i0,i0<=ops.size->ClW ops C (fun j=>D j\/j=i) i0->i+1<=i0/\∃ new,(S i0).hp=(S (i+1)).hp++new:=fun i0 h0 hc=>by
  have hlt:i<i0:=(hc i hi hw).1 (.inr rfl)
  refine ⟨hlt,F.akY hlt h0 fun k hk1 hk2 hck=>?_⟩
  have:=((hc k (by omega) hck).2 hk2).resolve_right (by omega)
  have:=(hcw k (by omega) hck).1 this
  omega
 have hbk:∀ i0,i0<=ops.size->ClW ops C (fun j=>D j\/j=i) i0->∀ b,b<(S (i+1)).hp.length->l9 (S i0).hp b=l9 (S (i+1)).hp b:=fun i0 h0 hc b hb=>by
  obtain ⟨_,new,e⟩:=hcl i0 h0 hc
  rw [e,y1 _ hb]
 exact {
  size:=by rw [aas]; exact I.size
  defers:=by cases hdd:ops[i].dst<;>simp [Act.put,I.defers]
  y3:=F.aiX hi I.y3
  C5:=F.aq4 I hi
  env:=F.ahn hd I hi hni hr hsub (by rw [hcut]; exact hv)
  loc:=fun i0 k c h0 hc hl=>by
   have hcd:=(afn (hs k) (hN k)).1 hc
   have hL:=I.loc i0 k c h0 hcd hl
   exact (hL.mono (hsubc i0)).aaM (h4.block _ hL.lt fun b x q hb hq _=>I.O0 i (by omega) hcw k b x q (F.known h0 hcd hl) hb hq)
  S8:=F.adU hd I hi hni hr hE
  R8:=F.alG I hi h3.R8
  rel:=fun i0 h0 hc=>by
   obtain ⟨hle,_⟩:=hcl i0 h0 hc
   have hsb:Sub ι1 (D4 (F8 ι ι1 (S i).hp.length (S (i+1)).hp.length) (S i0).hp):=by
    have:=ads (ι:=F8 ι ι1 (S i).hp.length (S (i+1)).hp.length) (F.len hle h0)
    rwa [hcut] at this
   refine ⟨F.gl (F.aiX hi I.y3) h0,F.alG I hi h3.R8 i0 h0,fun b x hb=>(o8.1 hb).1,h3.base,fun b x k hb hk=>?_,fun b x k b' x' k' hb hk hrw hb' hk' he=>?_⟩
   ·obtain ⟨g1,g2⟩:=o8.1 hb
    obtain ⟨m1,m2⟩:=hwd b x g2
    rw [hbk i0 h0 hc b m1] at hk
    exact (h3.ok b x k m2 hk).mono hsb
   ·obtain ⟨m1,m2⟩:=hwd b x (o8.1 hb).2
    obtain ⟨n1,n2⟩:=hwd b' x' (o8.1 hb').2
    rw [hbk i0 h0 hc b m1] at hk
    rw [hbk i0 h0 hc b' n1] at hk'
    exact h3.sep b x k b' x' k' m2 hk hrw n2 hk' he
  llt:=fun k h=>Nat.lt_of_lt_of_le (I.llt k (H6 hN h)) h4.size
  L0:=fun k k' hk hk'=>I.L0 k k' (H6 hN hk) (H6 hN hk')
  abk:=fun k hk=>I.abk k (H6 hN hk)
  O0:=fun i0 h0 hc k b x q hk' hb hq he=>by
   have hk:=H6 hN hk'
   obtain ⟨m1,m2⟩:=hwd b x (o8.1 hb).2
   rw [hbk i0 h0 hc b m1] at hq
   have:=I.llt k hk
   obtain ⟨b0,x0,k0,g1,g2,_,g3,g4⟩:=h5 b x q m2 hq (by omega)
   exact I.O0 i (by omega) hcw k b0 x0 k0 hk g1 g2 (by omega)
  fr:=I.fr.chain (I.own i (by omega) hcw) h4
  own:=fun i0 h0 hc b x q hb hq hlt=>by
   obtain ⟨m1,m2⟩:=hwd b x (o8.1 hb).2
   rw [hbk i0 h0 hc b m1] at hq
   obtain ⟨b1,x1,k1,g1,g2,g5,g3,g4⟩:=h5 b x q m2 hq (Nat.lt_of_lt_of_le hlt I.fr.size)
   obtain ⟨b0,x0,k0,f1,f2,f5,f3,f4⟩:=I.own i (by omega) hcw b1 x1 k1 g1 g2 (by omega)
   refine ⟨b0,x0,k0,f1,f2,?_,fun hrw=>f3 (g3 hrw),by omega⟩
   rcases g5 with rfl | g5
   ·exact f5
   ·exact .inr (f3 g5) }
def amq (ρ:Nat->Nat) (k n:Nat):Nat->Nat:=fun q=>if q=k then n else ρ q
theorem Fix.news (F:Fix P X E0 ops S E C G sz ι0) {D:Nat->Prop} (hd:Down ops D) {ι:m8} {a:Act} {w:World} (I:Inv X E0 ops S C sz ι0 ρ D ι a w) {i:Nat} (hi:i<ops.size) (hni:¬ D i) (hr:∀ e ∈ ops[i].after,Region.binds .any e=true->D e.on)
 {k:Nat} (hs:C i = .N k) {cells:List Value} (hEi:E i = .loc k 0) (hnew:look (S (i+1)).loc k=some cells) {obj:Obj} (h1:abd (D4 ι (S i).hp) cells (w.alloc obj) w.heap.size) :
 Inv X E0 ops S C sz ι0 (amq ρ k w.heap.size) (fun j=>D j\/j=i) ι (a.put ops[i].dst (.pointer (some ⟨w.heap.size,0,none⟩))) (w.alloc obj):=by
 have hw:C i ≠ .W:=by rw [hs]; intro h; cases h
 have hS:∀ k',C i ≠ .S k':=fun k'=>by rw [hs]; intro h; cases h
 obtain ⟨hk0,huni⟩:=F.amr i k hi hs
 have hnk:¬ Kn ops S C D k:=by
  rintro (h | ⟨j,g1,g2,g3⟩)
  ·rw [hk0] at h; cases h
  ·have:=huni j g1 g2; subst this; exact hni g3
 have hρ:∀ q,Kn ops S C D q->amq ρ k w.heap.size q=ρ q:=fun q hq=>by
  unfold amq
  rw [if_neg]
  rintro rfl
  exact hnk hq
 have hρk:amq ρ k w.heap.size k=w.heap.size:=by unfold amq; rw [if_pos rfl]
 have hkn:∀ q,Kn ops S C (fun j=>D j\/j=i) q->q=k\/(q ≠ k/\Kn ops S C D q):=fun q hq=>by
  by_cases hqk:q=k
  ·exact .inl hqk
  ·refine .inr ⟨hqk,?_⟩
   rcases hq with hq | ⟨j,g1,g2,g3⟩
   ·exact .inl hq
   ·refine .inr ⟨j,g1,g2,g3.resolve_right ?_⟩
    rintro rfl
    rw [hs] at g2; cases g2; exact hqk rfl
 have hold:∀ j,j<w.heap.size->(w.alloc obj).heap[j]? = w.heap[j]?:=fun j hj=>by
  show (w.heap.push obj)[j]? = _
  rw [Array.getElem?_push,if_neg (by omega)]
 have hsz:(w.alloc obj).heap.size=w.heap.size+1:=by show (w.heap.push obj).size=_; simp
 exact {
  size:=by rw [aas]; exact I.size
  defers:=by cases hdd:ops[i].dst<;>simp [Act.put,I.defers]
  y3:=I.y3
  C5:=fun b x hb=>ahp (I.C5 b x hb)
  env:=F.anx hd I hi hni hr (Sub.refl _) hρ (by
   have h:=ER.loc (ι:=D4 ι (S (i+1)).hp) (ρ:=amq ρ k w.heap.size) k 0
   rw [hρk] at h
   rw [hEi]; exact h)
  S8:=F.adU hd I hi hni hr fun q d hq=>by rw [hEi] at hq; cases hq; exact .inr ⟨i,hi,hs,.inr rfl⟩
  loc:=fun i0 k' c h0 hc hl=>by
   by_cases hkk:k'=k
   ·subst hkk
    have hlt:i<i0:=(hc i hi (.inr hs)).1 (.inr rfl)
    have hsame:look (S i0).loc k'=look (S (i+1)).loc k':=F.aj6 (by omega) h0 fun l hl1 hl2 hcl=>by
     have hDl:D l:=((hc l (by omega) hcl).2 hl2).resolve_right (by omega)
     have:=aiB F hd hi hni hr (k:=k') (by rw [hs]; exact auo k') (by rw [hs]; exact auq k') l (by omega) hcl
     have:=this.1 hDl; omega
    rw [hsame,hnew] at hl; cases hl
    rw [hρk]
    exact h1.mono (ads (F.len (by omega) h0))
   ·have hcd:=(afn (hS k') (by rw [hs]; intro h; cases h; exact hkk rfl)).1 hc
    have hL:=I.loc i0 k' c h0 hcd hl
    rw [hρ k' (F.known h0 hcd hl)]
    exact hL.aaM (hold _ hL.lt)
  R8:=I.R8
  rel:=fun i0 h0 hc=>by
   have R0:=I.rel i0 h0 ((K1 hw).1 hc)
   exact R0.aaM (by omega) fun b x q hb hq=>hold _ (R0.ok b x q hb hq).lt
  llt:=fun q hq=>by
   rcases hkn q hq with rfl | ⟨_,h⟩
   ·rw [hρk]; omega
   ·rw [hρ q h]; have:=I.llt q h; omega
  O0:=fun i0 h0 hc q b x y hq hb hy=>by
   have hc0:=(K1 hw).1 hc
   rcases hkn q hq with rfl | ⟨_,h⟩
   ·rw [hρk]; have:=((I.rel i0 h0 hc0).ok b x y hb hy).lt; omega
   ·rw [hρ q h]; exact I.O0 i0 h0 hc0 q b x y h hb hy
  L0:=fun q q' hq hq' he=>by
   rcases hkn q hq with rfl | ⟨_,h⟩<;>rcases hkn q' hq' with rfl | ⟨_,h'⟩
   ·rfl
   ·rw [hρk,hρ q' h'] at he; have:=I.llt q' h'; omega
   ·rw [hρk,hρ q h] at he; have:=I.llt q h; omega
   ·rw [hρ q h,hρ q' h'] at he; exact I.L0 q q' h h' he
  abk:=fun q hq=>by
   rcases hkn q hq with rfl | ⟨_,h⟩
   ·rw [hρk]; exact I.fr.size
   ·rw [hρ q h]; exact I.abk q h
  fr:=⟨I.fr.os,I.fr.tape,I.fr.output,by have:=I.fr.size; omega,fun j hj hno=>by rw [hold j (by have:=I.fr.size; omega)]; exact I.fr.block j hj hno⟩
  own:=fun i0 h0 hc=>I.own i0 h0 ((K1 hw).1 hc) }
end
end Go.AM

/- A region that draws its order, joined: every order comes to the text's end. -/
namespace Go.AM
set_option linter.unusedSimpArgs false
set_option linter.unusedVariables false
section
variable {P:Program} {X:Ctx} {E0:Entry} {ops:Array Oper} {S:Nat->St} {E:Nat->EV} {C:Nat->D7} {G:Nat->Bool} {sz:Nat} {ι0:m8} {ρ:Nat->Nat}
theorem Fix.awV (F:Fix P X E0 ops S E C G sz ι0) {D:Nat->Prop} {ι:m8} {a:Act} {w:World} (I:Inv X E0 ops S C sz ι0 ρ D ι a w) {i:Nat} (hi:i<ops.size) (hcl:∀ t ∈ ops[i].looksAt ops,ClE ops D i t) :
 Region.wanted ops[i] (yielded ops a.tmps)=G i:=by
 have hg:=F.run.guard i _ (Nat.zero_le _) hi (L2 hi)
 cases hgd:ops[i].guard with
 | none=>rw [hgd] at hg; simp [Region.wanted,hgd,hg]
 | some p =>
   obtain ⟨j,want⟩:=p
   rw [hgd] at hg
   obtain ⟨d,hd,hc⟩:=hg
   have hm:d ∈ ops[i].looksAt ops:=by
    unfold Oper.looksAt
    refine List.mem_append_right _ ?_
    rw [hgd]
    unfold aeG at hd
    simp [hd]
   have hev:=fun e he=>I.env i d e (by omega) (hcl d hm) he
   rcases hc with ⟨b,h1,h2⟩ | ⟨h1,h2⟩
   ·have:=hev _ h1
    have hb:a.eval (.tmp d) = .bool b:=by
     generalize a.eval (.tmp d)=q at *
     cases this with | val h=>cases h; rfl
    simp [Region.wanted,hgd,aez hd,hb,aiH,h2]
   ·have:=hev _ h1
    have hu:a.eval (.tmp d)=undef:=by generalize a.eval (.tmp d)=q at *; cases this; rfl
    simp [Region.wanted,hgd,aez hd,hu,undef,aiH,h2]
theorem Fix.next (F:Fix P X E0 ops S E C G sz ι0) {D:Nat->Prop} (hd:Down ops D) {ι:m8} {a:Act} {w:World} (I:Inv X E0 ops S C sz ι0 ρ D ι a w) {i:Nat} (hi:i<ops.size) (hni:¬ D i) (hr:∀ e ∈ ops[i].after,Region.binds .any e=true->D e.on)
 {K:Act->World->Prop} {Q:Exit->Act->World->Prop} (hK:∀ ρ' ι' a' w',Inv X E0 ops S C sz ι0 ρ' (fun j=>D j\/j=i) ι' a' w'->K a' w'):wpOp P ops Q i K a w:=by
 obtain ⟨hcl,hop⟩:=F.operands hd I hi hni hr
 have hgd:=F.awV I hi hcl
 unfold wpOp
 rw [L2 hi]
 simp only
 rw [hgd]
 cases hg:G i with
 | false =>
   simp only [Bool.false_eq_true,if_false]
   obtain ⟨e1,e2,e3,e4⟩:=F.run.pass i _ (Nat.zero_le _) hi (L2 hi) hg
   exact hK ρ ι _ w (F.still hd I hi hni hr (by rw [e2]; intro h; cases h) (fun k=>by rw [e2]; intro h; cases h) (fun k=>by rw [e2]; intro h; cases h) (fun k d h=>by rw [e1] at h; cases h) (by rw [e1]; exact .E6))
 | true =>
   simp only [if_true]
   refine .inl ?_
   have hs:=F.run.run i _ (Nat.zero_le _) hi (L2 hi) hg
   generalize hc:C i=c at hs
   have hnw:∀ {c'},C i=c'->c' ≠ .W->C i ≠ .W:=fun h h'=>by rw [h]; exact h'
   cases c with
   | P =>
     obtain ⟨e1,e2,e3,hrun⟩:=hs
     obtain ⟨v',h1,h2⟩:=hrun _ ρ a w hop
     refine K4 h1 (hK ρ ι _ w (F.still hd I hi hni hr (by rw [hc]; intro h; cases h) (fun k=>by rw [hc]; intro h; cases h) (fun k=>by rw [hc]; intro h; cases h) (fun k d h=>?_) ?_))
     ·obtain ⟨t,d',g1,g2⟩:=e3 k d h
      refine (I.S8 i t k d' (by omega) (hcl t ?_) g1).mono fun j h => .inl h
      unfold Oper.looksAt
      exact List.mem_append_left _ (List.mem_filterMap.2 ⟨.tmp t,by simpa using g2,rfl⟩)
     ·rw [e2]; exact h2
   | L k =>
     obtain ⟨e1,e2,v,cells,e3,hk,hrun⟩:=hs
     obtain ⟨v',h1,h2⟩:=hrun _ ρ a w hop (I.loc i k cells (by omega) (aiB F hd hi hni hr (by rw [hc]; exact at7 k) (by rw [hc]; exact au6 k)) hk)
     refine K4 h1 (hK ρ ι _ w (F.still hd I hi hni hr (by rw [hc]; intro h; cases h) (fun k=>by rw [hc]; intro h; cases h) (fun k=>by rw [hc]; intro h; cases h) (fun k d h=>by rw [e3] at h; cases h) ?_))
     rw [e2,e3]; exact .val h2
   | S k =>
     obtain ⟨e1,e2,y3,cells,hk,e3,e4,hrun⟩:=hs
     obtain ⟨w',h1,h2,f1,f2,f3,f4,f5⟩:=hrun _ ρ a w hop (I.loc i k y3 (by omega) (aiB F hd hi hni hr (by rw [hc]; exact ajZ k) (by rw [hc]; exact akd k)) hk)
     refine agE h1 (hK ρ ι _ w' (F.azo hd I hi hni hr hc (fun k d h=>by rw [e1] at h; cases h) ?_ hk (cells:=cells) ?_ h2 f1 f2 f3 f4 f5))
     ·rw [e1]; exact .E6
     ·rw [e3,V2,if_pos rfl,hk]; rfl
   | N k =>
     obtain ⟨e1,e2,e3,e4,cells,e5,hrun⟩:=hs
     obtain ⟨obj,h1,h2⟩:=hrun _ ρ a w hop
     exact K4 h1 (hK _ ι _ _ (F.news hd I hi hni hr hc e1 (by rw [e5,j9,if_pos rfl]) h2))
   | H =>
     obtain ⟨e1,e2,v,e3,hrun⟩:=hs
     have hcw:=apl F hd hi hni hr (by rw [hc]; rfl)
     have hRi:=I.rel i (by omega) hcw
     refine hrun _ ρ a w E0.B K Q hop hRi fun v' w' h1 h2 h3=>hK ρ _ _ w' (F.axN hd I hi hni hr (by rw [hc]; intro h; cases h) (fun k=>by rw [hc]; intro h; cases h) (fun k=>by rw [hc]; intro h; cases h) (fun k d h=>by rw [e3] at h; cases h) hcw (ι1:=D4 ι (S i).hp) (fun _ _=>rfl) (fun b x _ hb hx _=>?_) ?_ h2 ?_)
     ·have:=(o8.1 hx).1; omega
     ·rw [e2]; exact h1
     ·rw [e3]; exact .val h3
   | A =>
     obtain ⟨e1,⟨new,e2⟩,v,e3,hrun⟩:=hs
     have hcw:=apl F hd hi hni hr (by rw [hc]; rfl)
     exact hrun _ ρ a w E0.B K Q hop (I.rel i (by omega) hcw) fun ι1 v' w' h1 h2 h3 h4 h5=>hK ρ _ _ w' (F.axN hd I hi hni hr (by rw [hc]; intro h; cases h) (fun k=>by rw [hc]; intro h; cases h) (fun k=>by rw [hc]; intro h; cases h) (fun k d h=>by rw [e3] at h; cases h) hcw h1 h2 h3 h4 (by rw [e3]; exact .val h5))
   | W =>
     obtain ⟨e1,e2,e3,hrun⟩:=hs
     have hcw:=apl F hd hi hni hr (by rw [hc]; rfl)
     exact hrun _ ρ a w E0.B K Q hop (I.rel i (by omega) hcw) fun ι1 v' w' h1 h2 h3 h4 h5=>hK ρ _ _ w' (F.writes hd I hi hni hr hc (fun k d h=>absurd h (e3 k d)) hcw h1 h2 h3 h4 h5)
def left (n:Nat) (listed:Array Bool):Nat:=(List.range n).countP fun j => !listed.getD j false
theorem auF {n i:Nat} {listed:Array Bool} (hi:i<n) (hn:listed.getD i false=false) (hs:i<listed.size):left n (listed.setIfInBounds i true)<left n listed:=by
 unfold left
 have h1:∀ j,listed.getD j false=true->(listed.setIfInBounds i true).getD j false=true:=fun j h=>getD_set_true h
 have h2:(listed.setIfInBounds i true).getD i false=true:=by simp [hs]
 generalize (listed.setIfInBounds i true)=l2 at *
 have hm:i ∈ List.range n:=List.mem_range.2 hi
 generalize List.range n=l at *
 induction l with
 | nil=>cases hm
 | cons j l ih =>
   rw [List.countP_cons,List.countP_cons]
   have hle:∀ l:List Nat,l.countP (fun j => !l2.getD j false)<=l.countP (fun j => !listed.getD j false):=fun l=>List.countP_mono_left fun j _ h=>by
    cases hj:listed.getD j false with
    | false=>rfl
    | true=>rw [h1 j hj] at h; cases h
   rcases List.mem_cons.1 hm with rfl | hm
   ·rw [hn,h2]
    have:=hle l
    simp only [Bool.not_true,Bool.not_false,if_true,Bool.false_eq_true,if_false]
    omega
   ·have:=ih hm
    cases hj:listed.getD j false with
    | true=>rw [h1 j hj]; omega
    | false=>cases l2.getD j false<;>simp only [Bool.not_true,Bool.not_false,if_true,Bool.false_eq_true,if_false]<;>omega
theorem arC {ops:Array Oper} {listed:Array Bool} (he:acD ops=true) (hs:listed.size=ops.size) (hr:Region.ready .any ops listed=[]):∀ j,j<ops.size->listed.getD j false=true:=by
 intro j
 induction j using Nat.strongRecOn with
 | _ j ih =>
   intro hj
   cases hl:listed.getD j false with
   | true=>rfl
   | false =>
     exfalso
     have:j ∈ Region.ready .any ops listed:=by
      rw [mem_ready]
      refine ⟨?_,ops[j],L2 hj,fun e hem hb=>?_⟩
      ·have:j<listed.size:=by omega
       simp [this] at hl ⊢; exact hl
      ·have:=agF he (L2 hj) hem hb
       exact ih e.on this (by omega)
     rw [hr] at this; cases this
theorem asY {n:Nat} {listed:Array Bool} (h:left n listed=0):∀ j,j<n->listed.getD j false=true:=fun j hj=>by
 unfold left at h
 rw [List.countP_eq_zero] at h
 have:=h j (List.mem_range.2 hj)
 simpa using this
theorem atB {ops:Array Oper} {listed:Array Bool} (hs:listed.size=ops.size) (h:∀ j,j<ops.size->listed.getD j false=true):Region.ready .any ops listed=[]:=by
 rw [List.eq_nil_iff_forall_not_mem]
 intro j hj
 rw [mem_ready] at hj
 obtain ⟨h1,o,ho,_⟩:=hj
 have hlt:=(Array.getElem?_eq_some_iff.1 ho).1
 have h2:=h j hlt
 have:j<listed.size:=by omega
 simp [this] at h1 h2
 rw [h1] at h2; cases h2
theorem Fix.any (F:Fix P X E0 ops S E C G sz ι0) {Q:Exit->Act->World->Prop} (hQ:∀ ρ ι a w D,(∀ j,j<ops.size->D j)->Inv X E0 ops S C sz ι0 ρ D ι a w->Q .normal a w) :
 ∀ (fuel:Nat) (listed:Array Bool) (ρ:Nat->Nat) (ι:m8) (a:Act) (w:World),listed.size=ops.size->Down ops (fun j=>listed.getD j false=true)->Inv X E0 ops S C sz ι0 ρ (fun j=>listed.getD j false=true) ι a w->left ops.size listed<=fuel->wpAny P .any ops Q fuel listed a w
 | 0,listed,ρ,ι,a,w,hs,hd,I,hf=>by
   have hall:=asY (Nat.le_zero.1 hf)
   exact ⟨atB hs hall,hQ ρ ι a w _ hall I⟩
 | fuel+1,listed,ρ,ι,a,w,hs,hd,I,hf=>by
   refine ⟨fun hr=>hQ ρ ι a w _ (arC F.anU hs hr) I,fun i hi=>?_⟩
   rw [mem_ready] at hi
   obtain ⟨h1,o,ho,hr⟩:=hi
   obtain ⟨hlt,rfl⟩:=Array.getElem?_eq_some_iff.1 ho
   have hls:i<listed.size:=by omega
   have h1':listed.getD i false=false:=by simp [hls] at h1 ⊢; exact h1
   refine F.next hd I hlt (by rw [h1']; intro h; cases h) hr fun ρ' ι' a' w' I'=>?_
   have hD:(fun j=>listed.getD j false=true\/j=i)=fun j=>(listed.setIfInBounds i true).getD j false=true:=by
    funext j
    apply propext
    by_cases hji:j=i
    ·subst hji; simp [hls]
    ·rw [getD_set_ne false (Ne.symm hji)]; simp [hji]
   rw [hD] at I'
   refine F.any hQ fuel _ ρ' ι' a' w' (by simp [hs]) ?_ I' (by have:=auF hlt h1' hls; omega)
   intro j o hj hDj e hem hb
   have hDj:listed.getD j false=true\/j=i:=by have:=congrFun hD j; exact this ▸ hDj
   show (listed.setIfInBounds i true).getD e.on false=true
   rcases hDj with hDj | rfl
   ·exact getD_set_true (hd j o hj hDj e hem hb)
   ·rw [ho] at hj; cases hj
    exact getD_set_true (hr e hem hb)
theorem G7.drawn {ι:m8} {ρ:Nat->Nat} {st:St} {a:Act} {w:World} (h:G7 X E0 ι ρ st a w) (n:Nat):G7 X E0 ι ρ st a { w with drawn:=n } :=
 ⟨h.env,h.S8,fun k c hk=>h.loc k c hk,h.L0,h.O0,⟨h.rel.I1,h.rel.R8,h.rel.C5,h.rel.base,h.rel.ok,h.rel.sep⟩,
  ⟨h.K3.ext,h.K3.sz,⟨h.K3.fr.os,h.K3.fr.tape,h.K3.fr.output,h.K3.fr.size,h.K3.fr.block⟩,h.K3.own⟩,h.defers⟩
theorem Run.mono (hr:Run P X ops S E C G 0 ops.size):∀ i j,i<=j->j<=ops.size->s6 (S i).hp (S j).hp:=by
 intro i j
 induction j with
 | zero=>intro h _; have:i=0:=by omega
         subst this; exact s6.refl _
 | succ j ih =>
   intro h hj
   by_cases hij:i=j+1
   ·subst hij; exact s6.refl _
   ·refine (ih (by omega) (by omega)).trans ?_
    have hlt:j<ops.size:=by omega
    cases hg:G j with
    | false=>rw [(hr.pass j _ (Nat.zero_le _) hlt (L2 hlt) hg).2.2.2]; exact s6.refl _
    | true =>
      have hs:=hr.run j _ (Nat.zero_le _) hlt (L2 hlt) hg
      generalize C j=c at hs
      cases c with
      | P=>rw [hs.2.1]; exact s6.refl _
      | L k=>rw [hs.2.1]; exact s6.refl _
      | S k=>rw [hs.2.1]; exact s6.refl _
      | N k=>have:=hs.2.2.1; rw [this]; exact s6.refl _
      | H=>rw [hs.2.1]; exact s6.refl _
      | A=>obtain ⟨new,e⟩:=hs.2.1; rw [e]; exact (s6.refl _).append _
      | W=>exact hs.2.1
theorem Run.alz (hr:Run P X ops S E C G 0 ops.size) {i:Nat} (hlt:i<ops.size) :
 (∀ k,(look (S i).loc k).isSome=true->(look (S (i+1)).loc k).isSome=true)/\(∀ k,(look (S (i+1)).loc k).isSome=true->(look (S i).loc k).isSome=true\/C i = .N k) ∧
 (∀ k,C i = .N k->look (S i).loc k=none/\(look (S (i+1)).loc k).isSome=true) ∧
 (∀ k d,E i = .loc k d->C i = .N k\/∃ t d',look (S i).env t=some (.loc k d')):=by
 cases hg:G i with
 | false =>
   obtain ⟨e1,e2,e3,e4⟩:=hr.pass i _ (Nat.zero_le _) hlt (L2 hlt) hg
   exact ⟨fun k h=>by rw [e3]; exact h,fun k h => .inl (by rw [<-e3]; exact h),fun k h=>(by rw [e2] at h; cases h),fun k d h=>(by rw [e1] at h; cases h)⟩
 | true =>
   have hs:=hr.run i _ (Nat.zero_le _) hlt (L2 hlt) hg
   generalize hc:C i=c at hs
   cases c with
   | P =>
     refine ⟨fun k h=>by rw [hs.1]; exact h,fun k h => .inl (by rw [<-hs.1]; exact h),fun k h=>(by cases h),fun k d h=>?_⟩
     obtain ⟨t,d',h',_⟩:=hs.2.2.1 k d h
     exact .inr ⟨t,d',h'⟩
   | L k' =>
     obtain ⟨e1,_,v,_,e2,_⟩:=hs
     exact ⟨fun k h=>by rw [e1]; exact h,fun k h => .inl (by rw [<-e1]; exact h),fun k h=>(by cases h),fun k d h=>by rw [e2] at h; cases h⟩
   | S k' =>
     obtain ⟨e1,_,y3,cells,_,e2,_⟩:=hs
     have hq:∀ k,(look (S (i+1)).loc k).isSome=(look (S i).loc k).isSome:=fun k=>by rw [e2,V2]; split<;>simp
     exact ⟨fun k h=>by rw [hq]; exact h,fun k h => .inl (by rw [<-hq]; exact h),fun k h=>(by cases h),fun k d h=>by rw [e1] at h; cases h⟩
   | N k' =>
     obtain ⟨e1,_,_,e4,cells,e5,_⟩:=hs
     refine ⟨fun k h=>?_,fun k h=>?_,fun k h=>?_,fun k d h=>?_⟩
     ·rw [e5,j9]; split
      ·rfl
      ·exact h
     ·rw [e5,j9] at h
      split at h
      ·rename_i e; subst e; exact .inr rfl
      ·exact .inl h
     ·cases h; exact ⟨e4,by rw [e5,j9,if_pos rfl]; rfl⟩
     ·rw [e1] at h; cases h; exact .inl rfl
   | H =>
     obtain ⟨e1,_,v,e2,_⟩:=hs
     exact ⟨fun k h=>by rw [e1]; exact h,fun k h => .inl (by rw [<-e1]; exact h),fun k h=>(by cases h),fun k d h=>by rw [e2] at h; cases h⟩
   | A =>
     obtain ⟨e1,_,v,e2,_⟩:=hs
     exact ⟨fun k h=>by rw [e1]; exact h,fun k h => .inl (by rw [<-e1]; exact h),fun k h=>(by cases h),fun k d h=>by rw [e2] at h; cases h⟩
   | W =>
     obtain ⟨e1,_,e2,_⟩:=hs
     exact ⟨fun k h=>by rw [e1]; exact h,fun k h => .inl (by rw [<-e1]; exact h),fun k h=>(by cases h),fun k d h=>absurd h (e2 k d)⟩
theorem Run.ayP (hr:Run P X ops S E C G 0 ops.size) {k:Nat}:∀ {i j:Nat},i<=j->j<=ops.size->(look (S i).loc k).isSome=true->(look (S j).loc k).isSome=true:=by
 intro i j
 induction j with
 | zero=>intro h _ hk; have:i=0:=by omega
         subst this; exact hk
 | succ j ih =>
   intro h hj hk
   by_cases hij:i=j+1
   ·subst hij; exact hk
   ·exact (hr.alz (i:=j) (by omega)).1 k (ih (by omega) (by omega) hk)
theorem Run.amr (hr:Run P X ops S E C G 0 ops.size) {j k i:Nat} (hj:j<ops.size) (hc:C j = .N k) (hi:i<=j):look (S i).loc k=none:=by
 cases h:look (S i).loc k with
 | none=>rfl
 | some c =>
   have:=hr.ayP (k:=k) hi (by omega) (by rw [h]; rfl)
   rw [((hr.alz hj).2.2.1 k hc).1] at this; cases this
theorem Run.once (hr:Run P X ops S E C G 0 ops.size) {j j' k:Nat} (hj:j<ops.size) (hj':j'<ops.size) (hc:C j = .N k) (hc':C j' = .N k):j'=j:=by
 rcases Nat.lt_trichotomy j' j with h | h | h
 ·have:=hr.amr hj hc (i:=j'+1) (by omega)
  have h2:=((hr.alz hj').2.2.1 k hc').2
  rw [this] at h2; cases h2
 ·exact h
 ·have:=hr.amr hj' hc' (i:=j+1) (by omega)
  have h2:=((hr.alz hj).2.2.1 k hc).2
  rw [this] at h2; cases h2
theorem Run.locals (hr:Run P X ops S E C G 0 ops.size) (h0:∀ t k d,look (S 0).env t=some (.loc k d)->(look (S 0).loc k).isSome=true):∀ i,i<=ops.size →
 (∀ k,(look (S i).loc k).isSome=true->(look (S 0).loc k).isSome=true\/∃ j,j<i/\C j = .N k)/\∀ t k d,look (S i).env t=some (.loc k d)->(look (S i).loc k).isSome=true:=by
 intro i
 induction i with
 | zero=>intro _; exact ⟨fun k h => .inl h,h0⟩
 | succ i ih =>
   intro hi
   obtain ⟨i1,i2⟩:=ih (by omega)
   have hlt:i<ops.size:=by omega
   obtain ⟨s1,s2,s3,s4⟩:=hr.alz hlt
   refine ⟨fun k h=>?_,fun t k d ht=>?_⟩
   ·rcases s2 k h with h | h
    ·rcases i1 k h with h | ⟨j,hj,hn⟩
     ·exact .inl h
     ·exact .inr ⟨j,by omega,hn⟩
    ·exact .inr ⟨i,by omega,h⟩
   ·rw [hr.env i _ (Nat.zero_le _) hlt (L2 hlt)] at ht
    split at ht
    ·rcases s4 k d (Option.some.inj ht) with h | ⟨t',d',h⟩
     ·exact (s3 k h).2
     ·exact s1 k (i2 t' k d' h)
    ·exact s1 k (i2 t k d ht)
theorem anF {cl:List D7} (h:aeP ops cl=true):acD ops=true/\cl.length=ops.size/\∀ i j,i<j->j<ops.size->ab3 ops i j\/(adZ ops i j=true/\J8 (cl.getD i .W) (cl.getD j .W)=true):=by
 unfold aeP at h
 simp only [Bool.and_eq_true,List.all_eq_true,List.mem_range,Bool.or_eq_true] at h
 obtain ⟨⟨h1,h2⟩,h4⟩:=h
 refine ⟨h1,Nat.eq_of_beq_eq_true h2,fun i j hij hj=>?_⟩
 rcases h4 j hj i hij with h | h
 ·exact .inl h
 ·exact .inr h
end
theorem aud {P:Program} {X:Ctx} (hX:XOk P X) (hm:P.follows .mixedOrders=true):amN P X:=by
 intro A E0 R r id ops st K ι ρ a w Q hr h hd hQ
 obtain ⟨S,E,C,G,hrun,hS0,cl',hK,hcl⟩:=akh (os:=ops.toList) (k:=0) hX (fun j=>by simp) hr
 simp only [Nat.zero_add,Array.length_toList,List.reverse_nil,List.nil_append] at hrun hK hcl
 cases ho:aeP ops cl'.reverse with
 | false=>rw [ho] at hK; cases hK
 | true =>
   rw [ho] at hK
   simp only at hK
   obtain ⟨he,hlen,hfree⟩:=anF ho
   have hC:∀ i,i<ops.size->cl'.reverse.getD i .W=C i:=fun i hi=>by
    rw [hcl,List.getD_eq_getElem?_getD,List.getElem?_map,List.getElem?_range' (by simpa using hi)]
    simp
   have hmono:=hrun.mono
   have hloc:=hrun.locals (by rw [hS0]; exact h.S8)
   subst hS0
   have F:Fix P X E0 ops S E C G a.tmps.size ι:={
    run:=hrun
    anU:=he
    free:=fun i j hij hj=>by
     have:=hfree i j hij hj
     rwa [hC i (by omega),hC j hj] at this
    dst:=fun i o hi d hdd=>hd o (by
     have:=Array.mem_of_getElem? hi
     simpa using this) d hdd
    mono:=hmono
    keys:=fun i k hi=>(hloc i hi).1 k
    amr:=fun j k hj hc=>⟨hrun.amr hj hc (Nat.zero_le j) ,fun j' hj' hc'=>hrun.once hj hj' hc hc'⟩
    I1:=h.rel.I1
    auy:=h.rel.C5
    e0:=h.K3.sz.len
    azf:=h.K3.ext }
   refine wp_region_any hm ?_
   have h':=h.drawn (w.drawn+1)
   generalize ({ w with drawn:=w.drawn+1 }:World)=w1 at *
   have hno:∀ j,¬ ((Array.replicate ops.size false).getD j false=true):=fun j hj=>by
    by_cases hlt:j<ops.size<;>simp [hlt] at hj
   have hkn0:∀ k,Kn ops S C (fun j=>(Array.replicate ops.size false).getD j false=true) k->∃ c,look (S 0).loc k=some c:=fun k hk=>by
    rcases hk with hk | ⟨j,_,_,hj⟩
    ·exact Option.isSome_iff_exists.1 hk
    ·exact absurd hj (hno j)
   have hcut0:D4 ι (S 0).hp=ι:=by
    funext b
    unfold D4
    split
    ·rfl
    ·cases hb:ι b with
     | none=>rfl
     | some x=>exact absurd (h.rel.C5 b x hb) (by assumption)
   have hsub:∀ i,i<=ops.size->Sub ι (D4 ι (S i).hp):=fun i hi b x hb=>o8.2 ⟨Nat.lt_of_lt_of_le (h.rel.C5 b x hb) (F.len (Nat.zero_le i) hi),hb⟩
   have hclw:∀ i,i<=ops.size->ClW ops C (fun j=>(Array.replicate ops.size false).getD j false=true) i->∃ new,(S i).hp=(S 0).hp++new:=fun i hi hc=>F.akY (Nat.zero_le i) hi fun k _ hk hck=>hno k ((hc k (by omega) hck).2 hk)
   have hbk:∀ i,i<=ops.size->ClW ops C (fun j=>(Array.replicate ops.size false).getD j false=true) i->∀ b x,D4 ι (S i).hp b=some x->ι b=some x/\l9 (S i).hp b=l9 (S 0).hp b:=fun i hi hc b x hb=>by
    obtain ⟨new,e⟩:=hclw i hi hc
    have hb2:=(o8.1 hb).2
    exact ⟨hb2,by rw [e,y1 _ (h.rel.C5 b x hb2)]⟩
   refine F.any ?_ ops.size _ ρ ι a w1 (by simp) (fun j o _ hDj=>absurd hDj (hno j)) ?_ ?_
   ·intro ρ ι' a' w' D hall I
    have hcl':∀ k,ClL ops C D ops.size k:=fun k j hj _=>⟨fun _=>hj,fun _=>hall j hj⟩
    have hcw:ClW ops C D ops.size:=fun j hj _=>⟨fun _=>hj,fun _=>hall j hj⟩
    refine hQ cl' (S ops.size) (D4 ι' (S ops.size).hp) ρ a' w' hK ⟨fun t e ht=>I.env ops.size t e (Nat.le_refl _) (fun j o hj _=>?_) ht,(hloc ops.size (Nat.le_refl _)).2,fun k c hk=>?_,fun k k' c c' hk hk' he=>?_,fun k c b x q hk hb hq=>?_,I.rel ops.size (Nat.le_refl _) hcw,⟨fun b hb=>?_,h.K3.sz.trans (hmono 0 ops.size (Nat.zero_le _) (Nat.le_refl _)),I.fr,I.own ops.size (Nat.le_refl _) hcw⟩,I.defers⟩ I.size
    ·have hjlt:=(Array.getElem?_eq_some_iff.1 hj).1
     exact ⟨fun _=>hjlt,fun _=>hall j hjlt⟩
    ·exact ⟨I.loc ops.size k c (Nat.le_refl _) (hcl' k) hk,I.abk k (F.known (Nat.le_refl _) (hcl' k) hk)⟩
    ·exact I.L0 k k' (F.known (Nat.le_refl _) (hcl' k) hk) (F.known (Nat.le_refl _) (hcl' k') hk') he
    ·exact I.O0 ops.size (Nat.le_refl _) hcw k b x q (F.known (Nat.le_refl _) (hcl' k) hk) hb hq
    ·have hb1:b<(S 0).hp.length:=Nat.lt_of_lt_of_le hb h.K3.sz.len
     have hb2:=F.len (Nat.zero_le ops.size) (Nat.le_refl _)
     unfold D4
     rw [if_pos (by omega),I.y3 b hb1]
     exact h.K3.ext b hb
   ·exact {
     size:=rfl
     defers:=h.defers
     y3:=fun _ _=>rfl
     C5:=fun b x hb => .inl (h.rel.C5 b x hb)
     env:=fun i t e hi hc ht=>by
      have hs:look (S i).env t=look (S 0).env t:=F.afT (Nat.zero_le i) hi fun k o _ hk ho hdd=>hno k ((hc k o ho hdd).2 hk)
      rw [hs] at ht
      exact (h'.env t e ht).mono (hsub i hi)
     loc:=fun i k c hi hc hk=>by
      have hs:look (S i).loc k=look (S 0).loc k:=F.aj6 (Nat.zero_le i) hi fun l _ hl hcl=>hno l ((hc l (by omega) hcl).2 hl)
      rw [hs] at hk
      exact ((h'.loc k c hk).1).mono (hsub i hi)
     R8:=fun i hi b x k hb hk=>by
      have hb2:=(o8.1 hb).2
      have hlt:=h.rel.C5 b x hb2
      obtain ⟨k',g1,g2⟩:=hmono 0 i (Nat.zero_le i) hi b _ (List.getElem?_eq_getElem hlt)
      rw [hk] at g1; cases g1
      rw [g2]; exact h.rel.R8 b x _ hb2 (List.getElem?_eq_getElem hlt)
     rel:=fun i hi hc=>by
      have R0:=h'.rel
      refine ⟨F.gl (fun _ _=>rfl) hi,?_,fun b x hb=>(o8.1 hb).1,R0.base,fun b x k hb hk=>?_,fun b x k b' x' k' hb hk hrw hb' hk' he=>?_⟩
      ·intro b x k hb hk
       have hb2:=(o8.1 hb).2
       have hlt:=h.rel.C5 b x hb2
       obtain ⟨k',g1,g2⟩:=hmono 0 i (Nat.zero_le i) hi b _ (List.getElem?_eq_getElem hlt)
       rw [hk] at g1; cases g1
       rw [g2]; exact h.rel.R8 b x _ hb2 (List.getElem?_eq_getElem hlt)
      ·obtain ⟨g1,g2⟩:=hbk i hi hc b x hb
       rw [g2] at hk
       exact (R0.ok b x k g1 hk).mono (hsub i hi)
      ·obtain ⟨g1,g2⟩:=hbk i hi hc b x hb
       obtain ⟨f1,f2⟩:=hbk i hi hc b' x' hb'
       rw [g2] at hk; rw [f2] at hk'
       exact R0.sep b x k b' x' k' g1 hk hrw f1 hk' he
     S8:=fun i t k d hi hc ht=>by
      have hs:look (S i).env t=look (S 0).env t:=F.afT (Nat.zero_le i) hi fun k o _ hk ho hdd=>hno k ((hc k o ho hdd).2 hk)
      rw [hs] at ht
      exact .inl (h'.S8 t k d ht)
     llt:=fun k hk=>by
      obtain ⟨c,hk⟩:=hkn0 k hk
      exact (h'.loc k c hk).1.lt
     O0:=fun i hi hc k b x q hk hb hq=>by
      obtain ⟨c,hk⟩:=hkn0 k hk
      obtain ⟨g1,g2⟩:=hbk i hi hc b x hb
      rw [g2] at hq
      exact h'.O0 k c b x q hk g1 hq
     L0:=fun k k' hk hk' he=>by
      obtain ⟨c,hk⟩:=hkn0 k hk
      obtain ⟨c',hk'⟩:=hkn0 k' hk'
      exact h'.L0 k k' c c' hk hk' he
     abk:=fun k hk=>by
      obtain ⟨c,hk⟩:=hkn0 k hk
      exact (h'.loc k c hk).2
     fr:=h'.K3.fr
     own:=fun i hi hc b x q hb hq hlt=>by
      obtain ⟨g1,g2⟩:=hbk i hi hc b x hb
      rw [g2] at hq
      exact h'.K3.own b x q g1 hq hlt }
   ·unfold left
    exact Nat.le_trans List.countP_le_length (by simp)
end Go.AM

/- The abstract machine is sound: what it tells of a call holds of the program's call. -/
namespace Go.AM
open Go.RowKit
set_option linter.unusedSimpArgs false
set_option linter.unusedVariables false
def arV (P:Program) (ng:Nat) (f:FuncId) (args:List Value) (hp:Heap) (r:Value) (hp':Heap):Prop :=
 Enters P f/\s6 hp hp' ∧
  ∀ ι w B (args':Array Value),Rel ng ι hp w B->C0 ι args args'.toList →
    Calls P f args' w fun e w'=>∃ ι' r',e = .returned r'/\S7 hp.length ι ι'/\Rel ng ι' hp' w' B/\Fr ι hp w w'/\Own ι hp w ι' hp'/\VR ι' r r'
structure agi (P:Program) (b:abO):Prop where
 tab:∀ t ti,look b.tab t=some ti->P0 P t ti
 fn:∀ f fn,b.fn f=some fn->P.funcs[f]? = some fn/\(fn.name == "runtime.NumGoroutine")=false
 ext:arh P b.kind b.ext
 Z3:∀ f g args hp r hp',b.Z3 f=some g->g args hp=some (r,hp')->arV P b.ng f args hp r hp'
 mixed:P.follows .mixedOrders=true
theorem ao2 {P:Program} {b:abO} (hb:agi P b):∀ n,aoC P b.ng (U6 b n)
 | 0=>fun f args hp r hp' h=>by cases h
 | n+1=>fun f args hp r hp' h=>by
   simp only [U6] at h
   split at h
   ·rename_i g hg
    exact hb.Z3 f g args hp r hp' hg h
   ·have hX:XOk P (b.ctx (U6 b n) (lpN n)):=⟨hb.tab,ao2 hb n,hb.ext⟩
    exact ap5 hX (ayd n) (aud hX hb.mixed) (fun fn hf=>hb.fn f fn hf) h
theorem avl {P:Program} {b:abO} (hb:agi P b):aoC P b.ng (N2 b):=fun f args hp r hp' h=>by
 obtain ⟨n,hn⟩:=E4.1 h
 exact ao2 hb n f args hp r hp' (hn n (Nat.le_refl _))
theorem auV {ι:m8} {hp:Heap} {w w':World} (h:Fr ι hp w w') (hro:∀ b k,l9 hp b=some k->k.md ≠ .rw):Below w.heap.size w w' :=
 ⟨h.os,h.tape,h.output,h.size,fun j hj=>h.block j hj fun b x k _ hk hrw=>absurd hrw (hro b k hk)⟩
theorem asR {P:Program} {b:abO} (hb:agi P b) {f:FuncId} {args:List Value} {hp hp':Heap} {r:Value} (h:N2 b f args hp=some (r,hp')) {ι:m8} {w:World} {args':Array Value}
 (hR:Rel b.ng ι hp w w.heap.size) (ha:C0 ι args args'.toList) (hro:∀ b k,l9 hp b=some k->k.md ≠ .rw) :
 Calls P f args' w fun e w'=>∃ ι' r',e = .returned r'/\VR ι' r r'/\S7 hp.length ι ι'/\Rel b.ng ι' hp' w' w.heap.size/\Below w.heap.size w w' :=
 ((avl hb f args hp r hp' h).2.2 ι w w.heap.size args' hR ha).mono fun e w' ⟨ι',r',h1,h2,h3,h4,h5,h6⟩=>⟨ι',r',h1,h6,h2,h3,auV h4 hro⟩
theorem al4 {P:Program} {b:abO} (hb:agi P b) {f:FuncId} {args:List Value} {hp hp':Heap} (h:N2 b f args hp=some (.bool true,hp')) {ι:m8} {w:World} {args':Array Value}
 (hR:Rel b.ng ι hp w w.heap.size) (ha:C0 ι args args'.toList) (hro:∀ b k,l9 hp b=some k->k.md ≠ .rw) :
 Calls P f args' w fun e w'=>e = .returned (.bool true)/\Below w.heap.size w w' :=
 (asR hb h hR ha hro).mono fun e w' ⟨ι',r',h1,h2,_,_,h5⟩=>by
  cases h2; exact ⟨h1,h5⟩
end Go.AM
#print axioms Go.AM.al4

/- Words for printed runs. -/
namespace Go.AM
def bs (l:List UInt8):ByteArray:=⟨l.toArray⟩
def C2 {R:Type} (n:Nat) (l:List (Option R)):Option R :=
 match l with
 | []=>none
 | a::l=>match n with
   | 0=>a
   | n+1=>C2 n l
termination_by structural l
def ae3:Code->Nat->Option Code
 | .seq a b,n=>(ae3 a n).or (ae3 b n)
 | .cond _ a b,n=>(ae3 a n).or (ae3 b n)
 | .block _ a,n=>ae3 a n
 | .loop a,n=>if aa3 a=n then some a else ae3 a n
 | _,_=>none
def C7 (f:Func) (n:Nat):Code:=((f.body.bind fun c=>ae3 c n).getD .skip)
def ayT (l:List (Nat × T8)) (f:FuncId):T8:=(look l f).getD {}
def kindOf (l m:List Nat) (f:FuncId):Nat:=match mem l f with | true=>1 | false=>(match mem m f with | true=>2 | false=>0)
end Go.AM

/- The table of types: a check, and what it shows. -/
namespace Go.AM
set_option linter.unusedSimpArgs false
set_option linter.unusedVariables false
def eqV:Value->Value->Bool
 | .bool a,.bool b=>a==b
 | .int k n,.int k' n'=>decide (k=k')&&decide (n=n')
 | .string s,.string s'=>decide (s.data.toList=s'.data.toList)
 | .pointer none,.pointer none=>true
 | .slice none 0 0,.slice none 0 0=>true
 | .nilFunc,.nilFunc=>true
 | _,_=>false
theorem axv {a b:Value} (h:eqV a b=true):a=b:=by
 unfold eqV at h
 split at h
 ·rw [eq_of_beq h]
 ·simp at h; rw [h.1,h.2]
 ·rename_i s s'
  have:=of_decide_eq_true h
  congr 1
  obtain ⟨⟨l⟩⟩:=s
  obtain ⟨⟨l'⟩⟩:=s'
  simp at this
  rw [this]
 ·rfl
 ·rfl
 ·rfl
 ·cases h
def an0:List Value->List Value->Bool
 | [],[]=>true
 | a::l,b::m=>eqV a b&&an0 l m
 | _,_=>false
theorem amf:∀ {a b:List Value},an0 a b=true->a=b
 | [],[],_=>rfl
 | a::l,b::m,h=>by
   simp only [an0,Bool.and_eq_true] at h
   rw [axv h.1,amf h.2]
 | [],_::_,h=>by cases h
 | _::_,[],h=>by cases h
def aoN (P:Program) (f:Field) (x:Nat × Nat × Bool):Bool :=
 decide (f.offset=x.1)&&(match P.info? f.type,P.underlying f.type with
  | some g,some u=>decide (g.size=x.2.1)&&decide (0<x.2.1)&&decide (aaZ u=x.2.2)&&(x.2.2||decide (x.2.1=1))
  | _,_=>false)
def aeU (P:Program):List Field->List (Nat × Nat × Bool)->Bool
 | [],[]=>true
 | f::fs,x::xs=>aoN P f x&&aeU P fs xs
 | _,_=>false
theorem ajz {P:Program}:∀ {fs:List Field} {xs:List (Nat × Nat × Bool)},aeU P fs xs=true->fs.length=xs.length
 | [],[],_=>rfl
 | f::fs,x::xs,h=>by simp only [aeU,Bool.and_eq_true] at h; simp [ajz h.2]
 | [],_::_,h=>by cases h
 | _::_,[],h=>by cases h
theorem ajF {P:Program}:∀ {fs:List Field} {xs:List (Nat × Nat × Bool)},aeU P fs xs=true->∀ (i:Nat) x,xs[i]? = some x->∃ f,fs[i]? = some f/\aoN P f x=true
 | [],[],_,i,x,e=>by simp at e
 | f::fs,x::xs,h,i,y,e=>by
   simp only [aeU,Bool.and_eq_true] at h
   cases i with
   | zero=>simp at e; subst e; exact ⟨f,by simp,h.1⟩
   | succ i=>simp at e; simpa using ajF h.2 i y e
 | [],_::_,h,_,_,_=>by cases h
 | _::_,[],h,_,_,_=>by cases h
def tkB (P:Program) (d:TypeDesc):TK->Bool
 | .int k=>(match d with | .int k'=>decide (k'=k) | _=>false)
 | .bool=>(match d with | .bool=>true | _=>false)
 | .str=>(match d with | .string=>true | _=>false)
 | .slice e c9 eb z=>(match d with
   | .slice e'=>decide (e'=e)&&(match P.info? e with
     | some i=>decide (i.size=c9)&&decide (i.bytes=eb)&&(match i.zero with | some v=>an0 v.cells.toList z | none=>false)&&decide (z.length=c9)&&decide (0<c9)&&decide (0<eb)&&z.all I0
     | none=>false)
   | _=>false)
 | .struct fs=>(match d with | .struct fields=>aeU P fields.toList fs | _=>false)
 | .arr n c9=>(match d with | .array n' e=>decide (n'=n)&&(match P.info? e,P.underlying e with | some i,some u=>decide (i.size=c9)&&(!decide (c9=1) || !aaZ u) | _,_=>false) | _=>false)
 | .other=>true
theorem axj {P:Program} {d:TypeDesc} {k:TK} (h:tkB P d k=true):art P d k:=by
 cases k with
 | int k=>cases d<;>simp [tkB] at h; exact congrArg _ h
 | bool=>cases d<;>simp [tkB] at h; rfl
 | str=>cases d<;>simp [tkB] at h; rfl
 | slice e c9 eb z =>
   cases d<;>simp only [tkB] at h<;>try (cases h; done)
   rename_i e'
   simp only [Bool.and_eq_true,decide_eq_true_eq] at h
   obtain ⟨rfl,h⟩:=h
   split at h
   ·rename_i i hi
    simp only [Bool.and_eq_true,decide_eq_true_eq] at h
    obtain ⟨⟨⟨⟨⟨⟨h1,h2⟩,h3⟩,h4⟩,h5⟩,h6⟩,h7⟩:=h
    split at h3
    ·rename_i v hv
     exact ⟨rfl,i,v,hi,h1,h2,hv,amf h3,h4,h5,h6,fun u hu=>by rw [List.all_eq_true] at h7; exact h7 u hu⟩
    ·cases h3
   ·cases h
 | struct fs =>
   cases d<;>simp only [tkB] at h<;>try (cases h; done)
   rename_i fields
   refine ⟨fields,rfl,by simpa using ajz h,fun i off n agg e=>?_⟩
   obtain ⟨f,hf,hb⟩:=ajF h i _ e
   unfold aoN at hb
   simp only [Bool.and_eq_true,decide_eq_true_eq] at hb
   obtain ⟨h1,hb⟩:=hb
   split at hb
   ·rename_i g u hg hu
    simp only [Bool.and_eq_true,Bool.or_eq_true,decide_eq_true_eq] at hb
    obtain ⟨⟨⟨h2,h3⟩,h4⟩,h5⟩:=hb
    exact ⟨f,g,u,by simpa using hf,h1,hg,h2,h3,hu,h4,fun ha=>by rcases h5 with h5 | h5; (rw [ha] at h5; cases h5); exact h5⟩
   ·cases hb
 | arr n c9 =>
   cases d<;>simp only [tkB] at h<;>try (cases h; done)
   rename_i n' e
   simp only [Bool.and_eq_true,decide_eq_true_eq] at h
   obtain ⟨rfl,h⟩:=h
   split at h
   ·rename_i i u hi hu
    simp only [Bool.and_eq_true,Bool.or_eq_true,decide_eq_true_eq,Bool.not_eq_true',decide_eq_false_iff_not] at h
    exact ⟨e,i,rfl,hi,h.1,u,hu,fun q=>by rcases h.2 with h2 | h2; exact absurd q h2; exact h2⟩
   ·cases h
 | other=>trivial
def tiB (P:Program) (t:TypeId) (ti:TI):Bool :=
 (match P.info? t with
  | some i=>decide (i.size=ti.size)&&(match i.zero with | some v=>an0 v.cells.toList ti.zero | none=>false)
  | none=>false)&&decide (ti.zero.length=ti.size)&&ti.zero.all I0 &&
 (match P.underlying t with | some d=>decide (aaZ d=ti.agg)&&tkB P d ti.k | none=>false)&&(ti.agg||decide (ti.size=1))
theorem ayC {P:Program} {t:TypeId} {ti:TI} (h:tiB P t ti=true):P0 P t ti:=by
 unfold tiB at h
 simp only [Bool.and_eq_true,Bool.or_eq_true,decide_eq_true_eq] at h
 obtain ⟨⟨⟨⟨h1,h2⟩,h3⟩,h4⟩,h5⟩:=h
 split at h1
 ·rename_i i hi
  simp only [Bool.and_eq_true,decide_eq_true_eq] at h1
  obtain ⟨h6,h7⟩:=h1
  split at h7
  ·rename_i v hv
   split at h4
   ·rename_i d hd
    simp only [Bool.and_eq_true,decide_eq_true_eq] at h4
    exact ⟨⟨i,v,hi,h6,hv,amf h7,h2,fun u hu=>by rw [List.all_eq_true] at h3; exact h3 u hu⟩,⟨d,hd,h4.1,axj h4.2⟩,fun ha=>by rcases h5 with h5 | h5; (rw [ha] at h5; cases h5); exact h5⟩
   ·cases h4
  ·cases h7
 ·cases h1
def anM (P:Program):List (Nat × TI)->Bool
 | []=>true
 | (t,ti)::l=>tiB P t ti&&anM P l
theorem alB {P:Program}:∀ {l:List (Nat × TI)},anM P l=true->∀ t ti,look l t=some ti->P0 P t ti
 | [],_,t,ti,e=>by simp [look] at e
 | (s,si)::l,h,t,ti,e=>by
   simp only [anM,Bool.and_eq_true] at h
   rw [j9] at e
   split at e
   ·rename_i hs; subst hs; cases e; exact ayC h.1
   ·exact alB h.2 t ti e
def arP (P:Program):List (Nat × Func)->Prop
 | []=>True
 | (i,f)::l=>(P.funcs[i]? = some f/\(f.name == "runtime.NumGoroutine")=false)/\arP P l
theorem asC {P:Program}:∀ {l:List (Nat × Func)},arP P l->∀ i f,look l i=some f->P.funcs[i]? = some f/\(f.name == "runtime.NumGoroutine")=false
 | [],_,i,f,e=>by simp [look] at e
 | (j,g)::l,h,i,f,e=>by
   rw [j9] at e
   split at e
   ·rename_i hs; subst hs; cases e; exact h.1
   ·exact asC h.2 i f e
end Go.AM

/- slices.Insert at elements of any size: what a call does. -/
set_option linter.unusedVariables false
set_option linter.unusedSimpArgs false
namespace Go.AM
open Go Go.Proofs Go.Shelf Go.RowKit Go.Lib
variable {P:Program} {ρ:Ren}
theorem afM {P:Program} (w:World) (dT sT ty elem:TypeId) (sz:Nat) (b o dLen dCap:Nat) (a:Addr) (sLen sCap:Nat) (cs:List Value)
 (hu:P.underlying dT=some (.slice elem)) (hs:(P.info? elem).map (·.size)=some sz) (hn:cs.length=Nat.min sLen dLen*sz)
 (hsrc:∀ j v,cs[j]? = some v->w.cell? (a.add j)=some v) (hc:∀ j,j<cs.length->(w.cell? ⟨b,o+j,none⟩).isSome=true) (hf:∀ j,j<cs.length->w.frozen? ⟨b,o+j,none⟩=false) (h1:∀ v ∈ cs,v.oneCell'=true) :
 (Builtin.copy_ #[dT,sT] ty #[.slice (some ⟨b,o,none⟩) dLen dCap,.slice (some a) sLen sCap]).run P w = .ok (goInt (Nat.min sLen dLen)) (w.setCells b o cs):=by
 have hl:=run_loadCells_list (P:=P) w a cs hsrc
 have hst:=run_storeCells_cells (P:=P) b o cs 0 w (by simpa using hc) (by simpa using hf) h1
 cases hq:P.info? elem with
 | none=>simp [hq] at hs
 | some i =>
   have hi:i.size=sz:=by simpa [hq] using hs
   simp [Builtin.copy_,run_underlying hu,Builtin.lenOf,Builtin.firstCells,sizeOf,typeInfo,hq,hi,<-hn,hl,hst]
structure agD (P:Program) (ρ:Ren) (c9 eb:Nat) (z:Value):Prop where
 mixed:P.follows .mixedOrders=true
 f22:Bears P (ρ.f 22) (Body2.n22 ρ)
 ov:∀ (args:Array Value) (w:World),(callFunc (ρ.f 29) args).run P w=((Extern.SlicesOverlaps.overlaps #[ρ.t 24,ρ.t 24] #[ρ.t 4] args).run P w).andThen fun v w' => .ok (.value v) w'
 t0:P.underlying (ρ.t 0)=some (TypeDesc.tuple #[])
 a0:∀ w,(isAgg (ρ.t 0)).run P w = .ok false w
 z0:∀ w,(Go.sizeOf (ρ.t 0)).run P w = .ok 1 w
 v0:∀ w,(zeroValue (ρ.t 0)).run P w = .ok (Value.tuple #[]) w
 t3:P.underlying (ρ.t 3)=some (TypeDesc.int IntKind.i64)
 a3:∀ w,(isAgg (ρ.t 3)).run P w = .ok false w
 z3:∀ w,(Go.sizeOf (ρ.t 3)).run P w = .ok 1 w
 v3:∀ w,(zeroValue (ρ.t 3)).run P w = .ok (Value.int IntKind.i64 0) w
 t4:P.underlying (ρ.t 4)=some (TypeDesc.bool)
 a4:∀ w,(isAgg (ρ.t 4)).run P w = .ok false w
 z4:∀ w,(Go.sizeOf (ρ.t 4)).run P w = .ok 1 w
 v4:∀ w,(zeroValue (ρ.t 4)).run P w = .ok (Value.bool false) w
 t24:P.underlying (ρ.t 24)=some (TypeDesc.slice (ρ.t 9))
 a24:∀ w,(isAgg (ρ.t 24)).run P w = .ok false w
 z24:∀ w,(Go.sizeOf (ρ.t 24)).run P w = .ok 1 w
 v24:∀ w,(zeroValue (ρ.t 24)).run P w = .ok (Value.slice none 0 0) w
 z9:∀ w,(Go.sizeOf (ρ.t 9)).run P w = .ok c9 w
 v9:∀ w,(zeroValue (ρ.t 9)).run P w = .ok z w
 i9:(P.info? (ρ.t 9)).map (fun i=>(i.zero,i.size,i.bytes))=some (some z,c9,eb)
 zs:z.cells.size=c9
 es0:0<c9
 eb0:0<eb
set_option maxHeartbeats 4000000 in
set_option maxRecDepth 100000 in
theorem aoI {c9 eb:Nat} {z:Value} (L:agD P ρ c9 eb z) (b off n c vb voff m vc:Nat) (vs:List Value) (w:World) (hm:0<m) (hroom:n+m<=c)
 (hvl:vs.length=m*c9) (hsp:∀ j,j<m*c9->(w.cell? ⟨b,off+n*c9+j,none⟩).isSome=true) (hfz:∀ j,j<m*c9->w.frozen? ⟨b,off+n*c9+j,none⟩=false)
 (hsrc:Src P c9 (ρ.t 24) (.slice (some ⟨vb,voff,none⟩) m vc) m vs w) :
 Calls P (ρ.f 22) #[.slice (some ⟨b,off,none⟩) n c,.int .i64 n,.slice (some ⟨vb,voff,none⟩) m vc] w fun e w' =>
  e = .returned (.slice (some ⟨b,off,none⟩) (n+m) c)/\w'=w.setCells b (off+n*c9) vs:=by
 have t0:=L.t0; have a0:=L.a0; have z0:=L.z0; have v0:=L.v0; have t3:=L.t3; have a3:=L.a3; have z3:=L.z3; have v3:=L.v3; have t4:=L.t4; have a4:=L.a4; have z4:=L.z4; have v4:=L.v4; have z9:=L.z9; have v9:=L.v9; have t24:=L.t24; have a24:=L.a24; have z24:=L.z24; have v24:=L.v24
 have u0:=run_underlying L.t0; have u3:=run_underlying L.t3; have u4:=run_underlying L.t4; have u24:=run_underlying L.t24
 have mixed:=L.mixed
 obtain ⟨i0,hi0,hz0,hzs,hzb⟩:=info_parts L.i9
 have hz1:¬ ((m:Int)=0):=by omega
 have hrun:∀ ty,(Builtin.append_ #[(ρ.t 24),(ρ.t 24)] ty #[.slice (some ⟨b,off,none⟩) n c,.slice (some ⟨vb,voff,none⟩) m vc]).run P w = .ok (.slice (some ⟨b,off,none⟩) (n+m) c) (w.setCells b (off+n*c9) vs):=fun ty=>by
  have:=run_append_room_src (P:=P) w (ρ.t 24) (ρ.t 24) ty (ρ.t 9) i0 L.t24 hi0 b off n c (.slice (some ⟨vb,voff,none⟩) m vc) m vs (by rw [hzs]; exact hsrc) hroom (by rw [hzs,hvl]; exact hsp) (by rw [hzs,hvl]; exact hfz)
  rw [hzs] at this; exact this
 obtain ⟨_,_,FG⟩:=L.f22
 go_enter FG,Body2.n22_ntmps ρ
 go_wp2_with (at_builtin; refine Lib.wpList_append_run _ rfl _ _ _ _ rfl _ _ rfl rfl _ _ (hrun _) ?_)
 go_ret
 exact ⟨rfl,rfl⟩
end Go.AM

/- slices.Insert at elements of any size: at the end without room; in the midst with room. -/
set_option linter.unusedVariables false
set_option linter.unusedSimpArgs false
namespace Go.AM
open Go Go.Proofs Go.Shelf Go.RowKit Go.Lib
variable {P:Program} {ρ:Ren}
set_option maxHeartbeats 4000000 in
set_option maxRecDepth 100000 in
theorem ahU {c9 eb:Nat} {z:Value} (L:agD P ρ c9 eb z) (base:Option Addr) (n c vb voff m vc:Nat) (cs vs:List Value) (w:World) (hm:0<m) (hnc:n<=c) (hroom:c<n+m) (hbig:(n+m)*eb<=140737488355328) (h63:n+m<=9223372036854775807)
 (hold:(Builtin.firstCells c9 n (.slice base n c)).run P w.drew = .ok cs.toArray w.drew)
 (hsrc:Src P c9 (ρ.t 24) (.slice (some ⟨vb,voff,none⟩) m vc) m vs w) :
 Calls P (ρ.f 22) #[.slice base n c,.int .i64 n,.slice (some ⟨vb,voff,none⟩) m vc] w fun e w' =>
  e = .returned (.slice (some ⟨w.heap.size,0,none⟩) (n+m) (grownCap w (n+m) c (ρ.t 9))) ∧
  w'=w.drew.alloc (.cells ((cs++vs).toArray++Builtin.zeroCells z.cells (grownCap w (n+m) c (ρ.t 9)-(n+m))) (ρ.t 9)):=by
 have t0:=L.t0; have a0:=L.a0; have z0:=L.z0; have v0:=L.v0; have t3:=L.t3; have a3:=L.a3; have z3:=L.z3; have v3:=L.v3; have t4:=L.t4; have a4:=L.a4; have z4:=L.z4; have v4:=L.v4; have z9:=L.z9; have v9:=L.v9; have t24:=L.t24; have a24:=L.a24; have z24:=L.z24; have v24:=L.v24
 have u0:=run_underlying L.t0; have u3:=run_underlying L.t3; have u4:=run_underlying L.t4; have u24:=run_underlying L.t24
 have mixed:=L.mixed
 obtain ⟨i0,hi0,hz0,hzs,hzb⟩:=info_parts L.i9
 have hz1:¬ ((m:Int)=0):=by omega
 have hrun:∀ ty,(Builtin.append_ #[(ρ.t 24),(ρ.t 24)] ty #[.slice base n c,.slice (some ⟨vb,voff,none⟩) m vc]).run P w=_:=fun ty =>
  run_append_grow_src w (ρ.t 24) (ρ.t 24) ty (ρ.t 9) i0 _ L.t24 hi0 hz0 base n c cs (by rw [hzs]; exact hold) _ m vs (by rw [hzs]; exact hsrc) hroom (by omega) (by rw [hzb]; exact growslice_fits hroom hbig)
 obtain ⟨ROW,hROW⟩:∃ ROW:Array Value,ROW=(cs++vs).toArray++Builtin.zeroCells z.cells (grownCap w (n+m) c (ρ.t 9)-(n+m)):=⟨_,rfl⟩
 have hrun':∀ ty,(Builtin.append_ #[(ρ.t 24),(ρ.t 24)] ty #[.slice base n c,.slice (some ⟨vb,voff,none⟩) m vc]).run P w = .ok (.slice (some ⟨w.heap.size,0,none⟩) (n+m) (grownCap w (n+m) c (ρ.t 9))) (w.drew.alloc (.cells ROW (ρ.t 9))):=fun ty=>by
  rw [hrun ty,hROW]
 rw [<-hROW]
 clear hROW hrun
 obtain ⟨_,_,FG⟩:=L.f22
 go_enter FG,Body2.n22_ntmps ρ
 cases base with
 | none =>
   go_wp2_with (at_builtin; refine Lib.wpList_append_run _ rfl _ _ _ _ rfl _ _ rfl rfl _ _ (hrun' _) ?_)
   all_goals (go_ret; exact ⟨rfl,rfl⟩)
 | some a =>
   obtain ⟨ab,ao,asp⟩:=a
   go_wp2_with (at_builtin; refine Lib.wpList_append_run _ rfl _ _ _ _ rfl _ _ rfl rfl _ _ (hrun' _) ?_)
   all_goals (go_ret; exact ⟨rfl,rfl⟩)
set_option maxHeartbeats 4000000 in
set_option maxRecDepth 100000 in
theorem as1 {c9 eb:Nat} {z:Value} (L:agD P ρ c9 eb z) (b off n c i vb voff m vc:Nat) (cs vs:List Value) (w:World) (hi:i<n) (hm:0<m) (hroom:n+m<=c) (h63:n+m<=9223372036854775807) (hvb:vb ≠ b)
 (hcl:cs.length=n*c9) (hvl:vs.length=m*c9)
 (hcs:∀ j v,cs[j]? = some v->w.cell? ⟨b,off+j,none⟩=some v) (hsp:∀ j,j<(n+m)*c9->(w.cell? ⟨b,off+j,none⟩).isSome=true) (hfz:∀ j,j<(n+m)*c9->w.frozen? ⟨b,off+j,none⟩=false)
 (hvs:∀ j v,vs[j]? = some v->w.cell? ⟨vb,voff+j,none⟩=some v) (h1c:∀ v ∈ cs,v.oneCell'=true) (h1v:∀ v ∈ vs,v.oneCell'=true)
 (hov:∀ lb cb,(callFunc (ρ.f 29) #[.slice (some ⟨vb,voff,none⟩) m vc,.slice (some ⟨b,off+(i+m)*c9,none⟩) lb cb]).run P w = .ok (.value (.bool false)) w) :
 Calls P (ρ.f 22) #[.slice (some ⟨b,off,none⟩) n c,.int .i64 i,.slice (some ⟨vb,voff,none⟩) m vc] w fun e w' =>
  e = .returned (.slice (some ⟨b,off,none⟩) (n+m) c)/\w'=(w.drew.setCells b (off+(i+m)*c9) (cs.drop (i*c9))).setCells b (off+i*c9) vs:=by
 have t0:=L.t0; have a0:=L.a0; have z0:=L.z0; have v0:=L.v0; have t3:=L.t3; have a3:=L.a3; have z3:=L.z3; have v3:=L.v3; have t4:=L.t4; have a4:=L.a4; have z4:=L.z4; have v4:=L.v4; have z9:=L.z9; have v9:=L.v9; have t24:=L.t24; have a24:=L.a24; have z24:=L.z24; have v24:=L.v24
 have u0:=run_underlying L.t0; have u3:=run_underlying L.t3; have u4:=run_underlying L.t4; have u24:=run_underlying L.t24
 have hz1:¬ ((m:Int)=0):=by omega
 have hz2:¬ ((i:Int)=(n:Int)):=by omega
 have hsz:(P.info? (ρ.t 9)).map (·.size)=some c9:=by
  obtain ⟨i0,hi0,h0,h1,h2⟩:=info_parts L.i9
  rw [hi0]; simp [h1]
 have hdl:(cs.drop (i*c9)).length=(n-i)*c9:=by rw [List.length_drop,hcl,Nat.sub_mul]
 have hmn:∀ {a b:Nat},a<=b->a*c9<=b*c9:=fun h=>Nat.mul_le_mul_right _ h
 have e1:(i+m)*c9=i*c9+m*c9:=Nat.add_mul _ _ _
 have e2:(n+m)*c9=n*c9+m*c9:=Nat.add_mul _ _ _
 have e3:(n-i)*c9=n*c9-i*c9:=Nat.sub_mul _ _ _
 have e4:i*c9<=n*c9:=hmn (by omega)
 have mixed:=L.mixed
 have hw1:IntKind.i64.wrap ((i:Int)+(m:Int))=(i:Int)+(m:Int):=by rw [IntKind.wrap_i64]; omega
 have hb1:(0:Int)<=(i:Int)+(m:Int):=by omega
 have hin:i<=n:=by omega
 have htn:((i:Int)+(m:Int)).toNat=i+m:=by omega
 have hb2:¬ (c=i+m):=by omega
 have hb3:(i:Int)<=(n:Int)+(m:Int):=by omega
 have hb4:¬ (c=i):=by omega
 have hcp1:∀ ty dc sc,(Builtin.copy_ #[(ρ.t 24),(ρ.t 24)] ty #[.slice (some ⟨b,off+(i+m)*c9,none⟩) (n+m-(i+m)) dc,.slice (some ⟨b,off+i*c9,none⟩) (n+m-i) sc]).run P w.drew = .ok (goInt ((n-i:Nat):Int)) (w.drew.setCells b (off+(i+m)*c9) (cs.drop (i*c9))):=fun ty dc sc=>by
  have hmin:Nat.min (n+m-i) (n+m-(i+m))=n-i:=by simp only [Nat.min_def]; split<;>omega
  have:=afM (P:=P) w.drew (ρ.t 24) (ρ.t 24) ty (ρ.t 9) c9 b (off+(i+m)*c9) (n+m-(i+m)) dc ⟨b,off+i*c9,none⟩ (n+m-i) sc (cs.drop (i*c9)) L.t24 hsz (by rw [hdl,hmin])
   (fun j v hj=>by rw [Addr.add_lit,Nat.add_assoc]; exact hcs (i*c9+j) v (by rwa [List.getElem?_drop] at hj))
   (fun j hj=>by rw [Nat.add_assoc]; exact hsp _ (by omega)) (fun j hj=>by rw [Nat.add_assoc]; exact hfz _ (by omega)) (fun v hv=>h1c v (List.mem_of_mem_drop hv))
  rw [hmin] at this; exact this
 obtain ⟨W1,hW1⟩:∃ W1,W1=w.drew.setCells b (off+(i+m)*c9) (cs.drop (i*c9)):=⟨_,rfl⟩
 have hsp1:∀ k,k<(n+m)*c9->(W1.cell? ⟨b,off+k,none⟩).isSome=true:=fun k hk=>by
  rw [hW1]
  exact isSome_setCells b _ _ _ (fun j hj=>by rw [Nat.add_assoc]; exact hsp _ (by omega)) _ (hsp k hk)
 have hcp2:∀ (W:World),(∀ x,W.cell? x=W1.cell? x)->(∀ x,W.frozen? x=W1.frozen? x)->∀ ty dc,(Builtin.copy_ #[(ρ.t 24),(ρ.t 24)] ty #[.slice (some ⟨b,off+i*c9,none⟩) (n+m-i) dc,.slice (some ⟨vb,voff,none⟩) m vc]).run P W = .ok (goInt m) (W.setCells b (off+i*c9) vs):=fun W hWc hWf ty dc=>by
  have hmin:Nat.min m (n+m-i)=m:=by simp only [Nat.min_def]; split<;>omega
  have:=afM (P:=P) W (ρ.t 24) (ρ.t 24) ty (ρ.t 9) c9 b (off+i*c9) (n+m-i) dc ⟨vb,voff,none⟩ m vc vs L.t24 hsz (by rw [hvl,hmin])
   (fun j v hj=>by
    rw [Addr.add_lit,hWc,hW1,World.cell?_setCells_out b _ _ _ _ (fun h _=>absurd h hvb)]
    exact hvs j v hj)
   (fun j hj=>by rw [hWc,Nat.add_assoc]; exact hsp1 _ (by omega)) (fun j hj=>by rw [hWf,hW1,World.frozen?_setCells,Nat.add_assoc]; exact hfz _ (by omega)) h1v
  rw [hmin] at this; exact this
 rw [<-hW1] at hcp1
 clear hmn e1 e2 e3 e4 hdl hcl hvl
 obtain ⟨_,_,FG⟩:=L.f22
 go_enter FG,Body2.n22_ntmps ρ
 go_wp2_with (simp only [hov])
 go_region_law_o (refine step_copy_runI rfl _ _ (ρ.t 24) (ρ.t 24) rfl _ _ (by simp [Act.eval,Act.put]) (by simp [Act.eval,Act.put]) (hcp1 _ _ _) ?_)
 go_wp2_with (at_builtin; refine wpList_copy_runI _ rfl _ _ (ρ.t 24) (ρ.t 24) rfl _ _ rfl rfl (hcp2 _ (fun _=>rfl) (fun _=>rfl) _ _) ?_)
 go_ret
 first | exact ⟨rfl,rfl⟩ | exact ⟨rfl,by rw [hW1]⟩
end Go.AM

/- slices.Insert at elements of any size: in the midst without room. -/
set_option linter.unusedVariables false
set_option linter.unusedSimpArgs false
namespace Go.AM
open Go Go.Proofs Go.Shelf Go.RowKit Go.Lib
variable {P:Program} {ρ:Ren}
set_option maxHeartbeats 4000000 in
set_option maxRecDepth 100000 in
theorem auP {c9 eb:Nat} {z:Value} (L:agD P ρ c9 eb z) (b off n c i vb voff m vc:Nat) (cs vs:List Value) (w:World) (hi:i<n) (hm:0<m) (hnc:n<=c) (hroom:c<n+m) (hbig:(n+m)*eb<=140737488355328) (h63:n+m<=140737488355328)
 (hcl:cs.length=n*c9) (hvl:vs.length=m*c9) (hbw:b<w.heap.size) (hvw:vb<w.heap.size)
 (hcs:∀ j v,cs[j]? = some v->w.cell? ⟨b,off+j,none⟩=some v)
 (hvs:∀ j v,vs[j]? = some v->w.cell? ⟨vb,voff+j,none⟩=some v) (h1c:∀ v ∈ cs,v.oneCell'=true) (h1v:∀ v ∈ vs,v.oneCell'=true) :
 Calls P (ρ.f 22) #[.slice (some ⟨b,off,none⟩) n c,.int .i64 i,.slice (some ⟨vb,voff,none⟩) m vc] w fun e w' =>
  ∃ G:Nat,∃ ROW:Array Value,n+m<=G/\ROW.size=G*c9/\(∀ (j:Nat) (v:Value),(cs.take (i*c9))[j]? = some v->ROW[j]? = some v)/\e = .returned (.slice (some ⟨w.heap.size,0,none⟩) (n+m) G) ∧
  w'=(((w.alloc (.cells ROW (ρ.t 9))).drew.setCells w.heap.size (i*c9) vs).drew).setCells w.heap.size ((i+m)*c9) (cs.drop (i*c9)):=by
 have t0:=L.t0; have a0:=L.a0; have z0:=L.z0; have v0:=L.v0; have t3:=L.t3; have a3:=L.a3; have z3:=L.z3; have v3:=L.v3; have t4:=L.t4; have a4:=L.a4; have z4:=L.z4; have v4:=L.v4; have z9:=L.z9; have v9:=L.v9; have t24:=L.t24; have a24:=L.a24; have z24:=L.z24; have v24:=L.v24
 have u0:=run_underlying L.t0; have u3:=run_underlying L.t3; have u4:=run_underlying L.t4; have u24:=run_underlying L.t24
 have mixed:=L.mixed
 obtain ⟨i0,hi0,hz0,hzs,hzb⟩:=info_parts L.i9
 have hz1:¬ ((m:Int)=0):=by omega
 have hz2:¬ ((i:Int)=(n:Int)):=by omega
 have hz3:(c:Int)<(n:Int)+(m:Int):=by omega
 have hsz:(P.info? (ρ.t 9)).map (·.size)=some c9:=by rw [hi0]; simp [hzs]
 have hkk:(n:Int)+(m:Int)-(i:Int)=((n+m-i:Nat):Int):=by omega
 have hik:i+(n+m-i)=n+m:=by omega
 have hmn:∀ {a b:Nat},a<=b->a*c9<=b*c9:=fun h=>Nat.mul_le_mul_right _ h
 have e1:(i+m)*c9=i*c9+m*c9:=Nat.add_mul _ _ _
 have e2:(n+m)*c9=n*c9+m*c9:=Nat.add_mul _ _ _
 have e3:(n-i)*c9=n*c9-i*c9:=Nat.sub_mul _ _ _
 have e4:i*c9<=n*c9:=hmn (by omega)
 have e5:(n+m-i)*eb<=(n+m)*eb:=Nat.mul_le_mul_right _ (by omega)
 have hold:(Builtin.firstCells c9 i (.slice (some ⟨b,off,none⟩) i c)).run P w.drew = .ok (cs.take (i*c9)).toArray w.drew :=
  run_firstCells_some w.drew c9 i ⟨b,off,none⟩ i c (cs.take (i*c9)) (by rw [List.length_take]; omega) (fun j v hj=>by
   rw [Addr.add_lit]
   rw [List.getElem?_take] at hj
   split at hj
   ·exact hcs j v hj
   ·cases hj)
 have hrz:∀ ty,(Builtin.append_ #[(ρ.t 24),(ρ.t 3)] ty #[.slice (some ⟨b,off,none⟩) i c,.int .i64 ((n:Int)+(m:Int)-(i:Int))]).run P w =
  .ok (.slice (some ⟨w.heap.size,0,none⟩) (n+m) (grownCap w (n+m) c (ρ.t 9))) (w.drew.alloc (.cells ((cs.take (i*c9)).toArray++Builtin.zeroCells z.cells (n+m-i)++Builtin.zeroCells z.cells (grownCap w (n+m) c (ρ.t 9)-(n+m))) (ρ.t 9))):=fun ty=>by
  have h:=Lib.run_append_grow_zeros w (ρ.t 24) (ρ.t 3) ty (ρ.t 9) i0 _ .i64 .i64 L.t24 L.t3 hi0 hz0 (some ⟨b,off,none⟩) i c (cs.take (i*c9)) (by rw [hzs]; exact hold) (n+m-i) (by omega) (by rw [hzs]; exact L.es0) (by omega) (by omega) (by rw [hzb]; omega) (by rw [hzb,hik]; exact growslice_fits hroom hbig)
  rw [hik] at h
  rw [hkk]
  exact h
 obtain ⟨G,hG⟩:∃ G,G=grownCap w (n+m) c (ρ.t 9):=⟨_,rfl⟩
 obtain ⟨ROW,hROW⟩:∃ ROW:Array Value,ROW=(cs.take (i*c9)).toArray++Builtin.zeroCells z.cells (n+m-i)++Builtin.zeroCells z.cells (G-(n+m)):=⟨_,rfl⟩
 rw [<-hG] at hrz
 rw [<-hROW] at hrz
 have hGn:n+m<=G:=by rw [hG]; exact grownCap_ge w _ _ _
 have hzcs:∀ k,(Builtin.zeroCells z.cells k).size=k*c9:=fun k=>by simp [Builtin.zeroCells,L.zs]
 have hRs:ROW.size=G*c9:=by
  have e6:(n+m-i)*c9=(n+m)*c9-i*c9:=Nat.sub_mul _ _ _
  have e7:(G-(n+m))*c9=G*c9-(n+m)*c9:=Nat.sub_mul _ _ _
  have e8:=hmn hGn
  rw [hROW]
  simp only [Array.size_append,hzcs,List.size_toArray,List.length_take,hcl]
  omega
 have hRt:∀ (j:Nat) (v:Value),(cs.take (i*c9))[j]? = some v->ROW[j]? = some v:=fun j v hj=>by
  have hjl:=(List.getElem?_eq_some_iff.1 hj).1
  rw [hROW,Array.getElem?_append_left (by simp only [Array.size_append,List.size_toArray]; omega),Array.getElem?_append_left (by simpa using hjl)]
  simpa using hj
 have hRl:(n+m)*c9<=ROW.size:=by rw [hRs]; exact hmn hGn
 obtain ⟨W1,hW1⟩:∃ W1,W1=w.drew.alloc (.cells ROW (ρ.t 9)):=⟨_,rfl⟩
 rw [<-hW1] at hrz
 have hN:∀ j,j<(n+m)*c9->(W1.cell? ⟨w.heap.size,j,none⟩).isSome=true:=fun j hj=>by
  rw [hW1,World.cell?_alloc_at (w:=w.drew) ROW _ w.heap.size j rfl,Array.getElem?_eq_getElem (by omega)]; rfl
 have hNf:∀ j,W1.frozen? ⟨w.heap.size,j,none⟩=false:=fun j=>by rw [hW1]; exact World.frozen?_alloc_at (w:=w.drew) ROW _ w.heap.size j rfl
 have hOb:∀ j v,w.cell? ⟨b,j,none⟩=some v->W1.cell? ⟨b,j,none⟩=some v:=fun j v h=>by rw [hW1,World.cell?_alloc_past (w:=w.drew) _ b j hbw]; exact h
 have hOv:∀ j v,w.cell? ⟨vb,j,none⟩=some v->W1.cell? ⟨vb,j,none⟩=some v:=fun j v h=>by rw [hW1,World.cell?_alloc_past (w:=w.drew) _ vb j hvw]; exact h
 have hcpA:∀ (W:World),(∀ x,W.cell? x=W1.cell? x)->(∀ x,W.frozen? x=W1.frozen? x)->∀ ty dc,(Builtin.copy_ #[(ρ.t 24),(ρ.t 24)] ty #[.slice (some ⟨w.heap.size,i*c9,none⟩) (n+m-i) dc,.slice (some ⟨vb,voff,none⟩) m vc]).run P W = .ok (goInt m) (W.setCells w.heap.size (i*c9) vs):=fun W hWc hWf ty dc=>by
  have hmin:Nat.min m (n+m-i)=m:=by simp only [Nat.min_def]; split<;>omega
  have:=afM (P:=P) W (ρ.t 24) (ρ.t 24) ty (ρ.t 9) c9 w.heap.size (i*c9) (n+m-i) dc ⟨vb,voff,none⟩ m vc vs L.t24 hsz (by rw [hvl,hmin])
   (fun j v hj=>by rw [Addr.add_lit,hWc]; exact hOv _ v (hvs j v hj))
   (fun j hj=>by rw [hWc]; exact hN _ (by omega)) (fun j hj=>by rw [hWf]; exact hNf _) h1v
  rw [hmin] at this; exact this
 have hG63:G<=9223372036854775807:=by
  have:=grownCap_le_maxLen w (n+m) c (ρ.t 9) (by unfold maxLen; omega)
  rw [<-hG] at this
  unfold maxLen at this
  omega
 have hGi:¬ (G=i):=by omega
 have hGim:¬ (G=i+m):=by omega
 have hci:¬ (c=i):=by omega
 have hbN:b ≠ w.heap.size:=by omega
 have hdl:(cs.drop (i*c9)).length=(n-i)*c9:=by rw [List.length_drop,hcl,Nat.sub_mul]
 have hcpB:∀ (W:World),(∀ x,W.cell? x=(W1.setCells w.heap.size (i*c9) vs).cell? x)->(∀ x,W.frozen? x=(W1.setCells w.heap.size (i*c9) vs).frozen? x)->∀ ty dc sc,(Builtin.copy_ #[(ρ.t 24),(ρ.t 24)] ty #[.slice (some ⟨w.heap.size,(i+m)*c9,none⟩) (n+m-(i+m)) dc,.slice (some ⟨b,off+i*c9,none⟩) (n-i) sc]).run P W = .ok (goInt ((n-i:Nat):Int)) (W.setCells w.heap.size ((i+m)*c9) (cs.drop (i*c9))):=fun W hWc hWf ty dc sc=>by
  have hmin:Nat.min (n-i) (n+m-(i+m))=n-i:=by simp only [Nat.min_def]; split<;>omega
  have:=afM (P:=P) W (ρ.t 24) (ρ.t 24) ty (ρ.t 9) c9 w.heap.size ((i+m)*c9) (n+m-(i+m)) dc ⟨b,off+i*c9,none⟩ (n-i) sc (cs.drop (i*c9)) L.t24 hsz (by rw [hdl,hmin])
   (fun j v hj=>by
    rw [Addr.add_lit,hWc,World.cell?_setCells_out _ _ _ _ _ (fun h _=>absurd h hbN),Nat.add_assoc]
    exact hOb _ v (hcs (i*c9+j) v (by rwa [List.getElem?_drop] at hj)))
   (fun j hj=>by rw [hWc]; exact isSome_setCells _ _ _ _ (fun t ht=>hN _ (by omega)) _ (hN _ (by omega)))
   (fun j hj=>by rw [hWf,World.frozen?_setCells]; exact hNf _) (fun v hv=>h1c v (List.mem_of_mem_drop hv))
  rw [hmin] at this; exact this
 subst hW1
 have hE1:∀ x,((w.alloc (.cells ROW (ρ.t 9))).drew).cell? x=(w.drew.alloc (.cells ROW (ρ.t 9))).cell? x:=fun x=>rfl
 have hE2:∀ x,((w.alloc (.cells ROW (ρ.t 9))).drew).frozen? x=(w.drew.alloc (.cells ROW (ρ.t 9))).frozen? x:=fun x=>rfl
 have hF1:∀ x,(((w.alloc (.cells ROW (ρ.t 9))).drew.setCells w.heap.size (i*c9) vs).drew).cell? x=((w.drew.alloc (.cells ROW (ρ.t 9))).setCells w.heap.size (i*c9) vs).cell? x:=fun x=>rfl
 have hF2:∀ x,(((w.alloc (.cells ROW (ρ.t 9))).drew.setCells w.heap.size (i*c9) vs).drew).frozen? x=((w.drew.alloc (.cells ROW (ρ.t 9))).setCells w.heap.size (i*c9) vs).frozen? x:=fun x=>rfl
 have hw1:IntKind.i64.wrap ((i:Int)+(m:Int))=(i:Int)+(m:Int):=by rw [IntKind.wrap_i64]; omega
 have hb1:(0:Int)<=(i:Int)+(m:Int):=by omega
 have hin:i<=n:=by omega
 have htn:((i:Int)+(m:Int)).toNat=i+m:=by omega
 have hb3:(i:Int)<=(n:Int):=by omega
 clear hkk hik hold hROW hG hRl hmn e1 e2 e3 e4 e5 hzcs hdl
 obtain ⟨_,_,FG⟩:=L.f22
 go_enter FG,Body2.n22_ntmps ρ
 go_wp2_with (first
  | (at_builtin; refine Lib.wpList_append_run _ rfl _ _ _ _ rfl _ _ rfl rfl _ _ (hrz _) ?_)
  | (at_builtin; refine wpList_copy_runI _ rfl _ _ (ρ.t 24) (ρ.t 24) rfl _ _ rfl rfl (hcpA _ hE1 hE2 _ _) ?_)
  | (at_builtin; refine wpList_copy_runI _ rfl _ _ (ρ.t 24) (ρ.t 24) rfl _ _ rfl rfl (hcpB _ (fun _=>rfl) (fun _=>rfl) _ _ _) ?_))
 go_region_law_o (refine step_copy_runI rfl _ _ (ρ.t 24) (ρ.t 24) rfl (.slice (some ⟨w.heap.size,(i+m)*c9,none⟩) (n+m-(i+m)) (G-(i+m))) (.slice (some ⟨b,off+i*c9,none⟩) (n-i) (c-i)) (by simp [Act.eval,Act.put]) (by simp [Act.eval,Act.put]) (hcpB _ hF1 hF2 (ρ.t 3) (G-(i+m)) (c-i)) ?_)
 go_wp2
 go_ret
 exact ⟨G,ROW,hGn,hRs,hRt,rfl,rfl⟩
end Go.AM

/- slices.Insert in the abstract machine: what a call owes, for every element size. -/
namespace Go.AM
open Go.Proofs Go.Shelf Go.RowKit Go.Lib
set_option linter.unusedSimpArgs false
set_option linter.unusedVariables false
variable {P:Program} {ρ:Ren}
theorem aj9 {ι:m8} {k:l3} {y:Img} {w:World} {B:Nat} (h:Y7 ι y k w B) {len:Nat} (hle:len<=k.cells.length) :
 ∃ (cs:Array Value) (el:TypeId) (fr:Nat × Nat) (vs:List Value),w.heap[y.o6]? = some (.cells cs el fr)/\cs.size=y.off+y.room/\k.cells.length<=y.room/\(k.md = .rw->ael k.pl cs.size fr/\B<=y.o6)/\vs.length=len ∧
   (∀ (j:Nat) (v:Value),vs[j]? = some v->w.cell? ⟨y.o6,y.off+j,none⟩=some v)/\(∀ j,j<len->cs[y.off+j]? = vs[j]?)/\C0 ι (k.cells.take len) vs/\(∀ v ∈ vs,v.oneCell'=true)/\(∀ u ∈ k.cells,u.oneCell'=true):=by
 obtain ⟨cs,el,fr,h1,h2,h3,h4,h5⟩:=h
 have hlen:((cs.toList.drop y.off).take len).length=len:=by simp; omega
 have hget:∀ j,j<len->cs[y.off+j]? = ((cs.toList.drop y.off).take len)[j]?:=fun j hj=>by
  rw [List.getElem?_take_of_lt hj,List.getElem?_drop]; simp
 have hones:∀ u ∈ k.cells,u.oneCell'=true:=fun u hu=>by
  obtain ⟨i,hi,rfl⟩:=List.getElem_of_mem hu
  exact (h4 i _ (List.getElem?_eq_getElem hi)).1
 have hv:C0 ι (k.cells.take len) ((cs.toList.drop y.off).take len):=by
  refine C0.ac3 (by rw [hlen]; simp; omega) fun i v v' e e'=>?_
  have hi:i<len:=by have:=(List.getElem?_eq_some_iff.1 e').1; omega
  rw [<-hget i hi] at e'
  rw [List.getElem?_take_of_lt hi] at e
  obtain ⟨_,u,a,b⟩:=h4 i v e
  rw [a] at e'; cases e'; exact b
 refine ⟨cs,el,fr,_,h1,h2,h3,h5,hlen,fun j v e=>?_,hget,hv,fun v hv'=>?_,hones⟩
 ·have hj:j<len:=by have:=(List.getElem?_eq_some_iff.1 e).1; omega
  simp only [World.cell?,h1]
  rw [hget j hj]; exact e
 ·obtain ⟨i,hi,rfl⟩:=List.getElem_of_mem hv'
  have hi':i<len:=by omega
  have e':=hget i hi'
  rw [List.getElem?_eq_getElem hi] at e'
  obtain ⟨o,u,a,b⟩:=h4 i _ (List.getElem?_eq_getElem (by omega))
  rw [e'] at a; cases a
  exact b.one o
theorem af2 {ι:m8} {new L:List Value} {cs':Array Value} {off:Nat} (h:C0 ι new L) (h1:∀ u ∈ new,u.oneCell'=true) (hc:∀ j,j<new.length->cs'[off+j]? = L[j]?):H3 ι new cs' off:=fun i v e=>by
 obtain ⟨q,hq,hv⟩:=h.get e
 exact ⟨h1 v (List.mem_of_getElem? e),q,by rw [hc i (List.getElem?_eq_some_iff.1 e).1]; exact hq,hv⟩
theorem C0.app {ι:m8}:∀ {a a' b b':List Value},C0 ι a a'->C0 ι b b'->C0 ι (a++b) (a'++b'):=fun h g=>h.append g
theorem C0.ayZ {ι:m8} {a a':List Value} (h:C0 ι a a') (n:Nat):C0 ι (a.take n) (a'.take n) :=
 C0.ac3 (by simp [h.length]) fun i v v' e e'=>by
  rw [List.getElem?_take] at e e'
  split at e
  ·rename_i hi
   rw [if_pos hi] at e'
   obtain ⟨u,a,b⟩:=h.get e
   rw [a] at e'; cases e'; exact b
  ·cases e
theorem C0.ay5 {ι:m8} {a a':List Value} (h:C0 ι a a') (n:Nat):C0 ι (a.drop n) (a'.drop n) :=
 C0.ac3 (by simp [h.length]) fun i v v' e e'=>by
  rw [List.getElem?_drop] at e e'
  obtain ⟨u,a,b⟩:=h.get e
  rw [a] at e'; cases e'; exact b
theorem au2 {ng:Nat} {ι:m8} {hp:Heap} {w w':World} {B b:Nat} {k:l3} {y:Img} {new:List Value} (hR:Rel ng ι hp w B) (hy:ι b=some y) (hk:l9 hp b=some k) (hrw:k.md = .rw)
 {cs':Array Value} {el:TypeId} {fr:Nat × Nat} (hb:w'.heap[y.o6]? = some (.cells cs' el fr)) (hfr:ael k.pl cs'.size fr) (hz:cs'.size=y.off+y.room) (hl:new.length<=y.room) (hc:H3 ι new cs' y.off)
 (hrest:∀ j,j ≠ y.o6->w'.heap[j]? = w.heap[j]?) (hsize:w'.heap.size=w.heap.size) (ho:w'.os=w.os) (ht:w'.tape=w.tape) (hu:w'.output=w.output) (sz:Nat) :
 ∃ ι',ι'=(fun b'=>if b'=hp.length then some ⟨y.o6,y.off,y.room,sz⟩ else ι b')/\S7 hp.length ι ι'/\Rel ng ι' (r5 hp k.j3++[⟨new,sz,.rw,hp.length,k.pl⟩]) w' B/\Fr ι hp w w'/\Own ι hp w ι' (r5 hp k.j3++[⟨new,sz,.rw,hp.length,k.pl⟩]):=by
 obtain ⟨hk1,hk2,hbl⟩:=k9 hk
 have hL:(r5 hp k.j3).length=hp.length:=F1 _ _
 have hkill:=agI hR (aeZ hp k.j3)
 have hB:=(hR.ok b y k hy hk).choose_spec.choose_spec.choose_spec.2.2.2.2 hrw
 have hsub:Sub ι (fun b'=>if b'=hp.length then some ⟨y.o6,y.off,y.room,sz⟩ else ι b'):=fun b' x' hb'=>by
  show (if b'=hp.length then _ else _)=_
  rw [if_neg (by have:=hR.C5 _ _ hb'; omega)]; exact hb'
 have hother:∀ c x q,ι c=some x->l9 (r5 hp k.j3) c=some q->x.o6 ≠ y.o6:=fun c x q hc' hq he=>by
  obtain ⟨g1,g2⟩:=aaL hq
  rcases hR.sep b y k c x q hy hk hrw hc' g1 he.symm with e | ⟨_,_,e,_⟩
  ·subst e; rw [hk] at g1; cases g1; exact g2 rfl
  ·exact g2 e
 have hnew:∀ q,l9 (r5 hp k.j3++[⟨new,sz,.rw,hp.length,k.pl⟩]) hp.length=some q->q=⟨new,sz,.rw,hp.length,k.pl⟩:=by
  intro q hq
  have:=(k9 hq).1
  rw [List.getElem?_append_right (by omega)] at this
  simp [hL] at this; exact this.symm
 refine ⟨_,rfl,fun b' hb'=>by show (if b'=hp.length then _ else _)=_; rw [if_neg (by omega)],⟨fun g hg=>?_,fun b' x' q' hb' hq'=>?_,fun b' x' hb'=>?_,by rw [hsize]; exact hR.base,fun b' x' q' hb' hq'=>?_,fun b1 x1 q1 b2 x2 q2 g1 g2 g3 g4 g5 g6=>?_⟩,⟨ho,ht,hu,by omega,fun j hj hno=>hrest j fun h=>hno _ _ _ hy hk hrw h.symm⟩,fun b' x' k' hb' hk' hx'=>?_⟩
 ·obtain ⟨x',a1,a2⟩:=hR.I1 g hg; exact ⟨x',hsub _ _ a1,a2⟩
 ·by_cases hbb:b'=hp.length
  ·subst hbb
   rw [if_pos rfl] at hb'; cases hb'
   rw [List.getElem?_append_right (by omega)] at hq'
   simp [hL] at hq'; subst hq'; rfl
  ·rw [if_neg hbb] at hb'
   have:=hR.C5 _ _ hb'
   rw [List.getElem?_append_left (by omega)] at hq'
   exact hkill.R8 _ _ _ hb' hq'
 ·by_cases hbb:b'=hp.length
  ·subst hbb; simp [hL]
  ·rw [if_neg hbb] at hb'; have:=hR.C5 _ _ hb'; simp [hL]; omega
 ·by_cases hbb:b'=hp.length
  ·subst hbb
   rw [if_pos rfl] at hb'; cases hb'
   rw [hnew q' hq']
   exact ⟨cs',el,fr,hb,hz,hl,hc.mono hsub,fun _=>⟨hfr,hB.2⟩⟩
  ·rw [if_neg hbb] at hb'
   rw [y1 _ (by have:=hR.C5 _ _ hb'; omega)] at hq'
   obtain ⟨cs2,el2,fr2,m1,m2,m3,m4,m5⟩:=hkill.ok b' x' q' hb' hq'
   exact ⟨cs2,el2,fr2,by rw [hrest _ (hother _ _ _ hb' hq')]; exact m1,m2,m3,m4.mono hsub,m5⟩
 ·by_cases hb1:b1=hp.length<;>by_cases hb2:b2=hp.length
  ·exact .inl (by omega)
  ·subst hb1
   rw [if_pos rfl] at g1; cases g1
   rw [if_neg hb2] at g4
   rw [y1 _ (by have:=hR.C5 _ _ g4; omega)] at g5
   exact absurd g6.symm (hother _ _ _ g4 g5)
  ·subst hb2
   rw [if_pos rfl] at g4; cases g4
   rw [if_neg hb1] at g1
   rw [y1 _ (by have:=hR.C5 _ _ g1; omega)] at g2
   exact absurd g6 (hother _ _ _ g1 g2)
  ·rw [if_neg hb1] at g1
   rw [if_neg hb2] at g4
   rw [y1 _ (by have:=hR.C5 _ _ g1; omega)] at g2
   rw [y1 _ (by have:=hR.C5 _ _ g4; omega)] at g5
   exact hkill.sep _ _ _ _ _ _ g1 g2 g3 g4 g5 g6
 ·change (if b'=hp.length then _ else _)=_ at hb'
  by_cases hbb:b'=hp.length
  ·subst hbb
   rw [if_pos rfl] at hb'; cases hb'
   exact ⟨b,y,k,hy,hk,.inr hrw,fun _=>hrw,rfl⟩
  ·rw [if_neg hbb] at hb'
   rw [y1 _ (by have:=hR.C5 _ _ hb'; omega)] at hk'
   obtain ⟨g1,_⟩:=aaL hk'
   exact ⟨b',x',k',hb',g1,.inl rfl,id,rfl⟩
theorem asx {ng:Nat} {ι:m8} {hp:Heap} {w w':World} {B f:Nat} (hR:Rel ng ι hp w B) (k:l3) (cs:Array Value) (el:TypeId) (hw:w'.heap=w.heap.push (.cells cs el (0,0))) (ho:w'.os=w.os) (ht:w'.tape=w.tape) (hu:w'.output=w.output)
 (hlen:k.cells.length<=cs.size) (hc:H3 ι k.cells cs 0):∃ ι',ι' hp.length=some ⟨w.heap.size,0,cs.size,k.sz⟩/\S7 hp.length ι ι'/\Rel ng ι' (r5 hp f++[k]) w' B/\Fr ι hp w w'/\Own ι hp w ι' (r5 hp f++[k]):=by
 have hkill:=agI hR (aeZ hp f)
 obtain ⟨ι',h1,h2,h3,h4,h5⟩:=ahh hkill k cs el (0,0) (.inl (Nat.le_refl _)) hw ho ht hu hlen hc
 refine ⟨ι',by rw [h1]; simp [F1],fun b hb=>h2 b (by rw [F1]; exact hb),h4,⟨h5.os,h5.tape,h5.output,h5.size,fun j hj _=>?_⟩,fun b' x' k' hb' hk' hx'=>?_⟩
 ·rw [hw,Array.getElem?_push,if_neg (by omega)]
 ·obtain ⟨b0,x0,k0,g1,g2,g5,g3,g4⟩:=agz (new:=[k]) hkill h2 (fun b x _ h1 h2 _=>h3 b x h1 h2) b' x' k' hb' hk' hx'
  exact ⟨b0,x0,k0,g1,(aaL g2).1,g5,g3,g4⟩
def aih (c9 eb:Nat):List Value->Heap->Option (Value × Heap)
 | [.slice a n c,.int .i64 i,.slice (some ⟨vb,0,none⟩) m vc],hp =>
   (l9 hp vb).bind fun kv =>
   if kv.sz=c9/\m*c9<=kv.cells.length/\0<m/\(n+m)*eb<=140737488355328 then
    match n with
    | 0=>if c=0/\i=0 then some (F9 hp m (m+1),hp++[⟨kv.cells.take (m*c9),c9,.rw,hp.length,true⟩]) else none
    | n+1=>match a with
      | some ⟨b,0,none⟩=>(l9 hp b).bind fun k =>
        if k.md = .rw/\kv.md = .rw/\b ≠ vb/\k.sz=c9/\k.cells.length=(n+1)*c9/\0<=i/\i<=((n+1:Nat):Int)/\(k.pl=true\/kv.pl=true) then
         some (F9 hp (n+1+m) (n+1+m+1),r5 hp k.j3++[⟨k.cells.take (i.toNat*c9)++kv.cells.take (m*c9)++k.cells.drop (i.toNat*c9),c9,.rw,hp.length,k.pl⟩])
        else none
      | _=>none
   else none
 | _,_=>none
end Go.AM

/- slices.Insert in the abstract machine: the proof. -/
namespace Go.AM
open Go.Proofs Go.Shelf Go.RowKit Go.Lib
set_option linter.unusedSimpArgs false
set_option linter.unusedVariables false
variable {P:Program} {ρ:Ren}
theorem aow {a b:List Value} (h:∀ u ∈ a,u.oneCell'=true) (g:∀ u ∈ b,u.oneCell'=true):∀ u ∈ a++b,u.oneCell'=true:=fun u hu=>(List.mem_append.1 hu).elim (h u) (g u)
theorem afD {w:World} {b:Nat} {cs:Array Value} {el:TypeId} {fr:Nat × Nat} {pl:Bool} (hb:w.heap[b]? = some (.cells cs el fr)) (hn:ael pl cs.size fr) (j:Nat) (hj:j<cs.size):w.frozen? ⟨b,j,none⟩=false:=by
 simp only [World.frozen?,hb]
 obtain ⟨lo,hi⟩:=fr
 simp
 rcases hn with h | h<;>simp at h<;>omega
theorem ana {w:World} {b:Nat} {cs:Array Value} {el:TypeId} {fr:Nat × Nat} (hb:w.heap[b]? = some (.cells cs el fr)) (hn:ael true cs.size fr) (j:Nat):w.frozen? ⟨b,j,none⟩=false:=by
 simp only [World.frozen?,hb]
 obtain ⟨lo,hi⟩:=fr
 simp
 rcases hn with h | h
 ·simp at h; omega
 ·cases h.2
theorem ap8 {w:World} {tS tR e:TypeId} (ht:P.underlying tS=some (.slice e)) {size:Nat} (hz:∀ w,(Go.sizeOf e).run P w = .ok size w) {a b:Addr} {la ca lb cb:Nat} (hne:a.block ≠ b.block) {ca' cb':Array Value} {ea eb:TypeId} {fa fb:Nat × Nat} {pa pb:Bool}
 (ha:w.heap[a.block]? = some (.cells ca' ea fa)) (hb:w.heap[b.block]? = some (.cells cb' eb fb)) (hfa:ael pa ca'.size fa) (hfb:ael pb cb'.size fb) (hpl:pa=true\/pb=true) (h0:0<ca'.size) (h1:0<cb'.size) (hao:a.off<ca'.size) (hbo:lb ≠ 0->size ≠ 0->b.off<cb'.size) (has:a.spot=none) (hbs:b.spot=none) :
 (Extern.SlicesOverlaps.overlaps #[tS,tS] #[tR] #[.slice (some a) la ca,.slice (some b) lb cb]).run P w = .ok (.bool false) w:=by
 obtain ⟨ab,ao,asp⟩:=a
 obtain ⟨bb,bo,bsp⟩:=b
 simp only at has hbs hne ha hb hao hbo
 subst has; subst hbs
 have hnb:(ab != bb)=true:=by simpa using hne
 have hnb':(ab==bb)=false:=by simpa using hne
 have hsa:w.shape? ab=some (ea,ca'.size):=by simp [World.shape?,ha]
 have hsb:w.shape? bb=some (eb,cb'.size):=by simp [World.shape?,hb]
 have q1:w.frozen? ⟨ab,ao,none⟩=false:=afD ha hfa ao hao
 change Sem.run P (α:=Value) (do
  let some t:=(#[tS,tS]:Array TypeId)[0]? | stuck "slices.overlaps: no parameter types"
  let .slice elem <-underlying t | stuck "slices.overlaps: slice type expected"
  let size <-sizeOf elem
  match (some ⟨ab,ao,none⟩:Option Addr),(some ⟨bb,bo,none⟩:Option Addr) with
  | some a,some b =>
    if la=0\/lb=0\/size=0 then pure (Value.bool false)
    else if a.block != b.block&&(<-frozen a)&&(<-frozen b) then unsupported .addressObserved
    else do
     if a.block != b.block then do
      noView a; noView b
      if <-mayBeOne a b then return Value.bool ((<-choose (.extern "sameAddr.stringBytes" 2))==1)
     pure (Value.bool (a.block==b.block&&a.off<b.off+lb*size&&b.off<a.off+la*size))
  | _,_=>pure (Value.bool false)) w=_
 by_cases hd:la=0\/lb=0\/size=0
 ·simp [run_underlying ht,hz,hd]
 ·have hd':=hd
  simp only [not_or] at hd'
  have q2:w.frozen? ⟨bb,bo,none⟩=false:=afD hb hfb bo (hbo hd'.2.1 hd'.2.2)
  obtain ⟨ka,hka⟩:∃ k,ca'.size=k+1:=⟨ca'.size-1,by omega⟩
  obtain ⟨kb,hkb⟩:∃ k,cb'.size=k+1:=⟨cb'.size-1,by omega⟩
  have q3:w.frozen? ⟨ab,ca'.size,none⟩=false\/w.frozen? ⟨bb,cb'.size,none⟩=false:=by
   rcases hpl with h | h
   ·subst h; exact .inl (ana ha hfa _)
   ·subst h; exact .inr (ana hb hfb _)
  rw [hka] at hsa q3
  rw [hkb] at hsb q3
  rcases q3 with q3 | q3<;>simp [run_underlying ht,hz,hd,hnb,hnb',frozen,noView,viewAt,mayBeOne,stringish,shape,Sem.run,hsa,hsb,q1,q2,q3]
theorem ap0 {hp:Heap} (f:Nat) (l:Heap):s6 hp (r5 hp f++l):=((aeZ hp f).sz).append l
set_option maxHeartbeats 1000000 in
theorem auK (ng:Nat) {c9 eb:Nat} {z:Value} (L:agD P ρ c9 eb z) {args:List Value} {hp hp':Heap} {r:Value} (h:aih c9 eb args hp=some (r,hp')):arV P ng (ρ.f 22) args hp r hp':=by
 have he0:=L.es0
 have hent:Enters P (ρ.f 22):=by
  obtain ⟨nm,hn,hf⟩:=L.f22
  exact ⟨_,hf,hn,rfl⟩
 unfold aih at h
 split at h
 ·rename_i a n c i vb m vc
  cases hkv:l9 hp vb with
  | none=>rw [hkv] at h; cases h
  | some kv =>
  rw [hkv] at h
  simp only [Option.bind_some] at h
  split at h
  ·rename_i hc0
   obtain ⟨hvs,hvl,hm,hbig⟩:=hc0
   have hnm:=af0 L.eb0 hbig
   split at h
   ·-- an empty slice
    split at h
    ·rename_i hc1
     obtain ⟨rfl,rfl⟩:=hc1
     cases h
     refine ⟨hent,(s6.refl _).append _,fun ι w B args' hR ha=>?_⟩
     obtain ⟨A,hA⟩:∃ A,args'=A:=⟨_,rfl⟩
     obtain ⟨al⟩:=args'
     simp only at ha
     cases ha with
     | cons g1 ha=>cases ha with
       | cons g2 ha=>cases ha with
         | cons g3 ha=>cases ha with
           | nil =>
             cases g2
             cases g3 with
             | slz=>omega
             | @slc _ _ _ _ vc' yv hyv _ hv1 hv2 hv3 =>
             obtain ⟨csv,elv,frv,vs,w1,w2,w3,w4,w5,w6,w7,w8,w9,w10⟩:=aj9 (hR.ok _ _ _ hyv hkv) (len:=m*c9) hvl
             have hsrc:Src P c9 (ρ.t 24) (.slice (some ⟨yv.o6,yv.off+0,none⟩) m vc') m vs w:=Src.ofSlice w L.t24 ⟨yv.o6,yv.off+0,none⟩ m vc' vs w5 (fun j u hj=>by rw [Addr.add_lit]; exact w6 j u hj) w9
             have main:∀ base:Option Addr,(Builtin.firstCells c9 0 (.slice base 0 0)).run P w.drew = .ok ([]:List Value).toArray w.drew →
              Calls P (ρ.f 22) #[.slice base 0 0,.int .i64 0,.slice (some ⟨yv.o6,yv.off+0,none⟩) m vc'] w fun e w'=>∃ ι' r',e = .returned r'/\S7 hp.length ι ι'/\Rel ng ι' (hp++[⟨kv.cells.take (m*c9),c9,.rw,hp.length,true⟩]) w' B/\Fr ι hp w w'/\Own ι hp w ι' (hp++[⟨kv.cells.take (m*c9),c9,.rw,hp.length,true⟩])/\VR ι' (F9 hp m (m+1)) r':=by
              intro base hold
              refine (ahU L base 0 0 yv.o6 (yv.off+0) m vc' [] vs w hm (Nat.le_refl _) (by omega) (by simpa using hbig) (by omega) hold hsrc).mono ?_
              rintro e w' ⟨rfl,rfl⟩
              have hge:=grownCap_ge w (0+m) 0 (ρ.t 9)
              generalize hG:grownCap w (0+m) 0 (ρ.t 9)=G at *
              have hsz:(([]++vs).toArray++Builtin.zeroCells z.cells (G-(0+m))).size=G*c9:=by
               simp only [List.nil_append,Array.size_append,List.size_toArray,adI,L.zs,w5,Nat.zero_add]
               rw [<-Nat.add_mul]; congr 1; omega
              obtain ⟨ι',e1,e2,e3,e4,e5⟩:=ahh hR ⟨kv.cells.take (m*c9),c9,.rw,hp.length,true⟩ _ (ρ.t 9) (0,0) (.inl (Nat.le_refl _)) (w':=w.drew.alloc (.cells (([]++vs).toArray++Builtin.zeroCells z.cells (G-(0+m))) (ρ.t 9))) rfl rfl rfl rfl
               (by rw [hsz]; have:=Nat.mul_le_mul_right c9 (show m<=G by omega); simp; omega)
               (af2 w8 (fun u hu=>w10 u (List.mem_of_mem_take hu)) fun j hj=>by
                have hj':j<m*c9:=by simp at hj; omega
                rw [Nat.zero_add,Array.getElem?_append_left (by simp [w5]; omega)]; simp)
              refine ⟨ι',_,rfl,e2,e4,e5,agz hR e2 fun b x _ q1 q2 _=>e3 b x q1 q2,?_⟩
              rw [Nat.zero_add]
              have e6:ι' hp.length=some ⟨w.heap.size,0,G*c9,c9⟩:=by rw [e1]; simp only [if_true]; rw [hsz]
              exact aco (w:=w) e6 (by omega) (by omega) (Nat.le_refl _)
             cases g1 with
             | adJ=>exact main none (run_firstCells_none w.drew c9 0 0 0)
             | slz q q' _ c' hq =>
               have:=hq rfl; subst this
               exact main (some q') (ahA c9 q' 0 0 w.drew)
             | slc=>omega
    ·cases h
   ·rename_i n
    split at h
    ·rename_i b
     cases hk:l9 hp b with
     | none=>rw [hk] at h; cases h
     | some k =>
     rw [hk] at h
     simp only [Option.bind_some] at h
     split at h
     ·rename_i hc1
      obtain ⟨hrw,hvrw,hbv,hksz,hkl,hi0,hin,hpl⟩:=hc1
      cases h
      obtain ⟨i,rfl⟩:=Int.eq_ofNat_of_zero_le hi0
      simp only [Int.toNat_natCast]
      have hin:i<=n+1:=by omega
      refine ⟨hent,ap0 _ _,fun ι w B args' hR ha=>?_⟩
      obtain ⟨al⟩:=args'
      simp only at ha
      cases ha with
      | cons g1 ha=>cases ha with
        | cons g2 ha=>cases ha with
          | cons g3 ha=>cases ha with
            | nil =>
              cases g2
              cases g3 with
              | slz=>omega
              | @slc _ _ _ _ vc' yv hyv _ hv1 hv2 hv3 =>
              cases g1 with
              | @slc _ _ _ _ c' y hy _ hc1 hc2 hc3 =>
              obtain ⟨csv,elv,frv,vs,w1,w2,w3,w4,w5,w6,w7,w8,w9,w10⟩:=aj9 (hR.ok _ _ _ hyv hkv) (len:=m*c9) hvl
              obtain ⟨cs,el,fr,C,u1,u2,u3,u4,u5,u6,u7,u8,u9,u10⟩:=aj9 (hR.ok _ _ _ hy hk) (len:=(n+1)*c9) (by omega)
              have hysz:y.sz=c9:=by rw [<-hR.R8 b y k hy (k9 hk).1]; exact hksz
              rw [hysz] at hc3
              have hroomc:c'*c9<=y.room:=by omega
              have hne:yv.o6 ≠ y.o6:=fun e=>by
               rcases hR.sep b y k vb yv kv hy hk hrw hyv hkv e.symm with q | ⟨_,q,_⟩
               ·exact hbv q
               ·rw [hvrw] at q; cases q
              have hktake:k.cells.take ((n+1)*c9)=k.cells:=List.take_of_length_le (by omega)
              rw [hktake] at u8
              have hsrc:Src P c9 (ρ.t 24) (.slice (some ⟨yv.o6,yv.off+0,none⟩) m vc') m vs w:=Src.ofSlice w L.t24 ⟨yv.o6,yv.off+0,none⟩ m vc' vs w5 (fun j u hj=>by rw [Addr.add_lit]; exact w6 j u hj) w9
              have m1:(n+1+m)*c9=(n+1)*c9+m*c9:=Nat.add_mul _ _ _
              have m2:(i+m)*c9=i*c9+m*c9:=Nat.add_mul _ _ _
              have m3:i*c9<=(n+1)*c9:=Nat.mul_le_mul_right _ hin
              have m4:0<(n+1)*c9:=Nat.mul_pos (by omega) he0
              have m5:0<m*c9:=Nat.mul_pos hm he0
              have hnewR:C0 ι (k.cells.take (i*c9)++kv.cells.take (m*c9)++k.cells.drop (i*c9)) (C.take (i*c9)++vs++C.drop (i*c9)):=((u8.ayZ _).append w8).append (u8.ay5 _)
              have hnew1:∀ u ∈ k.cells.take (i*c9)++kv.cells.take (m*c9)++k.cells.drop (i*c9),u.oneCell'=true:=aow (aow (fun u hu=>u10 u (List.mem_of_mem_take hu)) (fun u hu=>w10 u (List.mem_of_mem_take hu))) (fun u hu=>u10 u (List.mem_of_mem_drop hu))
              have hnewl:(k.cells.take (i*c9)++kv.cells.take (m*c9)++k.cells.drop (i*c9)).length=(n+1+m)*c9:=by simp; omega
              have hL:∀ j,j<(n+1+m)*c9->(C.take (i*c9)++vs++C.drop (i*c9))[j]? = if j<i*c9 then C[j]? else if j<(i+m)*c9 then vs[j-i*c9]? else C[j-m*c9]?:=fun j hj=>by
               by_cases q1:j<i*c9
               ·rw [if_pos q1,List.append_assoc,List.getElem?_append_left (by simp; omega),List.getElem?_take_of_lt q1]
               ·rw [if_neg q1]
                by_cases q2:j<(i+m)*c9
                ·rw [if_pos q2,List.getElem?_append_left (by simp; omega),List.getElem?_append_right (by simp; omega)]
                 congr 1; simp; omega
                ·rw [if_neg q2,List.getElem?_append_right (by simp; omega),List.getElem?_drop]
                 congr 1; simp; omega
              have hinplace:∀ (w':World) (cs':Array Value),n+1+m<=c'->w'.heap[y.o6]? = some (.cells cs' el fr)->cs'.size=cs.size->(∀ j,j ≠ y.o6->w'.heap[j]? = w.heap[j]?)->w'.heap.size=w.heap.size->w'.os=w.os->w'.tape=w.tape->w'.output=w.output →
               (∀ j,j<(n+1+m)*c9->cs'[y.off+j]? = (C.take (i*c9)++vs++C.drop (i*c9))[j]?) →
               ∃ ι',S7 hp.length ι ι'/\Rel ng ι' (r5 hp k.j3++[⟨k.cells.take (i*c9)++kv.cells.take (m*c9)++k.cells.drop (i*c9),c9,.rw,hp.length,k.pl⟩]) w' B/\Fr ι hp w w' ∧
                 Own ι hp w ι' (r5 hp k.j3++[⟨k.cells.take (i*c9)++kv.cells.take (m*c9)++k.cells.drop (i*c9),c9,.rw,hp.length,k.pl⟩])/\VR ι' (F9 hp (n+1+m) (n+1+m+1)) (.slice (some ⟨y.o6,y.off+0,none⟩) (n+1+m) c'):=by
               intro w' cs' hrm hb' hsz' hrest hsize ho ht hu ab6
               have hroomL:(n+1+m)*c9<=c'*c9:=Nat.mul_le_mul_right _ hrm
               have hB:=u4 hrw
               obtain ⟨ι',e1,e2,e3,e4,e5⟩:=au2 hR hy hk hrw hb' (by rw [hsz']; exact hB.1) (by rw [hsz']; exact u2) (by rw [hnewl]; omega) (af2 hnewR hnew1 (fun j hj=>ab6 j (by rw [<-hnewl]; exact hj))) hrest hsize ho ht hu c9
               refine ⟨ι',e2,e3,e4,e5,?_⟩
               have e6:ι' hp.length=some ⟨y.o6,y.off,y.room,c9⟩:=by rw [e1]; simp
               have:=VR.slc (ι:=ι') (o:=0) (n:=n+1+m) (c:=n+1+m+1) (c':=c') e6 (by omega) hrm (by omega) (by show 0+c'*c9<=y.room; omega)
               exact this
              have hfresh:∀ (w':World) (cs':Array Value) (G:Nat),n+1+m<=G->w'.heap=w.heap.push (.cells cs' (ρ.t 9) (0,0))->w'.os=w.os->w'.tape=w.tape->w'.output=w.output->cs'.size=G*c9 →
               (∀ j,j<(n+1+m)*c9->cs'[j]? = (C.take (i*c9)++vs++C.drop (i*c9))[j]?) →
               ∃ ι',S7 hp.length ι ι'/\Rel ng ι' (r5 hp k.j3++[⟨k.cells.take (i*c9)++kv.cells.take (m*c9)++k.cells.drop (i*c9),c9,.rw,hp.length,k.pl⟩]) w' B/\Fr ι hp w w' ∧
                 Own ι hp w ι' (r5 hp k.j3++[⟨k.cells.take (i*c9)++kv.cells.take (m*c9)++k.cells.drop (i*c9),c9,.rw,hp.length,k.pl⟩])/\VR ι' (F9 hp (n+1+m) (n+1+m+1)) (.slice (some ⟨w.heap.size,0,none⟩) (n+1+m) G):=by
               intro w' cs' G hG hw' ho ht hu hsz' ab6
               have hGL:(n+1+m)*c9<=G*c9:=Nat.mul_le_mul_right _ hG
               obtain ⟨ι',e1,e2,e3,e4,e5⟩:=asx (f:=k.j3) hR ⟨k.cells.take (i*c9)++kv.cells.take (m*c9)++k.cells.drop (i*c9),c9,.rw,hp.length,k.pl⟩ cs' (ρ.t 9) hw' ho ht hu (by show (_:List Value).length<=_; rw [hnewl,hsz']; exact hGL)
                (af2 hnewR hnew1 (fun j hj=>by rw [Nat.zero_add]; exact ab6 j (by rw [<-hnewl]; exact hj)))
               exact ⟨ι',e2,e3,e4,e5,aco (w:=w) e1 (by omega) (by omega) (by rw [hsz']; exact Nat.le_refl _)⟩
              have hbw:y.o6<w.heap.size:=(Array.getElem?_eq_some_iff.1 u1).1
              have hvw:yv.o6<w.heap.size:=(Array.getElem?_eq_some_iff.1 w1).1
              by_cases hroom:n+1+m<=c'
              ·have hroomL:(n+1+m)*c9<=c'*c9:=Nat.mul_le_mul_right _ hroom
               by_cases hie:i=n+1
               ·subst hie
                refine (aoI L y.o6 (y.off+0) (n+1) c' yv.o6 (yv.off+0) m vc' vs w hm hroom w5 (fun j hj=>by simp only [World.cell?,u1]; simp; omega) (fun j hj=>afD u1 (u4 hrw).1 _ (by omega)) hsrc).mono ?_
                rintro e w' ⟨rfl,rfl⟩
                obtain ⟨A',e1,e2,e3,e4,e5,e6,e7,e8⟩:=I9 vs (y.off+0+(n+1)*c9) w y.o6 cs el fr u1 (by omega)
                obtain ⟨ι',q⟩:=hinplace _ A' hroom e1 e2 e4 e5 e6 e7 e8 (fun j hj=>by
                 rw [hL j hj,e3]
                 by_cases q1:j<(n+1)*c9
                 ·rw [if_pos q1,if_neg (by omega)]; exact u7 j q1
                 ·rw [if_neg q1,if_pos (by omega),if_pos (by omega)]; congr 1; omega)
                exact ⟨ι',_,rfl,q⟩
               ·have hlt:i<n+1:=by omega
                have hov:∀ lb cb,(callFunc (ρ.f 29) #[.slice (some ⟨yv.o6,yv.off+0,none⟩) m vc',.slice (some ⟨y.o6,y.off+0+(i+m)*c9,none⟩) lb cb]).run P w = .ok (.value (.bool false)) w:=fun lb cb=>by
                 rw [L.ov]
                 rw [ap8 L.t24 L.z9 (a:=⟨yv.o6,yv.off+0,none⟩) (b:=⟨y.o6,y.off+0+(i+m)*c9,none⟩) hne w1 u1 (w4 hvrw).1 (u4 hrw).1 (hpl.symm) (by omega) (by omega) (by show yv.off+0<_; omega) (fun _ _=>by show y.off+0+(i+m)*c9<_; have:(i+m)*c9<(n+1+m)*c9:=Nat.mul_lt_mul_of_pos_right (by omega) he0; omega) rfl rfl]
                 rfl
                refine (as1 L y.o6 (y.off+0) (n+1) c' i yv.o6 (yv.off+0) m vc' C vs w hlt hm hroom (by omega) hne u5 w5 (fun j v e=>u6 j v e) (fun j hj=>by simp only [World.cell?,u1]; simp; omega) (fun j hj=>afD u1 (u4 hrw).1 _ (by omega)) (fun j v e=>w6 j v e) u9 w9 hov).mono ?_
                rintro e w' ⟨rfl,rfl⟩
                have hdl:(C.drop (i*c9)).length=(n+1)*c9-i*c9:=by rw [List.length_drop,u5]
                obtain ⟨A1,e1,e2,e3,e4,e5,e6,e7,e8⟩:=I9 (C.drop (i*c9)) (y.off+0+(i+m)*c9) w.drew y.o6 cs el fr u1 (by omega)
                obtain ⟨A2,f1,f2,f3,f4,f5,f6,f7,f8⟩:=I9 vs (y.off+0+i*c9) (w.drew.setCells y.o6 (y.off+0+(i+m)*c9) (C.drop (i*c9))) y.o6 A1 el fr e1 (by omega)
                obtain ⟨ι',q⟩:=hinplace _ A2 hroom f1 (by rw [f2,e2]) (fun j hj=>by rw [f4 j hj,e4 j hj]; rfl) (by rw [f5,e5]; rfl) (by rw [f6,e6]; rfl) (by rw [f7,e7]; rfl) (by rw [f8,e8]; rfl) (fun j hj=>by
                 rw [hL j hj,f3,e3]
                 by_cases q1:j<i*c9
                 ·rw [if_pos q1,if_neg (by omega),if_neg (by omega)]; exact u7 j (by omega)
                 ·rw [if_neg q1]
                  by_cases q2:j<(i+m)*c9
                  ·rw [if_pos q2,if_pos (by omega)]; congr 1; omega
                  ·rw [if_neg q2,if_neg (by omega),if_pos (by omega),List.getElem?_drop]; congr 1; omega)
                exact ⟨ι',_,rfl,q⟩
              ·have hg:c'<n+1+m:=by omega
               by_cases hie:i=n+1
               ·subst hie
                refine (ahU L (some ⟨y.o6,y.off+0,none⟩) (n+1) c' yv.o6 (yv.off+0) m vc' C vs w hm hc1 hg hbig (by omega) (run_firstCells_some w.drew c9 (n+1) ⟨y.o6,y.off+0,none⟩ (n+1) c' C u5 (fun j v e=>by rw [Addr.add_lit]; exact u6 j v e)) hsrc).mono ?_
                rintro e w' ⟨rfl,rfl⟩
                have hge:=grownCap_ge w (n+1+m) c' (ρ.t 9)
                generalize grownCap w (n+1+m) c' (ρ.t 9)=G at *
                obtain ⟨ι',q⟩:=hfresh (w.drew.alloc (.cells ((C++vs).toArray++Builtin.zeroCells z.cells (G-(n+1+m))) (ρ.t 9))) _ G hge rfl rfl rfl rfl (by
                 simp only [Array.size_append,List.size_toArray,List.length_append,adI,L.zs,w5,u5]
                 rw [<-Nat.add_mul,<-Nat.add_mul]; congr 1; omega) (fun j hj=>by
                 rw [hL j hj,Array.getElem?_append_left (by simp [w5,u5]; omega)]
                 by_cases q1:j<(n+1)*c9
                 ·rw [if_pos q1]; simp; rw [List.getElem?_append_left (by omega)]
                 ·rw [if_neg q1,if_pos (by omega)]; simp; rw [List.getElem?_append_right (by omega)]; congr 1; omega)
                exact ⟨ι',_,rfl,q⟩
               ·have hlt:i<n+1:=by omega
                refine (auP L y.o6 (y.off+0) (n+1) c' i yv.o6 (yv.off+0) m vc' C vs w hlt hm hc1 hg hbig hnm u5 w5 hbw hvw (fun j v e=>u6 j v e) (fun j v e=>w6 j v e) u9 w9).mono ?_
                rintro e w' ⟨G,ROW,r1,r2,r3,rfl,rfl⟩
                have hGL:(n+1+m)*c9<=G*c9:=Nat.mul_le_mul_right _ r1
                have hdl:(C.drop (i*c9)).length=(n+1)*c9-i*c9:=by rw [List.length_drop,u5]
                obtain ⟨A1,e1,e2,e3,e4,e5,e6,e7,e8⟩:=I9 vs (i*c9) (w.alloc (.cells ROW (ρ.t 9))).drew w.heap.size ROW (ρ.t 9) (0,0) (by show (w.heap.push _)[w.heap.size]? = _; simp) (by omega)
                obtain ⟨A2,f1,f2,f3,f4,f5,f6,f7,f8⟩:=I9 (C.drop (i*c9)) ((i+m)*c9) ((w.alloc (.cells ROW (ρ.t 9))).drew.setCells w.heap.size (i*c9) vs).drew w.heap.size A1 (ρ.t 9) (0,0) e1 (by omega)
                obtain ⟨ι',q⟩:=hfresh (((w.alloc (.cells ROW (ρ.t 9))).drew.setCells w.heap.size (i*c9) vs).drew.setCells w.heap.size ((i+m)*c9) (C.drop (i*c9))) A2 G r1 (by
                 apply Array.ext_getElem?
                 intro j
                 rw [Array.getElem?_push]
                 by_cases q1:j=w.heap.size
                 ·rw [if_pos q1,q1]; exact f1
                 ·rw [if_neg q1,f4 j q1]
                  show ((w.alloc (.cells ROW (ρ.t 9))).drew.setCells w.heap.size (i*c9) vs).heap[j]? = _
                  rw [e4 j q1]
                  show (w.heap.push _)[j]? = _
                  rw [Array.getElem?_push,if_neg q1]) (by rw [f6]; exact e6) (by rw [f7]; exact e7) (by rw [f8]; exact e8) (by rw [f2,e2,r2]) (fun j hj=>by
                 rw [hL j hj,f3,e3]
                 by_cases q1:j<i*c9
                 ·rw [if_pos q1,if_neg (by omega),if_neg (by omega)]
                  have hj':j<C.length:=by omega
                  rw [r3 j C[j] (by rw [List.getElem?_take_of_lt q1,List.getElem?_eq_getElem hj']),List.getElem?_eq_getElem hj']
                 ·rw [if_neg q1]
                  by_cases q2:j<(i+m)*c9
                  ·rw [if_pos q2,if_neg (by omega),if_pos (by omega)]
                  ·rw [if_neg q2,if_pos (by omega),List.getElem?_drop]; congr 1; omega)
                exact ⟨ι',_,rfl,q⟩
     ·cases h
    ·cases h
  ·cases h
 ·cases h
end Go.AM

/- slices.Delete at elements of any size: what a call does. -/
set_option linter.unusedVariables false
set_option linter.unusedSimpArgs false
namespace Go.AM
open Go Go.Proofs Go.Shelf Go.RowKit Go.Lib
variable {P:Program} {ρ:Ren}
structure azv (P:Program) (ρ:Ren) (c9:Nat) (z:Value):Prop where
 mixed:P.follows .mixedOrders=true
 f24:Bears P (ρ.f 24) (Body2.n24 ρ)
 t0:P.underlying (ρ.t 0)=some (TypeDesc.tuple #[])
 a0:∀ w,(isAgg (ρ.t 0)).run P w = .ok false w
 z0:∀ w,(Go.sizeOf (ρ.t 0)).run P w = .ok 1 w
 v0:∀ w,(zeroValue (ρ.t 0)).run P w = .ok (Value.tuple #[]) w
 t3:P.underlying (ρ.t 3)=some (TypeDesc.int IntKind.i64)
 a3:∀ w,(isAgg (ρ.t 3)).run P w = .ok false w
 z3:∀ w,(Go.sizeOf (ρ.t 3)).run P w = .ok 1 w
 v3:∀ w,(zeroValue (ρ.t 3)).run P w = .ok (Value.int IntKind.i64 0) w
 t4:P.underlying (ρ.t 4)=some (TypeDesc.bool)
 a4:∀ w,(isAgg (ρ.t 4)).run P w = .ok false w
 z4:∀ w,(Go.sizeOf (ρ.t 4)).run P w = .ok 1 w
 v4:∀ w,(zeroValue (ρ.t 4)).run P w = .ok (Value.bool false) w
 t24:P.underlying (ρ.t 24)=some (TypeDesc.slice (ρ.t 9))
 a24:∀ w,(isAgg (ρ.t 24)).run P w = .ok false w
 z24:∀ w,(Go.sizeOf (ρ.t 24)).run P w = .ok 1 w
 v24:∀ w,(zeroValue (ρ.t 24)).run P w = .ok (Value.slice none 0 0) w
 z9:∀ w,(Go.sizeOf (ρ.t 9)).run P w = .ok c9 w
 v9:∀ w,(zeroValue (ρ.t 9)).run P w = .ok z w
 i9:(P.info? (ρ.t 9)).map (fun i=>(i.zero,i.size))=some (some z,c9)
 zs:z.cells.size=c9
 z1:∀ u ∈ z.cells,u.oneCell'=true
 es0:0<c9
end Go.AM

/- slices.Delete in the abstract machine: what a call owes, for every element size. -/
namespace Go.AM
open Go.Proofs Go.Shelf Go.RowKit Go.Lib
set_option linter.unusedSimpArgs false
set_option linter.unusedVariables false
variable {P:Program} {ρ:Ren}
end Go.AM

/- Part 2 of the machines: what is proved is told at each theorem; no condition. -/
import Derived.Test.YtmokcpfbeggigaaGreatDoorFnScriptNameK1
import Derived.Below
import Derived.Shelf.Spec.SlicesInsertGrow
import Derived.Shelf.SlGeneric
import Derived.Deep.RegionLaw
import Derived.Shelf.RegionOpenPlain
import Derived.Shelf.SlicesE.DeleteFunc
import Derived.Shelf.Strings.OnBuilder
import Derived.Shelf.Strings.Search3
/- A region that draws its order: what the orders have in common. -/
namespace Go.AM
set_option linter.unusedSimpArgs false
set_option linter.unusedVariables false
theorem ahQ {acc:List Nat} {i:Nat}:∀ {es:List Edge},(af0 acc es).testBit i=true->∃ e ∈ es,Region.binds .any e=true/\(e.on=i\/(acc.getD e.on 0).testBit i=true)
 | [],h=>by simp [af0] at h
 | e::es,h=>by
   simp only [af0] at h
   split at h
   ·rename_i hb
    rw [Nat.testBit_or,Nat.testBit_or,Bool.or_eq_true,Bool.or_eq_true] at h
    rcases h with (h | h) | h
    ·obtain ⟨e',h1,h2⟩:=ahQ h
     exact ⟨e',by simp [h1],h2⟩
    ·rw [Nat.testBit_two_pow] at h
     exact ⟨e,by simp,hb,.inl (by simpa using h)⟩
    ·exact ⟨e,by simp,hb,.inr h⟩
   ·obtain ⟨e',h1,h2⟩:=ahQ h
    exact ⟨e',by simp [h1],h2⟩
theorem alI:∀ (os:List Oper) (acc:List Nat),(abn os acc).length=acc.length+os.length
 | [],acc=>rfl
 | o::os,acc=>by rw [abn,alI os]; simp; omega
theorem ahT:∀ (os:List Oper) (acc:List Nat) (j:Nat),j<acc.length->(abn os acc)[j]? = acc[j]?
 | [],acc,j,h=>rfl
 | o::os,acc,j,h=>by rw [abn,ahT os _ j (by simp; omega),List.getElem?_append_left h]
theorem alC:∀ (os:List Oper) (acc:List Nat) (k:Nat) (o:Oper),os[k]? = some o->∃ acc',acc'.length=acc.length+k/\(abn os acc)[acc.length+k]? = some (af0 acc' o.after.toList)/\∀ j,j<acc.length+k->acc'[j]? = (abn os acc)[j]?
 | [],acc,k,o,h=>by simp at h
 | o'::os,acc,0,o,h=>by
   simp at h; subst h
   refine ⟨acc,rfl,?_,fun j hj=>?_⟩
   ·rw [abn,ahT os _ _ (by simp),Nat.add_zero,List.getElem?_append_right (Nat.le_refl _)]; simp
   ·rw [abn,ahT os _ j (by simp at hj ⊢; omega),List.getElem?_append_left (by simpa using hj)]
 | o'::os,acc,k+1,o,h=>by
   simp at h
   obtain ⟨acc',h1,h2,h3⟩:=alC os (acc++[af0 acc o'.after.toList]) k o h
   simp only [List.length_append,List.length_cons,List.length_nil] at h1 h2 h3
   refine ⟨acc',by omega,?_,fun j hj=>?_⟩
   ·rw [abn,<-h2]; congr 1; omega
   ·rw [abn]; exact h3 j (by omega)
def aak (ops:Array Oper) (i j:Nat):Prop:=((abn ops.toList []).getD j 0).testBit i=true
theorem ahD {ops:Array Oper} {i j:Nat} (h:aak ops i j):∃ o,ops[j]? = some o/\∃ e ∈ o.after,Region.binds .any e=true/\(e.on=i\/(e.on<j/\aak ops i e.on)\/¬ e.on<j):=by
 unfold aak at h
 have hj:j<ops.toList.length:=by
  rcases Nat.lt_or_ge j ops.toList.length with h' | h'
  ·exact h'
  ·rw [List.getD_eq_getElem?_getD,List.getElem?_eq_none (by rw [alI]; simp; simpa using h')] at h
   simp at h
 obtain ⟨acc',h1,h2,h3⟩:=alC ops.toList [] j ops.toList[j] (List.getElem?_eq_getElem hj)
 simp only [List.length_nil,Nat.zero_add] at h1 h2 h3
 rw [List.getD_eq_getElem?_getD,h2] at h
 simp only [Option.getD_some] at h
 obtain ⟨e,he,hb,hc⟩:=ahQ h
 refine ⟨ops.toList[j],by simp at hj ⊢,e,by simpa using he,hb,?_⟩
 rcases hc with hc | hc
 ·exact .inl hc
 ·by_cases hl:e.on<j
  ·refine .inr (.inl ⟨hl,?_⟩)
   unfold aak
   rw [List.getD_eq_getElem?_getD,<-h3 e.on hl,<-List.getD_eq_getElem?_getD]
   exact hc
  ·exact .inr (.inr hl)
theorem ae5 {ops:Array Oper} (h:aaL ops=true) {j:Nat} {o:Oper} (ho:ops[j]? = some o) {e:Edge} (he:e ∈ o.after) (hb:Region.binds .any e=true):e.on<j:=by
 unfold aaL at h
 rw [List.all_eq_true] at h
 have hm:(o,j) ∈ ops.toList.zipIdx:=by
  rw [List.mem_zipIdx_iff_getElem?]
  simpa using ho
 have:=h _ hm
 simp only [Array.all_eq_true'] at this
 have:=this e he
 simp [hb] at this
 exact this
def Down (ops:Array Oper) (D:Nat->Prop):Prop:=∀ j o,ops[j]? = some o->D j->∀ e ∈ o.after,Region.binds .any e=true->D e.on
theorem Down.before {ops:Array Oper} {D:Nat->Prop} (hd:Down ops D) (he:aaL ops=true):∀ (j i:Nat),aak ops i j->D j->D i:=by
 intro j
 induction j using Nat.strongRecOn with
 | _ j ih =>
   intro i hb hj
   obtain ⟨o,ho,e,hem,hbd,hc⟩:=ahD hb
   have hlt:=ae5 he ho hem hbd
   have hDe:=hd j o ho hj e hem hbd
   rcases hc with rfl | ⟨hl,hb'⟩ | hn
   ·exact hDe
   ·exact ih e.on hl i hb' hDe
   ·exact absurd hlt hn
theorem alR {ops:Array Oper} {D:Nat->Prop} (hd:Down ops D) (he:aaL ops=true) {j:Nat} {o:Oper} (ho:ops[j]? = some o) (hr:∀ e ∈ o.after,Region.binds .any e=true->D e.on) {i:Nat} (hb:aak ops i j):D i:=by
 obtain ⟨o',ho',e,hem,hbd,hc⟩:=ahD hb
 rw [ho] at ho'; cases ho'
 rcases hc with rfl | ⟨hl,hb'⟩ | hn
 ·exact hr e hem hbd
 ·exact hd.before he e.on i hb' (hr e hem hbd)
 ·exact absurd (ae5 he ho hem hbd) hn
structure Run (P:Program) (X:Ctx) (ops:Array Oper) (S:Nat->St) (E:Nat->EV) (C:Nat->A8) (G:Nat->Bool) (k m:Nat):Prop where
 env:∀ i o,k<=i->i<m->ops[i]? = some o->∀ t,look (S (i+1)).env t=if o.dst=some t then some (E i) else look (S i).env t
 run:∀ i o,k<=i->i<m->ops[i]? = some o->G i=true->n9 P X o (S i) (E i) (S (i+1)).loc (S (i+1)).hp (C i)
 pass:∀ i o,k<=i->i<m->ops[i]? = some o->G i=false->E i = .B4/\C i = .P/\(S (i+1)).loc=(S i).loc/\(S (i+1)).hp=(S i).hp
 guard:∀ i o,k<=i->i<m->ops[i]? = some o->match o.guard with
  | none=>G i=true
  | some (j,want)=>∃ d,acC ops j=some d/\((∃ b,look (S i).env d=some (.val (.bool b))/\G i=(b==want))\/(look (S i).env d=some .B4/\G i=false))
def apU (a b:List (Nat × EV)):Prop:=∀ t,look a t=look b t
theorem n9.look {P:Program} {X:Ctx} {o:Oper} {st:St} {env:List (Nat × EV)} {e:EV} {loc':List (Nat × List Value)} {hp':Heap} {c:A8} (h:n9 P X o ⟨env,st.loc,st.hp⟩ e loc' hp' c) (he:apU env st.env):n9 P X o st e loc' hp' c:=by
 have hop:∀ ι ρ a,N7 X ι ρ st a o->N7 X ι ρ ⟨env,st.loc,st.hp⟩ a o:=fun ι ρ a hr=>⟨hr.1,hr.2.1,fun t e hm hl=>hr.2.2 t e hm (by rw [<-he t]; exact hl)⟩
 cases c with
 | P =>
   obtain ⟨h1,h2,h3,h4⟩:=h
   exact ⟨h1,h2,fun k d hk=>by obtain ⟨t,d',h,hm⟩:=h3 k d hk; exact ⟨t,d',by rw [<-he t]; exact h,hm⟩,fun ι ρ a w hr=>h4 ι ρ a w (hop _ _ _ hr)⟩
 | L k =>
   obtain ⟨h1,h2,v,cells,h3,h4,h5⟩:=h
   exact ⟨h1,h2,v,cells,h3,h4,fun ι ρ a w hr=>h5 ι ρ a w (hop _ _ _ hr)⟩
 | S k =>
   obtain ⟨h1,h2,p7,cells,h3,h4,h5,h6⟩:=h
   exact ⟨h1,h2,p7,cells,h3,h4,h5,fun ι ρ a w hr=>h6 ι ρ a w (hop _ _ _ hr)⟩
 | N k =>
   obtain ⟨h1,h2,h3,h4,cells,h5,h6⟩:=h
   exact ⟨h1,h2,h3,h4,cells,h5,fun ι ρ a w hr=>h6 ι ρ a w (hop _ _ _ hr)⟩
 | H =>
   obtain ⟨h1,h2,v,h3,h4⟩:=h
   exact ⟨h1,h2,v,h3,fun ι ρ a w B Nx Q hr=>h4 ι ρ a w B Nx Q (hop _ _ _ hr)⟩
 | A =>
   obtain ⟨h1,h2,v,h3,h4⟩:=h
   exact ⟨h1,h2,v,h3,fun ι ρ a w B Nx Q hr=>h4 ι ρ a w B Nx Q (hop _ _ _ hr)⟩
 | W =>
   obtain ⟨h1,h2,h3,h4⟩:=h
   exact ⟨h1,h2,h3,fun ι ρ a w B Nx Q hr=>h4 ι ρ a w B Nx Q (hop _ _ _ hr)⟩
theorem apQ {R:Type} {ops:Array Oper} {o:Oper} {env:List (Nat × EV)} {run pass:List (Nat × EV)->Option R} {r:R} (h:K9 ops o env run pass=some r) :
 ∃ env' g,apU env' env/\(if g then run env' else pass env')=some r/\(match o.guard with
 | none=>g=true
 | some (j,want)=>∃ d,acC ops j=some d/\((∃ b,look env d=some (.val (.bool b))/\g=(b==want))\/(look env d=some .B4/\g=false))):=by
 unfold K9 at h
 cases hg:o.guard with
 | none=>rw [hg] at h; exact ⟨env,true,fun _=>rfl,h,rfl⟩
 | some p =>
   obtain ⟨j,want⟩:=p
   rw [hg] at h
   simp only at h
   cases hd:acC ops j with
   | none=>rw [hd] at h; cases h
   | some d =>
     rw [hd] at h
     simp only at h
     cases hl:look env d with
     | none=>rw [hl] at h; cases h
     | some e =>
       cases e with
       | loc k o=>rw [hl] at h; cases h
       | B4=>rw [hl] at h; exact ⟨env,false,fun _=>rfl,h,d,hd,.inr ⟨hl,rfl⟩⟩
       | val v =>
         rw [hl] at h
         simp only at h
         have hv:∃ b,v = .bool b:=by
          cases v with
          | bool b=>exact ⟨b,rfl⟩
          | _=>cases want<;>cases h
         obtain ⟨b,rfl⟩:=hv
         refine ⟨(d,.val (.bool b))::env,b==want,fun t=>?_,?_,d,hd,.inl ⟨b,hl,rfl⟩⟩
         ·rw [j3]; split
          ·rename_i e; subst e; exact hl.symm
          ·rfl
         ·cases b<;>cases want<;>simp only [O0] at h<;>exact h
theorem aic {P:Program} {X:Ctx} {A:M5} (hX:XOk P X) {R:Type} {r:R} {ops:Array Oper}:∀ {os:List Oper} {k:Nat} {cl:List A8} {st:St} {K:List A8->St->Option R},(∀ j,os[j]? = ops[k+j]?)->X4 X A ops os cl st K=some r →
 ∃ S E C G,Run P X ops S E C G k (k+os.length)/\S k=st/\∃ cl',K cl' (S (k+os.length))=some r/\cl'.reverse=cl.reverse++(List.range' k os.length).map C
 | [],k,cl,st,K,_,h=>⟨fun _=>st,fun _ => .B4,fun _ => .P,fun _=>true,⟨fun i o h1 h2=>by simp at h2; omega,fun i o h1 h2=>by simp at h2; omega,fun i o h1 h2=>by simp at h2; omega,fun i o h1 h2=>by simp at h2; omega⟩,rfl,cl,h,by simp⟩
 | o::os,k,cl,st,K,hos,h=>by
   simp only [X4] at h
   have ho:ops[k]? = some o:=by simpa using (hos 0).symm
   obtain ⟨env',g,hle,hrun,hgd⟩:=apQ h
   have hos':∀ j,os[j]? = ops[(k+1)+j]?:=fun j=>by have:=hos (j+1); simpa [Nat.add_assoc,Nat.add_comm 1 j] using this
   have key:∃ e loc' hp' c S E C G,Run P X ops S E C G (k+1) (k+1+os.length)/\S (k+1)=⟨acb env' o.dst e,loc',hp'⟩/\(g=true->n9 P X o st e loc' hp' c)/\(g=false->e = .B4/\c = .P/\loc'=st.loc/\hp'=st.hp) ∧
    ∃ cl',K cl' (S (k+1+os.length))=some r/\cl'.reverse=(c::cl).reverse++(List.range' (k+1) os.length).map C:=by
    cases g with
    | true =>
      simp only [if_true] at hrun
      obtain ⟨e,loc',hp',c,hk,hs⟩:=afO hX hrun
      obtain ⟨S,E,C,G,h1,h2,h3⟩:=aic hX hos' hk
      exact ⟨e,loc',hp',c,S,E,C,G,h1,h2,fun _=>hs.look hle,fun h=>by (cases h),h3⟩
    | false =>
      simp only [Bool.false_eq_true,if_false] at hrun
      obtain ⟨S,E,C,G,h1,h2,h3⟩:=aic hX hos' hrun
      exact ⟨.B4,st.loc,st.hp,.P,S,E,C,G,h1,h2,fun h=>by (cases h),fun _=>⟨rfl,rfl,rfl,rfl⟩,h3⟩
   obtain ⟨e,loc',hp',c,S,E,C,G,h1,h2,h3,h4,cl',h5,h6⟩:=key
   have sk:∀ (n:Nat) (x y:St),(if n+1=n then x else y)=y:=fun n x y=>if_neg (by omega)
   refine ⟨fun i=>if i=k then st else S i,fun i=>if i=k then e else E i,fun i=>if i=k then c else C i,fun i=>if i=k then g else G i,⟨fun i o' hi1 hi2 ho' t=>?_,fun i o' hi1 hi2 ho' hg=>?_,fun i o' hi1 hi2 ho' hg=>?_,fun i o' hi1 hi2 ho'=>?_⟩,if_pos rfl,cl',?_,?_⟩
   ·by_cases hik:i=k
    ·subst hik
     rw [ho] at ho'; cases ho'
     simp only [if_true,sk,h2,K7]
     rw [hle t]
    ·rw [if_neg hik,if_neg hik,if_neg (by omega)]
     exact h1.env i o' (by omega) (by simp at hi2; omega) ho' t
   ·by_cases hik:i=k
    ·subst hik
     rw [ho] at ho'; cases ho'
     simp only [if_true] at hg
     simp only [if_true,sk,h2]
     exact h3 hg
    ·simp only [if_neg hik,if_neg (show ¬ i+1=k by omega)] at hg ⊢
     exact h1.run i o' (by omega) (by simp at hi2; omega) ho' hg
   ·by_cases hik:i=k
    ·subst hik
     simp only [if_true] at hg
     simp only [if_true,sk,h2]
     exact h4 hg
    ·simp only [if_neg hik,if_neg (show ¬ i+1=k by omega)] at hg ⊢
     exact h1.pass i o' (by omega) (by simp at hi2; omega) ho' hg
   ·by_cases hik:i=k
    ·subst hik
     rw [ho] at ho'; cases ho'
     simp only [if_true]
     exact hgd
    ·simp only [if_neg hik]
     exact h1.guard i o' (by omega) (by simp at hi2; omega) ho'
   ·have:k+(o::os).length=k+1+os.length:=by simp; omega
    rw [this]
    show K cl' (if k+1+os.length=k then st else S (k+1+os.length))=some r
    rw [if_neg (by omega)]
    exact h5
   ·rw [h6]
    simp only [List.reverse_cons,List.append_assoc,List.length_cons,List.range'_succ,List.map_cons,if_true,List.singleton_append,List.cons_append,List.nil_append]
    congr 2
    refine List.map_congr_left fun i hi=>?_
    have:k+1<=i:=(List.mem_range'_1.1 hi).1
    rw [if_neg (by omega)]
end Go.AM

/- A region that draws its order: every order comes to what the text's order comes to. -/
namespace Go.AM
set_option linter.unusedSimpArgs false
set_option linter.unusedVariables false
def A6 (ι:j8) (hp:Heap):j8:=fun b=>if b<hp.length then ι b else none
theorem l8 {ι:j8} {hp:Heap} {b:Nat} {x:Img}:A6 ι hp b=some x<->b<hp.length/\ι b=some x:=by
 unfold A6
 by_cases h:b<hp.length
 ·rw [if_pos h]; exact ⟨fun h'=>⟨h,h'⟩,fun h'=>h'.2⟩
 ·rw [if_neg h]; exact ⟨fun h'=>(by cases h'),fun h'=>absurd h'.1 h⟩
theorem abv {ι:j8} {hp hp':Heap} (h:hp.length<=hp'.length):Sub (A6 ι hp) (A6 ι hp'):=fun b x hb=>by
 obtain ⟨h1,h2⟩:=l8.1 hb
 exact l8.2 ⟨by omega,h2⟩
section
variable (ops:Array Oper) (S:Nat->St) (C:Nat->A8)
def ClE (D:Nat->Prop) (i t:Nat):Prop:=∀ j o,ops[j]? = some o->o.dst=some t->(D j<->j<i)
def ClL (D:Nat->Prop) (i k:Nat):Prop:=∀ j,j<ops.size->(C j = .S k\/C j = .N k)->(D j<->j<i)
def ClW (D:Nat->Prop) (i:Nat):Prop:=∀ j,j<ops.size->C j = .W->(D j<->j<i)
def Kn (D:Nat->Prop) (k:Nat):Prop:=(look (S 0).loc k).isSome=true\/∃ j,j<ops.size/\C j = .N k/\D j
end
structure Inv (X:Ctx) (E0:Entry) (ops:Array Oper) (S:Nat->St) (C:Nat->A8) (sz:Nat) (ι0:j8) (ρ:Nat->Nat) (D:Nat->Prop) (ι:j8) (a:Act) (w:World):Prop where
 size:a.tmps.size=sz
 defers:a.defers=[]
 p7:∀ b,b<(S 0).hp.length->ι b=ι0 b
 B2:∀ b x,ι b=some x->b<(S 0).hp.length\/∃ j,j<ops.size/\D j/\(S j).hp.length<=b/\b<(S (j+1)).hp.length
 env:∀ i t e,i<=ops.size->ClE ops D i t->look (S i).env t=some e->ER (A6 ι (S i).hp) ρ e (a.eval (.tmp t))
 loc:∀ i k c,i<=ops.size->ClL ops C D i k->look (S i).loc k=some c->W6 (A6 ι (S i).hp) c w (ρ k)
 M6:∀ i,i<=ops.size->ah8 (A6 ι (S i).hp) (S i).hp
 rel:∀ i,i<=ops.size->ClW ops C D i->Rel X.ng (A6 ι (S i).hp) (S i).hp w E0.B
 N4:∀ i t k d,i<=ops.size->ClE ops D i t->look (S i).env t=some (.loc k d)->Kn ops S C D k
 llt:∀ k,Kn ops S C D k->ρ k<w.heap.size
 J9:∀ i,i<=ops.size->ClW ops C D i->∀ k b x q,Kn ops S C D k->A6 ι (S i).hp b=some x->j7 (S i).hp b=some q->x.w5 ≠ ρ k
 G6:∀ k k',Kn ops S C D k->Kn ops S C D k'->ρ k=ρ k'->k=k'
 Y1:∀ k,Kn ops S C D k->E0.w.heap.size<=ρ k
 fr:Fr E0.ι E0.hp E0.w w
 own:∀ i,i<=ops.size->ClW ops C D i->Own E0.ι E0.hp E0.w (A6 ι (S i).hp) (S i).hp
structure Fix (P:Program) (X:Ctx) (E0:Entry) (ops:Array Oper) (S:Nat->St) (E:Nat->EV) (C:Nat->A8) (G:Nat->Bool) (sz:Nat) (ι0:j8):Prop where
 run:Run P X ops S E C G 0 ops.size
 alf:aaL ops=true
 free:∀ (i j:Nat),i<j->j<ops.size->aak ops i j\/(abR ops i j=true/\F6 (C i) (C j)=true)
 dst:∀ (i:Nat) (o:Oper),ops[i]? = some o->∀ d,o.dst=some d->d<sz
 mono:∀ (i j:Nat),i<=j->j<=ops.size->n7 (S i).hp (S j).hp
 keys:∀ (i k:Nat),i<=ops.size->(look (S i).loc k).isSome=true->(look (S 0).loc k).isSome=true\/∃ j,j<i/\C j = .N k
 ajX:∀ (j k:Nat),j<ops.size->C j = .N k->look (S 0).loc k=none/\∀ j',j'<ops.size->C j' = .N k->j'=j
 D0:GOk X.ng ι0
 arH:∀ b x,ι0 b=some x->b<(S 0).hp.length
 e0:E0.hp.length<=(S 0).hp.length
 av6:U3 E0.hp.length E0.ι ι0
section
variable {P:Program} {X:Ctx} {E0:Entry} {ops:Array Oper} {S:Nat->St} {E:Nat->EV} {C:Nat->A8} {G:Nat->Bool} {sz:Nat} {ι0:j8} {ρ:Nat->Nat}
theorem G8 {i:Nat} (h:i<ops.size):ops[i]? = some ops[i]:=Array.getElem?_eq_getElem h
theorem Fix.len (F:Fix P X E0 ops S E C G sz ι0) {i j:Nat} (h:i<=j) (hj:j<=ops.size):(S i).hp.length<=(S j).hp.length:=(F.mono i j h hj).len
theorem Fix.step (F:Fix P X E0 ops S E C G sz ι0) {i:Nat} (h:i<ops.size):C i ≠ .W->∃ new,(S (i+1)).hp=(S i).hp++new:=by
 intro hw
 cases hg:G i with
 | false=>exact ⟨[],by rw [(F.run.pass i _ (Nat.zero_le _) h (G8 h) hg).2.2.2]; simp⟩
 | true =>
   have hs:=F.run.run i _ (Nat.zero_le _) h (G8 h) hg
   generalize hc:C i=c at hs
   cases c with
   | P=>exact ⟨[],by rw [hs.2.1]; simp⟩
   | L k=>exact ⟨[],by rw [hs.2.1]; simp⟩
   | S k=>exact ⟨[],by rw [hs.2.1]; simp⟩
   | N k=>exact ⟨[],by rw [hs.2.2.1]; simp⟩
   | H=>exact ⟨[],by rw [hs.2.1]; simp⟩
   | A=>exact hs.2.1
   | W=>exact absurd hc hw
theorem Fix.aiI (F:Fix P X E0 ops S E C G sz ι0) {i j:Nat} (h:i<=j) (hj:j<=ops.size) (hn:∀ k,i<=k->k<j->C k ≠ .W):∃ new,(S j).hp=(S i).hp++new:=by
 induction j with
 | zero=>have:i=0:=by omega
         subst this; exact ⟨[],by simp⟩
 | succ j ih =>
   by_cases hij:i=j+1
   ·subst hij; exact ⟨[],by simp⟩
   ·obtain ⟨new,h1⟩:=ih (by omega) (by omega) (fun k h1 h2=>hn k h1 (by omega))
    obtain ⟨new',h2⟩:=F.step (i:=j) (by omega) (hn j (by omega) (by omega))
    exact ⟨new++new',by rw [h2,h1,List.append_assoc]⟩
theorem ClW.same {D:Nat->Prop} {i j:Nat} (h1:ClW ops C D i) (h2:ClW ops C D j) (hij:i<=j) (hj:j<=ops.size):∀ k,i<=k->k<j->C k ≠ .W:=by
 intro k hk1 hk2 hc
 have a:=h1 k (by omega) hc
 have b:=h2 k (by omega) hc
 have:=b.2 hk2
 have:=a.1 this
 omega
theorem Fix.w5 (F:Fix P X E0 ops S E C G sz ι0) {D:Nat->Prop} {i j:Nat} (h1:ClW ops C D i) (h2:ClW ops C D j) (hi:i<=ops.size) (hj:j<=ops.size) {b:Nat} (hb1:b<(S i).hp.length) (hb2:b<(S j).hp.length):j7 (S i).hp b=j7 (S j).hp b:=by
 rcases Nat.le_total i j with h | h
 ·obtain ⟨new,e⟩:=F.aiI h hj (h1.same h2 h hj)
  rw [e,w9 _ hb1]
 ·obtain ⟨new,e⟩:=F.aiI h hi (h2.same h1 h hi)
  rw [e,w9 _ hb2]
theorem Fix.order (F:Fix P X E0 ops S E C G sz ι0) {D:Nat->Prop} (hd:Down ops D) {i:Nat} (hi:i<ops.size) (hni:¬ D i) (hr:∀ e ∈ ops[i].after,Region.binds .any e=true->D e.on) {j:Nat} (hj:j<ops.size) (hne:j ≠ i)
 (hc:abR ops (min i j) (max i j)=false\/F6 (C (min i j)) (C (max i j))=false):D j<->j<i:=by
 rcases Nat.lt_or_gt_of_ne hne with h | h
 ·rw [Nat.min_eq_right (by omega),Nat.max_eq_left (by omega)] at hc
  have hb:aak ops j i:=(F.free j i h hi).resolve_right fun ⟨a,b⟩=>by
   rcases hc with hc | hc
   ·rw [a] at hc; cases hc
   ·rw [b] at hc; cases hc
  exact ⟨fun _=>h,fun _=>alR hd F.alf (G8 hi) hr hb⟩
 ·rw [Nat.min_eq_left (by omega),Nat.max_eq_right (by omega)] at hc
  have hb:aak ops i j:=(F.free i j h hj).resolve_right fun ⟨a,b⟩=>by
   rcases hc with hc | hc
   ·rw [a] at hc; cases hc
   ·rw [b] at hc; cases hc
  exact ⟨fun hDj=>absurd (hd.before F.alf j i hb hDj) hni,fun h'=>by omega⟩
theorem adP {i j:Nat} (hij:i ≠ j) {oi oj:Oper} (hi:ops[i]? = some oi) (hj:ops[j]? = some oj) (h:(∃ d,oi.dst=some d/\d ∈ oj.looksAt ops)\/(∃ d,oj.dst=some d/\d ∈ oi.looksAt ops)\/(∃ d,oi.dst=some d/\oj.dst=some d)) :
 abR ops (min i j) (max i j)=false:=by
 cases hb:abR ops (min i j) (max i j) with
 | false=>rfl
 | true =>
   exfalso
   rcases Nat.lt_or_gt_of_ne hij with hlt | hlt
   ·rw [Nat.min_eq_left (by omega),Nat.max_eq_right (by omega)] at hb
    simp only [abR,hi,hj] at hb
    obtain ⟨h1,h2,h3⟩:=Oper.apart_spec hb
    rcases h with ⟨d,a,b⟩ | ⟨d,a,b⟩ | ⟨d,a,b⟩
    ·exact h1 d a b
    ·exact h3 d a b
    ·exact h2 d a b
   ·rw [Nat.min_eq_right (by omega),Nat.max_eq_left (by omega)] at hb
    simp only [abR,hi,hj] at hb
    obtain ⟨h1,h2,h3⟩:=Oper.apart_spec hb
    rcases h with ⟨d,a,b⟩ | ⟨d,a,b⟩ | ⟨d,a,b⟩
    ·exact h3 d a b
    ·exact h1 d a b
    ·exact h2 d b a
theorem acF (a b:A8):F6 a b=F6 b a:=by
 cases a<;>cases b<;>simp [F6]<;>rename_i k k'<;>(cases h:Nat.beq k k'<;>cases h':Nat.beq k' k<;>first | rfl | (have:=Nat.eq_of_beq_eq_true h; subst this; rw [Nat.beq_refl] at h'; cases h') | (have:=Nat.eq_of_beq_eq_true h'; subst this; rw [Nat.beq_refl] at h; cases h))
theorem ae1 {i j:Nat} (h:F6 (C i) (C j)=false):F6 (C (min i j)) (C (max i j))=false:=by
 rcases Nat.le_total i j with hh | hh
 ·rw [Nat.min_eq_left hh,Nat.max_eq_right hh]; exact h
 ·rw [Nat.min_eq_right hh,Nat.max_eq_left hh,acF]; exact h
theorem Fix.ady (F:Fix P X E0 ops S E C G sz ι0) {t i j:Nat} (h:i<=j) (hj:j<=ops.size) (hn:∀ k o,i<=k->k<j->ops[k]? = some o->o.dst ≠ some t):look (S j).env t=look (S i).env t:=by
 induction j with
 | zero=>have:i=0:=by omega
         subst this; rfl
 | succ j ih =>
   by_cases hij:i=j+1
   ·subst hij; rfl
   ·rw [F.run.env j _ (Nat.zero_le _) (by omega) (G8 (by omega)),if_neg (hn j _ (by omega) (by omega) (G8 (by omega)))]
    exact ih (by omega) (by omega) fun k o h1 h2=>hn k o h1 (by omega)
theorem Fix.aia (F:Fix P X E0 ops S E C G sz ι0) {k i j:Nat} (h:i<=j) (hj:j<=ops.size) (hn:∀ l,i<=l->l<j->¬ (C l = .S k\/C l = .N k)):look (S j).loc k=look (S i).loc k:=by
 induction j with
 | zero=>have:i=0:=by omega
         subst this; rfl
 | succ j ih =>
   by_cases hij:i=j+1
   ·subst hij; rfl
   ·have hstep:look (S (j+1)).loc k=look (S j).loc k:=by
     have hjs:j<ops.size:=by omega
     cases hg:G j with
     | false=>rw [(F.run.pass j _ (Nat.zero_le _) hjs (G8 hjs) hg).2.2.1]
     | true =>
       have hs:=F.run.run j _ (Nat.zero_le _) hjs (G8 hjs) hg
       generalize hc:C j=c at hs
       cases c with
       | P=>rw [hs.1]
       | L _=>rw [hs.1]
       | S k' =>
         obtain ⟨_,_,p7,cells,h1,h2,_⟩:=hs
         rw [h2,O8,if_neg]
         rintro rfl
         exact hn j (by omega) (by omega) (.inl hc)
       | N k' =>
         obtain ⟨_,_,_,_,cells,h1,_⟩:=hs
         rw [h1,j3,if_neg]
         rintro rfl
         exact hn j (by omega) (by omega) (.inr hc)
       | H=>rw [hs.1]
       | A=>rw [hs.1]
       | W=>rw [hs.1]
    rw [hstep]
    exact ih (by omega) (by omega) fun l h1 h2=>hn l h1 (by omega)
theorem Fix.operands (F:Fix P X E0 ops S E C G sz ι0) {D:Nat->Prop} (hd:Down ops D) {ι:j8} {a:Act} {w:World} (I:Inv X E0 ops S C sz ι0 ρ D ι a w) {i:Nat} (hi:i<ops.size) (hni:¬ D i) (hr:∀ e ∈ ops[i].after,Region.binds .any e=true->D e.on) :
 (∀ t ∈ ops[i].looksAt ops,ClE ops D i t)/\N7 X (A6 ι (S i).hp) ρ (S i) a ops[i]:=by
 have hcl:∀ t ∈ ops[i].looksAt ops,ClE ops D i t:=by
  intro t ht j o hj hdst
  by_cases hji:j=i
  ·subst hji; exact ⟨fun h=>absurd h hni,fun h=>by omega⟩
  ·exact F.order hd hi hni hr (Array.getElem?_eq_some_iff.1 hj).1 hji (.inl (adP (Ne.symm hji) (G8 hi) hj (.inr (.inl ⟨t,hdst,ht⟩))))
 refine ⟨hcl,fun g hg=>?_,I.M6 i (by omega),fun t e hm hl=>I.env i t e (by omega) (hcl t ?_) hl⟩
 ·obtain ⟨x,h1,h2⟩:=F.D0 g hg
  have hdm:=F.arH g x h1
  exact ⟨x,l8.2 ⟨Nat.lt_of_lt_of_le hdm (F.len (Nat.zero_le _) (by omega)),by rw [I.p7 g hdm]; exact h1⟩,h2⟩
 ·unfold Oper.looksAt
  refine List.mem_append_left _ (List.mem_filterMap.2 ⟨.tmp t,by simpa using hm,rfl⟩)
theorem ER.re {ι:j8} {ρ ρ':Nat->Nat} {e:EV} {v:Value} (h:ER ι ρ e v) (hl:∀ k d,e = .loc k d->ρ' k=ρ k):ER ι ρ' e v:=by
 cases h with
 | val h=>exact .val h
 | loc k o=>have:=hl k o rfl; rw [<-this]; exact .loc k o
 | B4=>exact .B4
theorem Fix.known (F:Fix P X E0 ops S E C G sz ι0) {D:Nat->Prop} {i k:Nat} {c:List Value} (hi:i<=ops.size) (hc:ClL ops C D i k) (hl:look (S i).loc k=some c):Kn ops S C D k:=by
 rcases F.keys i k hi (by rw [hl]; rfl) with h | ⟨j,hj,hn⟩
 ·exact .inl h
 ·exact .inr ⟨j,by omega,hn,(hc j (by omega) (.inr hn)).2 hj⟩
theorem Fix.akC (F:Fix P X E0 ops S E C G sz ι0) {D:Nat->Prop} (hd:Down ops D) {ι ι':j8} {a:Act} {w:World} (I:Inv X E0 ops S C sz ι0 ρ D ι a w) {i:Nat} (hi:i<ops.size) (hni:¬ D i) (hr:∀ e ∈ ops[i].after,Region.binds .any e=true->D e.on)
 (hsub:Sub ι ι') {ρ':Nat->Nat} (hρ:∀ k,Kn ops S C D k->ρ' k=ρ k) {v':Value} (hv:ER (A6 ι' (S (i+1)).hp) ρ' (E i) v') :
 ∀ i0 t e,i0<=ops.size->ClE ops (fun j=>D j\/j=i) i0 t->look (S i0).env t=some e->ER (A6 ι' (S i0).hp) ρ' e ((a.put ops[i].dst v').eval (.tmp t)):=by
 intro i0 t e h0 hc hl
 have hsubc:Sub (A6 ι (S i0).hp) (A6 ι' (S i0).hp):=fun b x hb=>by
  obtain ⟨h1,h2⟩:=l8.1 hb
  exact l8.2 ⟨h1,hsub _ _ h2⟩
 rw [eval_put a _ v' t (fun d hd'=>by rw [I.size]; exact F.dst i _ (G8 hi) d hd')]
 by_cases hdt:ops[i].dst=some t
 ·rw [if_pos hdt]
  have hlt:i<i0:=(hc i _ (G8 hi) hdt).1 (.inr rfl)
  have hsame:look (S i0).env t=look (S (i+1)).env t:=F.ady (by omega) h0 fun k o h1 h2 hk hdk=>by
   have hDk:D k:=((hc k o hk hdk).2 h2).resolve_right (by omega)
   have:=(F.order hd hi hni hr (Array.getElem?_eq_some_iff.1 hk).1 (show k ≠ i by omega) (.inl (adP (by omega) (G8 hi) hk (.inr (.inr ⟨t,hdt,hdk⟩))))).1 hDk
   omega
  rw [hsame,F.run.env i _ (Nat.zero_le _) hi (G8 hi),if_pos hdt] at hl
  cases hl
  exact hv.mono (abv (F.len (by omega) h0))
 ·rw [if_neg hdt]
  have hcd:ClE ops D i0 t:=fun j o hj hdj=>by
   have:=hc j o hj hdj
   constructor
   ·intro h; exact this.1 (.inl h)
   ·intro h
    refine (this.2 h).resolve_right ?_
    rintro rfl
    rw [G8 hi] at hj; cases hj
    exact hdt hdj
  exact ((I.env i0 t e h0 hcd hl).mono hsubc).re fun k d he=>hρ k (I.N4 i0 t k d h0 hcd (by rw [hl,he]))
theorem Fix.aeE (F:Fix P X E0 ops S E C G sz ι0) {D:Nat->Prop} (hd:Down ops D) {ι ι':j8} {a:Act} {w:World} (I:Inv X E0 ops S C sz ι0 ρ D ι a w) {i:Nat} (hi:i<ops.size) (hni:¬ D i) (hr:∀ e ∈ ops[i].after,Region.binds .any e=true->D e.on)
 (hsub:Sub ι ι') {v':Value} (hv:ER (A6 ι' (S (i+1)).hp) ρ (E i) v') :
 ∀ i0 t e,i0<=ops.size->ClE ops (fun j=>D j\/j=i) i0 t->look (S i0).env t=some e->ER (A6 ι' (S i0).hp) ρ e ((a.put ops[i].dst v').eval (.tmp t)) :=
 F.akC hd I hi hni hr hsub (fun _ _=>rfl) hv
theorem Kn.mono {D D':Nat->Prop} (h:∀ j,D j->D' j) {k:Nat} (hk:Kn ops S C D k):Kn ops S C D' k:=by
 rcases hk with hk | ⟨j,h1,h2,h3⟩
 ·exact .inl hk
 ·exact .inr ⟨j,h1,h2,h j h3⟩
theorem D9 {D:Nat->Prop} {i k:Nat} (hn:∀ k,C i ≠ .N k) (hk:Kn ops S C (fun j=>D j\/j=i) k):Kn ops S C D k:=by
 rcases hk with hk | ⟨j,h1,h2,h3⟩
 ·exact .inl hk
 ·refine .inr ⟨j,h1,h2,h3.resolve_right ?_⟩
  rintro rfl
  exact hn k h2
theorem Fix.ab8 (F:Fix P X E0 ops S E C G sz ι0) {D:Nat->Prop} (hd:Down ops D) {ι:j8} {a:Act} {w:World} (I:Inv X E0 ops S C sz ι0 ρ D ι a w) {i:Nat} (hi:i<ops.size) (hni:¬ D i) (hr:∀ e ∈ ops[i].after,Region.binds .any e=true->D e.on)
 (hE:∀ k d,E i = .loc k d->Kn ops S C (fun j=>D j\/j=i) k) :
 ∀ i0 t k d,i0<=ops.size->ClE ops (fun j=>D j\/j=i) i0 t->look (S i0).env t=some (.loc k d)->Kn ops S C (fun j=>D j\/j=i) k:=by
 intro i0 t k d h0 hc hl
 by_cases hdt:ops[i].dst=some t
 ·have hlt:i<i0:=(hc i _ (G8 hi) hdt).1 (.inr rfl)
  have hsame:look (S i0).env t=look (S (i+1)).env t:=F.ady (by omega) h0 fun k o h1 h2 hk hdk=>by
   have hDk:D k:=((hc k o hk hdk).2 h2).resolve_right (by omega)
   have:=(F.order hd hi hni hr (Array.getElem?_eq_some_iff.1 hk).1 (show k ≠ i by omega) (.inl (adP (by omega) (G8 hi) hk (.inr (.inr ⟨t,hdt,hdk⟩))))).1 hDk
   omega
  rw [hsame,F.run.env i _ (Nat.zero_le _) hi (G8 hi),if_pos hdt] at hl
  exact hE k d (Option.some.inj hl)
 ·refine (I.N4 i0 t k d h0 (fun j o hj hdj=>?_) hl).mono fun j h => .inl h
  have:=hc j o hj hdj
  constructor
  ·intro h; exact this.1 (.inl h)
  ·intro h
   refine (this.2 h).resolve_right ?_
   rintro rfl
   rw [G8 hi] at hj; cases hj
   exact hdt hdj
theorem F9 {D:Nat->Prop} {i i0:Nat} (hw:C i ≠ .W):ClW ops C (fun j=>D j\/j=i) i0<->ClW ops C D i0:=by
 constructor
 ·intro h j hj hc
  have:=h j hj hc
  have hne:j ≠ i:=by rintro rfl; exact hw hc
  exact ⟨fun hD=>this.1 (.inl hD),fun hl=>(this.2 hl).resolve_right hne⟩
 ·intro h j hj hc
  have:=h j hj hc
  have hne:j ≠ i:=by rintro rfl; exact hw hc
  exact ⟨fun hD=>this.1 (hD.resolve_right hne),fun hl => .inl (this.2 hl)⟩
theorem ac4 {D:Nat->Prop} {i i0 k:Nat} (hs:C i ≠ .S k) (hn:C i ≠ .N k):ClL ops C (fun j=>D j\/j=i) i0 k<->ClL ops C D i0 k:=by
 constructor
 ·intro h j hj hc
  have:=h j hj hc
  have hne:j ≠ i:=by rintro rfl; exact hc.elim hs hn
  exact ⟨fun hD=>this.1 (.inl hD),fun hl=>(this.2 hl).resolve_right hne⟩
 ·intro h j hj hc
  have:=h j hj hc
  have hne:j ≠ i:=by rintro rfl; exact hc.elim hs hn
  exact ⟨fun hD=>this.1 (hD.resolve_right hne),fun hl => .inl (this.2 hl)⟩
theorem ae2 {D:Nat->Prop} {i:Nat} {b:Nat} (h:b<(S 0).hp.length\/∃ j,j<ops.size/\D j/\(S j).hp.length<=b/\b<(S (j+1)).hp.length) :
 b<(S 0).hp.length\/∃ j,j<ops.size/\(D j\/j=i)/\(S j).hp.length<=b/\b<(S (j+1)).hp.length:=by
 rcases h with h | ⟨j,h1,h2,h3⟩
 ·exact .inl h
 ·exact .inr ⟨j,h1,.inl h2,h3⟩
theorem Fr.chain {ι0 ι:j8} {hp0 hp:Heap} {w0 w w':World} (h:Fr ι0 hp0 w0 w) (ho:Own ι0 hp0 w0 ι hp) (h3:Fr ι hp w w'):Fr ι0 hp0 w0 w':=by
 refine ⟨h3.os.trans h.os,h3.tape.trans h.tape,h3.output.trans h.output,Nat.le_trans h.size h3.size,fun j hj hno=>?_⟩
 rw [<-h.block j hj hno]
 refine h3.block j (Nat.lt_of_lt_of_le hj h.size) fun b x k hb hk hrw he=>?_
 obtain ⟨b0,x0,k0,g1,g2,_,g3,g4⟩:=ho b x k hb hk (by omega)
 exact hno b0 x0 k0 g1 g2 (g3 hrw) (by omega)
theorem amF (F:Fix P X E0 ops S E C G sz ι0) {D:Nat->Prop} (hd:Down ops D) {i:Nat} (hi:i<ops.size) (hni:¬ D i) (hr:∀ e ∈ ops[i].after,Region.binds .any e=true->D e.on) (hc:F6 (C i) .W=false):ClW ops C D i:=by
 intro j hj hcj
 by_cases hji:j=i
 ·subst hji; exact ⟨fun h=>absurd h hni,fun h=>by omega⟩
 ·refine F.order hd hi hni hr hj hji (.inr ?_)
  rw [Nat.min_comm,Nat.max_comm]
  refine ae1 (i:=j) (j:=i) ?_
  rw [acF,hcj]; exact hc
theorem agk (F:Fix P X E0 ops S E C G sz ι0) {D:Nat->Prop} (hd:Down ops D) {i k:Nat} (hi:i<ops.size) (hni:¬ D i) (hr:∀ e ∈ ops[i].after,Region.binds .any e=true->D e.on) (hc:F6 (C i) (.S k)=false) (hc2:F6 (C i) (.N k)=false):ClL ops C D i k:=by
 intro j hj hcj
 by_cases hji:j=i
 ·subst hji; exact ⟨fun h=>absurd h hni,fun h=>by omega⟩
 ·refine F.order hd hi hni hr hj hji (.inr ?_)
  rw [Nat.min_comm,Nat.max_comm]
  refine ae1 (i:=j) (j:=i) ?_
  rcases hcj with hcj | hcj
  ·rw [acF,hcj]; exact hc
  ·rw [acF,hcj]; exact hc2
theorem ah4 (k:Nat):F6 (.S k) (.S k)=false:=by simp [F6,Nat.beq_refl]
theorem arG (k:Nat):F6 (.L k) (.S k)=false:=by simp [F6,Nat.beq_refl]
theorem ain (k:Nat):F6 (.S k) (.N k)=false:=by simp [F6,Nat.beq_refl]
theorem arU (k:Nat):F6 (.L k) (.N k)=false:=by simp [F6,Nat.beq_refl]
theorem arn (k:Nat):F6 (.N k) (.S k)=false:=by simp [F6,Nat.beq_refl]
theorem arB (k:Nat):F6 (.N k) (.N k)=false:=by simp [F6,Nat.beq_refl]
theorem Fix.still (F:Fix P X E0 ops S E C G sz ι0) {D:Nat->Prop} (hd:Down ops D) {ι:j8} {a:Act} {w:World} (I:Inv X E0 ops S C sz ι0 ρ D ι a w) {i:Nat} (hi:i<ops.size) (hni:¬ D i) (hr:∀ e ∈ ops[i].after,Region.binds .any e=true->D e.on)
 (hw:C i ≠ .W) (hs:∀ k,C i ≠ .S k) (hN:∀ k,C i ≠ .N k) (hE:∀ k d,E i = .loc k d->Kn ops S C (fun j=>D j\/j=i) k) {v':Value} (hv:ER (A6 ι (S (i+1)).hp) ρ (E i) v'):Inv X E0 ops S C sz ι0 ρ (fun j=>D j\/j=i) ι (a.put ops[i].dst v') w where
 size:=by rw [T6]; exact I.size
 defers:=by cases hdd:ops[i].dst<;>simp [Act.put,I.defers]
 p7:=I.p7
 B2:=fun b x hb=>ae2 (I.B2 b x hb)
 env:=F.aeE hd I hi hni hr (Sub.refl _) hv
 N4:=F.ab8 hd I hi hni hr hE
 loc:=fun i0 k c h0 hc hl=>I.loc i0 k c h0 ((ac4 (hs k) (hN k)).1 hc) hl
 M6:=I.M6
 rel:=fun i0 h0 hc=>I.rel i0 h0 ((F9 hw).1 hc)
 llt:=fun k hk=>I.llt k (D9 hN hk)
 J9:=fun i0 h0 hc k b x q hk=>I.J9 i0 h0 ((F9 hw).1 hc) k b x q (D9 hN hk)
 G6:=fun k k' hk hk'=>I.G6 k k' (D9 hN hk) (D9 hN hk')
 Y1:=fun k hk=>I.Y1 k (D9 hN hk)
 fr:=I.fr
 own:=fun i0 h0 hc=>I.own i0 h0 ((F9 hw).1 hc)
theorem Fix.av9 (F:Fix P X E0 ops S E C G sz ι0) {D:Nat->Prop} (hd:Down ops D) {ι:j8} {a:Act} {w w':World} (I:Inv X E0 ops S C sz ι0 ρ D ι a w) {i:Nat} (hi:i<ops.size) (hni:¬ D i) (hr:∀ e ∈ ops[i].after,Region.binds .any e=true->D e.on)
 {k:Nat} (hs:C i = .S k) (hE:∀ k d,E i = .loc k d->Kn ops S C (fun j=>D j\/j=i) k) {v':Value} (hv:ER (A6 ι (S (i+1)).hp) ρ (E i) v') {p7 cells:List Value} (hold:look (S i).loc k=some p7) (hnew:look (S (i+1)).loc k=some cells)
 (h1:W6 (A6 ι (S i).hp) cells w' (ρ k)) (e1:w'.os=w.os) (e2:w'.tape=w.tape) (e3:w'.output=w.output) (e4:w'.heap.size=w.heap.size) (e5:∀ j,j ≠ ρ k->w'.heap[j]? = w.heap[j]?) :
 Inv X E0 ops S C sz ι0 ρ (fun j=>D j\/j=i) ι (a.put ops[i].dst v') w':=by
 have hw:C i ≠ .W:=by rw [hs]; intro h; cases h
 have hN:∀ k,C i ≠ .N k:=fun k=>by rw [hs]; intro h; cases h
 have hkn:Kn ops S C D k:=F.known (by omega) (agk F hd hi hni hr (by rw [hs]; exact ah4 k) (by rw [hs]; exact ain k)) hold
 exact {
  size:=by rw [T6]; exact I.size
  defers:=by cases hdd:ops[i].dst<;>simp [Act.put,I.defers]
  p7:=I.p7
  B2:=fun b x hb=>ae2 (I.B2 b x hb)
  env:=F.aeE hd I hi hni hr (Sub.refl _) hv
  loc:=fun i0 k' c h0 hc hl=>by
   by_cases hkk:k'=k
   ·subst hkk
    have hlt:i<i0:=(hc i hi (.inl hs)).1 (.inr rfl)
    have hsame:look (S i0).loc k'=look (S (i+1)).loc k':=F.aia (by omega) h0 fun l hl1 hl2 hcl=>by
     have hDl:D l:=((hc l (by omega) hcl).2 hl2).resolve_right (by omega)
     have:=agk F hd hi hni hr (k:=k') (by rw [hs]; exact ah4 k') (by rw [hs]; exact ain k') l (by omega) hcl
     have:=this.1 hDl; omega
    rw [hsame,hnew] at hl; cases hl
    exact h1.mono (abv (F.len (by omega) h0))
   ·have hcd:=(ac4 (by rw [hs]; intro h; cases h; exact hkk rfl) (hN k')).1 hc
    exact (I.loc i0 k' c h0 hcd hl).keep (e5 _ fun he=>hkk (I.G6 k' k (F.known h0 hcd hl) hkn he))
  M6:=I.M6
  rel:=fun i0 h0 hc=>(I.rel i0 h0 ((F9 hw).1 hc)).keep (by omega) fun b x q hb hq=>e5 _ (I.J9 i0 h0 ((F9 hw).1 hc) k b x q hkn hb hq)
  llt:=fun k h=>by rw [e4]; exact I.llt k (D9 hN h)
  J9:=fun i0 h0 hc k b x q hk=>I.J9 i0 h0 ((F9 hw).1 hc) k b x q (D9 hN hk)
  G6:=fun k k' hk hk'=>I.G6 k k' (D9 hN hk) (D9 hN hk')
  Y1:=fun k hk=>I.Y1 k (D9 hN hk)
  N4:=F.ab8 hd I hi hni hr hE
  fr:=⟨e1.trans I.fr.os,e2.trans I.fr.tape,e3.trans I.fr.output,by have:=I.fr.size; omega,fun j hj hno=>by rw [e5 j (by have:=I.Y1 k hkn; omega)]; exact I.fr.block j hj hno⟩
  own:=fun i0 h0 hc=>I.own i0 h0 ((F9 hw).1 hc) }
theorem F5.back {ι ι':j8} (hs:Sub ι ι') {cells:List Value} {cs cs':Array Value} {off:Nat} (h:F5 ι cells cs off) (h':F5 ι' cells cs' off):F5 ι cells cs' off:=fun j v e=>by
 obtain ⟨g1,x,g2,g3⟩:=h j v e
 obtain ⟨_,y,f2,f3⟩:=h' j v e
 exact ⟨g1,y,f2,g3.back hs f3⟩
theorem S5.mono {ι ι':j8} (hs:Sub ι ι') {x:Img} {k:j4} {w:World} {B:Nat} (h:S5 ι x k w B):S5 ι' x k w B:=by
 obtain ⟨cs,el,fr,h1,h2,h3,h4,h5⟩:=h
 exact ⟨cs,el,fr,h1,h2,h3,h4.mono hs,h5⟩
theorem S5.back {ι ι':j8} (hs:Sub ι ι') {x:Img} {k:j4} {w w':World} {B:Nat} (h:S5 ι x k w B) (h':S5 ι' x k w' B):S5 ι x k w' B:=by
 obtain ⟨cs,el,fr,h1,h2,h3,h4,h5⟩:=h
 obtain ⟨cs',el',fr',g1,g2,g3,g4,g5⟩:=h'
 exact ⟨cs',el',fr',g1,g2,g3,h4.back hs g4,g5⟩
theorem S5.keep {ι:j8} {x:Img} {k:j4} {w w':World} {B:Nat} (h:S5 ι x k w B) (e:w'.heap[x.w5]? = w.heap[x.w5]?):S5 ι x k w' B:=by
 obtain ⟨cs,el,fr,h1,h2⟩:=h
 exact ⟨cs,el,fr,by rw [e]; exact h1,h2⟩
theorem S5.lt {ι:j8} {x:Img} {k:j4} {w:World} {B:Nat} (h:S5 ι x k w B):x.w5<w.heap.size:=by
 obtain ⟨cs,el,fr,h1,h2⟩:=h
 exact (Array.getElem?_eq_some_iff.1 h1).1
def D2 (ι ι1:j8) (n m:Nat):j8:=fun b=>if n<=b/\b<m then ι1 b else ι b
theorem Fix.fresh (F:Fix P X E0 ops S E C G sz ι0) {D:Nat->Prop} {ι:j8} {a:Act} {w:World} (I:Inv X E0 ops S C sz ι0 ρ D ι a w) {i:Nat} (hi:i<ops.size) (hni:¬ D i) {b:Nat} (h1:(S i).hp.length<=b) (h2:b<(S (i+1)).hp.length):ι b=none:=by
 cases hb:ι b with
 | none=>rfl
 | some x =>
   exfalso
   have h0:=F.len (Nat.zero_le i) (by omega)
   rcases I.B2 b x hb with h | ⟨j,hj,hD,g1,g2⟩
   ·omega
   ·rcases Nat.lt_trichotomy j i with h | h | h
    ·have:=F.len (show j+1<=i by omega) (by omega); omega
    ·subst h; exact hni hD
    ·have:=F.len (show i+1<=j by omega) (by omega); omega
theorem Fix.anr (F:Fix P X E0 ops S E C G sz ι0) {D:Nat->Prop} {ι:j8} {a:Act} {w:World} (I:Inv X E0 ops S C sz ι0 ρ D ι a w) {i:Nat} (hi:i<ops.size) (hni:¬ D i) (ι1:j8):Sub ι (D2 ι ι1 (S i).hp.length (S (i+1)).hp.length):=fun b x hb=>by
 unfold D2
 by_cases h:(S i).hp.length<=b/\b<(S (i+1)).hp.length
 ·rw [F.fresh I hi hni h.1 h.2] at hb; cases hb
 ·rw [if_neg h]; exact hb
theorem Fix.anH (F:Fix P X E0 ops S E C G sz ι0) {i:Nat} (hi:i<ops.size) {ι ι1:j8} (h1:U3 (S i).hp.length (A6 ι (S i).hp) ι1) (h2:∀ b x,ι1 b=some x->b<(S (i+1)).hp.length):A6 (D2 ι ι1 (S i).hp.length (S (i+1)).hp.length) (S (i+1)).hp=ι1:=by
 funext b
 have hl:=F.len (show i<=i+1 by omega) (by omega)
 unfold A6 D2
 by_cases hb:b<(S (i+1)).hp.length
 ·rw [if_pos hb]
  by_cases hb2:(S i).hp.length<=b
  ·rw [if_pos ⟨hb2,hb⟩]
  ·rw [if_neg (by omega),h1 b (by omega)]
   unfold A6
   rw [if_pos (by omega)]
 ·rw [if_neg hb]
  cases he:ι1 b with
  | none=>rfl
  | some x=>exact absurd (h2 b x he) hb
theorem Fix.aiS (F:Fix P X E0 ops S E C G sz ι0) {D:Nat->Prop} {ι:j8} {a:Act} {w:World} (I:Inv X E0 ops S C sz ι0 ρ D ι a w) {i:Nat} (hi:i<ops.size) {ι1:j8} (h1:ah8 ι1 (S (i+1)).hp) :
 ∀ i0,i0<=ops.size->ah8 (A6 (D2 ι ι1 (S i).hp.length (S (i+1)).hp.length) (S i0).hp) (S i0).hp:=by
 intro i0 h0 b x k hb hk
 obtain ⟨hb1,hb2⟩:=l8.1 hb
 unfold D2 at hb2
 by_cases h:(S i).hp.length<=b/\b<(S (i+1)).hp.length
 ·rw [if_pos h] at hb2
  have hle:i+1<=i0:=by
   rcases Nat.lt_or_ge i i0 with hh | hh
   ·omega
   ·have:=F.len hh (by omega); omega
  obtain ⟨k',g1,g2⟩:=F.mono (i+1) i0 hle h0 b _ (List.getElem?_eq_getElem h.2)
  rw [hk] at g1; cases g1
  rw [g2]
  exact h1 b x _ hb2 (List.getElem?_eq_getElem h.2)
 ·rw [if_neg h] at hb2
  exact I.M6 i0 h0 b x k (l8.2 ⟨hb1,hb2⟩) hk
theorem Fix.gl (F:Fix P X E0 ops S E C G sz ι0) {ι:j8} (h:∀ b,b<(S 0).hp.length->ι b=ι0 b) {i:Nat} (hi:i<=ops.size):GOk X.ng (A6 ι (S i).hp):=fun g hg=>by
 obtain ⟨x,h1,h2⟩:=F.D0 g hg
 have hdm:=F.arH g x h1
 exact ⟨x,l8.2 ⟨Nat.lt_of_lt_of_le hdm (F.len (Nat.zero_le _) hi),by rw [h g hdm]; exact h1⟩,h2⟩
theorem Fix.agB (F:Fix P X E0 ops S E C G sz ι0) {ι ι1:j8} {i:Nat} (hi:i<ops.size) (h:∀ b,b<(S 0).hp.length->ι b=ι0 b):∀ b,b<(S 0).hp.length->D2 ι ι1 (S i).hp.length (S (i+1)).hp.length b=ι0 b:=fun b hb=>by
 have:=F.len (Nat.zero_le i) (by omega)
 unfold D2
 rw [if_neg (by omega)]; exact h b hb
theorem Fix.an4 (F:Fix P X E0 ops S E C G sz ι0) {D:Nat->Prop} {ι ι1:j8} {a:Act} {w:World} (I:Inv X E0 ops S C sz ι0 ρ D ι a w) {i:Nat} (hi:i<ops.size):∀ b x,D2 ι ι1 (S i).hp.length (S (i+1)).hp.length b=some x →
 b<(S 0).hp.length\/∃ j,j<ops.size/\(D j\/j=i)/\(S j).hp.length<=b/\b<(S (j+1)).hp.length:=fun b x hb=>by
 unfold D2 at hb
 by_cases h:(S i).hp.length<=b/\b<(S (i+1)).hp.length
 ·exact .inr ⟨i,hi,.inr rfl,h⟩
 ·rw [if_neg h] at hb; exact ae2 (I.B2 b x hb)
theorem Fix.atQ (F:Fix P X E0 ops S E C G sz ι0) {D:Nat->Prop} (hd:Down ops D) {ι:j8} {a:Act} {w w':World} (I:Inv X E0 ops S C sz ι0 ρ D ι a w) {i:Nat} (hi:i<ops.size) (hni:¬ D i) (hr:∀ e ∈ ops[i].after,Region.binds .any e=true->D e.on)
 (hw:C i ≠ .W) (hs:∀ k,C i ≠ .S k) (hN:∀ k,C i ≠ .N k) (hE:∀ k d,E i = .loc k d->Kn ops S C (fun j=>D j\/j=i) k) (hcw:ClW ops C D i) {ι1:j8} {v':Value} (h1:U3 (S i).hp.length (A6 ι (S i).hp) ι1) (h2:∀ b x k,(S i).hp.length<=b->ι1 b=some x->j7 (S (i+1)).hp b=some k->w.heap.size<=x.w5)
 (h3:Rel X.ng ι1 (S (i+1)).hp w' E0.B) (h4:Fr (A6 ι (S i).hp) (S i).hp w w') (hv:ER ι1 ρ (E i) v') :
 Inv X E0 ops S C sz ι0 ρ (fun j=>D j\/j=i) (D2 ι ι1 (S i).hp.length (S (i+1)).hp.length) (a.put ops[i].dst v') w':=by
 have hsub:=F.anr I hi hni ι1
 have hcut:=F.anH hi h1 h3.B2
 have hcw':ClW ops C D (i+1):=fun j hj hc=>by
  have:=hcw j hj hc
  have hne:j ≠ i:=by rintro rfl; exact hw hc
  rw [this]; omega
 have hsubc:∀ i0,Sub (A6 ι (S i0).hp) (A6 (D2 ι ι1 (S i).hp.length (S (i+1)).hp.length) (S i0).hp):=fun i0 b x hb=>by
  obtain ⟨g1,g2⟩:=l8.1 hb
  exact l8.2 ⟨g1,hsub _ _ g2⟩
 have hll:=F.len (show i<=i+1 by omega) (by omega)
 exact {
  size:=by rw [T6]; exact I.size
  defers:=by cases hdd:ops[i].dst<;>simp [Act.put,I.defers]
  p7:=F.agB hi I.p7
  B2:=F.an4 I hi
  env:=F.aeE hd I hi hni hr hsub (by rw [hcut]; exact hv)
  loc:=fun i0 k c h0 hc hl=>by
   have hcd:=(ac4 (hs k) (hN k)).1 hc
   have hL:=I.loc i0 k c h0 hcd hl
   exact (hL.mono (hsubc i0)).keep (h4.block _ hL.lt fun b x q hb hq _=>I.J9 i (by omega) hcw k b x q (F.known h0 hcd hl) hb hq)
  N4:=F.ab8 hd I hi hni hr hE
  M6:=F.aiS I hi h3.M6
  rel:=fun i0 h0 hc=>by
   have hc0:=(F9 hw).1 hc
   have R0:=I.rel i0 h0 hc0
   refine ⟨F.gl (F.agB hi I.p7) h0,F.aiS I hi h3.M6 i0 h0,fun b x hb=>(l8.1 hb).1,Nat.le_trans R0.base h4.size,fun b x k hb hk=>?_,fun b x k b' x' k' hb hk hrw hb' hk' he=>?_⟩
   ·obtain ⟨g1,g2⟩:=l8.1 hb
    by_cases hlt:b<(S (i+1)).hp.length
    ·have hb1:ι1 b=some x:=by rw [<-hcut]; exact l8.2 ⟨hlt,g2⟩
     have hbk:j7 (S (i+1)).hp b=some k:=by rw [<-hk]; exact F.w5 hcw' hc0 (by omega) h0 hlt g1
     have B1:=h3.ok b x k hb1 hbk
     rcases Nat.lt_or_ge i i0 with hh | hh
     ·have:Sub ι1 (A6 (D2 ι ι1 (S i).hp.length (S (i+1)).hp.length) (S i0).hp):=by
       have:=abv (ι:=D2 ι ι1 (S i).hp.length (S (i+1)).hp.length) (F.len (show i+1<=i0 by omega) h0)
       rwa [hcut] at this
      exact B1.mono this
     ·have hlb:b<(S i).hp.length:=Nat.lt_of_lt_of_le g1 (F.len hh (by omega))
      have hb0:ι b=some x:=by unfold D2 at g2; rwa [if_neg (by omega)] at g2
      have B0:=R0.ok b x k (l8.2 ⟨g1,hb0⟩) hk
      refine (B0.back ?_ B1).mono (hsubc i0)
      have:=(hsubc i0).trans (abv (ι:=D2 ι ι1 (S i).hp.length (S (i+1)).hp.length) (F.len (show i0<=i+1 by omega) (by omega)))
      rwa [hcut] at this
    ·have hb0:ι b=some x:=by unfold D2 at g2; rwa [if_neg (by omega)] at g2
     have B0:=R0.ok b x k (l8.2 ⟨g1,hb0⟩) hk
     refine (B0.mono (hsubc i0)).keep (h4.block _ B0.lt fun b1 x1 k1 f1 f2 f3 f4=>?_)
     obtain ⟨f5,f6⟩:=l8.1 f1
     have hbk:j7 (S i0).hp b1=some k1:=by rw [<-f2]; exact F.w5 hc0 hcw h0 (by omega) (by omega) f5
     rcases R0.sep b1 x1 k1 b x k (l8.2 ⟨by omega,f6⟩) hbk f3 (l8.2 ⟨g1,hb0⟩) hk f4 with h | ⟨h,_⟩<;>omega
   ·obtain ⟨g1,g2⟩:=l8.1 hb
    obtain ⟨f1,f2⟩:=l8.1 hb'
    have hone:∀ b x k,b<(S i0).hp.length->D2 ι ι1 (S i).hp.length (S (i+1)).hp.length b=some x->j7 (S i0).hp b=some k →
     (((S i).hp.length<=b/\b<(S (i+1)).hp.length)/\ι1 b=some x/\j7 (S (i+1)).hp b=some k/\w.heap.size<=x.w5)\/(A6 ι (S i0).hp b=some x/\x.w5<w.heap.size):=by
     intro b x k g1 g2 g3
     by_cases h:(S i).hp.length<=b/\b<(S (i+1)).hp.length
     ·have hb1:ι1 b=some x:=by unfold D2 at g2; rwa [if_pos h] at g2
      have hbk:j7 (S (i+1)).hp b=some k:=by rw [<-g3]; exact F.w5 hcw' hc0 (by omega) h0 h.2 g1
      exact .inl ⟨h,hb1,hbk,h2 b x k h.1 hb1 hbk⟩
     ·have hb0:ι b=some x:=by unfold D2 at g2; rwa [if_neg h] at g2
      have hb0':=l8.2 ⟨g1,hb0⟩
      exact .inr ⟨hb0',(R0.ok b x k hb0' g3).lt⟩
    rcases hone b x k g1 g2 hk with ⟨m1,m2,m3,m4⟩ | ⟨m1,m2⟩<;>rcases hone b' x' k' f1 f2 hk' with ⟨n1,n2,n3,n4⟩ | ⟨n1,n2⟩
    ·exact h3.sep b x k b' x' k' m2 m3 hrw n2 n3 he
    ·omega
    ·omega
    ·exact R0.sep b x k b' x' k' m1 hk hrw n1 hk' he
  llt:=fun k h=>Nat.lt_of_lt_of_le (I.llt k (D9 hN h)) h4.size
  G6:=fun k k' hk hk'=>I.G6 k k' (D9 hN hk) (D9 hN hk')
  Y1:=fun k hk=>I.Y1 k (D9 hN hk)
  J9:=fun i0 h0 hc k b x q hk' hb hq=>by
   have hk:=D9 hN hk'
   obtain ⟨g1,g2⟩:=l8.1 hb
   by_cases h:(S i).hp.length<=b/\b<(S (i+1)).hp.length
   ·have hb1:ι1 b=some x:=by unfold D2 at g2; rwa [if_pos h] at g2
    have:=h2 b x q h.1 hb1 (by rw [<-hq]; exact F.w5 hcw' ((F9 hw).1 hc) (by omega) h0 h.2 g1)
    have:=I.llt k hk
    omega
   ·have hb0:ι b=some x:=by unfold D2 at g2; rwa [if_neg h] at g2
    exact I.J9 i0 h0 ((F9 hw).1 hc) k b x q hk (l8.2 ⟨g1,hb0⟩) hq
  fr:=I.fr.chain (I.own i (by omega) hcw) h4
  own:=fun i0 h0 hc b x q hb hq hlt=>by
   obtain ⟨g1,g2⟩:=l8.1 hb
   by_cases h:(S i).hp.length<=b/\b<(S (i+1)).hp.length
   ·have hb1:ι1 b=some x:=by unfold D2 at g2; rwa [if_pos h] at g2
    have:=h2 b x q h.1 hb1 (by rw [<-hq]; exact F.w5 hcw' ((F9 hw).1 hc) (by omega) h0 h.2 g1)
    have:=I.fr.size
    omega
   ·have hb0:ι b=some x:=by unfold D2 at g2; rwa [if_neg h] at g2
    exact I.own i0 h0 ((F9 hw).1 hc) b x q (l8.2 ⟨g1,hb0⟩) hq hlt }
theorem Fix.writes (F:Fix P X E0 ops S E C G sz ι0) {D:Nat->Prop} (hd:Down ops D) {ι:j8} {a:Act} {w w':World} (I:Inv X E0 ops S C sz ι0 ρ D ι a w) {i:Nat} (hi:i<ops.size) (hni:¬ D i) (hr:∀ e ∈ ops[i].after,Region.binds .any e=true->D e.on)
 (hw:C i = .W) (hE:∀ k d,E i = .loc k d->Kn ops S C (fun j=>D j\/j=i) k) (hcw:ClW ops C D i) {ι1:j8} {v':Value} (h1:U3 (S i).hp.length (A6 ι (S i).hp) ι1)
 (h3:Rel X.ng ι1 (S (i+1)).hp w' E0.B) (h4:Fr (A6 ι (S i).hp) (S i).hp w w') (h5:Own (A6 ι (S i).hp) (S i).hp w ι1 (S (i+1)).hp) (hv:ER ι1 ρ (E i) v') :
 Inv X E0 ops S C sz ι0 ρ (fun j=>D j\/j=i) (D2 ι ι1 (S i).hp.length (S (i+1)).hp.length) (a.put ops[i].dst v') w':=by
 have hsub:=F.anr I hi hni ι1
 have hcut:=F.anH hi h1 h3.B2
 have hs:∀ k,C i ≠ .S k:=fun k h=>by rw [hw] at h; cases h
 have hN:∀ k,C i ≠ .N k:=fun k h=>by rw [hw] at h; cases h
 have hsubc:∀ i0,Sub (A6 ι (S i0).hp) (A6 (D2 ι ι1 (S i).hp.length (S (i+1)).hp.length) (S i0).hp):=fun i0 b x hb=>by
  obtain ⟨g1,g2⟩:=l8.1 hb
  exact l8.2 ⟨g1,hsub _ _ g2⟩
 have hll:=F.len (show i<=i+1 by omega) (by omega)
 have hdom:∀ b x,ι b=some x->b<(S i).hp.length:=fun b x hb=>by
  rcases I.B2 b x hb with h | ⟨j,hj,hD,g1,g2⟩
  ·exact Nat.lt_of_lt_of_le h (F.len (Nat.zero_le i) (by omega))
  ·have hne:j ≠ i:=by rintro rfl; exact hni hD
   have hlt:j<i:=by
    have hq:F6 (C j) .W=false:=by
     cases hg:G j with
     | false=>rw [(F.run.pass j _ (Nat.zero_le _) hj (G8 hj) hg).2.2.2] at g2; omega
     | true =>
       have hs:=F.run.run j _ (Nat.zero_le _) hj (G8 hj) hg
       generalize C j=c at hs
       cases c with
       | P=>rw [hs.2.1] at g2; omega
       | L k=>rw [hs.2.1] at g2; omega
       | S k=>rw [hs.2.1] at g2; omega
       | N k=>have:=hs.2.2.1; rw [this] at g2; omega
       | H=>rw [hs.2.1] at g2; omega
       | A=>rfl
       | W=>rfl
    refine (F.order hd hi hni hr hj hne (.inr ?_)).1 hD
    rw [Nat.min_comm,Nat.max_comm]
    refine ae1 (i:=j) (j:=i) ?_
    rw [hw]; exact hq
   have:=F.len (show j+1<=i by omega) (by omega); omega
 have hwd:∀ b x,D2 ι ι1 (S i).hp.length (S (i+1)).hp.length b=some x->b<(S (i+1)).hp.length/\ι1 b=some x:=fun b x hb=>by
  have hlt:b<(S (i+1)).hp.length:=by
   unfold D2 at hb
   by_cases h:(S i).hp.length<=b/\b<(S (i+1)).hp.length
   ·exact h.2
   ·rw [if_neg h] at hb; have:=hdom b x hb; omega
  exact ⟨hlt,by rw [<-hcut]; exact l8.2 ⟨hlt,hb⟩⟩
 have hcl:∀ i0,i0<=ops.size->ClW ops C (fun j=>D j\/j=i) i0->i+1<=i0/\∃ new,(S i0).hp=(S (i+1)).hp++new:=fun i0 h0 hc=>by
  have hlt:i<i0:=(hc i hi hw).1 (.inr rfl)
  refine ⟨hlt,F.aiI hlt h0 fun k hk1 hk2 hck=>?_⟩
  have:=((hc k (by omega) hck).2 hk2).resolve_right (by omega)
  have:=(hcw k (by omega) hck).1 this
  omega
 have hbk:∀ i0,i0<=ops.size->ClW ops C (fun j=>D j\/j=i) i0->∀ b,b<(S (i+1)).hp.length->j7 (S i0).hp b=j7 (S (i+1)).hp b:=fun i0 h0 hc b hb=>by
  obtain ⟨_,new,e⟩:=hcl i0 h0 hc
  rw [e,w9 _ hb]
 exact {
  size:=by rw [T6]; exact I.size
  defers:=by cases hdd:ops[i].dst<;>simp [Act.put,I.defers]
  p7:=F.agB hi I.p7
  B2:=F.an4 I hi
  env:=F.aeE hd I hi hni hr hsub (by rw [hcut]; exact hv)
  loc:=fun i0 k c h0 hc hl=>by
   have hcd:=(ac4 (hs k) (hN k)).1 hc
   have hL:=I.loc i0 k c h0 hcd hl
   exact (hL.mono (hsubc i0)).keep (h4.block _ hL.lt fun b x q hb hq _=>I.J9 i (by omega) hcw k b x q (F.known h0 hcd hl) hb hq)
  N4:=F.ab8 hd I hi hni hr hE
  M6:=F.aiS I hi h3.M6
  rel:=fun i0 h0 hc=>by
   obtain ⟨hle,_⟩:=hcl i0 h0 hc
   have hsb:Sub ι1 (A6 (D2 ι ι1 (S i).hp.length (S (i+1)).hp.length) (S i0).hp):=by
    have:=abv (ι:=D2 ι ι1 (S i).hp.length (S (i+1)).hp.length) (F.len hle h0)
    rwa [hcut] at this
   refine ⟨F.gl (F.agB hi I.p7) h0,F.aiS I hi h3.M6 i0 h0,fun b x hb=>(l8.1 hb).1,h3.base,fun b x k hb hk=>?_,fun b x k b' x' k' hb hk hrw hb' hk' he=>?_⟩
   ·obtain ⟨g1,g2⟩:=l8.1 hb
    obtain ⟨m1,m2⟩:=hwd b x g2
    rw [hbk i0 h0 hc b m1] at hk
    exact (h3.ok b x k m2 hk).mono hsb
   ·obtain ⟨m1,m2⟩:=hwd b x (l8.1 hb).2
    obtain ⟨n1,n2⟩:=hwd b' x' (l8.1 hb').2
    rw [hbk i0 h0 hc b m1] at hk
    rw [hbk i0 h0 hc b' n1] at hk'
    exact h3.sep b x k b' x' k' m2 hk hrw n2 hk' he
  llt:=fun k h=>Nat.lt_of_lt_of_le (I.llt k (D9 hN h)) h4.size
  G6:=fun k k' hk hk'=>I.G6 k k' (D9 hN hk) (D9 hN hk')
  Y1:=fun k hk=>I.Y1 k (D9 hN hk)
  J9:=fun i0 h0 hc k b x q hk' hb hq he=>by
   have hk:=D9 hN hk'
   obtain ⟨m1,m2⟩:=hwd b x (l8.1 hb).2
   rw [hbk i0 h0 hc b m1] at hq
   have:=I.llt k hk
   obtain ⟨b0,x0,k0,g1,g2,_,g3,g4⟩:=h5 b x q m2 hq (by omega)
   exact I.J9 i (by omega) hcw k b0 x0 k0 hk g1 g2 (by omega)
  fr:=I.fr.chain (I.own i (by omega) hcw) h4
  own:=fun i0 h0 hc b x q hb hq hlt=>by
   obtain ⟨m1,m2⟩:=hwd b x (l8.1 hb).2
   rw [hbk i0 h0 hc b m1] at hq
   obtain ⟨b1,x1,k1,g1,g2,g5,g3,g4⟩:=h5 b x q m2 hq (Nat.lt_of_lt_of_le hlt I.fr.size)
   obtain ⟨b0,x0,k0,f1,f2,f5,f3,f4⟩:=I.own i (by omega) hcw b1 x1 k1 g1 g2 (by omega)
   refine ⟨b0,x0,k0,f1,f2,?_,fun hrw=>f3 (g3 hrw),by omega⟩
   rcases g5 with rfl | g5
   ·exact f5
   ·exact .inr (f3 g5) }
def aj1 (ρ:Nat->Nat) (k n:Nat):Nat->Nat:=fun q=>if q=k then n else ρ q
theorem Fix.news (F:Fix P X E0 ops S E C G sz ι0) {D:Nat->Prop} (hd:Down ops D) {ι:j8} {a:Act} {w:World} (I:Inv X E0 ops S C sz ι0 ρ D ι a w) {i:Nat} (hi:i<ops.size) (hni:¬ D i) (hr:∀ e ∈ ops[i].after,Region.binds .any e=true->D e.on)
 {k:Nat} (hs:C i = .N k) {cells:List Value} (hEi:E i = .loc k 0) (hnew:look (S (i+1)).loc k=some cells) {obj:Obj} (h1:W6 (A6 ι (S i).hp) cells (w.alloc obj) w.heap.size) :
 Inv X E0 ops S C sz ι0 (aj1 ρ k w.heap.size) (fun j=>D j\/j=i) ι (a.put ops[i].dst (.pointer (some ⟨w.heap.size,0,none⟩))) (w.alloc obj):=by
 have hw:C i ≠ .W:=by rw [hs]; intro h; cases h
 have hS:∀ k',C i ≠ .S k':=fun k'=>by rw [hs]; intro h; cases h
 obtain ⟨hk0,huni⟩:=F.ajX i k hi hs
 have hnk:¬ Kn ops S C D k:=by
  rintro (h | ⟨j,g1,g2,g3⟩)
  ·rw [hk0] at h; cases h
  ·have:=huni j g1 g2; subst this; exact hni g3
 have hρ:∀ q,Kn ops S C D q->aj1 ρ k w.heap.size q=ρ q:=fun q hq=>by
  unfold aj1
  rw [if_neg]
  rintro rfl
  exact hnk hq
 have hρk:aj1 ρ k w.heap.size k=w.heap.size:=by unfold aj1; rw [if_pos rfl]
 have hkn:∀ q,Kn ops S C (fun j=>D j\/j=i) q->q=k\/(q ≠ k/\Kn ops S C D q):=fun q hq=>by
  by_cases hqk:q=k
  ·exact .inl hqk
  ·refine .inr ⟨hqk,?_⟩
   rcases hq with hq | ⟨j,g1,g2,g3⟩
   ·exact .inl hq
   ·refine .inr ⟨j,g1,g2,g3.resolve_right ?_⟩
    rintro rfl
    rw [hs] at g2; cases g2; exact hqk rfl
 have hold:∀ j,j<w.heap.size->(w.alloc obj).heap[j]? = w.heap[j]?:=fun j hj=>by
  show (w.heap.push obj)[j]? = _
  rw [Array.getElem?_push,if_neg (by omega)]
 have hsz:(w.alloc obj).heap.size=w.heap.size+1:=by show (w.heap.push obj).size=_; simp
 exact {
  size:=by rw [T6]; exact I.size
  defers:=by cases hdd:ops[i].dst<;>simp [Act.put,I.defers]
  p7:=I.p7
  B2:=fun b x hb=>ae2 (I.B2 b x hb)
  env:=F.akC hd I hi hni hr (Sub.refl _) hρ (by
   have h:=ER.loc (ι:=A6 ι (S (i+1)).hp) (ρ:=aj1 ρ k w.heap.size) k 0
   rw [hρk] at h
   rw [hEi]; exact h)
  N4:=F.ab8 hd I hi hni hr fun q d hq=>by rw [hEi] at hq; cases hq; exact .inr ⟨i,hi,hs,.inr rfl⟩
  loc:=fun i0 k' c h0 hc hl=>by
   by_cases hkk:k'=k
   ·subst hkk
    have hlt:i<i0:=(hc i hi (.inr hs)).1 (.inr rfl)
    have hsame:look (S i0).loc k'=look (S (i+1)).loc k':=F.aia (by omega) h0 fun l hl1 hl2 hcl=>by
     have hDl:D l:=((hc l (by omega) hcl).2 hl2).resolve_right (by omega)
     have:=agk F hd hi hni hr (k:=k') (by rw [hs]; exact arn k') (by rw [hs]; exact arB k') l (by omega) hcl
     have:=this.1 hDl; omega
    rw [hsame,hnew] at hl; cases hl
    rw [hρk]
    exact h1.mono (abv (F.len (by omega) h0))
   ·have hcd:=(ac4 (hS k') (by rw [hs]; intro h; cases h; exact hkk rfl)).1 hc
    have hL:=I.loc i0 k' c h0 hcd hl
    rw [hρ k' (F.known h0 hcd hl)]
    exact hL.keep (hold _ hL.lt)
  M6:=I.M6
  rel:=fun i0 h0 hc=>by
   have R0:=I.rel i0 h0 ((F9 hw).1 hc)
   exact R0.keep (by omega) fun b x q hb hq=>hold _ (R0.ok b x q hb hq).lt
  llt:=fun q hq=>by
   rcases hkn q hq with rfl | ⟨_,h⟩
   ·rw [hρk]; omega
   ·rw [hρ q h]; have:=I.llt q h; omega
  J9:=fun i0 h0 hc q b x y hq hb hy=>by
   have hc0:=(F9 hw).1 hc
   rcases hkn q hq with rfl | ⟨_,h⟩
   ·rw [hρk]; have:=((I.rel i0 h0 hc0).ok b x y hb hy).lt; omega
   ·rw [hρ q h]; exact I.J9 i0 h0 hc0 q b x y h hb hy
  G6:=fun q q' hq hq' he=>by
   rcases hkn q hq with rfl | ⟨_,h⟩<;>rcases hkn q' hq' with rfl | ⟨_,h'⟩
   ·rfl
   ·rw [hρk,hρ q' h'] at he; have:=I.llt q' h'; omega
   ·rw [hρk,hρ q h] at he; have:=I.llt q h; omega
   ·rw [hρ q h,hρ q' h'] at he; exact I.G6 q q' h h' he
  Y1:=fun q hq=>by
   rcases hkn q hq with rfl | ⟨_,h⟩
   ·rw [hρk]; exact I.fr.size
   ·rw [hρ q h]; exact I.Y1 q h
  fr:=⟨I.fr.os,I.fr.tape,I.fr.output,by have:=I.fr.size; omega,fun j hj hno=>by rw [hold j (by have:=I.fr.size; omega)]; exact I.fr.block j hj hno⟩
  own:=fun i0 h0 hc=>I.own i0 h0 ((F9 hw).1 hc) }
end
end Go.AM

/- A region that draws its order, joined: every order comes to the text's end. -/
namespace Go.AM
set_option linter.unusedSimpArgs false
set_option linter.unusedVariables false
section
variable {P:Program} {X:Ctx} {E0:Entry} {ops:Array Oper} {S:Nat->St} {E:Nat->EV} {C:Nat->A8} {G:Nat->Bool} {sz:Nat} {ι0:j8} {ρ:Nat->Nat}
theorem Fix.ata (F:Fix P X E0 ops S E C G sz ι0) {D:Nat->Prop} {ι:j8} {a:Act} {w:World} (I:Inv X E0 ops S C sz ι0 ρ D ι a w) {i:Nat} (hi:i<ops.size) (hcl:∀ t ∈ ops[i].looksAt ops,ClE ops D i t) :
 Region.wanted ops[i] (yielded ops a.tmps)=G i:=by
 have hg:=F.run.guard i _ (Nat.zero_le _) hi (G8 hi)
 cases hgd:ops[i].guard with
 | none=>rw [hgd] at hg; simp [Region.wanted,hgd,hg]
 | some p =>
   obtain ⟨j,want⟩:=p
   rw [hgd] at hg
   obtain ⟨d,hd,hc⟩:=hg
   have hm:d ∈ ops[i].looksAt ops:=by
    unfold Oper.looksAt
    refine List.mem_append_right _ ?_
    rw [hgd]
    unfold acC at hd
    simp [hd]
   have hev:=fun e he=>I.env i d e (by omega) (hcl d hm) he
   rcases hc with ⟨b,h1,h2⟩ | ⟨h1,h2⟩
   ·have:=hev _ h1
    have hb:a.eval (.tmp d) = .bool b:=by
     generalize a.eval (.tmp d)=q at *
     cases this with | val h=>cases h; rfl
    simp [Region.wanted,hgd,acp hd,hb,agf,h2]
   ·have:=hev _ h1
    have hu:a.eval (.tmp d)=undef:=by generalize a.eval (.tmp d)=q at *; cases this; rfl
    simp [Region.wanted,hgd,acp hd,hu,undef,agf,h2]
theorem Fix.next (F:Fix P X E0 ops S E C G sz ι0) {D:Nat->Prop} (hd:Down ops D) {ι:j8} {a:Act} {w:World} (I:Inv X E0 ops S C sz ι0 ρ D ι a w) {i:Nat} (hi:i<ops.size) (hni:¬ D i) (hr:∀ e ∈ ops[i].after,Region.binds .any e=true->D e.on)
 {K:Act->World->Prop} {Q:Exit->Act->World->Prop} (hK:∀ ρ' ι' a' w',Inv X E0 ops S C sz ι0 ρ' (fun j=>D j\/j=i) ι' a' w'->K a' w'):wpOp P ops Q i K a w:=by
 obtain ⟨hcl,hop⟩:=F.operands hd I hi hni hr
 have hgd:=F.ata I hi hcl
 unfold wpOp
 rw [G8 hi]
 simp only
 rw [hgd]
 cases hg:G i with
 | false =>
   simp only [Bool.false_eq_true,if_false]
   obtain ⟨e1,e2,e3,e4⟩:=F.run.pass i _ (Nat.zero_le _) hi (G8 hi) hg
   exact hK ρ ι _ w (F.still hd I hi hni hr (by rw [e2]; intro h; cases h) (fun k=>by rw [e2]; intro h; cases h) (fun k=>by rw [e2]; intro h; cases h) (fun k d h=>by rw [e1] at h; cases h) (by rw [e1]; exact .B4))
 | true =>
   simp only [if_true]
   refine .inl ?_
   have hs:=F.run.run i _ (Nat.zero_le _) hi (G8 hi) hg
   generalize hc:C i=c at hs
   have hnw:∀ {c'},C i=c'->c' ≠ .W->C i ≠ .W:=fun h h'=>by rw [h]; exact h'
   cases c with
   | P =>
     obtain ⟨e1,e2,e3,hrun⟩:=hs
     obtain ⟨v',h1,h2⟩:=hrun _ ρ a w hop
     refine G0 h1 (hK ρ ι _ w (F.still hd I hi hni hr (by rw [hc]; intro h; cases h) (fun k=>by rw [hc]; intro h; cases h) (fun k=>by rw [hc]; intro h; cases h) (fun k d h=>?_) ?_))
     ·obtain ⟨t,d',g1,g2⟩:=e3 k d h
      refine (I.N4 i t k d' (by omega) (hcl t ?_) g1).mono fun j h => .inl h
      unfold Oper.looksAt
      exact List.mem_append_left _ (List.mem_filterMap.2 ⟨.tmp t,by simpa using g2,rfl⟩)
     ·rw [e2]; exact h2
   | L k =>
     obtain ⟨e1,e2,v,cells,e3,hk,hrun⟩:=hs
     obtain ⟨v',h1,h2⟩:=hrun _ ρ a w hop (I.loc i k cells (by omega) (agk F hd hi hni hr (by rw [hc]; exact arG k) (by rw [hc]; exact arU k)) hk)
     refine G0 h1 (hK ρ ι _ w (F.still hd I hi hni hr (by rw [hc]; intro h; cases h) (fun k=>by rw [hc]; intro h; cases h) (fun k=>by rw [hc]; intro h; cases h) (fun k d h=>by rw [e3] at h; cases h) ?_))
     rw [e2,e3]; exact .val h2
   | S k =>
     obtain ⟨e1,e2,p7,cells,hk,e3,e4,hrun⟩:=hs
     obtain ⟨w',h1,h2,f1,f2,f3,f4,f5⟩:=hrun _ ρ a w hop (I.loc i k p7 (by omega) (agk F hd hi hni hr (by rw [hc]; exact ah4 k) (by rw [hc]; exact ain k)) hk)
     refine aeI h1 (hK ρ ι _ w' (F.av9 hd I hi hni hr hc (fun k d h=>by rw [e1] at h; cases h) ?_ hk (cells:=cells) ?_ h2 f1 f2 f3 f4 f5))
     ·rw [e1]; exact .B4
     ·rw [e3,O8,if_pos rfl,hk]; rfl
   | N k =>
     obtain ⟨e1,e2,e3,e4,cells,e5,hrun⟩:=hs
     obtain ⟨obj,h1,h2⟩:=hrun _ ρ a w hop
     exact G0 h1 (hK _ ι _ _ (F.news hd I hi hni hr hc e1 (by rw [e5,j3,if_pos rfl]) h2))
   | H =>
     obtain ⟨e1,e2,v,e3,hrun⟩:=hs
     have hcw:=amF F hd hi hni hr (by rw [hc]; rfl)
     have hRi:=I.rel i (by omega) hcw
     refine hrun _ ρ a w E0.B K Q hop hRi fun v' w' h1 h2 h3=>hK ρ _ _ w' (F.atQ hd I hi hni hr (by rw [hc]; intro h; cases h) (fun k=>by rw [hc]; intro h; cases h) (fun k=>by rw [hc]; intro h; cases h) (fun k d h=>by rw [e3] at h; cases h) hcw (ι1:=A6 ι (S i).hp) (fun _ _=>rfl) (fun b x _ hb hx _=>?_) ?_ h2 ?_)
     ·have:=(l8.1 hx).1; omega
     ·rw [e2]; exact h1
     ·rw [e3]; exact .val h3
   | A =>
     obtain ⟨e1,⟨new,e2⟩,v,e3,hrun⟩:=hs
     have hcw:=amF F hd hi hni hr (by rw [hc]; rfl)
     exact hrun _ ρ a w E0.B K Q hop (I.rel i (by omega) hcw) fun ι1 v' w' h1 h2 h3 h4 h5=>hK ρ _ _ w' (F.atQ hd I hi hni hr (by rw [hc]; intro h; cases h) (fun k=>by rw [hc]; intro h; cases h) (fun k=>by rw [hc]; intro h; cases h) (fun k d h=>by rw [e3] at h; cases h) hcw h1 h2 h3 h4 (by rw [e3]; exact .val h5))
   | W =>
     obtain ⟨e1,e2,e3,hrun⟩:=hs
     have hcw:=amF F hd hi hni hr (by rw [hc]; rfl)
     exact hrun _ ρ a w E0.B K Q hop (I.rel i (by omega) hcw) fun ι1 v' w' h1 h2 h3 h4 h5=>hK ρ _ _ w' (F.writes hd I hi hni hr hc (fun k d h=>absurd h (e3 k d)) hcw h1 h2 h3 h4 h5)
def left (n:Nat) (listed:Array Bool):Nat:=(List.range n).countP fun j => !listed.getD j false
theorem arD {n i:Nat} {listed:Array Bool} (hi:i<n) (hn:listed.getD i false=false) (hs:i<listed.size):left n (listed.setIfInBounds i true)<left n listed:=by
 unfold left
 have h1:∀ j,listed.getD j false=true->(listed.setIfInBounds i true).getD j false=true:=fun j h=>getD_set_true h
 have h2:(listed.setIfInBounds i true).getD i false=true:=by simp [hs]
 generalize (listed.setIfInBounds i true)=l2 at *
 have hm:i ∈ List.range n:=List.mem_range.2 hi
 generalize List.range n=l at *
 induction l with
 | nil=>cases hm
 | cons j l ih =>
   rw [List.countP_cons,List.countP_cons]
   have hle:∀ l:List Nat,l.countP (fun j => !l2.getD j false)<=l.countP (fun j => !listed.getD j false):=fun l=>List.countP_mono_left fun j _ h=>by
    cases hj:listed.getD j false with
    | false=>rfl
    | true=>rw [h1 j hj] at h; cases h
   rcases List.mem_cons.1 hm with rfl | hm
   ·rw [hn,h2]
    have:=hle l
    simp only [Bool.not_true,Bool.not_false,if_true,Bool.false_eq_true,if_false]
    omega
   ·have:=ih hm
    cases hj:listed.getD j false with
    | true=>rw [h1 j hj]; omega
    | false=>cases l2.getD j false<;>simp only [Bool.not_true,Bool.not_false,if_true,Bool.false_eq_true,if_false]<;>omega
theorem aok {ops:Array Oper} {listed:Array Bool} (he:aaL ops=true) (hs:listed.size=ops.size) (hr:Region.ready .any ops listed=[]):∀ j,j<ops.size->listed.getD j false=true:=by
 intro j
 induction j using Nat.strongRecOn with
 | _ j ih =>
   intro hj
   cases hl:listed.getD j false with
   | true=>rfl
   | false =>
     exfalso
     have:j ∈ Region.ready .any ops listed:=by
      rw [mem_ready]
      refine ⟨?_,ops[j],G8 hj,fun e hem hb=>?_⟩
      ·have:j<listed.size:=by omega
       simp [this] at hl ⊢; exact hl
      ·have:=ae5 he (G8 hj) hem hb
       exact ih e.on this (by omega)
     rw [hr] at this; cases this
theorem aqo {n:Nat} {listed:Array Bool} (h:left n listed=0):∀ j,j<n->listed.getD j false=true:=fun j hj=>by
 unfold left at h
 rw [List.countP_eq_zero] at h
 have:=h j (List.mem_range.2 hj)
 simpa using this
theorem apN {ops:Array Oper} {listed:Array Bool} (hs:listed.size=ops.size) (h:∀ j,j<ops.size->listed.getD j false=true):Region.ready .any ops listed=[]:=by
 rw [List.eq_nil_iff_forall_not_mem]
 intro j hj
 rw [mem_ready] at hj
 obtain ⟨h1,o,ho,_⟩:=hj
 have hlt:=(Array.getElem?_eq_some_iff.1 ho).1
 have h2:=h j hlt
 have:j<listed.size:=by omega
 simp [this] at h1 h2
 rw [h1] at h2; cases h2
theorem Fix.any (F:Fix P X E0 ops S E C G sz ι0) {Q:Exit->Act->World->Prop} (hQ:∀ ρ ι a w D,(∀ j,j<ops.size->D j)->Inv X E0 ops S C sz ι0 ρ D ι a w->Q .normal a w) :
 ∀ (fuel:Nat) (listed:Array Bool) (ρ:Nat->Nat) (ι:j8) (a:Act) (w:World),listed.size=ops.size->Down ops (fun j=>listed.getD j false=true)->Inv X E0 ops S C sz ι0 ρ (fun j=>listed.getD j false=true) ι a w->left ops.size listed<=fuel->wpAny P .any ops Q fuel listed a w
 | 0,listed,ρ,ι,a,w,hs,hd,I,hf=>by
   have hall:=aqo (Nat.le_zero.1 hf)
   exact ⟨apN hs hall,hQ ρ ι a w _ hall I⟩
 | fuel+1,listed,ρ,ι,a,w,hs,hd,I,hf=>by
   refine ⟨fun hr=>hQ ρ ι a w _ (aok F.alf hs hr) I,fun i hi=>?_⟩
   rw [mem_ready] at hi
   obtain ⟨h1,o,ho,hr⟩:=hi
   obtain ⟨hlt,rfl⟩:=Array.getElem?_eq_some_iff.1 ho
   have hls:i<listed.size:=by omega
   have h1':listed.getD i false=false:=by simp [hls] at h1 ⊢; exact h1
   refine F.next hd I hlt (by rw [h1']; intro h; cases h) hr fun ρ' ι' a' w' I'=>?_
   have hD:(fun j=>listed.getD j false=true\/j=i)=fun j=>(listed.setIfInBounds i true).getD j false=true:=by
    funext j
    apply propext
    by_cases hji:j=i
    ·subst hji; simp [hls]
    ·rw [getD_set_ne false (Ne.symm hji)]; simp [hji]
   rw [hD] at I'
   refine F.any hQ fuel _ ρ' ι' a' w' (by simp [hs]) ?_ I' (by have:=arD hlt h1' hls; omega)
   intro j o hj hDj e hem hb
   have hDj:listed.getD j false=true\/j=i:=by have:=congrFun hD j; exact this ▸ hDj
   show (listed.setIfInBounds i true).getD e.on false=true
   rcases hDj with hDj | rfl
   ·exact getD_set_true (hd j o hj hDj e hem hb)
   ·rw [ho] at hj; cases hj
    exact getD_set_true (hr e hem hb)
theorem D4.drawn {ι:j8} {ρ:Nat->Nat} {st:St} {a:Act} {w:World} (h:D4 X E0 ι ρ st a w) (n:Nat):D4 X E0 ι ρ st a { w with drawn:=n } :=
 ⟨h.env,h.N4,fun k c hk=>h.loc k c hk,h.G6,h.J9,⟨h.rel.D0,h.rel.M6,h.rel.B2,h.rel.base,h.rel.ok,h.rel.sep⟩,
  ⟨h.G3.ext,h.G3.sz,⟨h.G3.fr.os,h.G3.fr.tape,h.G3.fr.output,h.G3.fr.size,h.G3.fr.block⟩,h.G3.own⟩,h.defers⟩
theorem Run.mono (hr:Run P X ops S E C G 0 ops.size):∀ i j,i<=j->j<=ops.size->n7 (S i).hp (S j).hp:=by
 intro i j
 induction j with
 | zero=>intro h _; have:i=0:=by omega
         subst this; exact n7.refl _
 | succ j ih =>
   intro h hj
   by_cases hij:i=j+1
   ·subst hij; exact n7.refl _
   ·refine (ih (by omega) (by omega)).trans ?_
    have hlt:j<ops.size:=by omega
    cases hg:G j with
    | false=>rw [(hr.pass j _ (Nat.zero_le _) hlt (G8 hlt) hg).2.2.2]; exact n7.refl _
    | true =>
      have hs:=hr.run j _ (Nat.zero_le _) hlt (G8 hlt) hg
      generalize C j=c at hs
      cases c with
      | P=>rw [hs.2.1]; exact n7.refl _
      | L k=>rw [hs.2.1]; exact n7.refl _
      | S k=>rw [hs.2.1]; exact n7.refl _
      | N k=>have:=hs.2.2.1; rw [this]; exact n7.refl _
      | H=>rw [hs.2.1]; exact n7.refl _
      | A=>obtain ⟨new,e⟩:=hs.2.1; rw [e]; exact (n7.refl _).append _
      | W=>exact hs.2.1
theorem Run.aiW (hr:Run P X ops S E C G 0 ops.size) {i:Nat} (hlt:i<ops.size) :
 (∀ k,(look (S i).loc k).isSome=true->(look (S (i+1)).loc k).isSome=true)/\(∀ k,(look (S (i+1)).loc k).isSome=true->(look (S i).loc k).isSome=true\/C i = .N k) ∧
 (∀ k,C i = .N k->look (S i).loc k=none/\(look (S (i+1)).loc k).isSome=true) ∧
 (∀ k d,E i = .loc k d->C i = .N k\/∃ t d',look (S i).env t=some (.loc k d')):=by
 cases hg:G i with
 | false =>
   obtain ⟨e1,e2,e3,e4⟩:=hr.pass i _ (Nat.zero_le _) hlt (G8 hlt) hg
   exact ⟨fun k h=>by rw [e3]; exact h,fun k h => .inl (by rw [<-e3]; exact h),fun k h=>(by rw [e2] at h; cases h),fun k d h=>(by rw [e1] at h; cases h)⟩
 | true =>
   have hs:=hr.run i _ (Nat.zero_le _) hlt (G8 hlt) hg
   generalize hc:C i=c at hs
   cases c with
   | P =>
     refine ⟨fun k h=>by rw [hs.1]; exact h,fun k h => .inl (by rw [<-hs.1]; exact h),fun k h=>(by cases h),fun k d h=>?_⟩
     obtain ⟨t,d',h',_⟩:=hs.2.2.1 k d h
     exact .inr ⟨t,d',h'⟩
   | L k' =>
     obtain ⟨e1,_,v,_,e2,_⟩:=hs
     exact ⟨fun k h=>by rw [e1]; exact h,fun k h => .inl (by rw [<-e1]; exact h),fun k h=>(by cases h),fun k d h=>by rw [e2] at h; cases h⟩
   | S k' =>
     obtain ⟨e1,_,p7,cells,_,e2,_⟩:=hs
     have hq:∀ k,(look (S (i+1)).loc k).isSome=(look (S i).loc k).isSome:=fun k=>by rw [e2,O8]; split<;>simp
     exact ⟨fun k h=>by rw [hq]; exact h,fun k h => .inl (by rw [<-hq]; exact h),fun k h=>(by cases h),fun k d h=>by rw [e1] at h; cases h⟩
   | N k' =>
     obtain ⟨e1,_,_,e4,cells,e5,_⟩:=hs
     refine ⟨fun k h=>?_,fun k h=>?_,fun k h=>?_,fun k d h=>?_⟩
     ·rw [e5,j3]; split
      ·rfl
      ·exact h
     ·rw [e5,j3] at h
      split at h
      ·rename_i e; subst e; exact .inr rfl
      ·exact .inl h
     ·cases h; exact ⟨e4,by rw [e5,j3,if_pos rfl]; rfl⟩
     ·rw [e1] at h; cases h; exact .inl rfl
   | H =>
     obtain ⟨e1,_,v,e2,_⟩:=hs
     exact ⟨fun k h=>by rw [e1]; exact h,fun k h => .inl (by rw [<-e1]; exact h),fun k h=>(by cases h),fun k d h=>by rw [e2] at h; cases h⟩
   | A =>
     obtain ⟨e1,_,v,e2,_⟩:=hs
     exact ⟨fun k h=>by rw [e1]; exact h,fun k h => .inl (by rw [<-e1]; exact h),fun k h=>(by cases h),fun k d h=>by rw [e2] at h; cases h⟩
   | W =>
     obtain ⟨e1,_,e2,_⟩:=hs
     exact ⟨fun k h=>by rw [e1]; exact h,fun k h => .inl (by rw [<-e1]; exact h),fun k h=>(by cases h),fun k d h=>absurd h (e2 k d)⟩
theorem Run.avM (hr:Run P X ops S E C G 0 ops.size) {k:Nat}:∀ {i j:Nat},i<=j->j<=ops.size->(look (S i).loc k).isSome=true->(look (S j).loc k).isSome=true:=by
 intro i j
 induction j with
 | zero=>intro h _ hk; have:i=0:=by omega
         subst this; exact hk
 | succ j ih =>
   intro h hj hk
   by_cases hij:i=j+1
   ·subst hij; exact hk
   ·exact (hr.aiW (i:=j) (by omega)).1 k (ih (by omega) (by omega) hk)
theorem Run.ajX (hr:Run P X ops S E C G 0 ops.size) {j k i:Nat} (hj:j<ops.size) (hc:C j = .N k) (hi:i<=j):look (S i).loc k=none:=by
 cases h:look (S i).loc k with
 | none=>rfl
 | some c =>
   have:=hr.avM (k:=k) hi (by omega) (by rw [h]; rfl)
   rw [((hr.aiW hj).2.2.1 k hc).1] at this; cases this
theorem Run.once (hr:Run P X ops S E C G 0 ops.size) {j j' k:Nat} (hj:j<ops.size) (hj':j'<ops.size) (hc:C j = .N k) (hc':C j' = .N k):j'=j:=by
 rcases Nat.lt_trichotomy j' j with h | h | h
 ·have:=hr.ajX hj hc (i:=j'+1) (by omega)
  have h2:=((hr.aiW hj').2.2.1 k hc').2
  rw [this] at h2; cases h2
 ·exact h
 ·have:=hr.ajX hj' hc' (i:=j+1) (by omega)
  have h2:=((hr.aiW hj).2.2.1 k hc).2
  rw [this] at h2; cases h2
theorem Run.locals (hr:Run P X ops S E C G 0 ops.size) (h0:∀ t k d,look (S 0).env t=some (.loc k d)->(look (S 0).loc k).isSome=true):∀ i,i<=ops.size →
 (∀ k,(look (S i).loc k).isSome=true->(look (S 0).loc k).isSome=true\/∃ j,j<i/\C j = .N k)/\∀ t k d,look (S i).env t=some (.loc k d)->(look (S i).loc k).isSome=true:=by
 intro i
 induction i with
 | zero=>intro _; exact ⟨fun k h => .inl h,h0⟩
 | succ i ih =>
   intro hi
   obtain ⟨i1,i2⟩:=ih (by omega)
   have hlt:i<ops.size:=by omega
   obtain ⟨s1,s2,s3,s4⟩:=hr.aiW hlt
   refine ⟨fun k h=>?_,fun t k d ht=>?_⟩
   ·rcases s2 k h with h | h
    ·rcases i1 k h with h | ⟨j,hj,hn⟩
     ·exact .inl h
     ·exact .inr ⟨j,by omega,hn⟩
    ·exact .inr ⟨i,by omega,h⟩
   ·rw [hr.env i _ (Nat.zero_le _) hlt (G8 hlt)] at ht
    split at ht
    ·rcases s4 k d (Option.some.inj ht) with h | ⟨t',d',h⟩
     ·exact (s3 k h).2
     ·exact s1 k (i2 t' k d' h)
    ·exact s1 k (i2 t k d ht)
theorem ak2 {cl:List A8} (h:acK ops cl=true):aaL ops=true/\cl.length=ops.size/\∀ i j,i<j->j<ops.size->aak ops i j\/(abR ops i j=true/\F6 (cl.getD i .W) (cl.getD j .W)=true):=by
 unfold acK at h
 simp only [Bool.and_eq_true,List.all_eq_true,List.mem_range,Bool.or_eq_true] at h
 obtain ⟨⟨h1,h2⟩,h4⟩:=h
 refine ⟨h1,Nat.eq_of_beq_eq_true h2,fun i j hij hj=>?_⟩
 rcases h4 j hj i hij with h | h
 ·exact .inl h
 ·exact .inr h
end
theorem ar0 {P:Program} {X:Ctx} (hX:XOk P X) (hm:P.follows .mixedOrders=true):ajN P X:=by
 intro A E0 R r id ops st K ι ρ a w Q hr h hd hQ
 obtain ⟨S,E,C,G,hrun,hS0,cl',hK,hcl⟩:=aic (os:=ops.toList) (k:=0) hX (fun j=>by simp) hr
 simp only [Nat.zero_add,Array.length_toList,List.reverse_nil,List.nil_append] at hrun hK hcl
 cases ho:acK ops cl'.reverse with
 | false=>rw [ho] at hK; cases hK
 | true =>
   rw [ho] at hK
   simp only at hK
   obtain ⟨he,hlen,hfree⟩:=ak2 ho
   have hC:∀ i,i<ops.size->cl'.reverse.getD i .W=C i:=fun i hi=>by
    rw [hcl,List.getD_eq_getElem?_getD,List.getElem?_map,List.getElem?_range' (by simpa using hi)]
    simp
   have hmono:=hrun.mono
   have hloc:=hrun.locals (by rw [hS0]; exact h.N4)
   subst hS0
   have F:Fix P X E0 ops S E C G a.tmps.size ι:={
    run:=hrun
    alf:=he
    free:=fun i j hij hj=>by
     have:=hfree i j hij hj
     rwa [hC i (by omega),hC j hj] at this
    dst:=fun i o hi d hdd=>hd o (by
     have:=Array.mem_of_getElem? hi
     simpa using this) d hdd
    mono:=hmono
    keys:=fun i k hi=>(hloc i hi).1 k
    ajX:=fun j k hj hc=>⟨hrun.ajX hj hc (Nat.zero_le j) ,fun j' hj' hc'=>hrun.once hj hj' hc hc'⟩
    D0:=h.rel.D0
    arH:=h.rel.B2
    e0:=h.G3.sz.len
    av6:=h.G3.ext }
   refine wp_region_any hm ?_
   have h':=h.drawn (w.drawn+1)
   generalize ({ w with drawn:=w.drawn+1 }:World)=w1 at *
   have hno:∀ j,¬ ((Array.replicate ops.size false).getD j false=true):=fun j hj=>by
    by_cases hlt:j<ops.size<;>simp [hlt] at hj
   have hkn0:∀ k,Kn ops S C (fun j=>(Array.replicate ops.size false).getD j false=true) k->∃ c,look (S 0).loc k=some c:=fun k hk=>by
    rcases hk with hk | ⟨j,_,_,hj⟩
    ·exact Option.isSome_iff_exists.1 hk
    ·exact absurd hj (hno j)
   have hcut0:A6 ι (S 0).hp=ι:=by
    funext b
    unfold A6
    split
    ·rfl
    ·cases hb:ι b with
     | none=>rfl
     | some x=>exact absurd (h.rel.B2 b x hb) (by assumption)
   have hsub:∀ i,i<=ops.size->Sub ι (A6 ι (S i).hp):=fun i hi b x hb=>l8.2 ⟨Nat.lt_of_lt_of_le (h.rel.B2 b x hb) (F.len (Nat.zero_le i) hi),hb⟩
   have hclw:∀ i,i<=ops.size->ClW ops C (fun j=>(Array.replicate ops.size false).getD j false=true) i->∃ new,(S i).hp=(S 0).hp++new:=fun i hi hc=>F.aiI (Nat.zero_le i) hi fun k _ hk hck=>hno k ((hc k (by omega) hck).2 hk)
   have hbk:∀ i,i<=ops.size->ClW ops C (fun j=>(Array.replicate ops.size false).getD j false=true) i->∀ b x,A6 ι (S i).hp b=some x->ι b=some x/\j7 (S i).hp b=j7 (S 0).hp b:=fun i hi hc b x hb=>by
    obtain ⟨new,e⟩:=hclw i hi hc
    have hb2:=(l8.1 hb).2
    exact ⟨hb2,by rw [e,w9 _ (h.rel.B2 b x hb2)]⟩
   refine F.any ?_ ops.size _ ρ ι a w1 (by simp) (fun j o _ hDj=>absurd hDj (hno j)) ?_ ?_
   ·intro ρ ι' a' w' D hall I
    have hcl':∀ k,ClL ops C D ops.size k:=fun k j hj _=>⟨fun _=>hj,fun _=>hall j hj⟩
    have hcw:ClW ops C D ops.size:=fun j hj _=>⟨fun _=>hj,fun _=>hall j hj⟩
    refine hQ cl' (S ops.size) (A6 ι' (S ops.size).hp) ρ a' w' hK ⟨fun t e ht=>I.env ops.size t e (Nat.le_refl _) (fun j o hj _=>?_) ht,(hloc ops.size (Nat.le_refl _)).2,fun k c hk=>?_,fun k k' c c' hk hk' he=>?_,fun k c b x q hk hb hq=>?_,I.rel ops.size (Nat.le_refl _) hcw,⟨fun b hb=>?_,h.G3.sz.trans (hmono 0 ops.size (Nat.zero_le _) (Nat.le_refl _)),I.fr,I.own ops.size (Nat.le_refl _) hcw⟩,I.defers⟩ I.size
    ·have hjlt:=(Array.getElem?_eq_some_iff.1 hj).1
     exact ⟨fun _=>hjlt,fun _=>hall j hjlt⟩
    ·exact ⟨I.loc ops.size k c (Nat.le_refl _) (hcl' k) hk,I.Y1 k (F.known (Nat.le_refl _) (hcl' k) hk)⟩
    ·exact I.G6 k k' (F.known (Nat.le_refl _) (hcl' k) hk) (F.known (Nat.le_refl _) (hcl' k') hk') he
    ·exact I.J9 ops.size (Nat.le_refl _) hcw k b x q (F.known (Nat.le_refl _) (hcl' k) hk) hb hq
    ·have hb1:b<(S 0).hp.length:=Nat.lt_of_lt_of_le hb h.G3.sz.len
     have hb2:=F.len (Nat.zero_le ops.size) (Nat.le_refl _)
     unfold A6
     rw [if_pos (by omega),I.p7 b hb1]
     exact h.G3.ext b hb
   ·exact {
     size:=rfl
     defers:=h.defers
     p7:=fun _ _=>rfl
     B2:=fun b x hb => .inl (h.rel.B2 b x hb)
     env:=fun i t e hi hc ht=>by
      have hs:look (S i).env t=look (S 0).env t:=F.ady (Nat.zero_le i) hi fun k o _ hk ho hdd=>hno k ((hc k o ho hdd).2 hk)
      rw [hs] at ht
      exact (h'.env t e ht).mono (hsub i hi)
     loc:=fun i k c hi hc hk=>by
      have hs:look (S i).loc k=look (S 0).loc k:=F.aia (Nat.zero_le i) hi fun l _ hl hcl=>hno l ((hc l (by omega) hcl).2 hl)
      rw [hs] at hk
      exact ((h'.loc k c hk).1).mono (hsub i hi)
     M6:=fun i hi b x k hb hk=>by
      have hb2:=(l8.1 hb).2
      have hlt:=h.rel.B2 b x hb2
      obtain ⟨k',g1,g2⟩:=hmono 0 i (Nat.zero_le i) hi b _ (List.getElem?_eq_getElem hlt)
      rw [hk] at g1; cases g1
      rw [g2]; exact h.rel.M6 b x _ hb2 (List.getElem?_eq_getElem hlt)
     rel:=fun i hi hc=>by
      have R0:=h'.rel
      refine ⟨F.gl (fun _ _=>rfl) hi,?_,fun b x hb=>(l8.1 hb).1,R0.base,fun b x k hb hk=>?_,fun b x k b' x' k' hb hk hrw hb' hk' he=>?_⟩
      ·intro b x k hb hk
       have hb2:=(l8.1 hb).2
       have hlt:=h.rel.B2 b x hb2
       obtain ⟨k',g1,g2⟩:=hmono 0 i (Nat.zero_le i) hi b _ (List.getElem?_eq_getElem hlt)
       rw [hk] at g1; cases g1
       rw [g2]; exact h.rel.M6 b x _ hb2 (List.getElem?_eq_getElem hlt)
      ·obtain ⟨g1,g2⟩:=hbk i hi hc b x hb
       rw [g2] at hk
       exact (R0.ok b x k g1 hk).mono (hsub i hi)
      ·obtain ⟨g1,g2⟩:=hbk i hi hc b x hb
       obtain ⟨f1,f2⟩:=hbk i hi hc b' x' hb'
       rw [g2] at hk; rw [f2] at hk'
       exact R0.sep b x k b' x' k' g1 hk hrw f1 hk' he
     N4:=fun i t k d hi hc ht=>by
      have hs:look (S i).env t=look (S 0).env t:=F.ady (Nat.zero_le i) hi fun k o _ hk ho hdd=>hno k ((hc k o ho hdd).2 hk)
      rw [hs] at ht
      exact .inl (h'.N4 t k d ht)
     llt:=fun k hk=>by
      obtain ⟨c,hk⟩:=hkn0 k hk
      exact (h'.loc k c hk).1.lt
     J9:=fun i hi hc k b x q hk hb hq=>by
      obtain ⟨c,hk⟩:=hkn0 k hk
      obtain ⟨g1,g2⟩:=hbk i hi hc b x hb
      rw [g2] at hq
      exact h'.J9 k c b x q hk g1 hq
     G6:=fun k k' hk hk' he=>by
      obtain ⟨c,hk⟩:=hkn0 k hk
      obtain ⟨c',hk'⟩:=hkn0 k' hk'
      exact h'.G6 k k' c c' hk hk' he
     Y1:=fun k hk=>by
      obtain ⟨c,hk⟩:=hkn0 k hk
      exact (h'.loc k c hk).2
     fr:=h'.G3.fr
     own:=fun i hi hc b x q hb hq hlt=>by
      obtain ⟨g1,g2⟩:=hbk i hi hc b x hb
      rw [g2] at hq
      exact h'.G3.own b x q g1 hq hlt }
   ·unfold left
    exact Nat.le_trans List.countP_le_length (by simp)
end Go.AM

/- The abstract machine is sound: what it tells of a call holds of the program's call. -/
namespace Go.AM
open Go.RowKit
set_option linter.unusedSimpArgs false
set_option linter.unusedVariables false
def alF (P:Program) (ng:Nat) (f:FuncId) (args:List Value) (hp:Heap) (r:Value) (hp':Heap):Prop :=
 Enters P f/\n7 hp hp' ∧
  ∀ ι w B (args':Array Value),Rel ng ι hp w B->A0 ι args args'.toList →
    Calls P f args' w fun e w'=>∃ ι' r',e = .returned r'/\U3 hp.length ι ι'/\Rel ng ι' hp' w' B/\Fr ι hp w w'/\Own ι hp w ι' hp'/\VR ι' r r'
structure ad1 (P:Program) (b:W7):Prop where
 tab:∀ t ti,look b.tab t=some ti->K8 P t ti
 fn:∀ f fn,b.fn f=some fn->P.funcs[f]? = some fn/\(fn.name == "runtime.NumGoroutine")=false
 ext:aoG P b.kind b.ext
 Q8:∀ f g args hp r hp',b.Q8 f=some g->g args hp=some (r,hp')->alF P b.ng f args hp r hp'
 mixed:P.follows .mixedOrders=true
theorem al6 {P:Program} {b:W7} (hb:ad1 P b):∀ n,amR P b.ng (P8 b n)
 | 0=>fun f args hp r hp' h=>by cases h
 | n+1=>fun f args hp r hp' h=>by
   simp only [P8] at h
   split at h
   ·rename_i g hg
    exact hb.Q8 f g args hp r hp' hg h
   ·have hX:XOk P (b.ctx (P8 b n) (T1 n)):=⟨hb.tab,al6 hb n,hb.ext⟩
    exact ani hX (atV n) (ar0 hX hb.mixed) (fun fn hf=>hb.fn f fn hf) h
theorem arL {P:Program} {b:W7} (hb:ad1 P b):amR P b.ng (H5 b):=fun f args hp r hp' h=>by
 obtain ⟨n,hn⟩:=B5.1 h
 exact al6 hb n f args hp r hp' (hn n (Nat.le_refl _))
theorem arw {ι:j8} {hp:Heap} {w w':World} (h:Fr ι hp w w') (hro:∀ b k,j7 hp b=some k->k.md ≠ .rw):Below w.heap.size w w' :=
 ⟨h.os,h.tape,h.output,h.size,fun j hj=>h.block j hj fun b x k _ hk hrw=>absurd hrw (hro b k hk)⟩
theorem aqD {P:Program} {b:W7} (hb:ad1 P b) {f:FuncId} {args:List Value} {hp hp':Heap} {r:Value} (h:H5 b f args hp=some (r,hp')) {ι:j8} {w:World} {args':Array Value}
 (hR:Rel b.ng ι hp w w.heap.size) (ha:A0 ι args args'.toList) (hro:∀ b k,j7 hp b=some k->k.md ≠ .rw) :
 Calls P f args' w fun e w'=>∃ ι' r',e = .returned r'/\VR ι' r r'/\U3 hp.length ι ι'/\Rel b.ng ι' hp' w' w.heap.size/\Below w.heap.size w w' :=
 ((arL hb f args hp r hp' h).2.2 ι w w.heap.size args' hR ha).mono fun e w' ⟨ι',r',h1,h2,h3,h4,h5,h6⟩=>⟨ι',r',h1,h6,h2,h3,arw h4 hro⟩
theorem ajx {P:Program} {b:W7} (hb:ad1 P b) {f:FuncId} {args:List Value} {hp hp':Heap} (h:H5 b f args hp=some (.bool true,hp')) {ι:j8} {w:World} {args':Array Value}
 (hR:Rel b.ng ι hp w w.heap.size) (ha:A0 ι args args'.toList) (hro:∀ b k,j7 hp b=some k->k.md ≠ .rw) :
 Calls P f args' w fun e w'=>e = .returned (.bool true)/\Below w.heap.size w w' :=
 (aqD hb h hR ha hro).mono fun e w' ⟨ι',r',h1,h2,_,_,h5⟩=>by
  cases h2; exact ⟨h1,h5⟩
end Go.AM
#print axioms Go.AM.ajx

/- Words for printed runs. -/
namespace Go.AM
def bs (l:List UInt8):ByteArray:=⟨l.toArray⟩
def A5 {R:Type} (n:Nat) (l:List (Option R)):Option R :=
 match l with
 | []=>none
 | a::l=>match n with
   | 0=>a
   | n+1=>A5 n l
termination_by structural l
def acQ:Code->Nat->Option Code
 | .seq a b,n=>(acQ a n).or (acQ b n)
 | .cond _ a b,n=>(acQ a n).or (acQ b n)
 | .block _ a,n=>acQ a n
 | .loop a,n=>if X3 a=n then some a else acQ a n
 | _,_=>none
def E5 (f:Func) (n:Nat):Code:=((f.body.bind fun c=>acQ c n).getD .skip)
def avT (l:List (Nat × M5)) (f:FuncId):M5:=(look l f).getD {}
def kindOf (l m:List Nat) (f:FuncId):Nat:=match mem l f with | true=>1 | false=>(match mem m f with | true=>2 | false=>0)
end Go.AM

/- The table of types: a check, and what it shows. -/
namespace Go.AM
set_option linter.unusedSimpArgs false
set_option linter.unusedVariables false
def eqV:Value->Value->Bool
 | .bool a,.bool b=>a==b
 | .int k n,.int k' n'=>decide (k=k')&&decide (n=n')
 | .string s,.string s'=>decide (s.data.toList=s'.data.toList)
 | .pointer none,.pointer none=>true
 | .slice none 0 0,.slice none 0 0=>true
 | .nilFunc,.nilFunc=>true
 | _,_=>false
theorem auH {a b:Value} (h:eqV a b=true):a=b:=by
 unfold eqV at h
 split at h
 ·rw [eq_of_beq h]
 ·simp at h; rw [h.1,h.2]
 ·rename_i s s'
  have:=of_decide_eq_true h
  congr 1
  obtain ⟨⟨l⟩⟩:=s
  obtain ⟨⟨l'⟩⟩:=s'
  simp at this
  rw [this]
 ·rfl
 ·rfl
 ·rfl
 ·cases h
def amA:List Value->List Value->Bool
 | [],[]=>true
 | a::l,b::m=>eqV a b&&amA l m
 | _,_=>false
theorem akb:∀ {a b:List Value},amA a b=true->a=b
 | [],[],_=>rfl
 | a::l,b::m,h=>by
   simp only [amA,Bool.and_eq_true] at h
   rw [auH h.1,akb h.2]
 | [],_::_,h=>by cases h
 | _::_,[],h=>by cases h
def amp (P:Program) (f:Field) (x:Nat × Nat × Bool):Bool :=
 decide (f.offset=x.1)&&(match P.info? f.type,P.underlying f.type with
  | some g,some u=>decide (g.size=x.2.1)&&decide (0<x.2.1)&&decide (V9 u=x.2.2)&&(x.2.2||decide (x.2.1=1))
  | _,_=>false)
def acJ (P:Program):List Field->List (Nat × Nat × Bool)->Bool
 | [],[]=>true
 | f::fs,x::xs=>amp P f x&&acJ P fs xs
 | _,_=>false
theorem aho {P:Program}:∀ {fs:List Field} {xs:List (Nat × Nat × Bool)},acJ P fs xs=true->fs.length=xs.length
 | [],[],_=>rfl
 | f::fs,x::xs,h=>by simp only [acJ,Bool.and_eq_true] at h; simp [aho h.2]
 | [],_::_,h=>by cases h
 | _::_,[],h=>by cases h
theorem ahs {P:Program}:∀ {fs:List Field} {xs:List (Nat × Nat × Bool)},acJ P fs xs=true->∀ (i:Nat) x,xs[i]? = some x->∃ f,fs[i]? = some f/\amp P f x=true
 | [],[],_,i,x,e=>by simp at e
 | f::fs,x::xs,h,i,y,e=>by
   simp only [acJ,Bool.and_eq_true] at h
   cases i with
   | zero=>simp at e; subst e; exact ⟨f,by simp,h.1⟩
   | succ i=>simp at e; simpa using ahs h.2 i y e
 | [],_::_,h,_,_,_=>by cases h
 | _::_,[],h,_,_,_=>by cases h
def tkB (P:Program) (d:TypeDesc):TK->Bool
 | .int k=>(match d with | .int k'=>decide (k'=k) | _=>false)
 | .bool=>(match d with | .bool=>true | _=>false)
 | .str=>(match d with | .string=>true | _=>false)
 | .slice e b8 eb z=>(match d with
   | .slice e'=>decide (e'=e)&&(match P.info? e with
     | some i=>decide (i.size=b8)&&decide (i.bytes=eb)&&(match i.zero with | some v=>amA v.cells.toList z | none=>false)&&decide (z.length=b8)&&decide (0<b8)&&decide (0<eb)&&z.all E4
     | none=>false)
   | _=>false)
 | .struct fs=>(match d with | .struct fields=>acJ P fields.toList fs | _=>false)
 | .arr n b8=>(match d with | .array n' e=>decide (n'=n)&&(match P.info? e,P.underlying e with | some i,some u=>decide (i.size=b8)&&(!decide (b8=1) || !V9 u) | _,_=>false) | _=>false)
 | .other=>true
theorem at6 {P:Program} {d:TypeDesc} {k:TK} (h:tkB P d k=true):aoW P d k:=by
 cases k with
 | int k=>cases d<;>simp [tkB] at h; exact congrArg _ h
 | bool=>cases d<;>simp [tkB] at h; rfl
 | str=>cases d<;>simp [tkB] at h; rfl
 | slice e b8 eb z =>
   cases d<;>simp only [tkB] at h<;>try (cases h; done)
   rename_i e'
   simp only [Bool.and_eq_true,decide_eq_true_eq] at h
   obtain ⟨rfl,h⟩:=h
   split at h
   ·rename_i i hi
    simp only [Bool.and_eq_true,decide_eq_true_eq] at h
    obtain ⟨⟨⟨⟨⟨⟨h1,h2⟩,h3⟩,h4⟩,h5⟩,h6⟩,h7⟩:=h
    split at h3
    ·rename_i v hv
     exact ⟨rfl,i,v,hi,h1,h2,hv,akb h3,h4,h5,h6,fun u hu=>by rw [List.all_eq_true] at h7; exact h7 u hu⟩
    ·cases h3
   ·cases h
 | struct fs =>
   cases d<;>simp only [tkB] at h<;>try (cases h; done)
   rename_i fields
   refine ⟨fields,rfl,by simpa using aho h,fun i off n agg e=>?_⟩
   obtain ⟨f,hf,hb⟩:=ahs h i _ e
   unfold amp at hb
   simp only [Bool.and_eq_true,decide_eq_true_eq] at hb
   obtain ⟨h1,hb⟩:=hb
   split at hb
   ·rename_i g u hg hu
    simp only [Bool.and_eq_true,Bool.or_eq_true,decide_eq_true_eq] at hb
    obtain ⟨⟨⟨h2,h3⟩,h4⟩,h5⟩:=hb
    exact ⟨f,g,u,by simpa using hf,h1,hg,h2,h3,hu,h4,fun ha=>by rcases h5 with h5 | h5; (rw [ha] at h5; cases h5); exact h5⟩
   ·cases hb
 | arr n b8 =>
   cases d<;>simp only [tkB] at h<;>try (cases h; done)
   rename_i n' e
   simp only [Bool.and_eq_true,decide_eq_true_eq] at h
   obtain ⟨rfl,h⟩:=h
   split at h
   ·rename_i i u hi hu
    simp only [Bool.and_eq_true,Bool.or_eq_true,decide_eq_true_eq,Bool.not_eq_true',decide_eq_false_iff_not] at h
    exact ⟨e,i,rfl,hi,h.1,u,hu,fun q=>by rcases h.2 with h2 | h2; exact absurd q h2; exact h2⟩
   ·cases h
 | other=>trivial
def adt (P:Program):Nat->List Field->Bool
 | _,[]=>true
 | i,f::fs=>(f.name != "_")&&decide (f.offset=i)&&(match P.underlying f.type with | some .string=>true | _=>false)&&adt P (i+1) fs
theorem afs {P:Program}:∀ {fs:List Field} {i:Nat},adt P i fs=true->∀ (j:Nat) (f:Field),fs[j]? = some f->f.name ≠ "_"/\f.offset=i+j/\P.underlying f.type=some .string
 | [],i,_,j,f,e=>by simp at e
 | g::fs,i,h,j,f,e=>by
   simp only [adt,Bool.and_eq_true,decide_eq_true_eq] at h
   obtain ⟨⟨⟨h1,h2⟩,h3⟩,h4⟩:=h
   cases j with
   | zero =>
     simp at e
     subst e
     refine ⟨by simpa using h1,by omega,?_⟩
     split at h3
     ·assumption
     ·cases h3
   | succ j =>
     simp at e
     have:=afs h4 j f e
     exact ⟨this.1,by omega,this.2.2⟩
def arl (P:Program) (t:TypeId) (n:Nat):Bool :=
 !(P.eqGuardType P.depth t) && !(P.stoodInHeld t)&&(match P.underlying t with | some (.struct fs)=>decide (fs.size=n)&&adt P 0 fs.toList | _=>false)
theorem atE {P:Program} {t:TypeId} {n:Nat} (h:arl P t n=true):ao3 P t n:=by
 unfold arl at h
 simp only [Bool.and_eq_true,Bool.not_eq_true'] at h
 obtain ⟨⟨h1,h2⟩,h3⟩:=h
 split at h3
 ·rename_i fs hu
  simp only [Bool.and_eq_true,decide_eq_true_eq] at h3
  exact ⟨h1,h2,fs,hu,h3.1,fun i f e=>by have:=afs h3.2 i f e; exact ⟨this.1,by omega,this.2.2⟩⟩
 ·cases h3
def tiB (P:Program) (t:TypeId) (ti:TI):Bool :=
 (match P.info? t with
  | some i=>decide (i.size=ti.size)&&(match i.zero with | some v=>amA v.cells.toList ti.zero | none=>false)
  | none=>false)&&decide (ti.zero.length=ti.size)&&ti.zero.all E4 &&
 (match P.underlying t with | some d=>decide (V9 d=ti.agg)&&tkB P d ti.k | none=>false)&&(ti.agg||decide (ti.size=1))&&(!ti.eqs||arl P t ti.size)
theorem avk {P:Program} {t:TypeId} {ti:TI} (h:tiB P t ti=true):K8 P t ti:=by
 unfold tiB at h
 simp only [Bool.and_eq_true,Bool.or_eq_true,decide_eq_true_eq] at h
 obtain ⟨⟨⟨⟨⟨h1,h2⟩,h3⟩,h4⟩,h5⟩,h9⟩:=h
 split at h1
 ·rename_i i hi
  simp only [Bool.and_eq_true,decide_eq_true_eq] at h1
  obtain ⟨h6,h7⟩:=h1
  split at h7
  ·rename_i v hv
   split at h4
   ·rename_i d hd
    simp only [Bool.and_eq_true,decide_eq_true_eq] at h4
    exact ⟨⟨i,v,hi,h6,hv,akb h7,h2,fun u hu=>by rw [List.all_eq_true] at h3; exact h3 u hu⟩,⟨d,hd,h4.1,at6 h4.2⟩,fun ha=>by rcases h5 with h5 | h5; (rw [ha] at h5; cases h5); exact h5,fun he=>by rcases h9 with h9 | h9; (rw [he] at h9; cases h9); exact atE h9⟩
   ·cases h4
  ·cases h7
 ·cases h1
def alh (P:Program):List (Nat × TI)->Bool
 | []=>true
 | (t,ti)::l=>tiB P t ti&&alh P l
theorem aju {P:Program}:∀ {l:List (Nat × TI)},alh P l=true->∀ t ti,look l t=some ti->K8 P t ti
 | [],_,t,ti,e=>by simp [look] at e
 | (s,si)::l,h,t,ti,e=>by
   simp only [alh,Bool.and_eq_true] at h
   rw [j3] at e
   split at e
   ·rename_i hs; subst hs; cases e; exact avk h.1
   ·exact aju h.2 t ti e
def aoD (P:Program):List (Nat × Func)->Prop
 | []=>True
 | (i,f)::l=>(P.funcs[i]? = some f/\(f.name == "runtime.NumGoroutine")=false)/\aoD P l
theorem apu {P:Program}:∀ {l:List (Nat × Func)},aoD P l->∀ i f,look l i=some f->P.funcs[i]? = some f/\(f.name == "runtime.NumGoroutine")=false
 | [],_,i,f,e=>by simp [look] at e
 | (j,g)::l,h,i,f,e=>by
   rw [j3] at e
   split at e
   ·rename_i hs; subst hs; cases e; exact h.1
   ·exact apu h.2 i f e
end Go.AM

/- slices.Insert at elements of any size: what a call does. -/
set_option linter.unusedVariables false
set_option linter.unusedSimpArgs false
namespace Go.AM
open Go Go.Proofs Go.Shelf Go.RowKit Go.Lib
variable {P:Program} {ρ:Ren}
structure awg (P:Program) (ρ:Ren) (b8 eb:Nat) (z:Value):Prop where
 mixed:P.follows .mixedOrders=true
 f22:Bears P (ρ.f 22) (Body2.n22 ρ)
 ov:∀ (args:Array Value) (w:World),(callFunc (ρ.f 29) args).run P w=((Extern.SlicesOverlaps.overlaps #[ρ.t 24,ρ.t 24] #[ρ.t 4] args).run P w).andThen fun v w' => .ok (.value v) w'
 t0:P.underlying (ρ.t 0)=some (TypeDesc.tuple #[])
 a0:∀ w,(isAgg (ρ.t 0)).run P w = .ok false w
 z0:∀ w,(Go.sizeOf (ρ.t 0)).run P w = .ok 1 w
 v0:∀ w,(zeroValue (ρ.t 0)).run P w = .ok (Value.tuple #[]) w
 t3:P.underlying (ρ.t 3)=some (TypeDesc.int IntKind.i64)
 a3:∀ w,(isAgg (ρ.t 3)).run P w = .ok false w
 z3:∀ w,(Go.sizeOf (ρ.t 3)).run P w = .ok 1 w
 v3:∀ w,(zeroValue (ρ.t 3)).run P w = .ok (Value.int IntKind.i64 0) w
 t4:P.underlying (ρ.t 4)=some (TypeDesc.bool)
 a4:∀ w,(isAgg (ρ.t 4)).run P w = .ok false w
 z4:∀ w,(Go.sizeOf (ρ.t 4)).run P w = .ok 1 w
 v4:∀ w,(zeroValue (ρ.t 4)).run P w = .ok (Value.bool false) w
 t24:P.underlying (ρ.t 24)=some (TypeDesc.slice (ρ.t 9))
 a24:∀ w,(isAgg (ρ.t 24)).run P w = .ok false w
 z24:∀ w,(Go.sizeOf (ρ.t 24)).run P w = .ok 1 w
 v24:∀ w,(zeroValue (ρ.t 24)).run P w = .ok (Value.slice none 0 0) w
 z9:∀ w,(Go.sizeOf (ρ.t 9)).run P w = .ok b8 w
 v9:∀ w,(zeroValue (ρ.t 9)).run P w = .ok z w
 i9:(P.info? (ρ.t 9)).map (fun i=>(i.zero,i.size,i.bytes))=some (some z,b8,eb)
 zs:z.cells.size=b8
 es0:0<b8
 eb0:0<eb
end Go.AM

/- slices.Insert at elements of any size: at the end without room; in the midst with room. -/
set_option linter.unusedVariables false
set_option linter.unusedSimpArgs false
namespace Go.AM
open Go Go.Proofs Go.Shelf Go.RowKit Go.Lib
variable {P:Program} {ρ:Ren}
end Go.AM

/- slices.Insert at elements of any size: in the midst without room. -/
set_option linter.unusedVariables false
set_option linter.unusedSimpArgs false
namespace Go.AM
open Go Go.Proofs Go.Shelf Go.RowKit Go.Lib
variable {P:Program} {ρ:Ren}
end Go.AM

/- slices.Insert in the abstract machine: what a call owes, for every element size. -/
namespace Go.AM
open Go.Proofs Go.Shelf Go.RowKit Go.Lib
set_option linter.unusedSimpArgs false
set_option linter.unusedVariables false
variable {P:Program} {ρ:Ren}
theorem al7 {ι:j8} {k:j4} {y:Img} {w:World} {B:Nat} (h:S5 ι y k w B) {len:Nat} (hle:len<=k.cells.length) :
 ∃ (cs:Array Value) (el:TypeId) (fr:Nat × Nat) (vs:List Value),w.heap[y.w5]? = some (.cells cs el fr)/\cs.size=y.off+y.room/\k.cells.length<=y.room/\(k.md = .rw->aim k.pl cs.size fr/\B<=y.w5)/\vs.length=len ∧
   (∀ (j:Nat) (v:Value),vs[j]? = some v->w.cell? ⟨y.w5,y.off+j,none⟩=some v)/\(∀ j,j<len->cs[y.off+j]? = vs[j]?)/\A0 ι (k.cells.take len) vs/\(∀ v ∈ vs,v.oneCell'=true)/\(∀ u ∈ k.cells,u.oneCell'=true):=by
 obtain ⟨cs,el,fr,h1,h2,h3,h4,h5⟩:=h
 have hlen:((cs.toList.drop y.off).take len).length=len:=by simp; omega
 have hget:∀ j,j<len->cs[y.off+j]? = ((cs.toList.drop y.off).take len)[j]?:=fun j hj=>by
  rw [List.getElem?_take_of_lt hj,List.getElem?_drop]; simp
 have hones:∀ u ∈ k.cells,u.oneCell'=true:=fun u hu=>by
  obtain ⟨i,hi,rfl⟩:=List.getElem_of_mem hu
  exact (h4 i _ (List.getElem?_eq_getElem hi)).1
 have hv:A0 ι (k.cells.take len) ((cs.toList.drop y.off).take len):=by
  refine A0.abT (by rw [hlen]; simp; omega) fun i v v' e e'=>?_
  have hi:i<len:=by have:=(List.getElem?_eq_some_iff.1 e').1; omega
  rw [<-hget i hi] at e'
  rw [List.getElem?_take_of_lt hi] at e
  obtain ⟨_,u,a,b⟩:=h4 i v e
  rw [a] at e'; cases e'; exact b
 refine ⟨cs,el,fr,_,h1,h2,h3,h5,hlen,fun j v e=>?_,hget,hv,fun v hv'=>?_,hones⟩
 ·have hj:j<len:=by have:=(List.getElem?_eq_some_iff.1 e).1; omega
  simp only [World.cell?,h1]
  rw [hget j hj]; exact e
 ·obtain ⟨i,hi,rfl⟩:=List.getElem_of_mem hv'
  have hi':i<len:=by omega
  have e':=hget i hi'
  rw [List.getElem?_eq_getElem hi] at e'
  obtain ⟨o,u,a,b⟩:=h4 i _ (List.getElem?_eq_getElem (by omega))
  rw [e'] at a; cases a
  exact b.one o
theorem A0.app {ι:j8}:∀ {a a' b b':List Value},A0 ι a a'->A0 ι b b'->A0 ι (a++b) (a'++b'):=fun h g=>h.append g
theorem A0.avR {ι:j8} {a a':List Value} (h:A0 ι a a') (n:Nat):A0 ι (a.drop n) (a'.drop n) :=
 A0.abT (by simp [h.length]) fun i v v' e e'=>by
  rw [List.getElem?_drop] at e e'
  obtain ⟨u,a,b⟩:=h.get e
  rw [a] at e'; cases e'; exact b
end Go.AM

/- slices.Insert in the abstract machine: the proof. -/
namespace Go.AM
open Go.Proofs Go.Shelf Go.RowKit Go.Lib
set_option linter.unusedSimpArgs false
set_option linter.unusedVariables false
variable {P:Program} {ρ:Ren}
end Go.AM

/- slices.Delete at elements of any size: what a call does. -/
set_option linter.unusedVariables false
set_option linter.unusedSimpArgs false
namespace Go.AM
open Go Go.Proofs Go.Shelf Go.RowKit Go.Lib
variable {P:Program} {ρ:Ren}
structure awc (P:Program) (ρ:Ren) (b8:Nat) (z:Value):Prop where
 mixed:P.follows .mixedOrders=true
 f24:Bears P (ρ.f 24) (Body2.n24 ρ)
 t0:P.underlying (ρ.t 0)=some (TypeDesc.tuple #[])
 a0:∀ w,(isAgg (ρ.t 0)).run P w = .ok false w
 z0:∀ w,(Go.sizeOf (ρ.t 0)).run P w = .ok 1 w
 v0:∀ w,(zeroValue (ρ.t 0)).run P w = .ok (Value.tuple #[]) w
 t3:P.underlying (ρ.t 3)=some (TypeDesc.int IntKind.i64)
 a3:∀ w,(isAgg (ρ.t 3)).run P w = .ok false w
 z3:∀ w,(Go.sizeOf (ρ.t 3)).run P w = .ok 1 w
 v3:∀ w,(zeroValue (ρ.t 3)).run P w = .ok (Value.int IntKind.i64 0) w
 t4:P.underlying (ρ.t 4)=some (TypeDesc.bool)
 a4:∀ w,(isAgg (ρ.t 4)).run P w = .ok false w
 z4:∀ w,(Go.sizeOf (ρ.t 4)).run P w = .ok 1 w
 v4:∀ w,(zeroValue (ρ.t 4)).run P w = .ok (Value.bool false) w
 t24:P.underlying (ρ.t 24)=some (TypeDesc.slice (ρ.t 9))
 a24:∀ w,(isAgg (ρ.t 24)).run P w = .ok false w
 z24:∀ w,(Go.sizeOf (ρ.t 24)).run P w = .ok 1 w
 v24:∀ w,(zeroValue (ρ.t 24)).run P w = .ok (Value.slice none 0 0) w
 z9:∀ w,(Go.sizeOf (ρ.t 9)).run P w = .ok b8 w
 v9:∀ w,(zeroValue (ρ.t 9)).run P w = .ok z w
 i9:(P.info? (ρ.t 9)).map (fun i=>(i.zero,i.size))=some (some z,b8)
 zs:z.cells.size=b8
 z1:∀ u ∈ z.cells,u.oneCell'=true
 es0:0<b8
end Go.AM

/- slices.Delete in the abstract machine: what a call owes, for every element size. -/
namespace Go.AM
open Go.Proofs Go.Shelf Go.RowKit Go.Lib
set_option linter.unusedSimpArgs false
set_option linter.unusedVariables false
variable {P:Program} {ρ:Ren}
end Go.AM

/- slices.DeleteFunc in the abstract machine: of a row of texts, those that are empty are struck. -/
namespace Go.AM
open Go.Proofs Go.Shelf Go.RowKit Go.Lib Go.Sort
set_option linter.unusedSimpArgs false
set_option linter.unusedVariables false
variable {P:Program} {ρ:Ren}
structure awi (P:Program) (ρ:Ren) (g:Nat):Prop where
 L:SlLaysH.n10 P ρ
 v23:∀ w,(zeroValue (ρ.t 23)).run P w = .ok (.string ⟨#[]⟩) w
 eg:∀ args w,(callFunc g args).run P w = .ok (.enter g args) w
 pg:∀ (s:ByteArray) (W:World),FnGives P g #[] #[.string s] (.bool (s.size==0)) W
def acq:List Value->Option (List ByteArray)
 | []=>some []
 | .string s::l=>(acq l).map fun t=>s::t
 | _=>none
theorem ame:∀ {l:List Value} {ss:List ByteArray},acq l=some ss->l=ss.map .string
 | [],ss,h=>by cases h; rfl
 | v::l,ss,h=>by
   cases v with
   | string s =>
     simp only [acq] at h
     cases hs:acq l with
     | none=>rw [hs] at h; cases h
     | some t=>rw [hs] at h; cases h; rw [ame hs]; rfl
   | _=>cases h
theorem alE {ι:j8}:∀ {ss:List ByteArray} {C:List Value},A0 ι (ss.map .string) C->C=ss.map .string
 | [],C,h=>by cases h; rfl
 | s::ss,C,h=>by
   cases h with
   | cons h1 h2=>cases h1; rw [alE h2]; rfl
end Go.AM

/- strings.Join in the abstract machine: texts of a row joined. -/
namespace Go.AM
open Go.Proofs Go.Shelf Go.RowKit Go.Lib Go.Sort
set_option linter.unusedSimpArgs false
set_option linter.unusedVariables false
variable {P:Program} {ρ:Ren}
structure as2 (P:Program) (ρ:Ren):Prop where
 L:Lays.n156 P ρ
 X:Builder.Extra P ρ
def ar7 (sep:ByteArray) (xs:List ByteArray):ByteArray:=⟨(Lib.join (xs.map (·.data.toList)) sep.data.toList).toArray⟩
def agY:List Value->Heap->Option (Value × Heap)
 | [.slice a 0 c,.string sep],hp=>some (.string ⟨#[]⟩,hp)
 | [.slice (some ⟨b,o,none⟩) n c,.string sep],hp =>
   (j7 hp b).bind fun k=>(acq ((k.cells.drop o).take n)).bind fun ss =>
   if k.sz=1/\o+n<=k.cells.length/\0<n/\n<=140737488355328/\(Lib.join (ss.map (·.data.toList)) sep.data.toList).length<=140737488355328 then some (.string (ar7 sep ss),hp) else none
 | _,_=>none
theorem Rel.below {ng:Nat} {ι:j8} {hp:Heap} {w w':World} {B:Nat} (h:Rel ng ι hp w B) (hb:Below w.heap.size w w'):Rel ng ι hp w' B where
 D0:=h.D0
 M6:=h.M6
 B2:=h.B2
 base:=Nat.le_trans h.base hb.size
 ok:=fun b x k hx hk=>by
  obtain ⟨cs,el,fr,h1,h2⟩:=h.ok b x k hx hk
  refine ⟨cs,el,fr,?_,h2⟩
  rw [hb.block]
  ·exact h1
  ·by_cases hlt:x.w5<w.heap.size
   ·exact hlt
   ·rw [Array.getElem?_eq_none (by omega)] at h1; cases h1
 sep:=h.sep
theorem akj {ι:j8} {hp:Heap} {w w':World} (hb:Below w.heap.size w w'):Fr ι hp w w':=⟨hb.os,hb.tape,hb.output,hb.size,fun j hj _=>hb.block j hj⟩
theorem Own.same (ι:j8) (hp:Heap) (w:World):Own ι hp w ι hp:=fun b x k h1 h2 _=>⟨b,x,k,h1,h2,.inl rfl,fun h=>h,rfl⟩
theorem apM (ng:Nat) (L:as2 P ρ) {args:List Value} {hp hp':Heap} {r:Value} (h:agY args hp=some (r,hp')):alF P ng (ρ.f 156) args hp r hp':=by
 have hent:Enters P (ρ.f 156):=⟨_,L.L.f156,by kernel_rfl,rfl⟩
 unfold agY at h
 split at h
 ·rename_i a c sep
  cases h
  refine ⟨hent,n7.refl _,fun ι w B args' hR ha=>?_⟩
  obtain ⟨al⟩:=args'
  simp only at ha
  cases ha with
  | cons g1 ha=>cases ha with
    | cons g2 ha=>cases ha with
      | nil =>
        cases g2
        have fin:∀ (a':Option Addr) (c':Nat),Calls P (ρ.f 156) #[.slice a' 0 c',.string sep] w fun e w'=>∃ ι' r',e = .returned r'/\U3 hp.length ι ι'/\Rel ng ι' hp w' B/\Fr ι hp w w'/\Own ι hp w ι' hp/\VR ι' (.string ⟨#[]⟩) r':=fun a' c' =>
         (Any.strings_Join_none L.L L.X a' c' sep w).mono fun e w' ⟨he,hw⟩=>by
          subst he; subst hw
          exact ⟨ι,_,rfl,fun _ _=>rfl,hR,akj (Below.refl _ _),Own.same _ _ _,.str _⟩
        cases g1 with
        | abA=>exact fin _ _
        | slz=>exact fin _ _
        | slc=>omega
 ·rename_i b o n c sep hx
  cases hk:j7 hp b with
  | none=>rw [hk] at h; cases h
  | some k =>
  rw [hk] at h
  simp only [Option.bind_some] at h
  cases hs:acq ((k.cells.drop o).take n) with
  | none=>rw [hs] at h; cases h
  | some ss =>
  rw [hs] at h
  simp only [Option.bind_some] at h
  have adb:=ame hs
  split at h
  ·rename_i hc1
   obtain ⟨hksz,hle,hn0,hn47,hlen⟩:=hc1
   cases h
   have hssl:ss.length=n:=by
    have:=congrArg List.length adb
    simp at this; omega
   refine ⟨hent,n7.refl _,fun ι w B args' hR ha=>?_⟩
   obtain ⟨al⟩:=args'
   simp only at ha
   cases ha with
   | cons g1 ha=>cases ha with
     | cons g2 ha=>cases ha with
       | nil =>
         cases g2
         cases g1 with
         | slz=>omega
         | @slc _ _ _ _ c' y hy _ hc1 hc2 hc3 =>
         obtain ⟨cs,el,fr,C,u1,u2,u3,u4,u5,u6,u7,u8,u9,u10⟩:=al7 (hR.ok _ _ _ hy hk) (len:=o+n) (by omega)
         have hdrop:(C.drop o)=ss.map .string:=by
          have h1:A0 ι (((k.cells.take (o+n)).drop o)) (C.drop o):=A0.avR u8 o
          rw [List.drop_take,show o+n-o=n by omega,adb] at h1
          exact alE h1
         have hcell:∀ (j:Nat) x,ss[j]? = some x->w.cell? ⟨y.w5,y.off+o+j,none⟩=some (.string x):=fun j x hj=>by
          rw [Nat.add_assoc]
          apply u6
          have:(C.drop o)[j]? = some (.string x):=by rw [hdrop,List.getElem?_map,hj]; rfl
          rw [List.getElem?_drop] at this
          exact this
         have hbk:y.w5<w.heap.size:=by
          by_cases hlt:y.w5<w.heap.size
          ·exact hlt
          ·rw [Array.getElem?_eq_none (by omega)] at u1; cases u1
         have run:=Any.strings_Join L.L L.X y.w5 (y.off+o) c' ss sep w hcell hbk (by omega) (by omega) hlen
         rw [hssl] at run
         refine run.mono ?_
         rintro e w' ⟨rfl,hB⟩
         exact ⟨ι,_,rfl,fun _ _=>rfl,hR.below hB,akj hB,Own.same _ _ _,.str _⟩
  ·cases h
 ·cases h
end Go.AM

/- strings.Contains in the abstract machine: a text within a text. -/
namespace Go.AM
open Go.Proofs Go.Shelf Go.RowKit Go.Lib Go.Sort
set_option linter.unusedSimpArgs false
set_option linter.unusedVariables false
variable {P:Program} {ρ:Ren}
def ajR (g:Nat):List Value->Heap->Option (Value × Heap)
 | [.string s,.string t],hp =>
   (j7 hp g).bind fun k=>match k.cells with
   | [.int .i64 _]=>if s.size<4294967281 then some (.bool (Lib.contains s.data.toList t.data.toList),hp) else none
   | _=>none
 | _,_=>none
theorem arz (ng:Nat) (L:Lays.n144 P ρ) (hng:ρ.g 1<ng) {args:List Value} {hp hp':Heap} {r:Value} (h:ajR (ρ.g 1) args hp=some (r,hp')):alF P ng (ρ.f 144) args hp r hp':=by
 have hent:Enters P (ρ.f 144):=⟨_,L.f144,by kernel_rfl,rfl⟩
 unfold ajR at h
 split at h
 ·rename_i s t
  cases hk:j7 hp (ρ.g 1) with
  | none=>rw [hk] at h; cases h
  | some k =>
  rw [hk] at h
  simp only [Option.bind_some] at h
  split at h
  ·rename_i m hm
   split at h
   ·rename_i hs
    cases h
    refine ⟨hent,n7.refl _,fun ι w B args' hR ha=>?_⟩
    obtain ⟨al⟩:=args'
    simp only at ha
    cases ha with
    | cons g1 ha=>cases ha with
      | cons g2 ha=>cases ha with
        | nil =>
          cases g1
          cases g2
          obtain ⟨x,x1,x2,x3⟩:=hR.D0 _ hng
          obtain ⟨cs,el,fr,C,u1,u2,u3,u4,u5,u6,u7,u8,u9,u10⟩:=al7 (hR.ok _ _ _ x1 hk) (len:=1) (by rw [hm]; simp)
          have hC:C[0]? = some (.int .i64 m):=by
           rw [hm] at u8
           cases u8 with
           | cons q1 q2=>cases q1; rfl
          have hc:=u6 0 _ hC
          rw [x2,x3] at hc
          refine (Any.strings_Contains L s t m w hs hc).mono ?_
          rintro e w' ⟨rfl,rfl⟩
          exact ⟨ι,_,rfl,fun _ _=>rfl,hR,akj (Below.refl _ _),Own.same _ _ _,.bool _⟩
   ·cases h
  ·cases h
 ·cases h
end Go.AM

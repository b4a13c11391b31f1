/- Contracts: a list of addresses that is written is read back. -/
import Derived.Test.YtmokcpfbeggigaaGreatDoorScriptListCi0listZ
import Derived.Test.YtmokcpfbeggigaaGreatDoorFnScriptListK4
namespace Go.Proofs.YtmokcpfbeggigaaGreatDoor.Q
open Go Go.AM
set_option linter.unusedSimpArgs false
set_option linter.unusedVariables false
set_option linter.unusedSectionVars false
theorem anM (c:UInt8):∀ (x:Bs) (b:UInt8),(Y3 c x).head? = some b->b ≠ c
 | [],b,h=>by cases h
 | y::l,b,h=>by
   unfold Y3 at h
   split at h
   ·exact anM c l b h
   ·rename_i hy; simp at h; subst h; exact hy
theorem aoQ (c:UInt8):∀ (x:Bs) (b:UInt8),(Q8 c x).getLast? = some b->b ≠ c
 | [],b,h=>by cases h
 | y::l,b,h=>by
   unfold Q8 at h
   split at h
   ·split at h
    ·cases h
    ·rename_i hy; simp at h; subst h; exact hy
   ·rename_i hl
    cases hr:Q8 c l with
    | nil=>exact absurd hr hl
    | cons z zs =>
      rw [hr,List.getLast?_cons_cons] at h
      exact aoQ c l b (by rw [hr]; exact h)
theorem aqd {a:Ad} (h:I9 a=true):B2 a ≠ []/\(∀ b,(B2 a).head? = some b->b ≠ 32)/\∀ b,(B2 a).getLast? = some b->b ≠ 32:=by
 obtain ⟨h1,_,h3⟩:=aqm h
 refine ⟨h3,fun b hb=>?_,fun b hb=>?_⟩
 ·rw [<-h1] at hb; exact anM 32 _ b hb
 ·rw [<-h1] at hb
  have e:A5 (B2 a)=Q8 32 (Y3 32 (B2 a)):=aqr 32 _
  rw [e] at hb
  exact aoQ 32 _ b hb
theorem ag8 (a b:Ad) (r:List Ad):C9 (a::b::r)=B2 a++[44,32]++C9 (b::r):=rfl
theorem aiy (a:Ad):C9 [a]=B2 a:=rfl
theorem ase (a:Ad) (r:List Ad):∃ z,C9 (a::r)=B2 a++z:=by
 cases r with
 | nil=>exact ⟨[],by rw [aiy]; simp⟩
 | cons b r=>exact ⟨[44,32]++C9 (b::r),by rw [ag8,List.append_assoc]⟩
theorem aow:∀ (a:Ad) (r:List Ad),∃ x z,z ∈ a::r/\C9 (a::r)=x++B2 z
 | a,[]=>⟨[],a,by simp,by rw [aiy]; simp⟩
 | a,b::r=>by
   obtain ⟨x,z,hz,e⟩:=aow b r
   exact ⟨B2 a++[44,32]++x,z,List.mem_cons_of_mem _ hz,by rw [ag8,e]; simp only [List.append_assoc]⟩
theorem ajB {a:Ad} {r:List Ad} (h:(a::r).all I9=true):A5 (C9 (a::r))=C9 (a::r)/\C9 (a::r) ≠ []:=by
 have ha:=List.all_eq_true.1 h a (by simp)
 obtain ⟨n1,n2,_⟩:=aqd ha
 obtain ⟨z,e⟩:=ase a r
 obtain ⟨x,c,hc,e2⟩:=aow a r
 obtain ⟨m1,_,m3⟩:=aqd (List.all_eq_true.1 h c hc)
 have hne:C9 (a::r) ≠ []:=by rw [e]; simp [n1]
 refine ⟨(agm hne (fun b hb=>?_) (fun b hb=>?_)).1,hne⟩
 ·rw [e] at hb
  cases hf:B2 a with
  | nil=>exact absurd hf n1
  | cons y t =>
    rw [hf] at hb
    exact n2 b (by rw [hf]; simpa using hb)
 ·rw [e2] at hb
  rcases List.eq_nil_or_concat (B2 c) with hf | ⟨t,y,hf⟩
  ·exact absurd hf m1
  ·rw [List.concat_eq_append] at hf
   rw [hf,<-List.append_assoc,List.getLast?_concat] at hb
   exact m3 b (by rw [hf,List.getLast?_concat]; exact hb)
theorem aqp {sp:Bs} (hsp:sp=[]\/sp=[32]) {a:Ad} (h:I9 a=true) (s:Bs):z8 44 (sp++(B2 a++s)) 0=(z8 44 s 0).map (·+(sp++B2 a).length):=by
 rw [abZ _ (fun b hb=>by
  rcases hsp with rfl | rfl
  ·cases hb
  ·simp only [List.mem_singleton] at hb; subst hb; decide),atZ h,Option.map_map]
 congr 1
 funext k
 simp only [Function.comp,List.length_append]
 omega
theorem aql:∀ (a:Ad) (r:List Ad) (sp:Bs),(sp=[]\/sp=[32])->(a::r).all I9=true->aaa 44 (sp++C9 (a::r))=(sp++B2 a)::r.map fun b=>32::B2 b
 | a,[],sp,hsp,h=>by
   have e:=aqp hsp (List.all_eq_true.1 h a (by simp)) []
   have e0:z8 44 ([]:Bs) 0=none:=aey (by simp)
   rw [e0,List.append_nil] at e
   rw [aiy,ahX e]
   rfl
 | a,b::r,sp,hsp,h=>by
   have e:=aqp hsp (List.all_eq_true.1 h a (by simp)) ([44,32]++C9 (b::r))
   have e0:z8 44 ([44,32]++C9 (b::r)) 0=some 0:=aej (by simp) (by simp) (by simp)
   rw [e0] at e
   have hj:sp++C9 (a::b::r)=sp++(B2 a++([44,32]++C9 (b::r))):=by rw [ag8,List.append_assoc]
   have hb:(b::r).all I9=true:=by
    rw [List.all_eq_true] at h ⊢
    exact fun x hx=>h x (List.mem_cons_of_mem _ hx)
   have ih:=aql b r [32] (.inr rfl) hb
   rw [hj,aik (k:=(sp++B2 a).length) (by rw [e]; simp)]
   have h1:(sp++(B2 a++([44,32]++C9 (b::r)))).take (sp++B2 a).length=sp++B2 a:=by
    rw [<-List.append_assoc,List.take_left' rfl]
   have h2:(sp++(B2 a++([44,32]++C9 (b::r)))).drop ((sp++B2 a).length+1)=[32]++C9 (b::r):=by
    have:sp++(B2 a++([44,32]++C9 (b::r)))=(sp++B2 a++[44])++([32]++C9 (b::r)):=by simp
    rw [this,List.drop_left' (by simp; omega)]
   rw [h1,h2,ih]
   rfl
theorem awY {s:Bs} (h:A9 s=true):∀ b ∈ s,wrB b.toNat=false:=fun b hb=>by
 unfold A9 at h
 simp only [Bool.and_eq_true,Bool.not_eq_true',List.any_eq_false] at h
 simpa using h.1 b hb
theorem avr {a:Ad} (h:I9 a=true):∀ b ∈ B2 a,wrB b.toNat=false:=by
 obtain ⟨n,l,d⟩:=a
 obtain ⟨h1,h2,h3⟩:=acf h
 have hn:=awY h1
 have hl:=(au9 h2).1
 have hd:=(at3 h3).1
 have hq:∀ b ∈ D8 n,wrB b.toNat=false:=fun b hb=>by
  unfold D8 at hb
  split at hb
  ·cases hb
  ·split at hb
   ·exact hn b hb
   ·unfold P9 at hb
    simp only [List.mem_append,List.mem_singleton] at hb
    rcases hb with (rfl | hb) | rfl
    ·rfl
    ·obtain ⟨x,hx,hb⟩:=List.mem_flatten.1 hb
     obtain ⟨c,hc,rfl⟩:=List.mem_map.1 hx
     unfold K4 at hb
     split at hb
     ·simp only [List.mem_cons,List.not_mem_nil,or_false] at hb
      rcases hb with rfl | rfl
      ·rfl
      ·exact hn _ hc
     ·simp only [List.mem_cons,List.not_mem_nil,or_false] at hb
      subst hb; exact hn _ hc
    ·rfl
 intro b hb
 unfold B2 at hb
 split at hb
 ·cases hb
 ·split at hb
  ·simp only [List.mem_append,List.mem_singleton] at hb
   rcases hb with (hb | rfl) | hb
   ·exact hl b hb
   ·rfl
   ·exact hd b hb
  ·simp only [List.mem_append,List.mem_cons,List.not_mem_nil,or_false] at hb
   rcases hb with ((((hb | rfl | rfl) | hb) | rfl) | hb) | rfl
   ·exact hq b hb
   ·rfl
   ·rfl
   ·exact hl b hb
   ·rfl
   ·exact hd b hb
   ·rfl
theorem an2:∀ (l:List Ad),l.all I9=true->∀ b ∈ C9 l,wrB b.toNat=false
 | [],_,b,hb=>by cases hb
 | [a],h,b,hb=>avr (List.all_eq_true.1 h a (by simp)) b (by rw [aiy] at hb; exact hb)
 | a::c::r,h,b,hb=>by
   have hc:(c::r).all I9=true:=by
    rw [List.all_eq_true] at h ⊢
    exact fun x hx=>h x (List.mem_cons_of_mem _ hx)
   rw [ag8] at hb
   simp only [List.mem_append,List.mem_cons,List.not_mem_nil,or_false] at hb
   rcases hb with (hb | rfl | rfl) | hb
   ·exact avr (List.all_eq_true.1 h a (by simp)) b hb
   ·rfl
   ·rfl
   ·exact an2 (c::r) hc b hb
theorem awt {s:Bs} (h:∀ b ∈ s,wrB b.toNat=false) (hl:s.length<=200):A9 s=true:=by
 unfold A9
 simp only [Bool.and_eq_true,Bool.not_eq_true',List.any_eq_false,decide_eq_true_eq]
 exact ⟨fun b hb=>by rw [h b hb]; decide,hl⟩
theorem anh (a:Ad) (r:List Ad) (hok:(a::r).all I9=true) (h10:(a::r).length<=10) (hx:(C9 (a::r)).length<=200):pc W1 [.str (C9 (a::r))]=some (.w5 [.sl true (vR A1 (a::r)),.bool true]):=by
 have ht:=awt (an2 _ hok) hx
 have e0:=abu (C9 (a::r)) (by omega)
 rw [ht] at e0
 obtain ⟨ht1,ht2⟩:=ajB hok
 have e1:=anK (C9 (a::r)) (by omega)
 rw [ht1] at e1
 have e2:pc L8 [.str (C9 (a::r)),.int .u8 44]=_:=amr (C9 (a::r)) 44 (by omega)
 have hsub:=apb 44 (C9 (a::r))
 have hsp:aaa 44 (C9 (a::r))=B2 a::r.map fun b=>32::B2 b:=by
  have:=aql a r [] (.inl rfl) hok
  simpa using this
 have hlen:(aaa 44 (C9 (a::r))).length=(a::r).length:=by rw [hsp]; simp
 have hps:∀ (i:Nat) (h1:i<(aaa 44 (C9 (a::r))).length) (h2:i<(a::r).length),acK (aaa 44 (C9 (a::r)))[i]=some (a::r)[i]:=fun i h1 h2=>by
  have hA:=List.all_eq_true.1 hok _ (List.getElem_mem h2)
  obtain ⟨f1,f2,_⟩:=aqm hA
  have hT:A9 (aaa 44 (C9 (a::r)))[i]=true:=by
   have:=hsub _ (List.getElem_mem h1)
   exact ajZ ht this.1 this.2
  refine aup hA ?_ hT
  cases i with
  | zero=>simp only [hsp,List.getElem_cons_zero] at f1 ⊢; exact f1
  | succ i=>simp only [hsp,List.getElem_cons_succ,List.getElem_map] at f2 ⊢; exact f2
 generalize hL:a::r=l at *
 generalize hP:aaa 44 (C9 l)=ps at *
 suffices h:l3 (cv W1 [.str (C9 l)] []) fun r=>r.1 = .w5 [.sl true (vR A1 l),.bool true] by
  obtain ⟨⟨v,H⟩,e,h⟩:=h
  have h:v=_:=h
  subst h
  exact adY e (by simp only [b8]) (by simp only [b8,aed A1])
 rw [aiX]
 simp only [b8,e0,e1,ht2,e2]
 refine l3.V3 (I:=fun n st H=>∃ i:Nat,n=l.length-i/\i<=l.length/\st=[.sl true (vR A1 (l.take i)),.sl true (vT ps),.int .i64 (ps.length:Nat),.int .i64 (i:Nat)])
  (P:=fun q vs H=>q=0/\vs=[.sl true (vR A1 l)]) (n:=l.length) ?_ ⟨0,by omega,by omega,rfl⟩ ?_
 ·rintro n st H ⟨i,rfl,hi,rfl⟩
  rw [agr]
  by_cases hlt:i<l.length
  ·have hlt2:i<ps.length:=by omega
   have i1:=aeA true ps .i64 i hlt2
   have hpl:=(hsub _ (List.getElem_mem hlt2)).2
   have e3:=amp ps[i] (by omega)
   rw [hps i hlt2 hlt] at e3
   simp only [ad3] at e3
   have e4:a8 (.int .i64) .add (.int .i64 (i:Int)) (.int .i64 1)=some (.int .i64 ((i+1:Nat):Int)):=y4 _ i 1 (by omega)
   have htk:(l.take i).length=i:=by simp; omega
   have hsn:l.take (i+1)=l.take i++[l[i]]:=List.take_succ_eq_append_getElem hlt
   have a1:I6 false 3 48 (vR A1 (l.take i)) (.sl true [[.str l[i].1,.str l[i].2.1,.str l[i].2.2]])=some (.sl true (vR A1 (l.take (i+1)))):=by
    have:=ac2 3 48 (vR A1 (l.take i)) true (vR A1 [l[i]]) (afG A1 _) (afG A1 _) (by rw [ahZ,ahZ]; simp; omega)
    rw [as3,<-hsn] at this
    exact this
   simp only [b8,E8 A1,abC,htk,i1,e3,e4,a1,show ¬ ((i:Int)=10) from by omega,show ((i:Int)<(ps.length:Int)) from by omega]
   exact ⟨_,rfl,.inr ⟨rfl,l.length-(i+1),by omega,i+1,rfl,by omega,rfl⟩⟩
  ·have he:i=l.length:=by omega
   subst he
   simp only [b8,List.take_length,show ¬ ((l.length:Int)<(ps.length:Int)) from by omega]
   exact ⟨_,rfl,.inl ⟨0,rfl,rfl,rfl⟩⟩
 rintro _ _ H ⟨rfl,rfl⟩
 simp only [b8]
 exact l3.here rfl
theorem ayX {l:List Ad} (h:l.all I9=true) (h10:l.length<=10):SmA l:=⟨by omega,fun a ha=>by
 have:=afa (List.all_eq_true.1 h a ha)
 omega⟩
theorem ayQ {l:List Ad} (h:l.all I9=true) (h10:l.length<=10) (hx:(C9 l).length<=200):flT l=C9 l:=by
 unfold flT
 rw [if_neg (by omega),if_neg,if_neg (by omega)]
 intro h2
 obtain ⟨a,ha,hb⟩:=List.any_eq_true.1 h2
 rw [List.all_eq_true.1 h a ha] at hb
 cases hb
theorem arH (a:Ad) (r:List Ad) (hok:(a::r).all I9=true) (h10:(a::r).length<=10) (hx:(C9 (a::r)).length<=200):cv K5 [.str [108,105,115,116],.str (C9 (a::r))] []=some (.w5 [.str (C9 (a::r)),.bool true],[]):=by
 have e1:=anh a r hok h10 hx
 have e2:=ah1 (a::r) (ayX hok h10)
 rw [ayQ hok h10 hx] at e2
 have hne:=(ajB hok).2
 rw [akf]
 generalize a::r=l at *
 have n1:decide (([108,105,115,116]:Bs)=[97,100,100,114,101,115,115])=false:=rfl
 simp only [b8,E8 A1,e1,e2,hne,n1]
end Go.Proofs.YtmokcpfbeggigaaGreatDoor.Q

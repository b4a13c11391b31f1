/- Coded names: what is written is read. -/
import Derived.Test.YtmokcpfbeggigaaGreatDoorScriptNameCh6readlineZ
namespace Go.Proofs.YtmokcpfbeggigaaGreatDoor.Q
open Go Go.AM
set_option linter.unusedSimpArgs false
set_option linter.unusedVariables false
set_option linter.unusedSectionVars false
def afl:Bs:=[48,49,50,51,52,53,54,55,56,57,65,66,67,68,69,70]
def Q3 (a:Nat):UInt8:=afl.getD a 0
def N2 (b:UInt8):Bs:=if agb b.toNat=true\/b=45\/b=46 then [b] else if b=32 then [95] else [61,Q3 (b.toNat / 16),Q3 (b.toNat % 16)]
def y1 (s:Bs):Bs:=(s.map N2).flatten
def cwB:Bs:=[61,63,117,116,102,45,56,63,113,63]
def cw (s:Bs):Bs:=cwB++y1 s++[63,61]
theorem afa (b:UInt8):1<=(N2 b).length/\(N2 b).length<=3:=by
 unfold N2
 split
 ·simp
 ·split<;>simp
theorem afm (a b:Bs):y1 (a++b)=y1 a++y1 b:=by simp [y1]
theorem akT (b:UInt8) (l:Bs):y1 (b::l)=N2 b++y1 l:=by simp [y1]
theorem Q5:∀ s:Bs,s.length<=(y1 s).length/\(y1 s).length<=3*s.length
 | []=>by simp [y1]
 | b::l=>by
   have:=Q5 l
   have h:=afa b
   rw [akT]
   simp only [List.length_append,List.length_cons]; omega
theorem ad4 (s:Bs):(cw s).length=12+(y1 s).length:=by simp [cw,cwB]; omega
theorem ago {s:Bs} {i:Nat} (h:i<s.length):y1 (s.take (i+1))=y1 (s.take i)++N2 s[i]:=by
 rw [List.take_succ_eq_append_getElem h,afm]; simp [y1]
theorem abk {p:UInt8->Bool} (h:((List.range 256).all fun n=>p (UInt8.ofNat n))=true) (b:UInt8):p b=true:=by
 rw [List.all_eq_true] at h
 have:=h b.toNat (by have:=b.toNat_lt; simpa using this)
 rwa [UInt8.ofNat_toNat] at this
theorem api (b:UInt8):(10:UInt8) ∉ N2 b/\(32:UInt8) ∉ N2 b:=by
 have:=abk (p:=fun b => !(N2 b).contains 10 && !(N2 b).contains 32) (by decide +kernel) b
 simpa using this
theorem ate (s:Bs):(10:UInt8) ∉ y1 s/\(32:UInt8) ∉ y1 s:=by
 constructor
 ·intro h
  obtain ⟨x,hx,hm⟩:=List.mem_flatten.1 h
  obtain ⟨b,_,rfl⟩:=List.mem_map.1 hx
  exact (api b).1 hm
 ·intro h
  obtain ⟨x,hx,hm⟩:=List.mem_flatten.1 h
  obtain ⟨b,_,rfl⟩:=List.mem_map.1 hx
  exact (api b).2 hm
theorem ak6 (s:Bs):(10:UInt8) ∉ cw s/\(32:UInt8) ∉ cw s:=by
 have:=ate s
 unfold cw
 simp only [List.mem_append,not_or]
 exact ⟨⟨⟨by decide,this.1⟩,by decide⟩,⟨⟨by decide,this.2⟩,by decide⟩⟩
def P0 (c:UInt8):Int:=if c ∈ afl then ((afl.idxOf c:Nat):Int) else -1
def hxO (s:Bs):UInt8:=match s with
 | a::c::d::_=>if a=61 then UInt8.ofNat ((16*P0 c+P0 d) % 256).toNat else 0
 | _=>0
def J8:Bs->Bs
 | []=>[]
 | b::l=>if b=95 then 32::J8 l else if b=61 then hxO (b::l)::J8 (l.drop 2) else b::J8 l
termination_by s=>s.length
decreasing_by
 ·simp
 ·simp; omega
 ·simp
theorem anX (l:Bs):J8 (95::l)=32::J8 l:=by rw [J8,if_pos rfl]
theorem apx (l:Bs):J8 (61::l)=hxO (61::l)::J8 (l.drop 2):=by rw [J8,if_neg (by decide),if_pos rfl]
theorem aqF {b:UInt8} (l:Bs) (h1:b ≠ 95) (h2:b ≠ 61):J8 (b::l)=b::J8 l:=by rw [J8,if_neg h1,if_neg h2]
theorem aoc:∀ s:Bs,J8 (y1 s)=s
 | []=>by simp [y1,J8]
 | b::l=>by
   have ih:=aoc l
   rw [akT]
   by_cases h1:agb b.toNat=true\/b=45\/b=46
   ·have e:N2 b=[b]:=by unfold N2; rw [if_pos h1]
    have:=abk (p:=fun b => !decide (agb b.toNat=true\/b=45\/b=46)||(!decide (b=95) && !decide (b=61))) (by decide +kernel) b
    rw [decide_eq_true h1] at this
    simp only [Bool.not_true,Bool.false_or,Bool.and_eq_true,Bool.not_eq_true',decide_eq_false_iff_not] at this
    rw [e,List.cons_append,List.nil_append,aqF _ this.1 this.2,ih]
   ·by_cases h2:b=32
    ·have e:N2 b=[95]:=by unfold N2; rw [if_neg h1,if_pos h2]
     rw [e,List.cons_append,List.nil_append,anX,ih,h2]
    ·have e:N2 b=[61,Q3 (b.toNat / 16),Q3 (b.toNat % 16)]:=by unfold N2; rw [if_neg h1,if_neg h2]
     have hx:∀ r,hxO (61::Q3 (b.toNat / 16)::Q3 (b.toNat % 16)::r)=b:=fun r=>by
      have:=abk (p:=fun b=>decide (hxO [61,Q3 (b.toNat / 16),Q3 (b.toNat % 16)]=b)) (by decide +kernel) b
      exact of_decide_eq_true this
     rw [e]
     simp only [List.cons_append,List.nil_append]
     rw [apx,hx]
     simp only [List.drop_succ_cons,List.drop_zero,ih]
def rdW (s:Bs):Option Bs:=if s.length<=40/\12<=s.length then
    (if 1<=(J8 ((s.drop 10).take (s.length-2-10))).length/\(J8 ((s.drop 10).take (s.length-2-10))).length<=40/\(cw (J8 ((s.drop 10).take (s.length-2-10)))).length<=40/\cw (J8 ((s.drop 10).take (s.length-2-10)))=s then some (J8 ((s.drop 10).take (s.length-2-10))) else none) else none
theorem asM {o:Bs} (h1:1<=o.length) (h2:(cw o).length<=40):rdW (cw o)=some o:=by
 have hl:=Q5 o
 have hc:=ad4 o
 have hi:((cw o).drop 10).take ((cw o).length-2-10)=y1 o:=by
  rw [hc,show 12+(y1 o).length-2-10=(y1 o).length by omega]
  have:(cw o).drop 10=y1 o++[63,61]:=by
   unfold cw
   rw [List.append_assoc]
   exact List.drop_left' rfl
  rw [this,List.take_left]
 unfold rdW
 rw [if_pos ⟨h2,by omega⟩,hi,aoc,if_pos ⟨h1,by omega,h2,rfl⟩]
def G9:Bs->Bool
 | a::b::l=>(decide (a=61)&&decide (b=63))||G9 (b::l)
 | _=>false
theorem ap4 (a:UInt8) {l:Bs} (h:G9 l=true):G9 (a::l)=true:=by
 cases l with
 | nil=>exact absurd h (by decide)
 | cons b l=>simp only [G9,h,Bool.or_true]
theorem akU:∀ (a:Bs) {l:Bs},G9 l=true->G9 (a++l)=true
 | [],l,h=>h
 | b::a,l,h=>ap4 b (akU a h)
theorem aeN (z:Bs):∀ {l:Bs},G9 l=true->G9 (l++z)=true
 | [],h=>absurd h (by decide)
 | [a],h=>absurd h (by simp [G9])
 | a::b::l,h=>by
   have ih := @aeN z (b::l)
   simp only [List.cons_append] at ih ⊢
   simp only [G9,Bool.or_eq_true] at h ⊢
   rcases h with h | h
   ·exact .inl h
   ·exact .inr (ih h)
theorem atd (o:Bs):G9 (cw o)=true:=by
 unfold cw
 rw [List.append_assoc]
 exact aeN _ (by decide)
theorem avJ {s:Bs} (h:G9 s=false):rdW s=none:=by
 unfold rdW
 split
 ·split
  ·rename_i hc
   have:=atd (J8 ((s.drop 10).take (s.length-2-10)))
   rw [hc.2.2.2,h] at this
   cases this
  ·rfl
 ·rfl
theorem aq2:∀ s:Bs,Lib.contains s [61,63]=G9 s:=by
 have key:∀ s:Bs,-1<=Lib.index s [61,63]/\(decide (0<=Lib.index s [61,63])=G9 s):=by
  intro s
  induction s with
  | nil=>exact ⟨by decide,by decide⟩
  | cons a l ih =>
    obtain ⟨i1,i2⟩:=ih
    have hp:([61,63]:Bs).isPrefixOf (a::l)=(decide (a=61)&&match l with | b::_=>decide (b=63) | []=>false):=by
     cases l with
     | nil =>
       simp only [List.isPrefixOf,Bool.and_false]
     | cons b l =>
       simp only [List.isPrefixOf,Bool.and_true]
       have q:∀ x y:UInt8,(x==y)=decide (y=x):=fun x y=>by
        rw [Bool.eq_iff_iff,beq_iff_eq,decide_eq_true_eq]; exact eq_comm
       rw [q,q]
    unfold Lib.index
    rw [hp]
    cases l with
    | nil =>
      simp only [Bool.and_false,Bool.false_eq_true,if_false,G9]
      decide
    | cons b l =>
      by_cases hc:(decide (a=61)&&decide (b=63))=true
      ·simp only [hc,if_true,G9,Bool.true_or]
       decide
      ·have hc':(decide (a=61)&&decide (b=63))=false:=by simpa using hc
       simp only [hc',Bool.false_eq_true,if_false,G9,Bool.false_or]
       rw [<-i2]
       by_cases hz:Lib.index (b::l) [61,63] = -1
       ·rw [hz]; decide
       ·rw [if_neg (by simpa using hz)]
        exact ⟨by omega,decide_eq_decide.2 (by omega)⟩
 intro s
 exact (key s).2
def ndC (s:Bs):Bool := !aat s||(decide (agW s ≠ s)||(G9 s||decide (120<s.length)))
def gN (b:Bs) (n:Nat):Nat:=if n<b.length/\(y1 (b.take (n+1))).length<=28 then gN b (n+1) else n
termination_by b.length-n
theorem aop {b:Bs} {n:Nat} (h:n<b.length) (h2:(y1 (b.take (n+1))).length<=28):gN b n=gN b (n+1):=by
 conv=>lhs; rw [gN,if_pos ⟨h,h2⟩]
theorem aiz {b:Bs} {n:Nat} (h:¬ (n<b.length/\(y1 (b.take (n+1))).length<=28)):gN b n=n:=by
 rw [gN,if_neg h]
theorem asN {b:Bs} {n:Nat} (h:n<=b.length) (h2:(y1 (b.take n)).length<=28):n<=gN b n/\gN b n<=b.length/\(y1 (b.take (gN b n))).length<=28/\(gN b n<b.length->26<=(y1 (b.take (gN b n))).length):=by
 by_cases hc:n<b.length/\(y1 (b.take (n+1))).length<=28
 ·rw [aop hc.1 hc.2]
  have:=asN (b:=b) (n:=n+1) (by omega) hc.2
  exact ⟨by omega,this.2⟩
 ·rw [aiz hc]
  refine ⟨Nat.le_refl _,h,h2,fun hlt=>?_⟩
  have h3:=ago hlt
  have h4:=afa b[n]
  have h5:¬ (y1 (b.take (n+1))).length<=28:=fun q=>hc ⟨hlt,q⟩
  rw [h3] at h5
  simp only [List.length_append] at h5
  omega
termination_by b.length-n
theorem aei {b:Bs} (h:b ≠ []):1<=gN b 1/\gN b 1<=b.length/\(y1 (b.take (gN b 1))).length<=28/\(gN b 1<b.length->26<=(y1 (b.take (gN b 1))).length):=by
 have hl:=List.length_pos_iff.2 h
 have h1:(b.take 1).length<=1:=by rw [List.length_take]; omega
 have h2:=(Q5 (b.take 1)).2
 exact asN (by omega) (by omega)
def Q7 (b:Bs):List Bs:=if h:b=[] then [] else b.take (gN b 1)::Q7 (b.drop (gN b 1))
termination_by b.length
decreasing_by
 have:=aei h
 rw [List.length_drop]; have:=List.length_pos_iff.2 h; omega
theorem aby:Q7 []=[]:=by rw [Q7,dif_pos rfl]
theorem ab3 {b:Bs} (h:b ≠ []):Q7 b=b.take (gN b 1)::Q7 (b.drop (gN b 1)):=by
 conv=>lhs; rw [Q7,dif_neg h]
theorem agA (b:Bs):(Q7 b).flatten=b:=by
 by_cases h:b=[]
 ·subst h; rw [aby]; rfl
 ·have:=aei h
  have hl:=List.length_pos_iff.2 h
  rw [ab3 h,List.flatten_cons,agA (b.drop (gN b 1)),List.take_append_drop]
termination_by b.length
decreasing_by rw [List.length_drop]; omega
theorem agD (b:Bs):∀ c ∈ Q7 b,1<=c.length/\(cw c).length<=40:=by
 by_cases h:b=[]
 ·subst h; rw [aby]; simp
 ·have hg:=aei h
  have hl:=List.length_pos_iff.2 h
  rw [ab3 h]
  intro c hc
  rcases List.mem_cons.1 hc with rfl | hc
  ·rw [ad4]
   exact ⟨by simp; omega,by omega⟩
  ·exact agD (b.drop (gN b 1)) c hc
termination_by b.length
decreasing_by rw [List.length_drop]; omega
theorem afH (b:Bs):26*(Q7 b).length<=(y1 b).length+26:=by
 by_cases h:b=[]
 ·subst h; rw [aby]; simp
 ·have hg:=aei h
  have hl:=List.length_pos_iff.2 h
  have hs:(y1 b).length=(y1 (b.take (gN b 1))).length+(y1 (b.drop (gN b 1))).length:=by
   rw [<-List.length_append,<-afm,List.take_append_drop]
  rw [ab3 h,List.length_cons]
  by_cases hlt:gN b 1<b.length
  ·have:=afH (b.drop (gN b 1))
   have:=hg.2.2.2 hlt
   omega
  ·rw [List.drop_of_length_le (by omega),aby]
   simp
termination_by b.length
decreasing_by rw [List.length_drop]; omega
def tlW (l:List Bs):Bs:=(l.map fun t=>32::t).flatten
theorem U9 (a:Bs):∀ l:List Bs,C8 [32] (a::l)=a++tlW l
 | []=>by simp [C8,tlW]
 | b::l=>by
   have:=U9 b l
   simp only [C8,this,tlW,List.map_cons,List.flatten_cons,List.append_assoc,List.cons_append,List.nil_append]
theorem aeK:∀ s:Bs,C8 [32] (j9 32 s)=s
 | []=>rfl
 | b::l=>by
   have ih:=aeK l
   by_cases h:b=32
   ·subst h
    have e:j9 32 (32::l)=[]::j9 32 l:=by simp [j9]
    rw [e,U9]
    cases hs:j9 32 l with
    | nil=>exact absurd hs (aaK 32 l)
    | cons x r =>
      rw [hs,U9] at ih
      simp only [tlW,List.map_cons,List.flatten_cons,List.nil_append,List.cons_append] at ih ⊢
      rw [ih]
   ·cases hs:j9 32 l with
    | nil=>exact absurd hs (aaK 32 l)
    | cons x r =>
      have e:j9 32 (b::l)=(b::x)::r:=by simp [j9,h,hs]
      rw [hs,U9] at ih
      rw [e,U9,List.cons_append,ih]
theorem ai7 {c:UInt8} (z:Bs):∀ {a:Bs},c ∉ a->j9 c (a++c::z)=a::j9 c z
 | [],_=>by simp [j9]
 | b::a,h=>by
   simp only [List.mem_cons,not_or] at h
   have ih:=ai7 (c:=c) z h.2
   have hb:b ≠ c:=fun e=>h.1 e.symm
   rw [List.cons_append]
   simp only [j9,if_neg hb,ih]
theorem aoY (a:Bs) (l:List Bs) (ha:(32:UInt8) ∉ a) (hl:∀ t ∈ l,(32:UInt8) ∉ t):j9 32 (C8 [32] (a::l))=a::l:=by
 induction l generalizing a with
 | nil=>exact abP 32 a ha
 | cons b l ih =>
   have e:C8 [32] (a::b::l)=a++32::C8 [32] (b::l):=by simp [C8]
   rw [e,ai7 _ ha,ih b (hl b (by simp)) (fun t ht=>hl t (by simp [ht]))]
theorem amL:∀ {l:List Bs} {t:Bs},t ∈ l->∃ x y,C8 [32] l=x++t++y
 | [a],t,h=>by
   simp only [List.mem_singleton] at h; subst h
   exact ⟨[],[],by simp [C8]⟩
 | a::b::l,t,h=>by
   rcases List.mem_cons.1 h with rfl | h
   ·exact ⟨[],32::C8 [32] (b::l),by simp [C8]⟩
   ·obtain ⟨x,y,e⟩:=amL h
    exact ⟨a++[32]++x,y,by simp only [C8,e,List.append_assoc]⟩
def Z6 (first coded:Bool):List Bs->Bs
 | []=>[]
 | t::l=>(if first=false/\(coded&&(rdW t).isSome)=false then [32] else [])++((rdW t).getD t++Z6 false (rdW t).isSome l)
def dcW (s:Bs):Option Bs:=if 600<s.length then none else if 120<(Z6 true false (j9 32 s)).length then none else some (Z6 true false (j9 32 s))
theorem akH (c:Bool):∀ l:List Bs,(∀ t ∈ l,rdW t=none)->Z6 false c l=tlW l
 | [],_=>rfl
 | t::l,h=>by
   have e:=h t (by simp)
   have ih:=akH false l fun x hx=>h x (by simp [hx])
   simp only [Z6,e,Option.isSome_none,Bool.and_false,and_self,if_true,Option.getD_none,ih,tlW,List.map_cons,List.flatten_cons,List.cons_append,List.nil_append]
theorem akS:∀ l:List Bs,(∀ t ∈ l,rdW (cw t)=some t)->Z6 false true (l.map cw)=l.flatten
 | [],_=>rfl
 | t::l,h=>by
   have e:=h t (by simp)
   have ih:=akS l fun x hx=>h x (by simp [hx])
   simp only [List.map_cons,Z6,e,Option.isSome_some,Bool.and_true,Option.getD_some,ih,List.flatten_cons]
   simp
def V0 (b:Bs):Option Bs:=if 120<b.length then none else if ndC b=false then some b else some (C8 [32] ((Q7 b).map cw))
theorem anB:∀ l:List Bs,(tlW (l.map cw)).length=(y1 l.flatten).length+13*l.length
 | []=>by simp [tlW,y1]
 | t::l=>by
   have:=anB l
   have e:tlW ((t::l).map cw)=32::cw t++tlW (l.map cw):=by simp [tlW]
   rw [e,List.flatten_cons,afm]
   simp only [List.length_append,List.length_cons,ad4,this]; omega
theorem ajE {b s:Bs} (h:V0 b=some s):s.length<=600:=by
 unfold V0 at h
 split at h
 ·cases h
 ·rename_i hb
  split at h
  ·cases h; omega
  ·cases h
   have hm:=afH b
   have hc:=Q5 b
   have hf:=agA b
   cases he:Q7 b with
   | nil=>simp [C8]
   | cons a l =>
     rw [he] at hm hf
     rw [List.map_cons,U9,List.length_append,ad4,anB]
     have:(y1 b).length=(y1 a).length+(y1 l.flatten).length:=by
      rw [<-hf,List.flatten_cons,afm,List.length_append]
     simp only [List.length_cons] at hm
     omega
theorem atf:ndC []=false:=by decide
theorem au6 {b s:Bs} (h:V0 b=some s):(10:UInt8) ∉ s:=by
 unfold V0 at h
 split at h
 ·cases h
 ·split at h
  ·rename_i hn
   cases h
   intro hm
   have ht:aat b=true:=by
    unfold ndC at hn
    cases q:aat b with
    | true=>rfl
    | false=>rw [q] at hn; cases hn
   unfold aat at ht
   simp only [Bool.and_eq_true,Bool.not_eq_true',List.any_eq_false] at ht
   exact absurd (ht.1 10 hm) (by decide)
  ·cases h
   cases he:Q7 b with
   | nil=>simp [C8]
   | cons a l =>
     rw [List.map_cons,U9]
     intro hm
     rcases List.mem_append.1 hm with hm | hm
     ·exact (ak6 a).1 hm
     ·obtain ⟨x,hx,hm⟩:=List.mem_flatten.1 hm
      obtain ⟨y,hy,rfl⟩:=List.mem_map.1 hx
      obtain ⟨t,_,rfl⟩:=List.mem_map.1 hy
      rcases List.mem_cons.1 hm with hm | hm
      ·exact absurd hm (by decide)
      ·exact (ak6 t).1 hm
theorem atG {b s:Bs} (h:V0 b=some s):dcW s=some b:=by
 have hl:=ajE h
 have hb:b.length<=120:=by
  unfold V0 at h
  split at h
  ·cases h
  ·omega
 suffices e:Z6 true false (j9 32 s)=b by
  unfold dcW
  rw [if_neg (by omega),e,if_neg (by omega)]
 unfold V0 at h
 rw [if_neg (by omega)] at h
 split at h
 ·rename_i hn
  cases h
  have hq:G9 b=false:=by
   unfold ndC at hn
   cases q:G9 b with
   | false=>rfl
   | true=>rw [q] at hn; simp at hn
  have hr:∀ t ∈ j9 32 b,rdW t=none:=fun t ht=>by
   refine avJ ?_
   cases q:G9 t with
   | false=>rfl
   | true =>
     obtain ⟨x,y,e⟩:=amL ht
     rw [aeK] at e
     have:=aeN y (akU x q)
     rw [<-e,hq] at this
     cases this
  have hj:=aeK b
  cases hs:j9 32 b with
  | nil=>exact absurd hs (aaK 32 b)
  | cons t l =>
    rw [hs] at hr hj
    have e:=hr t (by simp)
    have ih:=akH false l fun x hx=>hr x (by simp [hx])
    rw [U9] at hj
    simp only [Z6,e,Option.isSome_none,Option.getD_none,ih]
    simpa using hj
 ·rename_i hn
  cases h
  have hf:=agA b
  have hok:=agD b
  cases he:Q7 b with
  | nil =>
    rw [he] at hf
    have:b=[]:=hf.symm
    subst this
    exact absurd atf hn
  | cons t l =>
    rw [he] at hf hok
    rw [List.map_cons,aoY _ _ (ak6 t).2 (fun x hx=>by obtain ⟨y,_,rfl⟩:=List.mem_map.1 hx; exact (ak6 y).2)]
    have e:=asM (hok t (by simp)).1 (hok t (by simp)).2
    have ih:=akS l fun x hx=>asM (hok x (by simp [hx])).1 (hok x (by simp [hx])).2
    simp only [Z6,e,Option.isSome_some,Option.getD_some,ih]
    rw [<-hf]
    simp
end Go.Proofs.YtmokcpfbeggigaaGreatDoor.Q

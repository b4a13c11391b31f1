/- Part 5 of the machines: what is proved is told at each theorem; no condition. -/
import Derived.Test.YtaapfgpeeghmeaaGreatDoorFnScriptTraceK4
import Derived.Test.YtaapfgpeeghmeaaGreatDoorFnScriptTraceK2
/- Rows in objects: what calls see of them, what becomes of rows that calls give. -/
namespace Go.AM
set_option linter.unusedSimpArgs false
set_option linter.unusedVariables false
mutual
theorem alD (G:VH):∀ v:V,data v=true->Z6 G v=strip v
 | .bool b,_=>rfl
 | .int k n,_=>rfl
 | .str s,_=>rfl
 | .c9,_=>rfl
 | .Y4,_=>rfl
 | .ub,_=>rfl
 | .gp g off,h=>by simp only [data] at h; cases h
 | .I8 cs off,h=>by simp only [data] at h; cases h
 | .ptr k off,h=>by simp only [data] at h; cases h
 | .l8 k off n e,h=>by simp only [data] at h; cases h
 | .fn f cs,h=>by simp only [data] at h; cases h
 | .sl ow xs,h=>by simp only [data] at h; simp only [Z6,strip,am5 G xs h]
 | .agg cs,h=>by simp only [data] at h; simp only [Z6,strip,ag9 G cs h]
 | .A4 cs,h=>by simp only [data] at h; simp only [Z6,strip,ag9 G cs h]
theorem ag9 (G:VH):∀ l:List V,B3 l=true->ac5 G l=o9 l
 | [],_=>rfl
 | v::l,h=>by
   simp only [B3,Bool.and_eq_true] at h
   simp only [ac5,o9,alD G v h.1,ag9 G l h.2]
theorem am5 (G:VH):∀ l:List (List V),D5 l=true->acI G l=n9 l
 | [],_=>rfl
 | v::l,h=>by
   simp only [D5,Bool.and_eq_true] at h
   simp only [acI,n9,ag9 G v h.1,am5 G l h.2]
end
theorem arA (d:Nat) (H:VH) (v:V) (h:data v=true):frD d H v=strip v:=by
 cases d with
 | zero=>exact alD _ v h
 | succ d=>exact alD _ v h
mutual
theorem auH:∀ v:V,data v=true->akS v=true
 | .bool b,_=>rfl
 | .int k n,_=>rfl
 | .str s,_=>rfl
 | .c9,_=>rfl
 | .Y4,_=>rfl
 | .ub,_=>rfl
 | .gp g off,h=>by simp only [data] at h; cases h
 | .I8 cs off,h=>by simp only [data] at h; cases h
 | .ptr k off,h=>by simp only [data] at h; cases h
 | .l8 k off n e,h=>by simp only [data] at h; cases h
 | .fn f cs,h=>by simp only [data] at h; cases h
 | .sl ow xs,h=>by simp only [data] at h; simp only [akS,ajo xs h]
 | .agg cs,h=>by simp only [data] at h; simp only [akS,abS cs h]
 | .A4 cs,h=>by simp only [data] at h; simp only [akS,abS cs h]
theorem abS:∀ l:List V,B3 l=true->aaQ l=true
 | [],_=>rfl
 | v::l,h=>by
   simp only [B3,Bool.and_eq_true] at h
   simp only [aaQ,auH v h.1,abS l h.2,Bool.and_self]
theorem ajo:∀ l:List (List V),D5 l=true->akE l=true
 | [],_=>rfl
 | v::l,h=>by
   simp only [D5,Bool.and_eq_true] at h
   simp only [akE,abS v h.1,ajo l h.2,Bool.and_self]
end
theorem aoT:∀ {a b:List V},B3 a=true->B3 b=true->B3 (a++b)=true
 | [],b,_,h=>h
 | v::a,b,h,g=>by
   simp only [List.cons_append,B3,Bool.and_eq_true] at h ⊢
   exact ⟨h.1,aoT h.2 g⟩
theorem am0:∀ {r:List (List V)},D5 r=true->B3 r.flatten=true
 | [],_=>rfl
 | x::r,h=>by
   simp only [D5,Bool.and_eq_true] at h
   rw [List.flatten_cons]
   exact aoT h.1 (am0 h.2)
theorem auJ (a b:List V):o9 (a++b)=o9 a++o9 b:=by rw [K5,K5,K5,List.map_append]
theorem als:∀ r:List (List V),o9 r.flatten=(n9 r).flatten
 | []=>rfl
 | x::r=>by rw [List.flatten_cons,auJ,als r]; rfl
def Rows (e:Nat) (r:List (List V)):Prop:=∀ x ∈ r,x.length=e
theorem Rows.flat {e:Nat}:∀ {r:List (List V)},Rows e r->r.flatten.length=r.length*e
 | [],_=>by simp
 | x::r,h=>by
   have h1:=h x (by simp)
   have h2:=Rows.flat (r:=r) (fun y hy=>h y (by simp [hy]))
   rw [List.flatten_cons,List.length_append,h1,h2,List.length_cons,Nat.succ_mul,Nat.add_comm]
theorem Rows.chunk {e:Nat}:∀ {r:List (List V)},Rows e r->D2 e r.length r.flatten=r
 | [],_=>rfl
 | x::r,h=>by
   have h1:=h x (by simp)
   have h2:=Rows.chunk (r:=r) (fun y hy=>h y (by simp [hy]))
   simp only [List.length_cons,D2,List.flatten_cons]
   rw [<-h1,List.take_left,List.drop_left,h1,h2]
theorem Rows.strip {e:Nat} {r:List (List V)} (h:Rows e r):Rows e (n9 r):=fun x hx=>by
 rw [abQ] at hx
 obtain ⟨y,hy,rfl⟩:=List.mem_map.1 hx
 rw [List.length_map]; exact h y hy
theorem Rows.get {e:Nat} {j:Nat} (hj:j<e):∀ {r:List (List V)} {i:Nat} {x:List V},Rows e r->r[i]? = some x->r.flatten[i*e+j]? = x[j]?
 | [],i,x,_,h=>by simp at h
 | y::r,0,x,hr,h=>by
   simp at h; subst h
   have h1:=hr y (by simp)
   rw [List.flatten_cons,Nat.zero_mul,Nat.zero_add,List.getElem?_append_left (by omega)]
 | y::r,i+1,x,hr,h=>by
   have h1:=hr y (by simp)
   simp at h
   rw [List.flatten_cons,List.getElem?_append_right (by rw [h1,Nat.succ_mul]; omega),h1]
   have:(i+1)*e+j-e=i*e+j:=by rw [Nat.succ_mul]; omega
   rw [this]
   exact Rows.get hj (fun z hz=>hr z (by simp [hz])) h
theorem Rows.set {e:Nat} {j:Nat} (hj:j<e) {v:V}:∀ {r:List (List V)} {i:Nat} {x:List V},Rows e r->r[i]? = some x->G7 r.flatten (i*e+j) [v]=(r.set i (x.set j v)).flatten
 | [],i,x,_,h=>by simp at h
 | y::r,0,x,hr,h=>by
   simp at h; subst h
   have h1:=hr y (by simp)
   simp only [List.flatten_cons,Nat.zero_mul,Nat.zero_add,List.set_cons_zero,G7,List.length_singleton]
   rw [List.take_append_of_le_length (by omega),List.drop_append_of_le_length (by omega),<-List.append_assoc]
   congr 1
   rw [List.set_eq_take_append_cons_drop,if_pos (by omega)]; simp
 | y::r,i+1,x,hr,h=>by
   have h1:=hr y (by simp)
   simp at h
   have ih:=Rows.set hj (v:=v) (r:=r) (i:=i) (fun z hz=>hr z (by simp [hz])) h
   simp only [G7,List.length_singleton] at ih
   simp only [List.flatten_cons,List.set_cons_succ,G7,List.length_singleton]
   have e1:(i+1)*e+j=y.length+(i*e+j):=by rw [Nat.succ_mul]; omega
   rw [e1,List.take_length_add_append,Nat.add_assoc,List.drop_length_add_append,List.append_assoc,List.append_assoc,<-ih,List.append_assoc]
theorem azn (d:Nat) {H:VH} {k e:Nat} {r:List (List V)} (hk:H[k]? = some r.flatten) (hr:Rows e r) (hd:D5 r=true):frD d H (.l8 k 0 r.length e) = .sl false (n9 r):=by
 have fin:∀ G:VH,G[k]? = some (o9 r.flatten)->Z6 G (.l8 k 0 r.length e) = .sl false (n9 r):=fun G hG=>by
  have h1:G.getD k []=(n9 r).flatten:=by rw [List.getD_eq_getElem?_getD,hG,als]; rfl
  have h2:=hr.strip.flat
  rw [aab] at h2
  simp only [Z6,h1]
  rw [O5 (by omega)]
  simp only [List.drop_zero]
  rw [List.take_of_length_le (by omega)]
  have h3:=hr.strip.chunk
  rw [aab] at h3
  rw [h3]
 cases d with
 | zero =>
   refine fin _ ?_
   rw [List.getElem?_map,hk]; rfl
 | succ d =>
   refine fin _ ?_
   rw [List.getElem?_map,hk]
   simp only [Option.map_some]
   rw [K5]
   congr 1
   have:∀ {l:List V},B3 l=true->l.map (frD d H)=l.map strip:=by
    intro l
    induction l with
    | nil=>intro _; rfl
    | cons v l ih =>
      intro h
      simp only [B3,Bool.and_eq_true] at h
      simp only [List.map_cons,arA d H v h.1,ih h.2]
   exact this (am0 hd)
theorem afX {H:VH} {k e:Nat} {r:List (List V)} (hk:H[k]? = some r.flatten) (hr:Rows e r):aaR H (.l8 k 0 r.length e)=some (.sl false (n9 r)):=by
 have h2:=hr.flat
 simp only [aaR,hk,Option.bind_some]
 rw [O5 (by omega)]
 simp only [List.drop_zero,Option.map_some]
 rw [List.take_of_length_le (by omega),hr.chunk]
theorem awj (H:VH) (o:Bool) (xs:List (List V)):aaR H (.sl o xs)=some (.sl o xs):=rfl
theorem awe {call:C0} {f:FuncId} {H:VH} {vs:List V} (h:aaQ vs=true):U6 call f H vs=Q3 call f (vs.map (j6 H)):=by unfold U6; rw [h]
theorem avU {call:C0} {f:FuncId} {H:VH} {vs:List V} (h:aaQ vs=false):U6 call f H vs=Q3 call f (vs.map (frD 3 H)):=by unfold U6; rw [h]
theorem ayj {call:C0} {f:FuncId} {H:VH} {vs:List V} (h:aaQ vs=true):abP call f H vs=T5 call f (vs.map (j6 H)):=by unfold abP; rw [h]
mutual
theorem avn (H:VH):∀ v:V,prom 0 H v=(v,H)
 | .bool b=>rfl
 | .int k n=>rfl
 | .str s=>rfl
 | .c9=>rfl
 | .Y4=>rfl
 | .ub=>rfl
 | .gp g off=>rfl
 | .I8 cs off=>rfl
 | .ptr k off=>rfl
 | .l8 k off n e=>rfl
 | .fn f cs=>rfl
 | .sl ow xs=>by cases xs<;>simp only [prom]
 | .agg cs=>by simp only [prom,afU H cs]
 | .A4 cs=>by simp only [prom,afU H cs]
theorem afU (H:VH):∀ l:List V,U8 0 H l=(l,H)
 | []=>rfl
 | v::l=>by simp only [U8,avn H v,afU H l]
end
theorem ade (H:VH):∀ l:List (List V),U1 0 H l=(l.flatten,H)
 | []=>rfl
 | v::l=>by simp only [U1,afU H v,ade H l,List.flatten_cons]
theorem awn {R:Type} (d:Nat) (H:VH) (K:V->VH->Option R):Z0 d (.sl true []) H K=K (.sl true []) H:=by
 unfold Z0
 simp only [I0,N9,Bool.true_or,Bool.and_self]
 cases d<;>simp only [prom]
theorem avG {R:Type} {r:List (List V)} {e:Nat} (H:VH) (K:V->VH->Option R) (hne:r ≠ []) (hr:Rows e r) (ho:N9 r=true):Z0 1 (.sl true r) H K=K (.l8 H.length 0 r.length e) (H++[r.flatten]):=by
 unfold Z0
 simp only [I0,Bool.true_or,ho,Bool.and_self]
 cases r with
 | nil=>exact absurd rfl hne
 | cons x l =>
   have hx:=hr x (by simp)
   simp only [prom,ade,List.length_cons,hx]
theorem atA (fl st:Bool) (b9 bytes:Nat) (o:Bool) (xs:List (List V)) (x:V) (H:VH) (h:fl=false\/xs ≠ []):afr fl st b9 bytes (.sl o xs) x H=(aez (.sl o xs)).bind fun xs=>(aay st b9 bytes xs x).bind fun r=>some (r,H):=by
 simp only [afr]
 cases o with
 | false=>rfl
 | true =>
   simp only [aez,Option.bind_some]
   have:(fl&&xs.isEmpty)=false:=by
    rcases h with rfl | h
    ·rfl
    ·cases xs with
     | nil=>exact absurd rfl h
     | cons a l=>cases fl<;>rfl
   rw [this]
theorem aw9 {H:VH} {v:V} (h:data v=true):j6 H v=strip v:=by
 cases v<;>first | rfl | (simp only [data] at h; cases h)
theorem aov {H:VH}:∀ {vs:List V},B3 vs=true->vs.map (j6 H)=vs.map strip
 | [],_=>rfl
 | v::vs,h=>by
   simp only [B3,Bool.and_eq_true] at h
   simp only [List.map_cons,aw9 h.1,aov h.2]
theorem aod {d:Nat} {H:VH}:∀ {vs:List V},B3 vs=true->vs.map (frD d H)=vs.map strip
 | [],_=>rfl
 | v::vs,h=>by
   simp only [B3,Bool.and_eq_true] at h
   simp only [List.map_cons,arA d H v h.1,aod h.2]
theorem awK {call:C0} {f:FuncId} {H:VH} {vs:List V} (h:B3 vs=true):U6 call f H vs=Q3 call f (vs.map strip):=by rw [awe (abS vs h),aov h]
theorem axo {call:C0} {f:FuncId} {H:VH} {vs:List V} (h:B3 vs=true):abP call f H vs=T5 call f (vs.map strip):=by rw [ayj (abS vs h),aov h]
theorem awI {H:VH} {k:Nat} {cs:List V} (h:H[k]? = some cs):H.set k cs=H:=by
 apply List.ext_getElem?
 intro i
 rw [List.getElem?_set]
 split
 ·rename_i e
  subst e
  split
  ·exact h.symm
  ·rename_i hlt
   rw [List.getElem?_eq_none (by omega)]
 ·rfl
theorem anV {g:Nat->Option (List V)} {k off:Nat} {H:VH} {cs:List V} {v:V} (h:H[k]? = some cs) (hv:cs[off]? = some v):B2 g false false 1 (.ptr k off) H=some (strip v,H):=by
 simp only [B2,h,acC,hv,Option.bind_some,Option.map_some,awI h]
theorem arj {k n e i:Nat} {kk:IntKind} (h:i<n):A6 e (.l8 k 0 n e) (.int kk (i:Int))=some (.ptr k (i*e)):=by
 simp only [A6]
 rw [if_pos ⟨by omega,by omega,trivial⟩]
 simp
theorem aCw {call:C0} {f:FuncId} {args:List V} {r v u:V} {H:VH} (h:call f args []=some (r,H)) (h1:C1 args=true) (hd:data r=false) (hu:aeU H r=some v) (hd2:data v=false) (ho:ouR H r=none) (hu2:akp H r=some u) (h2:data u=true):T5 call f args=some u:=by
 simp only [T5,h1,h,Option.bind_some,hd,hu,hd2,ouD,ho,hu2,h2]
theorem aCF {call:C0} {f:FuncId} {args:List V} {r v:V} {H:VH} (h:call f args []=some (r,H)) (h1:C1 args=true) (hd:data r=false) (hu:aeU H r=some v) (h2:data v=true):T5 call f args=some v:=by
 simp only [T5,h1,h,Option.bind_some,hd,hu,h2]
theorem aiA {cs:List V} {o:Nat} {v:V} (h:o<cs.length):G7 cs o [v]=cs.set o v:=by
 unfold G7
 rw [List.set_eq_take_append_cons_drop,if_pos h]; simp
theorem avz {cs:List V} {o:Nat} {v w:V} (h:o<cs.length):G7 (G7 cs o [w]) o [v]=G7 cs o [v]:=by
 rw [aiA h,aiA (by simpa using h),aiA h,List.set_set]
theorem aqy:∀ s:List UInt8,Op.bytesLess s s=false
 | []=>rfl
 | a::s=>by simp [Op.bytesLess,aqy s]
theorem aiP:∀ {s t u:List UInt8},Op.bytesLess s t=true->Op.bytesLess t u=true->Op.bytesLess s u=true
 | _,[],_,h,_=>by simp [Op.bytesLess] at h
 | _,_::_,[],_,h=>by simp [Op.bytesLess] at h
 | [],_::_,_::_,_,_=>rfl
 | a::s,b::t,c::u,h,g=>by
   simp only [Op.bytesLess,Bool.or_eq_true,decide_eq_true_eq,Bool.and_eq_true,beq_iff_eq] at h g ⊢
   rcases h with h | ⟨rfl,h⟩
   ·rcases g with g | ⟨rfl,g⟩
    ·left; exact UInt8.lt_trans h g
    ·left; exact h
   ·rcases g with g | ⟨rfl,g⟩
    ·left; exact g
    ·right; exact ⟨rfl,aiP h g⟩
end Go.AM

/- Runs of the machine of values whose arguments are written out: reckoned by the kernel. -/
namespace Go.AM
set_option linter.unusedSimpArgs false
set_option linter.unusedVariables false
mutual
def eqW:V->V->Bool
 | .bool a,.bool b=>a==b
 | .int k n,.int k' n'=>decide (k=k')&&decide (n=n')
 | .str s,.str t=>decide (s=t)
 | .c9,.c9=>true
 | .Y4,.Y4=>true
 | .ub,.ub=>true
 | .ptr k o,.ptr k' o'=>Nat.beq k k'&&Nat.beq o o'
 | .gp k o,.gp k' o'=>Nat.beq k k'&&Nat.beq o o'
 | .I8 c o,.I8 c' o'=>afx c c'&&Nat.beq o o'
 | .sl w xs,.sl w' ys=>w==w'&&afT xs ys
 | .agg c,.agg c'=>afx c c'
 | .A4 c,.A4 c'=>afx c c'
 | .fn f c,.fn f' c'=>decide (f=f')&&afx c c'
 | .l8 k o n e,.l8 k' o' n' e'=>Nat.beq k k'&&Nat.beq o o'&&Nat.beq n n'&&Nat.beq e e'
 | _,_=>false
termination_by structural v=>v
def afx:List V->List V->Bool
 | [],[]=>true
 | a::l,b::m=>eqW a b&&afx l m
 | _,_=>false
termination_by structural l=>l
def afT:List (List V)->List (List V)->Bool
 | [],[]=>true
 | a::l,b::m=>afx a b&&afT l m
 | _,_=>false
termination_by structural l=>l
end
mutual
theorem avF:∀ {v u:V},eqW v u=true->v=u
 | .bool a,u,h=>by cases u<;>simp [eqW] at h; rw [h]
 | .int k n,u,h=>by cases u<;>simp [eqW] at h; rw [h.1,h.2]
 | .str s,u,h=>by cases u<;>simp [eqW] at h; rw [h]
 | .c9,u,h=>by cases u<;>simp [eqW] at h; rfl
 | .Y4,u,h=>by cases u<;>simp [eqW] at h; rfl
 | .ub,u,h=>by cases u<;>simp [eqW] at h; rfl
 | .ptr k o,u,h=>by cases u<;>simp [eqW] at h; rw [h.1,h.2]
 | .gp k o,u,h=>by cases u<;>simp [eqW] at h; rw [h.1,h.2]
 | .I8 c o,u,h=>by cases u<;>simp [eqW] at h; rw [adN h.1,h.2]
 | .sl w xs,u,h=>by cases u<;>simp [eqW] at h; rw [h.1,agv h.2]
 | .agg c,u,h=>by cases u<;>simp [eqW] at h; rw [adN h]
 | .A4 c,u,h=>by cases u<;>simp [eqW] at h; rw [adN h]
 | .fn f c,u,h=>by cases u<;>simp [eqW] at h; rw [h.1,adN h.2]
 | .l8 k o n e,u,h=>by cases u<;>simp [eqW] at h; rw [h.1.1.1,h.1.1.2,h.1.2,h.2]
theorem adN:∀ {v u:List V},afx v u=true->v=u
 | [],[],h=>rfl
 | a::l,b::m,h=>by
   simp only [afx,Bool.and_eq_true] at h
   rw [avF h.1,adN h.2]
 | [],_::_,h=>by simp [afx] at h
 | _::_,[],h=>by simp [afx] at h
theorem agv:∀ {v u:List (List V)},afT v u=true->v=u
 | [],[],h=>rfl
 | a::l,b::m,h=>by
   simp only [afT,Bool.and_eq_true] at h
   rw [adN h.1,agv h.2]
 | [],_::_,h=>by simp [afT] at h
 | _::_,[],h=>by simp [afT] at h
end
def eqR (a b:V × VH):Bool:=eqW a.1 b.1&&afT a.2 b.2
def eqJ (a b:Nat × List V × VH):Bool:=Nat.beq a.1 b.1&&afx a.2.1 b.2.1&&afT a.2.2 b.2.2
def eqB (a b:Option Nat × List V × VH):Bool:=decide (a.1=b.1)&&afx a.2.1 b.2.1&&afT a.2.2 b.2.2
theorem aAq {a b:V × VH} (h:eqR a b=true):a=b:=by
 simp only [eqR,Bool.and_eq_true] at h
 exact Prod.ext (avF h.1) (agv h.2)
theorem aBI {a b:Nat × List V × VH} (h:eqJ a b=true):a=b:=by
 simp only [eqJ,Bool.and_eq_true] at h
 exact Prod.ext (Nat.eq_of_beq_eq_true h.1.1) (Prod.ext (adN h.1.2) (agv h.2))
theorem aBU {a b:Option Nat × List V × VH} (h:eqB a b=true):a=b:=by
 simp only [eqB,Bool.and_eq_true,decide_eq_true_eq] at h
 exact Prod.ext h.1.1 (Prod.ext (adN h.1.2) (agv h.2))
def azb {R:Type} (eq:R->R->Bool) (a b:Option R):Option R :=
 match a,b with
 | some x,some y=>match eq x y with | true=>some x | false=>none
 | _,_=>none
section
variable (X:XV) (A:Z7) (T:List Nat)
def V0:Code->{R:Type}->(R->R->Bool)->VS->(Exit->VS->Option R)->Option R
 | .skip,_,_,st,K=>K .normal st
 | .region _ ops draw,_,_,st,K=>match draw with
   | false=>afy X A T ops ops.toList [] st fun _ st=>K .normal st
   | true=>afy X A T ops ops.toList [] st fun cl st=>match adU ops cl.reverse with | true=>K .normal st | false=>none
 | .seq a b,_,eq,st,K=>match (match ap1 a with | true=>none | false=>akd A.k9 (V1 a) (V1 b)) with
   | none=>V0 a eq st fun e st=>match e with | .normal=>V0 b eq st K | e=>K e st
   | some outs=>(V0 a eqJ st fun e st=>ad1 outs e st fun n vs hp=>some (n,vs,hp)).bind fun r =>
     inV outs r.1 r.2.1 r.2.2 fun e st=>match e with | .normal=>V0 b eq st K | e=>K e st
 | .cond c a b,_,eq,st,K=>P9 X st c fun v=>match v with
   | .bool true=>V0 a eq st K
   | .bool false=>V0 b eq st K
   | .ub=>azb eq (V0 a eq st K) (V0 b eq st K)
   | _=>none
 | .block id a,_,eq,st,K=>V0 a eq st fun e st=>match e with
   | .exit i=>(match Nat.beq i id with | true=>K .normal st | false=>K (.exit i) st)
   | e=>K e st
 | .loop a,_,_,st,K=>match look A.loops (V1 a) with
   | none=>none
   | some li=>aba li.ks st fun vs hp =>
     (X.lp (fun vs hp=>acB li.ks vs hp fun st=>V0 a eqB st fun e st=>match e with
      | .normal=>aba li.ks st fun vs hp=>some (none,vs,hp)
      | e=>ad1 li.outs e st fun n vs hp=>some (some n,vs,hp)) vs hp).bind fun r =>
     inV li.outs r.1 r.2.1 r.2.2 K
 | .exit id,_,_,st,K=>K (.exit id) st
 | .ret,_,_,st,K=>K .ret st
 | _,_,_,_,_=>none
def atJ (f:FuncId) (args:List V) (H:VH):Option (V × VH) :=
 match X.fn f with
 | none=>none
 | some fn=>match fn.body with
   | none=>none
   | some c=>match afu fn.ntmps c with
     | true=>V0 X (X.M7 f) (X.F7 f) c eqR ⟨afj 0 args,[],H⟩ fun e st=>(match e with
       | .normal | .ret=>adG X fn.results.toList st fun vs st=>some (aoA vs,st.H)
       | _=>none)
     | false=>none
end
def akC (b:U7):Nat->C0
 | 0,_,_,_=>none
 | n+1,f,args,H=>match b.aak f with
   | some g=>g args H
   | none=>atJ (b.ctx (akC b n) (N6 n)) f args H
section
variable {X:XV} {c:C0} {l:LpV} {A:Z7} {T:List Nat}
theorem Z5 (hN:aeW X (fun _=>c) (fun _=>l)):∀ (x:Code) {R:Type} {eq:R->R->Bool} (he:∀ a b,eq a b=true->a=b) {r:R} {st:VS} {K K':Exit->VS->Option R},
 V0 X A T x eq st K=some r->(∀ e st,K e st=some r->K' e st=some r)->E3 (X.over c l) A T x st K'=some r
 | .skip,R,eq,he,r,st,K,K',h,hK=>hK _ _ h
 | .exit id,R,eq,he,r,st,K,K',h,hK=>hK _ _ h
 | .ret,R,eq,he,r,st,K,K',h,hK=>hK _ _ h
 | .region id ops draw,R,eq,he,r,st,K,K',h,hK=>by
   cases draw with
   | false =>
     simp only [V0,E3] at h ⊢
     exact (aeD hN h (Km:=fun _ _ st=>K' .normal st) fun cl st h=>I3.of fun _=>hK _ _ h).const
   | true =>
     simp only [V0,E3] at h ⊢
     refine (aeD hN h (Km:=fun _ cl st=>match adU ops cl.reverse with | true=>K' .normal st | false=>none) fun cl st h=>I3.of fun _=>?_).const
     split at h
     ·exact hK _ _ h
     ·cases h
 | .cond y a b,R,eq,he,r,st,K,K',h,hK=>by
   simp only [V0,E3] at h ⊢
   obtain ⟨v,h,hv⟩:=J2 h
   have hv':P9 (X.over c l) st y (fun v=>l6 v (E3 (X.over c l) A T a st K') (E3 (X.over c l) A T b st K'))=l6 v (E3 (X.over c l) A T a st K') (E3 (X.over c l) A T b st K'):=hv ..
   rw [hv']
   split at h
   ·exact Z5 hN a he h hK
   ·exact Z5 hN b he h hK
   ·unfold azb at h
    split at h
    ·rename_i p q hp hq
     split at h
     ·rename_i e
      cases h
      have:=he _ _ e
      subst this
      show agR _ _=_
      unfold agR
      rw [Z5 hN a he hp hK,Z5 hN b he hq hK,if_pos rfl]
     ·cases h
    ·cases h
   ·cases h
 | .block id a,R,eq,he,r,st,K,K',h,hK=>by
   simp only [V0,E3] at h ⊢
   refine Z5 hN a he h fun e st h=>?_
   cases e with
   | exit i =>
     simp only at h ⊢
     split at h
     ·rename_i hb; simp only [hb]; exact hK _ _ h
     ·rename_i hb; simp only [hb]; exact hK _ _ h
   | _=>exact hK _ _ h
 | .seq a b,R,eq,he,r,st,K,K',h,hK=>by
   simp only [V0,E3] at h ⊢
   have behind:∀ (e:Exit) (st:VS),(match e with | .normal=>V0 X A T b eq st K | e=>K e st)=some r->(match e with | .normal=>E3 (X.over c l) A T b st K' | e=>K' e st)=some r:=by
    intro e st h
    cases e with
    | normal=>exact Z5 hN b he h hK
    | _=>exact hK _ _ h
   have none':(V0 X A T a eq st fun e st=>match e with | .normal=>V0 X A T b eq st K | e=>K e st)=some r->(E3 (X.over c l) A T a st fun e st=>match e with | .normal=>E3 (X.over c l) A T b st K' | e=>K' e st)=some r:=fun h=>Z5 hN a he h behind
   cases hr:ap1 a with
   | true =>
     simp only [hr] at h ⊢
     exact none' h
   | false =>
     simp only [hr] at h ⊢
     cases hj:akd A.k9 (V1 a) (V1 b) with
     | none =>
       simp only [hj] at h ⊢
       exact none' h
     | some outs =>
       simp only [hj] at h ⊢
       obtain ⟨s,hs,h⟩:=b8 h
       obtain ⟨e,st',h1,h2⟩:=ajt h
       have g1:=Z5 hN a (fun a b=>aBI) hs (K':=fun e st=>ad1 outs e st fun n vs hp=>some (n,vs,hp)) fun e st h=>h
       rw [g1]
       simp only [Option.bind_some]
       rw [h2]; exact behind e st' h1
 | .loop a,R,eq,he,r,st,K,K',h,hK=>by
   simp only [V0,E3] at h ⊢
   cases hli:look A.loops (V1 a) with
   | none=>simp only [hli] at h; cases h
   | some li =>
     simp only [hli] at h ⊢
     obtain ⟨vs,h,h0⟩:=aqW h
     obtain ⟨res,hres,h⟩:=b8 h
     obtain ⟨e,st',h1,h2⟩:=ajt h
     have hB:=(hN.lp _ (fun _ vs hp=>acB li.ks vs hp fun st=>E3 (X.over c l) A T a st fun e st=>match e with
      | .normal=>aba li.ks st fun vs hp=>some (none,vs,hp)
      | e=>ad1 li.outs e st fun n vs hp=>some (some n,vs,hp)) (fun vs hp res hr=>by
      obtain ⟨s,g1,g2⟩:=amm hr
      exact I3.of fun m=>by
       rw [g2]
       exact Z5 hN a (fun a b=>aBU) g1 fun e st h=>h) _ _ _ hres).const
     rw [h0]
     exact (congrArg (fun (o:Option (Nat × List V × VH))=>o.bind fun q=>inV li.outs q.1 q.2.1 q.2.2 K') hB).trans ((h2 R K').trans (hK e st' h1))
 | .rangeFunc ..,R,eq,he,r,st,K,K',h,hK=>by cases h
 | .scope ..,R,eq,he,r,st,K,K',h,hK=>by cases h
 | .label ..,R,eq,he,r,st,K,K',h,hK=>by cases h
 | .goto ..,R,eq,he,r,st,K,K',h,hK=>by cases h
 | .refuse ..,R,eq,he,r,st,K,K',h,hK=>by cases h
theorem aws (hN:aeW X (fun _=>c) (fun _=>l)) {f:FuncId} {args:List V} {H:VH} {r:V × VH} (h:atJ X f args H=some r):adm (X.over c l) f args H=some r:=by
 unfold atJ at h
 unfold adm
 have e1:(X.over c l).fn f=X.fn f:=rfl
 have e2:(X.over c l).M7 f=X.M7 f:=rfl
 have e3:(X.over c l).F7 f=X.F7 f:=rfl
 simp only [e1,e2,e3]
 split at h
 ·cases h
 ·rename_i fn hf
  split at h
  ·cases h
  ·rename_i x hx
   split at h
   ·rename_i hd
    try simp only [hf,hx,hd]
    refine Z5 hN x (fun a b=>aAq) h fun e st h=>?_
    cases e<;>first | (simp only [ahi]; exact h) | exact h
   ·cases h
end
theorem azw (b:U7):∀ (n:Nat) (f:FuncId) (args:List V) (H:VH) (r:V × VH),akC b n f args H=some r->O7 b n f args H=some r:=by
 intro n
 induction n with
 | zero=>intro f args H r h; cases h
 | succ n ih =>
   intro f args H r h
   simp only [akC,O7] at h ⊢
   split at h
   ·rename_i g hg; first | exact h | (simp only [hg]; exact h)
   ·rename_i hg
    try simp only [hg]
    have hN:aeW (b.ctx (akC b n) (N6 n)) (fun _=>O7 b n) (fun _=>N6 n):=by
     refine ⟨fun f vs hp res h=>I3.of fun _=>ih f vs hp res h,fun B Bm hB vs hp res h=>?_⟩
     have h':N6 n B vs hp=some res:=h
     clear h
     have:∀ (n:Nat) (vs:List V) (hp:VH),N6 n B vs hp=some res->I3 fun k=>N6 n (Bm k) vs hp=some res:=by
      intro n
      induction n with
      | zero=>intro vs hp h; cases h
      | succ n ihn =>
        intro vs hp h
        simp only [N6] at h
        split at h
        ·cases h
        ·rename_i hb
         exact ((hB _ _ _ hb).and (ihn _ _ h)).imp fun k ⟨g1,g2⟩=>by simp only [N6,g1]; exact g2
        ·rename_i hb
         cases h
         exact (hB _ _ _ hb).imp fun k g1=>by simp only [N6,g1]
     exact this n vs hp h'
    exact aws hN h
theorem adH {b:U7} (n:Nat) {f:FuncId} {args:List V} {H:VH} {r:V × VH} (h:akC b n f args H=some r):M8 b f args H=some r:=aij (azw b n f args H r h)
theorem akc {b:U7} (n:Nat) {f:FuncId} {args:List V} {v:V} (h:Q3 (akC b n) f args=some v):Q3 (M8 b) f args=some v:=by
 obtain ⟨res,h1,h2⟩:=adV h
 exact h2 _ (adH n h1)
end Go.AM

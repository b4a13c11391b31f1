/- Part 5 of the machines: what is proved is told at each theorem; no condition. -/
import Derived.Test.YtaapfgpeeghmeaaGreatDoorFnScriptMailK4
import Derived.Test.YtaapfgpeeghmeaaGreatDoorFnScriptMailK2
/- Rows in objects: what calls see of them, what becomes of rows that calls give. -/
namespace Go.AM
set_option linter.unusedSimpArgs false
set_option linter.unusedVariables false
mutual
theorem anY (G:VH):∀ v:V,data v=true->frO G v=strip v
 | .bool b,_=>rfl
 | .int k n,_=>rfl
 | .str s,_=>rfl
 | .g8,_=>rfl
 | .aae,_=>rfl
 | .ub,_=>rfl
 | .gp g off,h=>by simp only [data] at h; cases h
 | .J3 cs off,h=>by simp only [data] at h; cases h
 | .ptr k off,h=>by simp only [data] at h; cases h
 | .y1 k off n e,h=>by simp only [data] at h; cases h
 | .fn f cs,h=>by simp only [data] at h; cases h
 | .sl ow xs,h=>by simp only [data] at h; simp only [frO,strip,apE G xs h]
 | .agg cs,h=>by simp only [data] at h; simp only [frO,strip,aiA G cs h]
 | .n9 cs,h=>by simp only [data] at h; simp only [frO,strip,aiA G cs h]
theorem aiA (G:VH):∀ l:List V,A7 l=true->adY G l=m8 l
 | [],_=>rfl
 | v::l,h=>by
   simp only [A7,Bool.and_eq_true] at h
   simp only [adY,m8,anY G v h.1,aiA G l h.2]
theorem apE (G:VH):∀ l:List (List V),D8 l=true->adA G l=n8 l
 | [],_=>rfl
 | v::l,h=>by
   simp only [D8,Bool.and_eq_true] at h
   simp only [adA,n8,aiA G v h.1,apE G l h.2]
end
theorem asR (d:Nat) (H:VH) (v:V) (h:data v=true):frD d H v=strip v:=by
 cases d with
 | zero=>exact anY _ v h
 | succ d=>exact anY _ v h
mutual
theorem awJ:∀ v:V,data v=true->amu v=true
 | .bool b,_=>rfl
 | .int k n,_=>rfl
 | .str s,_=>rfl
 | .g8,_=>rfl
 | .aae,_=>rfl
 | .ub,_=>rfl
 | .gp g off,h=>by simp only [data] at h; cases h
 | .J3 cs off,h=>by simp only [data] at h; cases h
 | .ptr k off,h=>by simp only [data] at h; cases h
 | .y1 k off n e,h=>by simp only [data] at h; cases h
 | .fn f cs,h=>by simp only [data] at h; cases h
 | .sl ow xs,h=>by simp only [data] at h; simp only [amu,aln xs h]
 | .agg cs,h=>by simp only [data] at h; simp only [amu,acG cs h]
 | .n9 cs,h=>by simp only [data] at h; simp only [amu,acG cs h]
theorem acG:∀ l:List V,A7 l=true->aa6 l=true
 | [],_=>rfl
 | v::l,h=>by
   simp only [A7,Bool.and_eq_true] at h
   simp only [aa6,awJ v h.1,acG l h.2,Bool.and_self]
theorem aln:∀ l:List (List V),D8 l=true->amP l=true
 | [],_=>rfl
 | v::l,h=>by
   simp only [D8,Bool.and_eq_true] at h
   simp only [amP,acG v h.1,aln l h.2,Bool.and_self]
end
theorem arx:∀ {a b:List V},A7 a=true->A7 b=true->A7 (a++b)=true
 | [],b,_,h=>h
 | v::a,b,h,g=>by
   simp only [List.cons_append,A7,Bool.and_eq_true] at h ⊢
   exact ⟨h.1,arx h.2 g⟩
theorem apb:∀ {r:List (List V)},D8 r=true->A7 r.flatten=true
 | [],_=>rfl
 | x::r,h=>by
   simp only [D8,Bool.and_eq_true] at h
   rw [List.flatten_cons]
   exact arx h.1 (apb h.2)
theorem aw1 (a b:List V):m8 (a++b)=m8 a++m8 b:=by rw [K9,K9,K9,List.map_append]
theorem anv:∀ r:List (List V),m8 r.flatten=(n8 r).flatten
 | []=>rfl
 | x::r=>by rw [List.flatten_cons,aw1,anv r]; rfl
def Rows (e:Nat) (r:List (List V)):Prop:=∀ x ∈ r,x.length=e
theorem Rows.flat {e:Nat}:∀ {r:List (List V)},Rows e r->r.flatten.length=r.length*e
 | [],_=>by simp
 | x::r,h=>by
   have h1:=h x (by simp)
   have h2:=Rows.flat (r:=r) (fun y hy=>h y (by simp [hy]))
   rw [List.flatten_cons,List.length_append,h1,h2,List.length_cons,Nat.succ_mul,Nat.add_comm]
theorem Rows.chunk {e:Nat}:∀ {r:List (List V)},Rows e r->D5 e r.length r.flatten=r
 | [],_=>rfl
 | x::r,h=>by
   have h1:=h x (by simp)
   have h2:=Rows.chunk (r:=r) (fun y hy=>h y (by simp [hy]))
   simp only [List.length_cons,D5,List.flatten_cons]
   rw [<-h1,List.take_left,List.drop_left,h1,h2]
theorem Rows.strip {e:Nat} {r:List (List V)} (h:Rows e r):Rows e (n8 r):=fun x hx=>by
 rw [acF] at hx
 obtain ⟨y,hy,rfl⟩:=List.mem_map.1 hx
 rw [List.length_map]; exact h y hy
theorem Rows.get {e:Nat} {j:Nat} (hj:j<e):∀ {r:List (List V)} {i:Nat} {x:List V},Rows e r->r[i]? = some x->r.flatten[i*e+j]? = x[j]?
 | [],i,x,_,h=>by simp at h
 | y::r,0,x,hr,h=>by
   simp at h; subst h
   have h1:=hr y (by simp)
   rw [List.flatten_cons,Nat.zero_mul,Nat.zero_add,List.getElem?_append_left (by omega)]
 | y::r,i+1,x,hr,h=>by
   have h1:=hr y (by simp)
   simp at h
   rw [List.flatten_cons,List.getElem?_append_right (by rw [h1,Nat.succ_mul]; omega),h1]
   have:(i+1)*e+j-e=i*e+j:=by rw [Nat.succ_mul]; omega
   rw [this]
   exact Rows.get hj (fun z hz=>hr z (by simp [hz])) h
theorem Rows.set {e:Nat} {j:Nat} (hj:j<e) {v:V}:∀ {r:List (List V)} {i:Nat} {x:List V},Rows e r->r[i]? = some x->F7 r.flatten (i*e+j) [v]=(r.set i (x.set j v)).flatten
 | [],i,x,_,h=>by simp at h
 | y::r,0,x,hr,h=>by
   simp at h; subst h
   have h1:=hr y (by simp)
   simp only [List.flatten_cons,Nat.zero_mul,Nat.zero_add,List.set_cons_zero,F7,List.length_singleton]
   rw [List.take_append_of_le_length (by omega),List.drop_append_of_le_length (by omega),<-List.append_assoc]
   congr 1
   rw [List.set_eq_take_append_cons_drop,if_pos (by omega)]; simp
 | y::r,i+1,x,hr,h=>by
   have h1:=hr y (by simp)
   simp at h
   have ih:=Rows.set hj (v:=v) (r:=r) (i:=i) (fun z hz=>hr z (by simp [hz])) h
   simp only [F7,List.length_singleton] at ih
   simp only [List.flatten_cons,List.set_cons_succ,F7,List.length_singleton]
   have e1:(i+1)*e+j=y.length+(i*e+j):=by rw [Nat.succ_mul]; omega
   rw [e1,List.take_length_add_append,Nat.add_assoc,List.drop_length_add_append,List.append_assoc,List.append_assoc,<-ih,List.append_assoc]
theorem aCB (d:Nat) {H:VH} {k e:Nat} {r:List (List V)} (hk:H[k]? = some r.flatten) (hr:Rows e r) (hd:D8 r=true):frD d H (.y1 k 0 r.length e) = .sl false (n8 r):=by
 have fin:∀ G:VH,G[k]? = some (m8 r.flatten)->frO G (.y1 k 0 r.length e) = .sl false (n8 r):=fun G hG=>by
  have h1:G.getD k []=(n8 r).flatten:=by rw [List.getD_eq_getElem?_getD,hG,anv]; rfl
  have h2:=hr.strip.flat
  rw [aaq] at h2
  simp only [frO,h1]
  rw [P4 (by omega)]
  simp only [List.drop_zero]
  rw [List.take_of_length_le (by omega)]
  have h3:=hr.strip.chunk
  rw [aaq] at h3
  rw [h3]
 cases d with
 | zero =>
   refine fin _ ?_
   rw [List.getElem?_map,hk]; rfl
 | succ d =>
   refine fin _ ?_
   rw [List.getElem?_map,hk]
   simp only [Option.map_some]
   rw [K9]
   congr 1
   have:∀ {l:List V},A7 l=true->l.map (frD d H)=l.map strip:=by
    intro l
    induction l with
    | nil=>intro _; rfl
    | cons v l ih =>
      intro h
      simp only [A7,Bool.and_eq_true] at h
      simp only [List.map_cons,asR d H v h.1,ih h.2]
   exact this (apb hd)
theorem ae5 {H:VH} {k e:Nat} {r:List (List V)} (hk:H[k]? = some r.flatten) (hr:Rows e r):aaG H (.y1 k 0 r.length e)=some (.sl false (n8 r)):=by
 have h2:=hr.flat
 simp only [aaG,hk,Option.bind_some]
 rw [P4 (by omega)]
 simp only [List.drop_zero,Option.map_some]
 rw [List.take_of_length_le (by omega),hr.chunk]
theorem ayX (H:VH) (o:Bool) (xs:List (List V)):aaG H (.sl o xs)=some (.sl o xs):=rfl
theorem azk {call:B8} {f:FuncId} {H:VH} {vs:List V} (h:aa6 vs=true):W0 call f H vs=R8 call f (vs.map (j4 H)):=by unfold W0; rw [h]
theorem axw {call:B8} {f:FuncId} {H:VH} {vs:List V} (h:aa6 vs=false):W0 call f H vs=R8 call f (vs.map (frD 3 H)):=by unfold W0; rw [h]
theorem aAE {call:B8} {f:FuncId} {H:VH} {vs:List V} (h:aa6 vs=true):acy call f H vs=U6 call f (vs.map (j4 H)):=by unfold acy; rw [h]
mutual
theorem ayb (H:VH):∀ v:V,prom 0 H v=(v,H)
 | .bool b=>rfl
 | .int k n=>rfl
 | .str s=>rfl
 | .g8=>rfl
 | .aae=>rfl
 | .ub=>rfl
 | .gp g off=>rfl
 | .J3 cs off=>rfl
 | .ptr k off=>rfl
 | .y1 k off n e=>rfl
 | .fn f cs=>rfl
 | .sl ow xs=>by cases xs<;>simp only [prom]
 | .agg cs=>by simp only [prom,ahb H cs]
 | .n9 cs=>by simp only [prom,ahb H cs]
theorem ahb (H:VH):∀ l:List V,W9 0 H l=(l,H)
 | []=>rfl
 | v::l=>by simp only [W9,ayb H v,ahb H l]
end
theorem ad2 (H:VH):∀ l:List (List V),U9 0 H l=(l.flatten,H)
 | []=>rfl
 | v::l=>by simp only [U9,ahb H v,ad2 H l,List.flatten_cons]
theorem ar7 {R:Type} (d:Nat) (H:VH) (K:V->VH->Option R):W8 d (.sl true []) H K=K (.sl true []) H:=by
 unfold W8
 simp only [I0,O2,Bool.true_or,Bool.and_self]
 cases d<;>simp only [prom]
theorem asc {R:Type} {r:List (List V)} {e:Nat} (H:VH) (K:V->VH->Option R) (hne:r ≠ []) (hr:Rows e r) (ho:O2 r=true):W8 1 (.sl true r) H K=K (.y1 H.length 0 r.length e) (H++[r.flatten]):=by
 unfold W8
 simp only [I0,Bool.true_or,ho,Bool.and_self]
 cases r with
 | nil=>exact absurd rfl hne
 | cons x l =>
   have hx:=hr x (by simp)
   simp only [prom,ad2,List.length_cons,hx]
theorem avS (fl st:Bool) (b9 bytes:Nat) (o:Bool) (xs:List (List V)) (x:V) (H:VH) (h:fl=false\/xs ≠ []):agu fl st b9 bytes (.sl o xs) x H=(S6 (.sl o xs)).bind fun xs=>(F8 st b9 bytes xs x).bind fun r=>some (r,H):=by
 simp only [agu]
 cases o with
 | false=>rfl
 | true =>
   simp only [S6,Option.bind_some]
   have:(fl&&xs.isEmpty)=false:=by
    rcases h with rfl | h
    ·rfl
    ·cases xs with
     | nil=>exact absurd rfl h
     | cons a l=>cases fl<;>rfl
   rw [this]
theorem aAh {H:VH} {v:V} (h:data v=true):j4 H v=strip v:=by
 cases v<;>first | rfl | (simp only [data] at h; cases h)
theorem aqL {H:VH}:∀ {vs:List V},A7 vs=true->vs.map (j4 H)=vs.map strip
 | [],_=>rfl
 | v::vs,h=>by
   simp only [A7,Bool.and_eq_true] at h
   simp only [List.map_cons,aAh h.1,aqL h.2]
theorem arh {d:Nat} {H:VH}:∀ {vs:List V},A7 vs=true->vs.map (frD d H)=vs.map strip
 | [],_=>rfl
 | v::vs,h=>by
   simp only [A7,Bool.and_eq_true] at h
   simp only [List.map_cons,asR d H v h.1,arh h.2]
theorem azb {call:B8} {f:FuncId} {H:VH} {vs:List V} (h:A7 vs=true):W0 call f H vs=R8 call f (vs.map strip):=by rw [azk (acG vs h),aqL h]
theorem az3 {call:B8} {f:FuncId} {H:VH} {vs:List V} (h:A7 vs=true):acy call f H vs=U6 call f (vs.map strip):=by rw [aAE (acG vs h),aqL h]
theorem ayz {H:VH} {k:Nat} {cs:List V} (h:H[k]? = some cs):H.set k cs=H:=by
 apply List.ext_getElem?
 intro i
 rw [List.getElem?_set]
 split
 ·rename_i e
  subst e
  split
  ·exact h.symm
  ·rename_i hlt
   rw [List.getElem?_eq_none (by omega)]
 ·rfl
theorem aq0 {g:Nat->Option (List V)} {k off:Nat} {H:VH} {cs:List V} {v:V} (h:H[k]? = some cs) (hv:cs[off]? = some v):y5 g false false 1 (.ptr k off) H=some (strip v,H):=by
 simp only [y5,h,acT,hv,Option.bind_some,Option.map_some,ayz h]
theorem atN {k n e i:Nat} {kk:IntKind} (h:i<n):y8 e (.y1 k 0 n e) (.int kk (i:Int))=some (.ptr k (i*e)):=by
 simp only [y8]
 rw [if_pos ⟨by omega,by omega,trivial⟩]
 simp
theorem aE9 {call:B8} {f:FuncId} {args:List V} {r v u:V} {H:VH} (h:call f args []=some (r,H)) (h1:C1 args=true) (hd:data r=false) (hu:afd H r=some v) (hd2:data v=false) (ho:ouR H r=none) (hu2:alC H r=some u) (h2:data u=true):U6 call f args=some u:=by
 simp only [U6,h1,h,Option.bind_some,hd,hu,hd2,ouD,ho,hu2,h2]
theorem aBD {call:B8} {f:FuncId} {args:List V} {r v:V} {H:VH} (h:call f args []=some (r,H)) (h1:C1 args=true) (hd:data r=false) (hu:afd H r=some v) (h2:data v=true):U6 call f args=some v:=by
 simp only [U6,h1,h,Option.bind_some,hd,hu,h2]
theorem ajI {cs:List V} {o:Nat} {v:V} (h:o<cs.length):F7 cs o [v]=cs.set o v:=by
 unfold F7
 rw [List.set_eq_take_append_cons_drop,if_pos h]; simp
theorem ayL {cs:List V} {o:Nat} {v w:V} (h:o<cs.length):F7 (F7 cs o [w]) o [v]=F7 cs o [v]:=by
 rw [ajI h,ajI (by simpa using h),ajI h,List.set_set]
theorem aqf:∀ s:List UInt8,Op.bytesLess s s=false
 | []=>rfl
 | a::s=>by simp [Op.bytesLess,aqf s]
theorem ahV:∀ {s t u:List UInt8},Op.bytesLess s t=true->Op.bytesLess t u=true->Op.bytesLess s u=true
 | _,[],_,h,_=>by simp [Op.bytesLess] at h
 | _,_::_,[],_,h=>by simp [Op.bytesLess] at h
 | [],_::_,_::_,_,_=>rfl
 | a::s,b::t,c::u,h,g=>by
   simp only [Op.bytesLess,Bool.or_eq_true,decide_eq_true_eq,Bool.and_eq_true,beq_iff_eq] at h g ⊢
   rcases h with h | ⟨rfl,h⟩
   ·rcases g with g | ⟨rfl,g⟩
    ·left; exact UInt8.lt_trans h g
    ·left; exact h
   ·rcases g with g | ⟨rfl,g⟩
    ·left; exact g
    ·right; exact ⟨rfl,ahV h g⟩
theorem ayw:∀ {s t:List UInt8},Op.bytesLess s t=false->Op.bytesLess t s=false->s=t
 | [],[],_,_=>rfl
 | [],_::_,h,_=>by simp [Op.bytesLess] at h
 | _::_,[],_,h=>by simp [Op.bytesLess] at h
 | a::s,b::t,h,g=>by
   simp only [Op.bytesLess,Bool.or_eq_false_iff,decide_eq_false_iff_not,Bool.and_eq_false_iff,beq_eq_false_iff_ne] at h g
   have e:a=b:=by
    have h1:=h.1; have h2:=g.1
    rw [UInt8.not_lt] at h1 h2
    exact UInt8.le_antisymm h2 h1
   subst e
   rw [ayw (h.2.resolve_left (fun h=>h rfl)) (g.2.resolve_left (fun h=>h rfl))]
end Go.AM

/- Runs of the machine of values whose arguments are written out: reckoned by the kernel. -/
namespace Go.AM
set_option linter.unusedSimpArgs false
set_option linter.unusedVariables false
mutual
def eqW:V->V->Bool
 | .bool a,.bool b=>a==b
 | .int k n,.int k' n'=>decide (k=k')&&decide (n=n')
 | .str s,.str t=>decide (s=t)
 | .g8,.g8=>true
 | .aae,.aae=>true
 | .ub,.ub=>true
 | .ptr k o,.ptr k' o'=>Nat.beq k k'&&Nat.beq o o'
 | .gp k o,.gp k' o'=>Nat.beq k k'&&Nat.beq o o'
 | .J3 c o,.J3 c' o'=>agx c c'&&Nat.beq o o'
 | .sl w xs,.sl w' ys=>w==w'&&ag3 xs ys
 | .agg c,.agg c'=>agx c c'
 | .n9 c,.n9 c'=>agx c c'
 | .fn f c,.fn f' c'=>decide (f=f')&&agx c c'
 | .y1 k o n e,.y1 k' o' n' e'=>Nat.beq k k'&&Nat.beq o o'&&Nat.beq n n'&&Nat.beq e e'
 | _,_=>false
termination_by structural v=>v
def agx:List V->List V->Bool
 | [],[]=>true
 | a::l,b::m=>eqW a b&&agx l m
 | _,_=>false
termination_by structural l=>l
def ag3:List (List V)->List (List V)->Bool
 | [],[]=>true
 | a::l,b::m=>agx a b&&ag3 l m
 | _,_=>false
termination_by structural l=>l
end
mutual
theorem azn:∀ {v u:V},eqW v u=true->v=u
 | .bool a,u,h=>by cases u<;>simp [eqW] at h; rw [h]
 | .int k n,u,h=>by cases u<;>simp [eqW] at h; rw [h.1,h.2]
 | .str s,u,h=>by cases u<;>simp [eqW] at h; rw [h]
 | .g8,u,h=>by cases u<;>simp [eqW] at h; rfl
 | .aae,u,h=>by cases u<;>simp [eqW] at h; rfl
 | .ub,u,h=>by cases u<;>simp [eqW] at h; rfl
 | .ptr k o,u,h=>by cases u<;>simp [eqW] at h; rw [h.1,h.2]
 | .gp k o,u,h=>by cases u<;>simp [eqW] at h; rw [h.1,h.2]
 | .J3 c o,u,h=>by cases u<;>simp [eqW] at h; rw [aeL h.1,h.2]
 | .sl w xs,u,h=>by cases u<;>simp [eqW] at h; rw [h.1,ahG h.2]
 | .agg c,u,h=>by cases u<;>simp [eqW] at h; rw [aeL h]
 | .n9 c,u,h=>by cases u<;>simp [eqW] at h; rw [aeL h]
 | .fn f c,u,h=>by cases u<;>simp [eqW] at h; rw [h.1,aeL h.2]
 | .y1 k o n e,u,h=>by cases u<;>simp [eqW] at h; rw [h.1.1.1,h.1.1.2,h.1.2,h.2]
theorem aeL:∀ {v u:List V},agx v u=true->v=u
 | [],[],h=>rfl
 | a::l,b::m,h=>by
   simp only [agx,Bool.and_eq_true] at h
   rw [azn h.1,aeL h.2]
 | [],_::_,h=>by simp [agx] at h
 | _::_,[],h=>by simp [agx] at h
theorem ahG:∀ {v u:List (List V)},ag3 v u=true->v=u
 | [],[],h=>rfl
 | a::l,b::m,h=>by
   simp only [ag3,Bool.and_eq_true] at h
   rw [aeL h.1,ahG h.2]
 | [],_::_,h=>by simp [ag3] at h
 | _::_,[],h=>by simp [ag3] at h
end
def eqR (a b:V × VH):Bool:=eqW a.1 b.1&&ag3 a.2 b.2
def eqJ (a b:Nat × List V × VH):Bool:=Nat.beq a.1 b.1&&agx a.2.1 b.2.1&&ag3 a.2.2 b.2.2
def eqB (a b:Option Nat × List V × VH):Bool:=decide (a.1=b.1)&&agx a.2.1 b.2.1&&ag3 a.2.2 b.2.2
theorem aDW {a b:V × VH} (h:eqR a b=true):a=b:=by
 simp only [eqR,Bool.and_eq_true] at h
 exact Prod.ext (azn h.1) (ahG h.2)
theorem aEo {a b:Nat × List V × VH} (h:eqJ a b=true):a=b:=by
 simp only [eqJ,Bool.and_eq_true] at h
 exact Prod.ext (Nat.eq_of_beq_eq_true h.1.1) (Prod.ext (aeL h.1.2) (ahG h.2))
theorem aDM {a b:Option Nat × List V × VH} (h:eqB a b=true):a=b:=by
 simp only [eqB,Bool.and_eq_true,decide_eq_true_eq] at h
 exact Prod.ext h.1.1 (Prod.ext (aeL h.1.2) (ahG h.2))
def aBn {R:Type} (eq:R->R->Bool) (a b:Option R):Option R :=
 match a,b with
 | some x,some y=>match eq x y with | true=>some x | false=>none
 | _,_=>none
section
variable (X:XV) (A:Ann) (T:List Nat)
def W5:Code->{R:Type}->(R->R->Bool)->VS->(Exit->VS->Option R)->Option R
 | .skip,_,_,st,K=>K .normal st
 | .region _ ops draw,_,_,st,K=>match draw with
   | false=>agF X A T ops ops.toList [] st fun _ st=>K .normal st
   | true=>agF X A T ops ops.toList [] st fun cl st=>match aeH ops cl.reverse with | true=>K .normal st | false=>none
 | .seq a b,_,eq,st,K=>match (match asw a with | true=>none | false=>alH A.l3 (X0 a) (X0 b)) with
   | none=>W5 a eq st fun e st=>match e with | .normal=>W5 b eq st K | e=>K e st
   | some outs=>(W5 a eqJ st fun e st=>ae9 outs e st fun n vs hp=>some (n,vs,hp)).bind fun r =>
     inV outs r.1 r.2.1 r.2.2 fun e st=>match e with | .normal=>W5 b eq st K | e=>K e st
 | .cond c a b,_,eq,st,K=>R9 X st c fun v=>match v with
   | .bool true=>W5 a eq st K
   | .bool false=>W5 b eq st K
   | .ub=>aBn eq (W5 a eq st K) (W5 b eq st K)
   | _=>none
 | .block id a,_,eq,st,K=>W5 a eq st fun e st=>match e with
   | .exit i=>(match Nat.beq i id with | true=>K .normal st | false=>K (.exit i) st)
   | e=>K e st
 | .loop a,_,_,st,K=>match look A.loops (X0 a) with
   | none=>none
   | some li=>abw li.ks st fun vs hp =>
     (X.lp (fun vs hp=>adF li.ks vs hp fun st=>W5 a eqB st fun e st=>match e with
      | .normal=>abw li.ks st fun vs hp=>some (none,vs,hp)
      | e=>ae9 li.outs e st fun n vs hp=>some (some n,vs,hp)) vs hp).bind fun r =>
     inV li.outs r.1 r.2.1 r.2.2 K
 | .exit id,_,_,st,K=>K (.exit id) st
 | .ret,_,_,st,K=>K .ret st
 | _,_,_,_,_=>none
def awC (f:FuncId) (args:List V) (H:VH):Option (V × VH) :=
 match X.fn f with
 | none=>none
 | some fn=>match fn.body with
   | none=>none
   | some c=>match agE fn.ntmps c with
     | true=>W5 X (X.G7 f) (X.C7 f) c eqR ⟨agc 0 args,[],H⟩ fun e st=>(match e with
       | .normal | .ret=>aev X fn.results.toList st fun vs st=>some (aq2 vs,st.H)
       | _=>none)
     | false=>none
end
def amE (b:W6):Nat->B8
 | 0,_,_,_=>none
 | n+1,f,args,H=>match b.aaV f with
   | some g=>g args H
   | none=>awC (b.ctx (amE b n) (N9 n)) f args H
section
variable {X:XV} {c:B8} {l:LpV} {A:Ann} {T:List Nat}
theorem aat (hN:af2 X (fun _=>c) (fun _=>l)):∀ (x:Code) {R:Type} {eq:R->R->Bool} (he:∀ a b,eq a b=true->a=b) {r:R} {st:VS} {K K':Exit->VS->Option R},
 W5 X A T x eq st K=some r->(∀ e st,K e st=some r->K' e st=some r)->E3 (X.over c l) A T x st K'=some r
 | .skip,R,eq,he,r,st,K,K',h,hK=>hK _ _ h
 | .exit id,R,eq,he,r,st,K,K',h,hK=>hK _ _ h
 | .ret,R,eq,he,r,st,K,K',h,hK=>hK _ _ h
 | .region id ops draw,R,eq,he,r,st,K,K',h,hK=>by
   cases draw with
   | false =>
     simp only [W5,E3] at h ⊢
     exact (afR hN h (Km:=fun _ _ st=>K' .normal st) fun cl st h=>I4.of fun _=>hK _ _ h).const
   | true =>
     simp only [W5,E3] at h ⊢
     refine (afR hN h (Km:=fun _ cl st=>match aeH ops cl.reverse with | true=>K' .normal st | false=>none) fun cl st h=>I4.of fun _=>?_).const
     split at h
     ·exact hK _ _ h
     ·cases h
 | .cond y a b,R,eq,he,r,st,K,K',h,hK=>by
   simp only [W5,E3] at h ⊢
   obtain ⟨v,h,hv⟩:=J0 h
   have hv':R9 (X.over c l) st y (fun v=>j3 v (E3 (X.over c l) A T a st K') (E3 (X.over c l) A T b st K'))=j3 v (E3 (X.over c l) A T a st K') (E3 (X.over c l) A T b st K'):=hv ..
   rw [hv']
   split at h
   ·exact aat hN a he h hK
   ·exact aat hN b he h hK
   ·unfold aBn at h
    split at h
    ·rename_i p q hp hq
     split at h
     ·rename_i e
      cases h
      have:=he _ _ e
      subst this
      show ais _ _=_
      unfold ais
      rw [aat hN a he hp hK,aat hN b he hq hK,if_pos rfl]
     ·cases h
    ·cases h
   ·cases h
 | .block id a,R,eq,he,r,st,K,K',h,hK=>by
   simp only [W5,E3] at h ⊢
   refine aat hN a he h fun e st h=>?_
   cases e with
   | exit i =>
     simp only at h ⊢
     split at h
     ·rename_i hb; simp only [hb]; exact hK _ _ h
     ·rename_i hb; simp only [hb]; exact hK _ _ h
   | _=>exact hK _ _ h
 | .seq a b,R,eq,he,r,st,K,K',h,hK=>by
   simp only [W5,E3] at h ⊢
   have behind:∀ (e:Exit) (st:VS),(match e with | .normal=>W5 X A T b eq st K | e=>K e st)=some r->(match e with | .normal=>E3 (X.over c l) A T b st K' | e=>K' e st)=some r:=by
    intro e st h
    cases e with
    | normal=>exact aat hN b he h hK
    | _=>exact hK _ _ h
   have none':(W5 X A T a eq st fun e st=>match e with | .normal=>W5 X A T b eq st K | e=>K e st)=some r->(E3 (X.over c l) A T a st fun e st=>match e with | .normal=>E3 (X.over c l) A T b st K' | e=>K' e st)=some r:=fun h=>aat hN a he h behind
   cases hr:asw a with
   | true =>
     simp only [hr] at h ⊢
     exact none' h
   | false =>
     simp only [hr] at h ⊢
     cases hj:alH A.l3 (X0 a) (X0 b) with
     | none =>
       simp only [hj] at h ⊢
       exact none' h
     | some outs =>
       simp only [hj] at h ⊢
       obtain ⟨s,hs,h⟩:=b8 h
       obtain ⟨e,st',h1,h2⟩:=ald h
       have g1:=aat hN a (fun a b=>aEo) hs (K':=fun e st=>ae9 outs e st fun n vs hp=>some (n,vs,hp)) fun e st h=>h
       rw [g1]
       simp only [Option.bind_some]
       rw [h2]; exact behind e st' h1
 | .loop a,R,eq,he,r,st,K,K',h,hK=>by
   simp only [W5,E3] at h ⊢
   cases hli:look A.loops (X0 a) with
   | none=>simp only [hli] at h; cases h
   | some li =>
     simp only [hli] at h ⊢
     obtain ⟨vs,h,h0⟩:=asV h
     obtain ⟨res,hres,h⟩:=b8 h
     obtain ⟨e,st',h1,h2⟩:=ald h
     have hB:=(hN.lp _ (fun _ vs hp=>adF li.ks vs hp fun st=>E3 (X.over c l) A T a st fun e st=>match e with
      | .normal=>abw li.ks st fun vs hp=>some (none,vs,hp)
      | e=>ae9 li.outs e st fun n vs hp=>some (some n,vs,hp)) (fun vs hp res hr=>by
      obtain ⟨s,g1,g2⟩:=anZ hr
      exact I4.of fun m=>by
       rw [g2]
       exact aat hN a (fun a b=>aDM) g1 fun e st h=>h) _ _ _ hres).const
     rw [h0]
     exact (congrArg (fun (o:Option (Nat × List V × VH))=>o.bind fun q=>inV li.outs q.1 q.2.1 q.2.2 K') hB).trans ((h2 R K').trans (hK e st' h1))
 | .rangeFunc ..,R,eq,he,r,st,K,K',h,hK=>by cases h
 | .scope ..,R,eq,he,r,st,K,K',h,hK=>by cases h
 | .label ..,R,eq,he,r,st,K,K',h,hK=>by cases h
 | .goto ..,R,eq,he,r,st,K,K',h,hK=>by cases h
 | .refuse ..,R,eq,he,r,st,K,K',h,hK=>by cases h
theorem azA (hN:af2 X (fun _=>c) (fun _=>l)) {f:FuncId} {args:List V} {H:VH} {r:V × VH} (h:awC X f args H=some r):ael (X.over c l) f args H=some r:=by
 unfold awC at h
 unfold ael
 have e1:(X.over c l).fn f=X.fn f:=rfl
 have e2:(X.over c l).G7 f=X.G7 f:=rfl
 have e3:(X.over c l).C7 f=X.C7 f:=rfl
 simp only [e1,e2,e3]
 split at h
 ·cases h
 ·rename_i fn hf
  split at h
  ·cases h
  ·rename_i x hx
   split at h
   ·rename_i hd
    try simp only [hf,hx,hd]
    refine aat hN x (fun a b=>aDW) h fun e st h=>?_
    cases e<;>first | (simp only [aiw]; exact h) | exact h
   ·cases h
end
theorem aCk (b:W6):∀ (n:Nat) (f:FuncId) (args:List V) (H:VH) (r:V × VH),amE b n f args H=some r->Q1 b n f args H=some r:=by
 intro n
 induction n with
 | zero=>intro f args H r h; cases h
 | succ n ih =>
   intro f args H r h
   simp only [amE,Q1] at h ⊢
   split at h
   ·rename_i g hg; first | exact h | (simp only [hg]; exact h)
   ·rename_i hg
    try simp only [hg]
    have hN:af2 (b.ctx (amE b n) (N9 n)) (fun _=>Q1 b n) (fun _=>N9 n):=by
     refine ⟨fun f vs hp res h=>I4.of fun _=>ih f vs hp res h,fun B Bm hB vs hp res h=>?_⟩
     have h':N9 n B vs hp=some res:=h
     clear h
     have:∀ (n:Nat) (vs:List V) (hp:VH),N9 n B vs hp=some res->I4 fun k=>N9 n (Bm k) vs hp=some res:=by
      intro n
      induction n with
      | zero=>intro vs hp h; cases h
      | succ n ihn =>
        intro vs hp h
        simp only [N9] at h
        split at h
        ·cases h
        ·rename_i hb
         exact ((hB _ _ _ hb).and (ihn _ _ h)).imp fun k ⟨g1,g2⟩=>by simp only [N9,g1]; exact g2
        ·rename_i hb
         cases h
         exact (hB _ _ _ hb).imp fun k g1=>by simp only [N9,g1]
     exact this n vs hp h'
    exact azA hN h
theorem aAQ {b:W6} (n:Nat) {f:FuncId} {args:List V} {H:VH} {r:V × VH} (h:amE b n f args H=some r):M3 b f args H=some r:=ajL (aCk b n f args H r h)
theorem aET {b:W6} (n:Nat) {f:FuncId} {args:List V} {v:V} (h:R8 (amE b n) f args=some v):R8 (M3 b) f args=some v:=by
 obtain ⟨res,h1,h2⟩:=aeO h
 exact h2 _ (aAQ n h1)
end Go.AM

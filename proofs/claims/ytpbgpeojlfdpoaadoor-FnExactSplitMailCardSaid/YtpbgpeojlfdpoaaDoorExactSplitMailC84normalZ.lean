/- Contracts and laws: drawn sessions that are the same; mails without repeated names. -/
import Derived.Test.YtpbgpeojlfdpoaaDoorExactSplitMailC74sayimplZ
namespace Go.Proofs.YtpbgpeojlfdpoaaDoor.Q
open Go Go.AM
set_option linter.unusedSimpArgs false
set_option linter.unusedVariables false
set_option linter.unusedSectionVars false
def F6:List Bs->List Bs->List Bs
 | acc,[]=>acc
 | acc,t::l=>F6 (if t ∈ acc then acc else acc++[t]) l
def P5 (m:j0):j0:=⟨m.from_,F6 [] m.to,m.lines⟩
def ak9 (m:j0):j0:=if F4 m 1 30=true then P5 m else ⟨[],[],[]⟩
theorem ac5:∀ {l acc:List Bs} {x:Bs},x ∈ F6 acc l<->x ∈ acc\/x ∈ l
 | [],acc,x=>by simp [F6]
 | t::l,acc,x=>by
   rw [F6,ac5]
   by_cases h:t ∈ acc
   ·rw [if_pos h]
    constructor
    ·rintro (h1 | h1)
     ·exact .inl h1
     ·exact .inr (List.mem_cons_of_mem _ h1)
    ·rintro (h1 | h1)
     ·exact .inl h1
     ·rcases List.mem_cons.1 h1 with h1 | h1
      ·rw [h1]; exact .inl h
      ·exact .inr h1
   ·rw [if_neg h]
    simp only [List.mem_append,List.mem_cons,List.not_mem_nil,or_false]
    constructor
    ·rintro ((h1 | h1) | h1)
     ·exact .inl h1
     ·exact .inr (.inl h1)
     ·exact .inr (.inr h1)
    ·rintro (h1 | h1 | h1)
     ·exact .inl (.inl h1)
     ·exact .inl (.inr h1)
     ·exact .inr h1
theorem ac9:∀ {l acc:List Bs},acc.length<=(F6 acc l).length/\(F6 acc l).length<=acc.length+l.length
 | [],acc=>by simp [F6]
 | t::l,acc=>by
   rw [F6]
   have h:=ac9 (l:=l) (acc:=if t ∈ acc then acc else acc++[t])
   have h2:acc.length<=(if t ∈ acc then acc else acc++[t]).length/\(if t ∈ acc then acc else acc++[t]).length<=acc.length+1:=by split<;>simp
   simp only [List.length_cons]
   omega
theorem aiC:∀ {l acc:List Bs},acc.Nodup->(F6 acc l).Nodup
 | [],acc,h=>h
 | t::l,acc,h=>by
   rw [F6]
   refine aiC ?_
   split
   ·exact h
   ·rename_i ht
    rw [List.nodup_append]
    refine ⟨h,by simp,fun a ha b hb=>?_⟩
    simp at hb; subst hb
    rintro rfl
    exact ht ha
def AsM (v:V) (m:j0):Prop:=∃ x y,v = .agg [.str m.from_,x,y]/\strip x = .sl false (vT m.to)/\strip y = .sl false (vT m.lines)
theorem aqS {v:V} {s:Bs} (h:strip v = .str s):v = .str s:=by
 cases v<;>simp only [strip] at h<;>first | exact h | cases h
theorem aj0:∀ {xs:List (List V)} {l:List Bs},l9 xs=vT l->xs=vT l
 | [],[],_=>rfl
 | [],_::_,h=>by cases h
 | _::_,[],h=>by cases h
 | x::xs,s::l,h=>by
   simp only [l9,vT,List.map_cons,List.cons.injEq] at h
   obtain ⟨h1,h2⟩:=h
   have e1:x=[.str s]:=by
    cases x with
    | nil=>cases h1
    | cons v x =>
      simp only [j3,List.cons.injEq] at h1
      cases x with
      | nil=>rw [aqS h1.1]
      | cons w x=>simp [j3] at h1
   have e2:=aj0 (xs:=xs) (l:=l) h2
   rw [e1,e2]; rfl
theorem anY {v:V} {l:List Bs} (h:strip v = .sl false (vT l)):∃ o,v = .sl o (vT l):=by
 cases v with
 | sl o xs =>
   simp only [strip,V.sl.injEq,true_and] at h
   exact ⟨o,by rw [aj0 h]⟩
 | _=>simp [strip] at h
theorem ati (l:List Bs) (t:Bs) (hl:l.length<=1000000000):qc I7 [.sl false (vT l),.str t]=some (.int .i64 (if l.any (fun s=>decide (t=s))=true then ((l.findIdx (fun s=>decide (t=s)):Nat):Int) else -1)):=by
 refine s7 (H:=[]) ?_ (by simp only [b9]) rfl
 show cv _ _ _=_
 rw [abE]
 have loop:=ajj (B:=D5) (S:=fun i=>[.sl false (vT l),.str t,.int .i64 l.length,.int .i64 (i:Nat)]) (H:=[]) (m0:=0) (m1:=1) (vs0:=[]) l (fun s=>decide (t=s))
  (fun i hi=>by
   have i1:=M0 false l .i64 i hi
   have e2:a8 (.int .i64) .add (.int .i64 (i:Int)) (.int .i64 1)=some (.int .i64 ((i+1:Nat):Int)):=s9 _ i 1 (by omega)
   rw [O2]
   simp only [b9,i1,e2,show ((i:Int)<(l.length:Int)) from by omega])
  (by
   rw [O2]
   simp only [b9,show ¬ ((l.length:Int)<(l.length:Int)) from by omega])
 have loop':j4 D5 [.sl false (vT l),.str t,.int .i64 l.length,.int .i64 0] []=_:=loop
 simp only [b9,loop']
 by_cases h:l.any (fun s=>decide (t=s))=true<;>simp only [b9,h]
theorem auW (l:List Bs) (t:Bs):(l.any fun s=>decide (t=s))=decide (t ∈ l):=by
 rw [Bool.eq_iff_iff,List.any_eq_true,decide_eq_true_eq]
 constructor
 ·rintro ⟨s,h1,h2⟩; rw [of_decide_eq_true h2]; exact h1
 ·intro h; exact ⟨t,h,decide_eq_true rfl⟩
theorem aoQ (l:List Bs) (t:Bs) (hl:l.length<=1000000000):qc H4 [.sl false (vT l),.str t]=some (.bool (decide (t ∈ l))):=by
 have e1:=ati l t hl
 refine s7 (H:=[]) ?_ (by simp only [b9]) rfl
 show cv _ _ _=_
 rw [aa0]
 simp only [b9,e1]
 rw [<-auW]
 by_cases h:(l.any fun s=>decide (t=s))=true
 ·simp only [h,if_true]
  rw [decide_eq_true (show (((l.findIdx (fun s=>decide (t=s)):Nat):Int)>=0) from by omega)]
 ·have h':(l.any fun s=>decide (t=s))=false:=by
   cases hq:(l.any fun s=>decide (t=s)) with
   | false=>rfl
   | true=>exact absurd hq h
  rw [h']
  rfl
theorem anw (l:List Bs) (t:Bs) (hl:l.length<=1000000000):qc aa9 [.sl false (vT l),.str t]=some (.bool (decide (t ∈ l))):=by
 refine s7 (H:=[]) ?_ (by simp only [b9]) rfl
 show cv _ _ _=_
 rw [akN]
 have loop:=aat (B:=aaV) (S:=fun i=>[.sl false (vT l),.str t,.int .i64 (i:Nat)]) (H:=[]) (m0:=0) (m1:=1) (vs0:=[]) (vs1:=[.bool true]) l (fun s=>decide (s=t))
  (fun i hi=>by
   have i1:=M0 false l .i64 i hi
   have e2:a8 (.int .i64) .add (.int .i64 (i:Int)) (.int .i64 1)=some (.int .i64 ((i+1:Nat):Int)):=s9 _ i 1 (by omega)
   rw [adE]
   simp only [b9,i1,e2,show ((i:Int)<(l.length:Int)) from by omega])
  (by
   rw [adE]
   simp only [b9,show ¬ ((l.length:Int)<(l.length:Int)) from by omega])
 have loop':j4 aaV [.sl false (vT l),.str t,.int .i64 0] []=_:=loop
 have e:(l.any fun s=>decide (s=t))=decide (t ∈ l):=by
  rw [Bool.eq_iff_iff,List.any_eq_true,decide_eq_true_eq]
  constructor
  ·rintro ⟨s,h1,h2⟩; rw [<-of_decide_eq_true h2]; exact h1
  ·intro h; exact ⟨t,h,decide_eq_true rfl⟩
 rw [e] at loop'
 simp only [b9,loop']
 by_cases h:t ∈ l<;>simp only [b9,h]
theorem tk3 {G:VH} {f:Bs} {t ln:List Bs}:y3 o7 true false 1 (.ptr G.length 1) (G++[[.str f,.sl true (vT t),.sl true (vT ln)]])=some (.sl true (vT t),G++[[.str f,.sl false (vT t),.sl true (vT ln)]]):=by
 have l1:=ahL (g:=o7) (off:=1) (R3 G [.str f,.sl true (vT t),.sl true (vT ln)]) rfl
 rw [Q6] at l1
 rw [l1]
 simp only [strip,C2]
 rfl
theorem ld3 {G:VH} {f:Bs} {t ln:List Bs}:y3 o7 false false 1 (.ptr G.length 1) (G++[[.str f,.sl true (vT t),.sl true (vT ln)]])=some (.sl false (vT t),G++[[.str f,.sl true (vT t),.sl true (vT ln)]]) :=
 alg (R3 G _) rfl (by simp only [strip,C2])
theorem st3 {G:VH} {f:Bs} {t t2 ln:List Bs}:M6 (.ptr G.length 1) [.sl true (vT t2)] (G++[[.str f,.sl false (vT t),.sl true (vT ln)]])=some (G++[[.str f,.sl true (vT t2),.sl true (vT ln)]]):=by
 rw [aeb (R3 G _) (by simp),Q6]; rfl
theorem axN {G:VH} {f:Bs} {ln:List Bs}:M6 (.ptr G.length 0) [.str f,.sl true [],.sl true (vT ln)] (G++[[.str [],.sl true [],.sl true []]])=some (G++[[.str f,.sl true (vT []),.sl true (vT ln)]]):=by
 have e:=ajD (R3 G [.str [],.sl true [],.sl true []]) (c:=[.str f,.sl true [],.sl true (vT ln)]) rfl
 rw [Q6] at e
 exact e
theorem axT {G:VH} {f:Bs} {t ln:List Bs}:y3 o7 true true 3 (.ptr G.length 0) (G++[[.str f,.sl true (vT t),.sl true (vT ln)]])=some (.agg [.str f,.sl true (vT t),.sl true (vT ln)],G++[j3 [.str f,.sl true (vT t),.sl true (vT ln)]]):=by
 have l1:=ani (g:=o7) (n:=3) (R3 G [.str f,.sl true (vT t),.sl true (vT ln)]) rfl
 rw [Q6] at l1
 exact l1
theorem ah3 (m:j0) (v:V) (H:VH) (hv:AsM v m) (h:Z6 m):L7 (cv aaM [v] H) (fun r H'=>r = .agg (cO (P5 m))/\Lg H H'):=by
 obtain ⟨x,y,rfl,hx,hy⟩:=hv
 have hl:=h.2.1.1
 have e1:=ana m.lines (by have:=h.2.2.1; omega)
 refine L7.of ?_
 rw [agM]
 simp only [b9,hx,hy,e1,axN]
 refine o9.P8 (I:=fun n st G=>∃ (i:Nat) (acc:List Bs),n=m.to.length-i/\i<=m.to.length/\st=[.ptr H.length 0,.sl false (vT m.to),.int .i64 (m.to.length:Nat),.int .i64 (i:Nat),.str [],.sl true [],.sl true []]/\G=H++[[.str m.from_,.sl true (vT acc),.sl true (vT m.lines)]]/\F6 acc (m.to.drop i)=F6 [] m.to/\acc.length<=i)
  (P:=fun q vs G=>q=0/\vs=[.ptr H.length 0,.str [],.sl true [],.sl true []]/\G=H++[[.str m.from_,.sl true (vT (F6 [] m.to)),.sl true (vT m.lines)]]) (n:=m.to.length) ?_ ⟨0,[],by omega,by omega,rfl,rfl,rfl,by simp⟩ ?_
 ·rintro n st G ⟨i,acc,rfl,hi,rfl,rfl,hn,ha⟩
  rw [afr]
  by_cases hlt:i<m.to.length
  ·have i1:=M0 false m.to .i64 i hlt
   have e2:=aoQ acc m.to[i] (by omega)
   have e3:a8 (.int .i64) .add (.int .i64 (i:Int)) (.int .i64 1)=some (.int .i64 ((i+1:Nat):Int)):=s9 _ i 1 (by omega)
   have ap:=afH (l:=acc) m.to[i] (by omega)
   rw [List.drop_eq_getElem_cons hlt,F6] at hn
   by_cases hm:m.to[i] ∈ acc
   ·rw [if_pos hm] at hn
    simp only [b9,i1,ld3,e2,hm,e3,show ((i:Int)<(m.to.length:Int)) from by omega]
    exact ⟨_,rfl,.inr ⟨rfl,m.to.length-(i+1),by omega,i+1,acc,rfl,by omega,rfl,rfl,hn,by omega⟩⟩
   ·rw [if_neg hm] at hn
    simp only [b9,i1,ld3,e2,hm,tk3,ap,st3,e3,show ((i:Int)<(m.to.length:Int)) from by omega]
    exact ⟨_,rfl,.inr ⟨rfl,m.to.length-(i+1),by omega,i+1,_,rfl,by omega,rfl,rfl,hn,by simp; omega⟩⟩
  ·have:i=m.to.length:=by omega
   subst this
   rw [List.drop_length,F6] at hn
   subst hn
   simp only [b9,show ¬ ((m.to.length:Int)<(m.to.length:Int)) from by omega]
   exact ⟨_,rfl,.inl ⟨0,rfl,rfl,rfl,rfl⟩⟩
 rintro _ _ G ⟨rfl,rfl,rfl⟩
 simp only [b9,axT]
 exact o9.here ⟨rfl,Lg.one _ _⟩
theorem axX {G:VH} {f:Bs} {t t2 ln:List Bs}:M6 (.ptr G.length 1) [.sl true (vT t2)] (G++[[.str f,.sl false (vT t),.sl true (vT ln)]])=some (G++[[.str f,.sl true (vT t2),.sl true (vT ln)]]):=by
 rw [aeb (R3 G _) (by simp),Q6]; rfl
theorem av1 {G:VH} {f:Bs} {t ln:List Bs}:y3 o7 true false 1 (.ptr G.length 1) (G++[[.str f,.sl true (vT t),.sl true (vT ln)]])=some (.sl true (vT t),G++[[.str f,.sl false (vT t),.sl true (vT ln)]]):=by
 have l1:=ahL (g:=o7) (off:=1) (R3 G [.str f,.sl true (vT t),.sl true (vT ln)]) rfl
 rw [Q6] at l1
 rw [l1]
 simp only [strip,C2]
 rfl
theorem axe {G:VH} {f:Bs} {t ln:List Bs}:y3 o7 false false 1 (.ptr G.length 1) (G++[[.str f,.sl true (vT t),.sl true (vT ln)]])=some (.sl false (vT t),G++[[.str f,.sl true (vT t),.sl true (vT ln)]]) :=
 alg (R3 G _) rfl (by simp only [strip,C2])
theorem axG {G:VH} {f:Bs} {ln:List Bs}:M6 (.ptr G.length 0) [.str f,.sl true [],.sl true (vT ln)] (G++[[.str [],.sl true [],.sl true []]])=some (G++[[.str f,.sl true (vT []),.sl true (vT ln)]]):=by
 have e:=ajD (R3 G [.str [],.sl true [],.sl true []]) (c:=[.str f,.sl true [],.sl true (vT ln)]) rfl
 rw [Q6] at e
 exact e
theorem axt {G:VH} {f:Bs} {t ln:List Bs}:y3 o7 true true 3 (.ptr G.length 0) (G++[[.str f,.sl true (vT t),.sl true (vT ln)]])=some (.agg [.str f,.sl true (vT t),.sl true (vT ln)],G++[j3 [.str f,.sl true (vT t),.sl true (vT ln)]]):=by
 have l1:=ani (g:=o7) (n:=3) (R3 G [.str f,.sl true (vT t),.sl true (vT ln)]) rfl
 rw [Q6] at l1
 exact l1
theorem aii (m:j0) (v:V) (H:VH) (hv:AsM v m) (h:Z6 m):L7 (cv aar [v] H) (fun r H'=>r = .u6 [.agg (cO (ak9 m)),.bool (F4 m 1 30)]/\Lg H H'):=by
 obtain ⟨x,y,rfl,hx,hy⟩:=hv
 obtain ⟨o,rfl⟩:=anY hx
 obtain ⟨o2,rfl⟩:=anY hy
 have e1:=aiW m h
 have hl:=h.2.1.1
 have hll:=h.2.2.1
 simp only [N5] at e1
 refine L7.of ?_
 rw [ahb]
 unfold ak9
 by_cases hb:F4 m 1 30=true
 ·rw [if_pos hb]
  have a1:F1 false 1 16 [] (.sl o2 (vT m.lines))=some (.sl true ([]++vT m.lines)):=adV 1 16 [] o2 (vT m.lines) rfl (W6 _) (by rw [P3]; simp; omega)
  rw [List.nil_append] at a1
  simp only [b9,e1,hb,a1,axG]
  refine o9.P8 (I:=fun n st G=>∃ (i:Nat) (acc:List Bs),n=m.to.length-i/\i<=m.to.length/\st=[.ptr H.length 0,.int .i64 (i:Nat),.str m.from_,.sl o (vT m.to),.sl false (vT m.lines),.str [],.sl true [],.sl true []]/\G=H++[[.str m.from_,.sl true (vT acc),.sl true (vT m.lines)]]/\F6 acc (m.to.drop i)=F6 [] m.to/\acc.length<=i)
   (P:=fun q vs G=>q=0/\vs=[.ptr H.length 0,.str [],.sl true [],.sl true []]/\G=H++[[.str m.from_,.sl true (vT (F6 [] m.to)),.sl true (vT m.lines)]]) (n:=m.to.length) ?_ ⟨0,[],by omega,by omega,rfl,rfl,rfl,by simp⟩ ?_
  ·rintro n st G ⟨i,acc,rfl,hi,rfl,rfl,hn,ha⟩
   rw [afI]
   by_cases hlt:i<m.to.length
   ·have i1:=M0 false m.to .i64 i hlt
    have e2:=anw acc m.to[i] (by omega)
    have e3:a8 (.int .i64) .add (.int .i64 (i:Int)) (.int .i64 1)=some (.int .i64 ((i+1:Nat):Int)):=s9 _ i 1 (by omega)
    have ap:=afH (l:=acc) m.to[i] (by omega)
    rw [List.drop_eq_getElem_cons hlt,F6] at hn
    by_cases hm:m.to[i] ∈ acc
    ·rw [if_pos hm] at hn
     simp only [b9,i1,axe,e2,hm,e3,show ((i:Int)<(m.to.length:Int)) from by omega]
     exact ⟨_,rfl,.inr ⟨rfl,m.to.length-(i+1),by omega,i+1,acc,rfl,by omega,rfl,rfl,hn,by omega⟩⟩
    ·rw [if_neg hm] at hn
     simp only [b9,i1,axe,e2,hm,av1,ap,axX,e3,show ((i:Int)<(m.to.length:Int)) from by omega]
     exact ⟨_,rfl,.inr ⟨rfl,m.to.length-(i+1),by omega,i+1,_,rfl,by omega,rfl,rfl,hn,by simp; omega⟩⟩
   ·have:i=m.to.length:=by omega
    subst this
    rw [List.drop_length,F6] at hn
    subst hn
    simp only [b9,show ¬ ((m.to.length:Int)<(m.to.length:Int)) from by omega]
    exact ⟨_,rfl,.inl ⟨0,rfl,rfl,rfl,rfl⟩⟩
  rintro _ _ G ⟨rfl,rfl,rfl⟩
  simp only [b9,axt]
  exact o9.here ⟨rfl,Lg.one _ _⟩
 ·rw [if_neg hb]
  simp only [b9,e1,hb]
  exact o9.here ⟨rfl,Lg.refl _⟩
end Go.Proofs.YtpbgpeojlfdpoaaDoor.Q

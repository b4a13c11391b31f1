/- Contracts and laws: drawn sessions that are the same; mails without repeated names. -/
import Derived.Test.YtaapfgpeeghmeaaGreatDoorScriptMailC82speaksayZ
namespace Go.Proofs.YtaapfgpeeghmeaaGreatDoor.Q
open Go Go.AM
set_option linter.unusedSimpArgs false
set_option linter.unusedVariables false
set_option linter.unusedSectionVars false
def J7:List Bs->List Bs->List Bs
 | acc,[]=>acc
 | acc,t::l=>J7 (if t ∈ acc then acc else acc++[t]) l
def abm (m:l9):l9:=⟨m.from_,J7 [] m.to,m.lines⟩
theorem aik:∀ {l acc:List Bs} {x:Bs},x ∈ J7 acc l<->x ∈ acc\/x ∈ l
 | [],acc,x=>by simp [J7]
 | t::l,acc,x=>by
   rw [J7,aik]
   by_cases h:t ∈ acc
   ·rw [if_pos h]
    constructor
    ·rintro (h1 | h1)
     ·exact .inl h1
     ·exact .inr (List.mem_cons_of_mem _ h1)
    ·rintro (h1 | h1)
     ·exact .inl h1
     ·rcases List.mem_cons.1 h1 with h1 | h1
      ·rw [h1]; exact .inl h
      ·exact .inr h1
   ·rw [if_neg h]
    simp only [List.mem_append,List.mem_cons,List.not_mem_nil,or_false]
    constructor
    ·rintro ((h1 | h1) | h1)
     ·exact .inl h1
     ·exact .inr (.inl h1)
     ·exact .inr (.inr h1)
    ·rintro (h1 | h1 | h1)
     ·exact .inl (.inl h1)
     ·exact .inl (.inr h1)
     ·exact .inr h1
theorem aiB:∀ {l acc:List Bs},acc.length<=(J7 acc l).length/\(J7 acc l).length<=acc.length+l.length
 | [],acc=>by simp [J7]
 | t::l,acc=>by
   rw [J7]
   have h:=aiB (l:=l) (acc:=if t ∈ acc then acc else acc++[t])
   have h2:acc.length<=(if t ∈ acc then acc else acc++[t]).length/\(if t ∈ acc then acc else acc++[t]).length<=acc.length+1:=by split<;>simp
   simp only [List.length_cons]
   omega
theorem anD:∀ {l acc:List Bs},acc.Nodup->(J7 acc l).Nodup
 | [],acc,h=>h
 | t::l,acc,h=>by
   rw [J7]
   refine anD ?_
   split
   ·exact h
   ·rename_i ht
    rw [List.nodup_append]
    refine ⟨h,by simp,fun a ha b hb=>?_⟩
    simp at hb; subst hb
    rintro rfl
    exact ht ha
theorem auC:∀ {l acc:List Bs},(acc++l).Nodup->J7 acc l=acc++l
 | [],acc,h=>by simp [J7]
 | t::l,acc,h=>by
   have ht:t ∉ acc:=fun hm=>by
    rw [List.nodup_append] at h
    exact h.2.2 t hm t (by simp) rfl
   rw [J7,if_neg ht,auC (by simpa using h)]
   simp
def AsM (v:V) (m:l9):Prop:=∃ x y,v = .agg [.str m.from_,x,y]/\strip x = .sl false (vT m.to)/\strip y = .sl false (vT m.lines)
theorem aAk (l:List Bs) (t:Bs) (hl:l.length<=1000000000):qc R7 [.sl false (vT l),.str t]=some (.int .i64 (if l.any (fun s=>decide (t=s))=true then ((l.findIdx (fun s=>decide (t=s)):Nat):Int) else -1)):=by
 refine y4 (H:=[]) ?_ (by simp only [c9]) rfl
 show cv _ _ _=_
 rw [aeu]
 have loop:=anU (B:=L0) (S:=fun i=>[.sl false (vT l),.str t,.int .i64 l.length,.int .i64 (i:Nat)]) (H:=[]) (m0:=0) (m1:=1) (vs0:=[]) l (fun s=>decide (t=s))
  (fun i hi=>by
   have i1:=P8 false l .i64 i hi
   have e2:b7 (.int .i64) .add (.int .i64 (i:Int)) (.int .i64 1)=some (.int .i64 ((i+1:Nat):Int)):=A0 _ i 1 (by omega)
   rw [Y8]
   simp only [c9,i1,e2,show ((i:Int)<(l.length:Int)) from by omega])
  (by
   rw [Y8]
   simp only [c9,show ¬ ((l.length:Int)<(l.length:Int)) from by omega])
 have loop':l6 L0 [.sl false (vT l),.str t,.int .i64 l.length,.int .i64 0] []=_:=loop
 simp only [c9,loop']
 by_cases h:l.any (fun s=>decide (t=s))=true<;>simp only [c9,h]
theorem aCe (l:List Bs) (t:Bs):(l.any fun s=>decide (t=s))=decide (t ∈ l):=by
 rw [Bool.eq_iff_iff,List.any_eq_true,decide_eq_true_eq]
 constructor
 ·rintro ⟨s,h1,h2⟩; rw [of_decide_eq_true h2]; exact h1
 ·intro h; exact ⟨t,h,decide_eq_true rfl⟩
theorem au0 (l:List Bs) (t:Bs) (hl:l.length<=1000000000):qc O0 [.sl false (vT l),.str t]=some (.bool (decide (t ∈ l))):=by
 have e1:=aAk l t hl
 refine y4 (H:=[]) ?_ (by simp only [c9]) rfl
 show cv _ _ _=_
 rw [adI]
 simp only [c9,e1]
 rw [<-aCe]
 by_cases h:(l.any fun s=>decide (t=s))=true
 ·simp only [h,if_true]
  rw [decide_eq_true (show (((l.findIdx (fun s=>decide (t=s)):Nat):Int)>=0) from by omega)]
 ·have h':(l.any fun s=>decide (t=s))=false:=by
   cases hq:(l.any fun s=>decide (t=s)) with
   | false=>rfl
   | true=>exact absurd hq h
  rw [h']
  rfl
theorem tk3 {G:VH} {f:Bs} {t ln:List Bs}:y5 l5 true false 1 (.ptr G.length 1) (G++[[.str f,.sl true (vT t),.sl true (vT ln)]])=some (.sl true (vT t),G++[[.str f,.sl false (vT t),.sl true (vT ln)]]):=by
 have l1:=aqR (g:=l5) (off:=1) (afH G [.str f,.sl true (vT t),.sl true (vT ln)]) rfl
 rw [ajk] at l1
 rw [l1]
 simp only [strip,M1]
 rfl
theorem ld3 {G:VH} {f:Bs} {t ln:List Bs}:y5 l5 false false 1 (.ptr G.length 1) (G++[[.str f,.sl true (vT t),.sl true (vT ln)]])=some (.sl false (vT t),G++[[.str f,.sl true (vT t),.sl true (vT ln)]]) :=
 ahm (afH G _) rfl (by simp only [strip,M1])
theorem st3 {G:VH} {f:Bs} {t t2 ln:List Bs}:E1 (.ptr G.length 1) [.sl true (vT t2)] (G++[[.str f,.sl false (vT t),.sl true (vT ln)]])=some (G++[[.str f,.sl true (vT t2),.sl true (vT ln)]]):=by
 rw [amD (afH G _) (by simp),ajk]; rfl
theorem aFz {G:VH} {f:Bs} {ln:List Bs}:E1 (.ptr G.length 0) [.str f,.sl true [],.sl true (vT ln)] (G++[[.str [],.sl true [],.sl true []]])=some (G++[[.str f,.sl true (vT []),.sl true (vT ln)]]):=by
 have e:=aC3 (afH G [.str [],.sl true [],.sl true []]) (c:=[.str f,.sl true [],.sl true (vT ln)]) rfl
 rw [ajk] at e
 exact e
theorem aFs {G:VH} {f:Bs} {t ln:List Bs}:y5 l5 true true 3 (.ptr G.length 0) (G++[[.str f,.sl true (vT t),.sl true (vT ln)]])=some (.agg [.str f,.sl true (vT t),.sl true (vT ln)],G++[m8 [.str f,.sl true (vT t),.sl true (vT ln)]]):=by
 have l1:=azC (g:=l5) (n:=3) (afH G [.str f,.sl true (vT t),.sl true (vT ln)]) rfl
 rw [ajk] at l1
 exact l1
theorem ana (m:l9) (v:V) (H:VH) (hv:AsM v m) (h:Z7 m):Y4 (cv aba [v] H) (fun r H'=>r = .agg (cO (abm m))/\Lg H H'):=by
 obtain ⟨x,y,rfl,hx,hy⟩:=hv
 have hl:=h.2.1.1
 have e1:=ake m.lines (by have:=h.2.2.1; omega)
 refine Y4.of ?_
 rw [alF]
 simp only [c9,hx,hy,e1,aFz]
 refine j8.N1 (I:=fun n st G=>∃ (i:Nat) (acc:List Bs),n=m.to.length-i/\i<=m.to.length/\st=[.ptr H.length 0,.sl false (vT m.to),.int .i64 (m.to.length:Nat),.int .i64 (i:Nat),.str [],.sl true [],.sl true []]/\G=H++[[.str m.from_,.sl true (vT acc),.sl true (vT m.lines)]]/\J7 acc (m.to.drop i)=J7 [] m.to/\acc.length<=i)
  (P:=fun q vs G=>q=0/\vs=[.ptr H.length 0,.str [],.sl true [],.sl true []]/\G=H++[[.str m.from_,.sl true (vT (J7 [] m.to)),.sl true (vT m.lines)]]) (n:=m.to.length) ?_ ⟨0,[],by omega,by omega,rfl,rfl,rfl,by simp⟩ ?_
 ·rintro n st G ⟨i,acc,rfl,hi,rfl,rfl,hn,ha⟩
  rw [aji]
  by_cases hlt:i<m.to.length
  ·have i1:=P8 false m.to .i64 i hlt
   have e2:=au0 acc m.to[i] (by omega)
   have e3:b7 (.int .i64) .add (.int .i64 (i:Int)) (.int .i64 1)=some (.int .i64 ((i+1:Nat):Int)):=A0 _ i 1 (by omega)
   have ap:=abN (l:=acc) m.to[i] (by omega)
   rw [List.drop_eq_getElem_cons hlt,J7] at hn
   by_cases hm:m.to[i] ∈ acc
   ·rw [if_pos hm] at hn
    simp only [c9,i1,ld3,e2,hm,e3,show ((i:Int)<(m.to.length:Int)) from by omega]
    exact ⟨_,rfl,.inr ⟨rfl,m.to.length-(i+1),by omega,i+1,acc,rfl,by omega,rfl,rfl,hn,by omega⟩⟩
   ·rw [if_neg hm] at hn
    simp only [c9,i1,ld3,e2,hm,tk3,ap,st3,e3,show ((i:Int)<(m.to.length:Int)) from by omega]
    exact ⟨_,rfl,.inr ⟨rfl,m.to.length-(i+1),by omega,i+1,_,rfl,by omega,rfl,rfl,hn,by simp; omega⟩⟩
  ·have:i=m.to.length:=by omega
   subst this
   rw [List.drop_length,J7] at hn
   subst hn
   simp only [c9,show ¬ ((m.to.length:Int)<(m.to.length:Int)) from by omega]
   exact ⟨_,rfl,.inl ⟨0,rfl,rfl,rfl,rfl⟩⟩
 rintro _ _ G ⟨rfl,rfl,rfl⟩
 simp only [c9,aFs]
 exact j8.here ⟨rfl,Lg.one _ _⟩
end Go.Proofs.YtaapfgpeeghmeaaGreatDoor.Q

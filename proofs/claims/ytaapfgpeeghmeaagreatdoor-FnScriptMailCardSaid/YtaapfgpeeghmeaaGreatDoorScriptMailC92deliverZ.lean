/- Contracts: mails come to mailboxes. -/
import Derived.Test.YtaapfgpeeghmeaaGreatDoorScriptMailC90boxownZ
namespace Go.Proofs.YtaapfgpeeghmeaaGreatDoor.Q
open Go Go.AM
set_option linter.unusedSimpArgs false
set_option linter.unusedVariables false
set_option linter.unusedSectionVars false
theorem J5 {f:FuncId} {H:VH} {vs:List V} (h:A7 vs=true):qco f H vs=qc f (vs.map strip):=azb h
theorem ap8 {f:FuncId} {H:VH} {vs:List V} (h:A7 vs=true):pco f H vs=pc f (vs.map strip):=az3 h
def HoX (v:V) (H:VH) (l:List y0):Prop:=(l=[]/\v = .sl true [])\/(l ≠ []/\∃ k,v = .y1 k 0 l.length 2/\H[k]? = some (E8 l).flatten)
theorem HoX.strip {v:V} {H:VH} {l:List y0} (h:HoX v H l):Go.AM.strip v=(if l=[] then .sl false [] else v):=by
 rcases h with ⟨rfl,rfl⟩ | ⟨hne,k,rfl,_⟩
 ·rfl
 ·rw [if_neg hne]; rfl
theorem HoX.q {v:V} {H:VH} {l:List y0} (h:HoX v H l) (f:FuncId) (us:List V) (ha:A7 us=true):qco f H (Go.AM.strip v::us)=qc f (.sl false (vR eX l)::us.map Go.AM.strip):=by
 rcases h with ⟨rfl,rfl⟩ | ⟨hne,k,rfl,hk⟩
 ·exact J5 (by simp only [Go.AM.strip,n8,A7,data,D8,ha,Bool.and_self])
 ·have h1:aa6 (Go.AM.strip (.y1 k 0 l.length 2)::us)=false:=by simp only [Go.AM.strip,aa6,amu,Bool.false_and]
  show W0 cv f H _=_
  rw [axw h1]
  have h2:frD 3 H (.y1 k 0 l.length 2) = .sl false (vR eX l):=by
   have:=aCB 3 hk (aca l) (akb l)
   rw [acC,agq] at this
   exact this
  show R8 cv f (frD 3 H (.y1 k 0 l.length 2)::us.map (frD 3 H))=_
  rw [h2,arh ha]
  rfl
theorem HoX.ne {v:V} {H:VH} {l:List y0} (h:HoX v H l) (hne:l ≠ []):∃ k,v = .y1 k 0 l.length 2/\H[k]? = some (E8 l).flatten:=by
 rcases h with ⟨h,_⟩ | ⟨_,h⟩
 ·exact absurd h hne
 ·exact h
section
variable {k i:Nat} {H:VH} {l:List y0} (hk:H[k]? = some (E8 l).flatten) (hi:i<l.length)
include hk hi
theorem auc:(E8 l).flatten[i*2+1]? = some (.sl true (vO l[i].o8)):=by
 rw [Go.AM.Rows.get (by omega) (aca l) (av6 l i hi)]; rfl
theorem aAu (g:Nat->Option (List V)):y5 g false false 1 (.ptr k (i*2+1)) H=some (.sl false (vR eM l[i].o8),H):=by
 rw [aq0 hk (auc hk hi)]
 simp only [strip,aco]
theorem aAI (g:Nat->Option (List V)):y5 g true false 1 (.ptr k (i*2+1)) H=some (.sl true (vO l[i].o8),H.set k (F7 (E8 l).flatten (i*2+1) [.sl false (vR eM l[i].o8)])):=by
 rw [aqR hk (auc hk hi)]
 simp only [strip,aco]
theorem aCN (ms:List l9) (w:V):E1 (.ptr k (i*2+1)) [.sl true (vO ms)] (H.set k (F7 (E8 l).flatten (i*2+1) [w]))=some (H.set k (E8 (l.set i ⟨l[i].path,ms⟩)).flatten):=by
 have hf:=(aca l).flat
 rw [acC] at hf
 have hkl:=(List.getElem?_eq_some_iff.1 hk).1
 have aa7:F7 (F7 (E8 l).flatten (i*2+1) [w]) (i*2+1) [V.sl true (vO ms)]=(E8 (l.set i ⟨l[i].path,ms⟩)).flatten:=by
  have h1:=Go.AM.Rows.set (v:=V.sl true (vO ms)) (j:=1) (by omega) (aca l) (av6 l i hi)
  have h2:F7 (F7 (E8 l).flatten (i*2+1) [w]) (i*2+1) [V.sl true (vO ms)]=F7 (E8 l).flatten (i*2+1) [V.sl true (vO ms)]:=ayL (by omega)
  rw [h2,h1]
  congr 1
  have:(cOx l[i]).set 1 (V.sl true (vO ms))=cOx ⟨l[i].path,ms⟩:=rfl
  rw [this]
  unfold E8
  rw [List.map_set]
 have hlen:i*2+1+[V.sl true (vO ms)].length<=(F7 (E8 l).flatten (i*2+1) [w]).length:=by
  simp only [F7,List.length_append,List.length_take,List.length_drop,List.length_singleton]; omega
 have hset:(H.set k (F7 (E8 l).flatten (i*2+1) [w]))[k]? = some (F7 (E8 l).flatten (i*2+1) [w]):=by simp [hkl]
 rw [aoW hset hlen,aa7,List.set_set]
end
def aqS (m:l9) (to:Bs):l9:=⟨m.from_,[to],m.lines⟩
def dl1 (l:List y0) (m:l9) (to:Bs):List y0 × Int :=
 if l.any (G4 to)=true then
  if (C8 l (l.findIdx (G4 to))).o8.length=4 then (l,452)
  else (l.set (l.findIdx (G4 to)) ⟨(C8 l (l.findIdx (G4 to))).path,(C8 l (l.findIdx (G4 to))).o8++[aqS m to]⟩,250)
 else (l,550)
def dlS (m:l9) (s:List y0 × List Int) (to:Bs):List y0 × List Int:=((dl1 s.1 m to).1,s.2++[(dl1 s.1 m to).2])
def S2 (m:l9) (tos:List Bs) (s:List y0 × List Int):List y0 × List Int:=tos.foldl (dlS m) s
def aft (l:List y0) (m:l9):List y0 × List Int:=if Q3 l&&D6 m 1 30 then S2 m m.to (l,[]) else ([],[])
def aqH (l:List y0) (m:l9):Bool:=Q3 l&&D6 m 1 30
theorem aEP (k:IntKind) (a b:List Int):vI k a++vI k b=vI k (a++b):=by simp [vI]
theorem aor {l:List Int} (n:Int) (h:l.length+1<=4000000) (H:VH):agu false false 1 8 (.sl true (vI .i64 l)) (.sl true [[.int .i64 n]]) H=some (.sl true (vI .i64 (l++[n])),H):=by
 have:=aeZ 1 8 (vI .i64 l) true (vI .i64 [n]) (apH _ _) (apH _ _) (by rw [apW,apW]; simp; omega)
 rw [aEP] at this
 rw [avS _ _ _ _ _ _ _ _ (.inl rfl)]
 show ((S6 (.sl true (vI .i64 l))).bind fun xs=>(F8 false 1 8 xs (.sl true (vI .i64 [n]))).bind fun r=>some (r,H))=_
 simp only [S6,Option.bind_some,this]
theorem awt {l:List l9} (m:l9) (h:l.length+1<=2000000) (H:VH):agu false false 3 64 (.sl true (vO l)) (.sl true [[.str m.from_,.sl true (vT m.to),.sl true (vT m.lines)]]) H=some (.sl true (vO (l++[m])),H):=by
 have:=alc m h
 rw [avS _ _ _ _ _ _ _ _ (.inl rfl)]
 simp only [S6,Option.bind_some,this]
theorem ai4 (l:List y0) (m:l9) (to:Bs):(dl1 l m to).1.length=l.length:=by
 unfold dl1
 split
 ·split<;>simp
 ·rfl
theorem aao {l:List y0} {p:Bs} (h:l.any (G4 p)=true):l.findIdx (G4 p)<l.length:=by
 rw [List.any_eq_true] at h
 exact List.findIdx_lt_length_of_exists h
theorem alW {l:List y0} {i:Nat} (h:i<l.length):C8 l i ∈ l:=by rw [K6 h]; exact List.getElem_mem h
def OkX (n:Nat) (l:List y0):Prop:=l.length<=1049600/\∀ b ∈ l,b.path.length<=1049600/\b.o8.length<=n/\∀ m ∈ b.o8,Z7 m
theorem OkX.sm {n:Nat} {l:List y0} (h:OkX n l) (hn:n<=1049600):adg l:=⟨by have:=h.1; omega,fun b hb=>⟨by have:=(h.2 b hb).1; omega,by have:=(h.2 b hb).2.1; omega,(h.2 b hb).2.2⟩⟩
theorem OkX.le {n k:Nat} {l:List y0} (h:OkX n l) (hn:n<=k):OkX k l:=⟨h.1,fun b hb=>⟨(h.2 b hb).1,by have:=(h.2 b hb).2.1; omega,(h.2 b hb).2.2⟩⟩
theorem aCC {n:Nat} {l:List y0} {m:l9} {to:Bs} (h:OkX n l) (hm:Z7 m) (ht:to.length<=1049600):OkX (n+1) (dl1 l m to).1:=by
 refine ⟨by rw [ai4]; exact h.1,fun b hb=>?_⟩
 unfold dl1 at hb
 split at hb
 ·rename_i ha
  have hlt:=aao ha
  split at hb
  ·have:=h.2 b hb; exact ⟨this.1,by omega,this.2.2⟩
  ·rcases List.mem_or_eq_of_mem_set hb with hb | rfl
   ·have:=h.2 b hb; exact ⟨this.1,by omega,this.2.2⟩
   ·have:=h.2 _ (alW hlt)
    refine ⟨this.1,by simp; omega,fun x hx=>?_⟩
    rcases List.mem_append.1 hx with hx | hx
    ·exact this.2.2 x hx
    ·simp at hx; subst hx
     exact ⟨hm.1,⟨by simp [aqS],by simp [aqS]; omega⟩,hm.2.2⟩
 ·have:=h.2 b hb; exact ⟨this.1,by omega,this.2.2⟩
theorem aAt (m:l9) (tos:List Bs) (t:Bs) (s:List y0 × List Int):S2 m (tos++[t]) s=dlS m (S2 m tos s) t:=by simp [S2,List.foldl_append]
theorem avy (m:l9):∀ (tos:List Bs) (s:List y0 × List Int),(S2 m tos s).2.length=s.2.length+tos.length/\(S2 m tos s).1.length=s.1.length
 | [],s=>by simp [S2]
 | t::tos,s=>by
   have:=avy m tos (dlS m s t)
   simp only [S2,List.foldl_cons] at this ⊢
   rw [this.1,this.2]
   simp [dlS,ai4]; omega
theorem avu {m:l9} (hm:Z7 m):∀ {tos:List Bs} {n:Nat} {s:List y0 × List Int},OkX n s.1->(∀ t ∈ tos,t.length<=1049600)->OkX (n+tos.length) (S2 m tos s).1
 | [],n,s,h,_=>by simpa [S2] using h
 | t::tos,n,s,h,ht=>by
   have h1:=aCC (to:=t) h hm (ht t (by simp))
   have:=avu (tos:=tos) (s:=dlS m s t) hm h1 (fun u hu=>ht u (by simp [hu]))
   simp only [S2,List.foldl_cons,List.length_cons] at this ⊢
   exact this.le (by omega)
theorem aAe {m:l9} {a b:Int} (h:D6 m a b=true):m.to.length<=10:=by
 unfold D6 at h
 simp only [Bool.and_eq_true,decide_eq_true_eq] at h
 omega
theorem axM {l:List y0} (h:adg l) (hb:Q3 l=true) (hs:∀ b ∈ l,b.path.length<=1049600):OkX 4 l:=by
 unfold Q3 at hb
 rw [Bool.and_eq_true,decide_eq_true_eq,Bool.not_eq_true'] at hb
 refine ⟨by omega,fun b hbm=>⟨hs b hbm,?_,(h.2 b hbm).2.2⟩⟩
 obtain ⟨i,hi,rfl⟩:=List.getElem_of_mem hbm
 have:=List.any_eq_false.1 hb.2 i (by simpa using hi)
 unfold ajY at this
 rw [K6 hi] at this
 simp only [Bool.or_eq_true,not_or,decide_eq_true_eq] at this
 omega
end Go.Proofs.YtaapfgpeeghmeaaGreatDoor.Q

/- Contracts: mails come to mailboxes. -/
import Derived.Test.YtaapfgpeeghmeaaGreatDoorScriptTraceC90boxownZ
namespace Go.Proofs.YtaapfgpeeghmeaaGreatDoor.Q
open Go Go.AM
set_option linter.unusedSimpArgs false
set_option linter.unusedVariables false
set_option linter.unusedSectionVars false
theorem N0 {f:FuncId} {H:VH} {vs:List V} (h:B3 vs=true):qco f H vs=qc f (vs.map strip):=awK h
theorem ap0 {f:FuncId} {H:VH} {vs:List V} (h:B3 vs=true):pco f H vs=pc f (vs.map strip):=axo h
def HoX (v:V) (H:VH) (l:List A3):Prop:=(l=[]/\v = .sl true [])\/(l ≠ []/\∃ k,v = .l8 k 0 l.length 2/\H[k]? = some (L1 l).flatten)
theorem HoX.strip {v:V} {H:VH} {l:List A3} (h:HoX v H l):Go.AM.strip v=(if l=[] then .sl false [] else v):=by
 rcases h with ⟨rfl,rfl⟩ | ⟨hne,k,rfl,_⟩
 ·rfl
 ·rw [if_neg hne]; rfl
theorem HoX.q {v:V} {H:VH} {l:List A3} (h:HoX v H l) (f:FuncId) (us:List V) (ha:B3 us=true):qco f H (Go.AM.strip v::us)=qc f (.sl false (vR eX l)::us.map Go.AM.strip):=by
 rcases h with ⟨rfl,rfl⟩ | ⟨hne,k,rfl,hk⟩
 ·exact N0 (by simp only [Go.AM.strip,n9,B3,data,D5,ha,Bool.and_self])
 ·have h1:aaQ (Go.AM.strip (.l8 k 0 l.length 2)::us)=false:=by simp only [Go.AM.strip,aaQ,akS,Bool.false_and]
  show U6 cv f H _=_
  rw [avU h1]
  have h2:frD 3 H (.l8 k 0 l.length 2) = .sl false (vR eX l):=by
   have:=azn 3 hk (aeO l) (ais l)
   rw [aex,ag1] at this
   exact this
  show Q3 cv f (frD 3 H (.l8 k 0 l.length 2)::us.map (frD 3 H))=_
  rw [h2,aod ha]
  rfl
theorem HoX.ne {v:V} {H:VH} {l:List A3} (h:HoX v H l) (hne:l ≠ []):∃ k,v = .l8 k 0 l.length 2/\H[k]? = some (L1 l).flatten:=by
 rcases h with ⟨h,_⟩ | ⟨_,h⟩
 ·exact absurd h hne
 ·exact h
section
variable {k i:Nat} {H:VH} {l:List A3} (hk:H[k]? = some (L1 l).flatten) (hi:i<l.length)
include hk hi
theorem arx:(L1 l).flatten[i*2+1]? = some (.sl true (vO l[i].y7)):=by
 rw [Go.AM.Rows.get (by omega) (aeO l) (ath l i hi)]; rfl
theorem axw (g:Nat->Option (List V)):B2 g false false 1 (.ptr k (i*2+1)) H=some (.sl false (vR eM l[i].y7),H):=by
 rw [anV hk (arx hk hi)]
 simp only [strip,ago]
theorem aw4 (g:Nat->Option (List V)):B2 g true false 1 (.ptr k (i*2+1)) H=some (.sl true (vO l[i].y7),H.set k (G7 (L1 l).flatten (i*2+1) [.sl false (vR eM l[i].y7)])):=by
 rw [as1 hk (arx hk hi)]
 simp only [strip,ago]
theorem azV (ms:List z7) (w:V):K8 (.ptr k (i*2+1)) [.sl true (vO ms)] (H.set k (G7 (L1 l).flatten (i*2+1) [w]))=some (H.set k (L1 (l.set i ⟨l[i].path,ms⟩)).flatten):=by
 have hf:=(aeO l).flat
 rw [aex] at hf
 have hkl:=(List.getElem?_eq_some_iff.1 hk).1
 have R9:G7 (G7 (L1 l).flatten (i*2+1) [w]) (i*2+1) [V.sl true (vO ms)]=(L1 (l.set i ⟨l[i].path,ms⟩)).flatten:=by
  have h1:=Go.AM.Rows.set (v:=V.sl true (vO ms)) (j:=1) (by omega) (aeO l) (ath l i hi)
  have h2:G7 (G7 (L1 l).flatten (i*2+1) [w]) (i*2+1) [V.sl true (vO ms)]=G7 (L1 l).flatten (i*2+1) [V.sl true (vO ms)]:=avz (by omega)
  rw [h2,h1]
  congr 1
  have:(cOx l[i]).set 1 (V.sl true (vO ms))=cOx ⟨l[i].path,ms⟩:=rfl
  rw [this]
  unfold L1
  rw [List.map_set]
 have hlen:i*2+1+[V.sl true (vO ms)].length<=(G7 (L1 l).flatten (i*2+1) [w]).length:=by
  simp only [G7,List.length_append,List.length_take,List.length_drop,List.length_singleton]; omega
 have hset:(H.set k (G7 (L1 l).flatten (i*2+1) [w]))[k]? = some (G7 (L1 l).flatten (i*2+1) [w]):=by simp [hkl]
 rw [aq0 hset hlen,R9,List.set_set]
end
def an1 (m:z7) (to:Bs):z7:=⟨m.from_,[to],m.lines⟩
def dl1 (l:List A3) (m:z7) (to:Bs):List A3 × Int :=
 if l.any (K9 to)=true then
  if (C7 l (l.findIdx (K9 to))).y7.length=4 then (l,452)
  else (l.set (l.findIdx (K9 to)) ⟨(C7 l (l.findIdx (K9 to))).path,(C7 l (l.findIdx (K9 to))).y7++[an1 m to]⟩,250)
 else (l,550)
def dlS (m:z7) (s:List A3 × List Int) (to:Bs):List A3 × List Int:=((dl1 s.1 m to).1,s.2++[(dl1 s.1 m to).2])
def S4 (m:z7) (tos:List Bs) (s:List A3 × List Int):List A3 × List Int:=tos.foldl (dlS m) s
def aeq (l:List A3) (m:z7):List A3 × List Int:=if V7 l&&L5 m 1 30 then S4 m m.to (l,[]) else ([],[])
def aoh (l:List A3) (m:z7):Bool:=V7 l&&L5 m 1 30
theorem aAd (k:IntKind) (a b:List Int):vI k a++vI k b=vI k (a++b):=by simp [vI]
theorem amg {l:List Int} (n:Int) (h:l.length+1<=4000000) (H:VH):afr false false 1 8 (.sl true (vI .i64 l)) (.sl true [[.int .i64 n]]) H=some (.sl true (vI .i64 (l++[n])),H):=by
 have:=amL 1 8 (vI .i64 l) true (vI .i64 [n]) (anh _ _) (anh _ _) (by rw [ans,ans]; simp; omega)
 rw [aAd] at this
 rw [atA _ _ _ _ _ _ _ _ (.inl rfl)]
 show ((aez (.sl true (vI .i64 l))).bind fun xs=>(aay false 1 8 xs (.sl true (vI .i64 [n]))).bind fun r=>some (r,H))=_
 simp only [aez,Option.bind_some,this]
theorem auu {l:List z7} (m:z7) (h:l.length+1<=2000000) (H:VH):afr false false 3 64 (.sl true (vO l)) (.sl true [[.str m.from_,.sl true (vT m.to),.sl true (vT m.lines)]]) H=some (.sl true (vO (l++[m])),H):=by
 have:=ao9 m h
 rw [atA _ _ _ _ _ _ _ _ (.inl rfl)]
 simp only [aez,Option.bind_some,this]
theorem ahG (l:List A3) (m:z7) (to:Bs):(dl1 l m to).1.length=l.length:=by
 unfold dl1
 split
 ·split<;>simp
 ·rfl
theorem Z9 {l:List A3} {p:Bs} (h:l.any (K9 p)=true):l.findIdx (K9 p)<l.length:=by
 rw [List.any_eq_true] at h
 exact List.findIdx_lt_length_of_exists h
theorem aoV {l:List A3} {i:Nat} (h:i<l.length):C7 l i ∈ l:=by rw [N3 h]; exact List.getElem_mem h
def OkX (n:Nat) (l:List A3):Prop:=l.length<=1049600/\∀ b ∈ l,b.path.length<=1049600/\b.y7.length<=n/\∀ m ∈ b.y7,SmM m
theorem OkX.le {n k:Nat} {l:List A3} (h:OkX n l) (hn:n<=k):OkX k l:=⟨h.1,fun b hb=>⟨(h.2 b hb).1,by have:=(h.2 b hb).2.1; omega,(h.2 b hb).2.2⟩⟩
theorem azr {n:Nat} {l:List A3} {m:z7} {to:Bs} (h:OkX n l) (hm:SmM m) (ht:to.length<=1049600):OkX (n+1) (dl1 l m to).1:=by
 refine ⟨by rw [ahG]; exact h.1,fun b hb=>?_⟩
 unfold dl1 at hb
 split at hb
 ·rename_i ha
  have hlt:=Z9 ha
  split at hb
  ·have:=h.2 b hb; exact ⟨this.1,by omega,this.2.2⟩
  ·rcases List.mem_or_eq_of_mem_set hb with hb | rfl
   ·have:=h.2 b hb; exact ⟨this.1,by omega,this.2.2⟩
   ·have:=h.2 _ (aoV hlt)
    refine ⟨this.1,by simp; omega,fun x hx=>?_⟩
    rcases List.mem_append.1 hx with hx | hx
    ·exact this.2.2 x hx
    ·simp at hx; subst hx
     exact ⟨hm.1,⟨by simp [an1],by simp [an1]; omega⟩,hm.2.2⟩
 ·have:=h.2 b hb; exact ⟨this.1,by omega,this.2.2⟩
theorem axU (m:z7) (tos:List Bs) (t:Bs) (s:List A3 × List Int):S4 m (tos++[t]) s=dlS m (S4 m tos s) t:=by simp [S4,List.foldl_append]
theorem as9 (m:z7):∀ (tos:List Bs) (s:List A3 × List Int),(S4 m tos s).2.length=s.2.length+tos.length/\(S4 m tos s).1.length=s.1.length
 | [],s=>by simp [S4]
 | t::tos,s=>by
   have:=as9 m tos (dlS m s t)
   simp only [S4,List.foldl_cons] at this ⊢
   rw [this.1,this.2]
   simp [dlS,ahG]; omega
theorem atc {m:z7} (hm:SmM m):∀ {tos:List Bs} {n:Nat} {s:List A3 × List Int},OkX n s.1->(∀ t ∈ tos,t.length<=1049600)->OkX (n+tos.length) (S4 m tos s).1
 | [],n,s,h,_=>by simpa [S4] using h
 | t::tos,n,s,h,ht=>by
   have h1:=azr (to:=t) h hm (ht t (by simp))
   have:=atc (tos:=tos) (s:=dlS m s t) hm h1 (fun u hu=>ht u (by simp [hu]))
   simp only [S4,List.foldl_cons,List.length_cons] at this ⊢
   exact this.le (by omega)
theorem axS {m:z7} {a b:Int} (h:L5 m a b=true):m.to.length<=10:=by
 unfold L5 at h
 simp only [Bool.and_eq_true,decide_eq_true_eq] at h
 omega
theorem avR {l:List A3} (h:aeF l) (hb:V7 l=true) (hs:∀ b ∈ l,b.path.length<=1049600):OkX 4 l:=by
 unfold V7 at hb
 rw [Bool.and_eq_true,decide_eq_true_eq,Bool.not_eq_true'] at hb
 refine ⟨by omega,fun b hbm=>⟨hs b hbm,?_,(h.2 b hbm).2.2⟩⟩
 obtain ⟨i,hi,rfl⟩:=List.getElem_of_mem hbm
 have:=List.any_eq_false.1 hb.2 i (by simpa using hi)
 unfold ai1 at this
 rw [N3 hi] at this
 simp only [Bool.or_eq_true,not_or,decide_eq_true_eq] at this
 omega
end Go.Proofs.YtaapfgpeeghmeaaGreatDoor.Q

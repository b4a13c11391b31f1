/- Contracts: a script that says lines. -/
import Derived.Test.YtaapfgpeeghmeaaGreatDoorScriptMailCd3passZ
namespace Go.Proofs.YtaapfgpeeghmeaaGreatDoor.Q
open Go Go.AM
set_option linter.unusedSimpArgs false
set_option linter.unusedVariables false
set_option linter.unusedSectionVars false
def adm:Bs:=[115,97,121,32]
def ajq (n:Int):Bs:=if n=0 then [45,10] else aeG n++[10]
theorem akW (n:Int):(aeG n).length<=13:=by
 unfold aeG
 iterate 8
  split
  ·simp
 simp
theorem axg (n:Int):(ajq n).length<=14:=by
 unfold ajq
 split
 ·simp
 ·have:=akW n; simp; omega
theorem aBW (b a0 a1 a2 a3 a4 a5 z0 z1 z2 z3 z4 z5 z6:V):y5 l5 false true 6 (.ptr 0 1) [[b,a0,a1,a2,a3,a4,a5,z0,z1,z2,z3,z4,z5,z6]]=some (.agg [strip a0,strip a1,strip a2,strip a3,strip a4,strip a5],[[b,a0,a1,a2,a3,a4,a5,z0,z1,z2,z3,z4,z5,z6]]):=by exact id rfl
theorem aBX (b a0 a1 a2 a3 a4 a5 z0 z1 z2 z3 z4 z5 z6 c0 c1 c2 c3 c4 c5:V):E1 (.ptr 0 1) [c0,c1,c2,c3,c4,c5] [[b,a0,a1,a2,a3,a4,a5,z0,z1,z2,z3,z4,z5,z6]]=some [[b,c0,c1,c2,c3,c4,c5,z0,z1,z2,z3,z4,z5,z6]]:=by exact id rfl
theorem aqq {n:Nat} (b:V) (s:y6) (d:Dt) (line:Bs) (hs:SzS n s) (hn:n+1<=1049600) (hl:line.length<=1049600) (hb:ajO s line=true) :
 cv aac [.ptr 0 0,.str line] [cG b (cSo s) d]=some (.str (ajq (afF s line)),[cG b (cSo (aiL s line)) d]):=by
 have f:=aq4 s line hs hn hl
 rw [hb] at f
 simp only [asO,I5] at f
 have u:=an3 (afF s line)
 have t:=D9 .str (aeG (afF s line)) [10] (by have:=akW (afF s line); simp; omega)
 rw [ajE]
 unfold ajq
 by_cases h0:afF s line=0
 ·rw [h0] at f ⊢
  simp only [cG,I5,L3,U3,Z1,aBW,aBX,List.getD_cons_zero,List.getD_cons_succ,c9,aco,f]
 ·simp only [cG,I5,L3,U3,Z1,aBW,aBX,c9,aco,f,u,t,h0]
theorem awl {n:Nat} (b:V) (s:y6) (d:Dt) (line:Bs) (hs:SzS n s) (hn:n+1<=1049600) (hl:line.length<=1049600) (hb:ajO s line=true) :
 cv O4 [.ptr 0 0,.str (adm++line)] [cG b (cSo s) d]=some (.str (ajq (afF s line)),[cG b (cSo (aiL s line)) d]):=by
 have f:=aqq b s d line hs hn hl hb
 have e0:=aqc (adm++line) 32 (by simp [adm]; omega)
 have hw:adm++line=[115,97,121]++[32]++line:=rfl
 obtain ⟨q1,q2⟩:=ai2 (c:=32) (a:=[115,97,121]) (z:=line) (by decide)
 rw [hw] at e0 ⊢
 rw [q1,q2,decide_eq_true (by simp)] at e0
 rw [abB]
 simp only [List.cons_append,List.nil_append] at e0 ⊢
 simp only [c9,e0,f]
def aqK:y6->List Bs->Bs
 | _,[]=>[]
 | s,l::ls=>ajq (afF s l)++aqK (aiL s l) ls
theorem atq:∀ (ls:List Bs) (s:y6),(aqK s ls).length<=14*ls.length
 | [],_=>by simp [aqK]
 | l::ls,s=>by
   have h1:=atq ls (aiL s l)
   have h2:=axg (afF s l)
   simp only [aqK,List.length_append,List.length_cons]
   omega
theorem aAq {s:y6} {l:Bs} (hv:SOk s) (hb:okB s l=true):ajO s l=true/\aiL s l=(V5 s l).1/\afF s l=(V5 s l).2:=by
 have h1:ajO s l=true:=by
  show (afX s&&okB s l)=true
  rw [hb,(avL s).2 hv]; rfl
 unfold aiL afF
 rw [if_pos h1,if_pos h1]
 exact ⟨h1,rfl,rfl⟩
theorem ar4 (b:V) (d:Dt):∀ (ls:List Bs) (n:Nat) (s t:y6) (cs ds:List Int),SOk s->SzS n s->n+ls.length<=1000000->(∀ l ∈ ls,l.length<=n)->V8 s cs ls=some (t,ds) →
 Steps (ls.map fun l=>adm++l) [cG b (cSo s) d] (aqK s ls) [cG b (cSo t) d]
 | [],n,s,t,cs,ds,hv,hs,hn,hl,h=>by
   simp only [V8,Option.some.injEq,Prod.mk.injEq] at h
   rw [<-h.1]
   exact .nil _
 | l::ls,n,s,t,cs,ds,hv,hs,hn,hl,h=>by
   simp only [V8] at h
   split at h
   ·rename_i hb
    obtain ⟨h1,h2,h3⟩:=aAq hv hb
    have hll:=hl l (by simp)
    simp only [List.length_cons] at hn
    have g:=awl b s d l hs (by omega) (by omega) h1
    have hs1:=aCc (line:=l) hs hll
    have ih:=ar4 b d ls (n+1) (aiL s l) t _ ds (by rw [h2]; exact hv.next hb) (by rw [h2]; exact hs1) (by omega) (fun q hq=>by have:=hl q (by simp [hq]); omega) (by rw [h2]; exact h)
    exact .step (by simp [adm]) g ih
   ·cases h
def J4 (ls:List Bs):Bs:=(ls.map fun l=>adm++l++[10]).flatten
theorem afY {a z:Bs} {c:UInt8} (h:c ∉ a):j7 c (a++[c]++z)=a::j7 c z:=by
 obtain ⟨h1,h2⟩:=ai2 (z:=z) h
 have hm:c ∈ a++[c]++z:=by simp
 rw [ahe c _ hm]
 unfold E4 at h1
 unfold E5 at h2
 simp only [hm,if_true] at h1 h2
 rw [h1,h2]
theorem arH {z:Bs}:∀ {ls:List Bs},(∀ l ∈ ls,(10:UInt8) ∉ l)->j7 10 (J4 ls++z)=(ls.map fun l=>adm++l)++j7 10 z
 | [],_=>rfl
 | l::ls,h=>by
   have ih:=arH (z:=z) (ls:=ls) (fun q hq=>h q (by simp [hq]))
   have e:J4 (l::ls)++z=(adm++l)++[10]++(J4 ls++z):=by simp [J4]
   rw [e,afY,ih]
   ·rfl
   ·have:=h l (by simp)
    simp only [List.mem_append,not_or]
    exact ⟨by decide,this⟩
theorem ayl {l:Bs} (h:A6 l=true):(10:UInt8) ∉ l:=by
 intro hm
 unfold A6 at h
 simp only [Bool.and_eq_true,Bool.not_eq_true',List.any_eq_false] at h
 exact h.1 10 hm (by decide)
theorem acX {l:Bs} (h:A6 l=true):l.length<=200:=by
 unfold A6 at h
 simp only [Bool.and_eq_true,decide_eq_true_eq] at h
 exact h.2
theorem ain:∀ {ls:List Bs},(∀ l ∈ ls,l.length<=200)->(J4 ls).length<=205*ls.length
 | [],_=>by simp [J4]
 | l::ls,h=>by
   have h1:=h l (by simp)
   have h2:=ain (ls:=ls) (fun q hq=>h q (by simp [hq]))
   have e:J4 (l::ls)=(adm++l++[10])++J4 ls:=by simp [J4]
   rw [e]
   simp only [List.length_append,List.length_cons,List.length_nil,adm]
   omega
theorem alQ:∀ {ls:List Bs} {s t:y6} {cs ds:List Int},V8 s cs ls=some (t,ds)->∀ l ∈ ls,A6 l=true
 | [],s,t,cs,ds,h,l,hl=>by cases hl
 | q::ls,s,t,cs,ds,h,l,hl=>by
   simp only [V8] at h
   split at h
   ·rename_i hb
    rcases List.mem_cons.1 hl with rfl | hl
    ·simp only [okB,Bool.and_eq_true] at hb
     exact hb.2
    ·exact alQ h l hl
   ·cases h
end Go.Proofs.YtaapfgpeeghmeaaGreatDoor.Q

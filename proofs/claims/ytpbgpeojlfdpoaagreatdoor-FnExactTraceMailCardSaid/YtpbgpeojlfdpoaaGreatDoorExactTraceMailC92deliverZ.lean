/- Contracts: mails come to mailboxes. -/
import Derived.Test.YtpbgpeojlfdpoaaGreatDoorExactTraceMailC90boxownZ
namespace Go.Proofs.YtpbgpeojlfdpoaaGreatDoor.Q
open Go Go.AM
set_option linter.unusedSimpArgs false
set_option linter.unusedVariables false
set_option linter.unusedSectionVars false
theorem O5 {f:FuncId} {H:VH} {vs:List V} (h:s7 vs=true):qco f H vs=qc f (vs.map strip):=amX h
theorem ay3 {f:FuncId} {H:VH} {vs:List V} (h:s7 vs=true):pco f H vs=pc f (vs.map strip):=aok h
def HoX (v:V) (H:VH) (l:List z7):Prop:=(l=[]/\v = .sl true [])\/(l ≠ []/\∃ k,v = .o9 k 0 l.length 2/\H[k]? = some (vOX l).flatten)
theorem HoX.strip {v:V} {H:VH} {l:List z7} (h:HoX v H l):Go.AM.strip v=(if l=[] then .sl false [] else v):=by
 rcases h with ⟨rfl,rfl⟩ | ⟨hne,k,rfl,_⟩
 ·rfl
 ·rw [if_neg hne]; rfl
theorem HoX.q {v:V} {H:VH} {l:List z7} (h:HoX v H l) (f:FuncId) (us:List V) (ha:s7 us=true):qco f H (Go.AM.strip v::us)=qc f (.sl false (vR eX l)::us.map Go.AM.strip):=by
 rcases h with ⟨rfl,rfl⟩ | ⟨hne,k,rfl,hk⟩
 ·exact O5 (by simp only [Go.AM.strip,n7,s7,data,B6,ha,Bool.and_self])
 ·have h1:I3 (Go.AM.strip (.o9 k 0 l.length 2)::us)=false:=by simp only [Go.AM.strip,I3,adN,Bool.false_and]
  show K5 cv f H _=_
  rw [ass h1]
  have h2:I5 3 H (.o9 k 0 l.length 2) = .sl false (vR eX l):=by
   have:=awz 3 hk (auf l) (akc l)
   rw [aw1,ahX] at this
   exact this
  show M0 cv f (I5 3 H (.o9 k 0 l.length 2)::us.map (I5 3 H))=_
  rw [h2,ags ha]
  rfl
theorem HoX.ne {v:V} {H:VH} {l:List z7} (h:HoX v H l) (hne:l ≠ []):∃ k,v = .o9 k 0 l.length 2/\H[k]? = some (vOX l).flatten:=by
 rcases h with ⟨h,_⟩ | ⟨_,h⟩
 ·exact absurd h hne
 ·exact h
section
variable {k i:Nat} {H:VH} {l:List z7} (hk:H[k]? = some (vOX l).flatten) (hi:i<l.length)
include hk hi
end
def azp (m:s8) (to:Bs):s8:=⟨m.from_,[to],m.lines⟩
def dl1 (l:List z7) (m:s8) (to:Bs):List z7 × Int :=
 if l.any (U4 to)=true then
  if (H9 l (l.findIdx (U4 to))).D2.length=4 then (l,452)
  else (l.set (l.findIdx (U4 to)) ⟨(H9 l (l.findIdx (U4 to))).path,(H9 l (l.findIdx (U4 to))).D2++[azp m to]⟩,250)
 else (l,550)
def dlS (m:s8) (s:List z7 × List Int) (to:Bs):List z7 × List Int:=((dl1 s.1 m to).1,s.2++[(dl1 s.1 m to).2])
def dlN (m:s8) (tos:List Bs) (s:List z7 × List Int):List z7 × List Int:=tos.foldl (dlS m) s
theorem aqC (l:List z7) (m:s8) (to:Bs):(dl1 l m to).1.length=l.length:=by
 unfold dl1
 split
 ·split<;>simp
 ·rfl
theorem adT {l:List z7} {p:Bs} (h:l.any (U4 p)=true):l.findIdx (U4 p)<l.length:=by
 rw [List.any_eq_true] at h
 exact List.findIdx_lt_length_of_exists h
theorem atE {l:List z7} {i:Nat} (h:i<l.length):H9 l i ∈ l:=by rw [aed h]; exact List.getElem_mem h
def OkX (n:Nat) (l:List z7):Prop:=l.length<=1049600/\∀ b ∈ l,b.path.length<=1049600/\b.D2.length<=n/\∀ m ∈ b.D2,SmM m
theorem OkX.le {n k:Nat} {l:List z7} (h:OkX n l) (hn:n<=k):OkX k l:=⟨h.1,fun b hb=>⟨(h.2 b hb).1,by have:=(h.2 b hb).2.1; omega,(h.2 b hb).2.2⟩⟩
end Go.Proofs.YtpbgpeojlfdpoaaGreatDoor.Q

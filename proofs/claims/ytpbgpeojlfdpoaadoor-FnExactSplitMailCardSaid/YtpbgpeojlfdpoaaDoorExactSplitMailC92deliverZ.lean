/- Contracts: mails come to mailboxes. -/
import Derived.Test.YtpbgpeojlfdpoaaDoorExactSplitMailC90boxownZ
namespace Go.Proofs.YtpbgpeojlfdpoaaDoor.Q
open Go Go.AM
set_option linter.unusedSimpArgs false
set_option linter.unusedVariables false
set_option linter.unusedSectionVars false
theorem apQ {f:FuncId} {H:VH} {vs:List V} (h:o8 vs=true):qco f H vs=qc f (vs.map strip):=alX h
theorem auf {f:FuncId} {H:VH} {vs:List V} (h:o8 vs=true):pco f H vs=pc f (vs.map strip):=anX h
def HoX (v:V) (H:VH) (l:List u4):Prop:=(l=[]/\v = .sl true [])\/(l ≠ []/\∃ k,v = .m8 k 0 l.length 2/\H[k]? = some (vOX l).flatten)
theorem HoX.strip {v:V} {H:VH} {l:List u4} (h:HoX v H l):Go.AM.strip v=(if l=[] then .sl false [] else v):=by
 rcases h with ⟨rfl,rfl⟩ | ⟨hne,k,rfl,_⟩
 ·rfl
 ·rw [if_neg hne]; rfl
theorem HoX.q {v:V} {H:VH} {l:List u4} (h:HoX v H l) (f:FuncId) (us:List V) (ha:o8 us=true):qco f H (Go.AM.strip v::us)=qc f (.sl false (vR eX l)::us.map Go.AM.strip):=by
 rcases h with ⟨rfl,rfl⟩ | ⟨hne,k,rfl,hk⟩
 ·exact apQ (by simp only [Go.AM.strip,l9,o8,data,z8,ha,Bool.and_self])
 ·have h1:G7 (Go.AM.strip (.m8 k 0 l.length 2)::us)=false:=by simp only [Go.AM.strip,G7,abw,Bool.false_and]
  show G8 cv f H _=_
  rw [al5 h1]
  have h2:A1 3 H (.m8 k 0 l.length 2) = .sl false (vR eX l):=by
   have:=apx 3 hk (as7 l) (aiN l)
   rw [au0,agW] at this
   exact this
  show I3 cv f (A1 3 H (.m8 k 0 l.length 2)::us.map (A1 3 H))=_
  rw [h2,afC ha]
  rfl
theorem HoX.ne {v:V} {H:VH} {l:List u4} (h:HoX v H l) (hne:l ≠ []):∃ k,v = .m8 k 0 l.length 2/\H[k]? = some (vOX l).flatten:=by
 rcases h with ⟨h,_⟩ | ⟨_,h⟩
 ·exact absurd h hne
 ·exact h
section
variable {k i:Nat} {H:VH} {l:List u4} (hk:H[k]? = some (vOX l).flatten) (hi:i<l.length)
include hk hi
end
def axP (m:j0) (to:Bs):j0:=⟨m.from_,[to],m.lines⟩
def dl1 (l:List u4) (m:j0) (to:Bs):List u4 × Int :=
 if l.any (S8 to)=true then
  if (F7 l (l.findIdx (S8 to))).y5.length=4 then (l,452)
  else (l.set (l.findIdx (S8 to)) ⟨(F7 l (l.findIdx (S8 to))).path,(F7 l (l.findIdx (S8 to))).y5++[axP m to]⟩,250)
 else (l,550)
def dlS (m:j0) (s:List u4 × List Int) (to:Bs):List u4 × List Int:=((dl1 s.1 m to).1,s.2++[(dl1 s.1 m to).2])
def dlN (m:j0) (tos:List Bs) (s:List u4 × List Int):List u4 × List Int:=tos.foldl (dlS m) s
theorem apl (l:List u4) (m:j0) (to:Bs):(dl1 l m to).1.length=l.length:=by
 unfold dl1
 split
 ·split<;>simp
 ·rfl
theorem ac0 {l:List u4} {p:Bs} (h:l.any (S8 p)=true):l.findIdx (S8 p)<l.length:=by
 rw [List.any_eq_true] at h
 exact List.findIdx_lt_length_of_exists h
theorem aqM {l:List u4} {i:Nat} (h:i<l.length):F7 l i ∈ l:=by rw [adj h]; exact List.getElem_mem h
def OkX (n:Nat) (l:List u4):Prop:=l.length<=1049600/\∀ b ∈ l,b.path.length<=1049600/\b.y5.length<=n/\∀ m ∈ b.y5,Z6 m
theorem OkX.le {n k:Nat} {l:List u4} (h:OkX n l) (hn:n<=k):OkX k l:=⟨h.1,fun b hb=>⟨(h.2 b hb).1,by have:=(h.2 b hb).2.1; omega,(h.2 b hb).2.2⟩⟩
theorem aiG {m:j0} {a b:Int} (h:F4 m a b=true):m.to.length<=10:=by
 unfold F4 at h
 simp only [Bool.and_eq_true,decide_eq_true_eq] at h
 omega
end Go.Proofs.YtpbgpeojlfdpoaaDoor.Q

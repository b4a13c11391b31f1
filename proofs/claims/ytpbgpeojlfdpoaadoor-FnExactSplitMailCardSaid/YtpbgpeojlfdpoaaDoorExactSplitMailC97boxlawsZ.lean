/- Laws of mailboxes. -/
import Derived.Test.YtpbgpeojlfdpoaaDoorExactSplitMailC96boxdrawsZ
namespace Go.Proofs.YtpbgpeojlfdpoaaDoor.Q
open Go Go.AM
set_option linter.unusedSimpArgs false
set_option linter.unusedVariables false
set_option linter.unusedSectionVars false
theorem alK (l:List u4) (m:j0) (t:Bs):(dl1 l m t).1.map u4.path=l.map u4.path:=by
 apply List.ext_getElem
 ·simp [apl]
 ·intro i h1 h2
  simp only [List.length_map] at h1 h2
  have:=asP l m t i
  rw [adj h1,adj h2] at this
  simp only [List.getElem_map]; exact this
theorem alz {l:List u4} {i j:Nat} {b:u4} (h:i<l.length):F7 (l.set i b) j=if j=i then b else F7 l j:=by
 by_cases e:j=i
 ·subst e
  rw [if_pos rfl,adj (by simpa using h),List.getElem_set_self]
 ·rw [if_neg e]
  unfold F7
  rw [List.getD_eq_getElem?_getD,List.getElem?_set_ne (by omega),<-List.getD_eq_getElem?_getD]
theorem an9 {l k:List u4} (h:l.map u4.path=k.map u4.path) (p:Bs):l.any (S8 p)=k.any (S8 p):=by
 have e:∀ l:List u4,l.any (S8 p)=(l.map u4.path).any (fun q=>decide (q=p)):=fun l=>by rw [List.any_map]; rfl
 rw [e,e,h]
theorem an3 {l k:List u4} (h:l.map u4.path=k.map u4.path) (p:Bs):l.findIdx (S8 p)=k.findIdx (S8 p):=by
 have e:∀ l:List u4,l.findIdx (S8 p)=(l.map u4.path).findIdx (fun q=>decide (q=p)):=fun l=>by rw [List.findIdx_map]; rfl
 rw [e,e,h]
theorem anh (l:List u4) (m:j0) (t:Bs) (j:Nat):(F7 l j).y5.length<=(F7 (dl1 l m t).1 j).y5.length:=by
 unfold dl1
 split
 ·rename_i ha
  have hx:=ac0 ha
  split
  ·exact Nat.le_refl _
  ·simp only
   rw [alz hx]
   split
   ·rename_i e; subst e; simp
   ·exact Nat.le_refl _
 ·exact Nat.le_refl _
theorem as5 (l:List u4) (m:j0) (t:Bs) (h:l.any (S8 t)=true):min 4 ((F7 l (l.findIdx (S8 t))).y5.length+1)<=(F7 (dl1 l m t).1 (l.findIdx (S8 t))).y5.length:=by
 have hx:=ac0 h
 unfold dl1
 rw [if_pos h]
 split
 ·rename_i h4; simp only; omega
 ·simp only
  rw [alz hx,if_pos rfl]
  simp; omega
theorem alV (m:j0):∀ (tos:List Bs) (s:List u4 × List Int),(dlN m tos s).1.map u4.path=s.1.map u4.path
 | [],s=>rfl
 | t::tos,s=>by
   have:=alV m tos (dlS m s t)
   simp only [dlN,List.foldl_cons] at this ⊢
   rw [this]
   exact alK s.1 m t
theorem anH (m:j0) (j:Nat):∀ (tos:List Bs) (s:List u4 × List Int),(F7 s.1 j).y5.length<=(F7 (dlN m tos s).1 j).y5.length
 | [],s=>Nat.le_refl _
 | t::tos,s=>by
   have:=anH m j tos (dlS m s t)
   simp only [dlN,List.foldl_cons] at this ⊢
   exact Nat.le_trans (anh s.1 m t j) this
theorem amN (m:j0) (u:Bs):∀ (tos:List Bs) (s:List u4 × List Int),u ∈ tos->s.1.any (S8 u)=true →
 min 4 ((F7 s.1 (s.1.findIdx (S8 u))).y5.length+1)<=(F7 (dlN m tos s).1 (s.1.findIdx (S8 u))).y5.length
 | [],s,h,_=>by simp at h
 | t::tos,s,h,ha=>by
   have hp:=alK s.1 m t
   by_cases e:u=t
   ·subst e
    have h1:=as5 s.1 m u ha
    have h2:=anH m (s.1.findIdx (S8 u)) tos (dlS m s u)
    simp only [dlN,List.foldl_cons] at h2 ⊢
    exact Nat.le_trans h1 h2
   ·have hm:u ∈ tos:=by
     rcases List.mem_cons.1 h with h | h
     ·exact absurd h e
     ·exact h
    have h1:=amN m u tos (dlS m s t) hm (by show (dl1 s.1 m t).1.any _=true; rw [an9 hp]; exact ha)
    have h2:=anh s.1 m t (s.1.findIdx (S8 u))
    have e2:(dlS m s t).1.findIdx (S8 u)=s.1.findIdx (S8 u):=an3 hp u
    rw [e2] at h1
    simp only [dlN,List.foldl_cons] at h1 ⊢
    have e3:(F7 (dlS m s t).1 (s.1.findIdx (S8 u))).y5.length=(F7 (dl1 s.1 m t).1 (s.1.findIdx (S8 u))).y5.length:=rfl
    omega
def as1 (j:Nat) (l:List u4) (tos:List Bs):Prop:=∀ u ∈ tos,l.any (S8 u)=true->min 4 j<=(F7 l (l.findIdx (S8 u))).y5.length
theorem as1.next {j:Nat} {l:List u4} {m:j0} (h:as1 j l m.to):as1 (j+1) (dlN m m.to (l,[])).1 m.to:=fun u hu ha=>by
 have hp:=alV m m.to (l,[])
 rw [an9 hp] at ha
 rw [an3 hp]
 have h1:=amN m u m.to (l,[]) hu ha
 have h2:=h u hu ha
 simp only at h1 ⊢
 omega
end Go.Proofs.YtpbgpeojlfdpoaaDoor.Q

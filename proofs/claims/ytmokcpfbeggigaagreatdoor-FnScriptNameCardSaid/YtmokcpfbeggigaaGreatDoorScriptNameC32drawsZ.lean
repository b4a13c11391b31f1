/- Contracts: draws of mails, of which only the sizes are told. -/
import Derived.Test.YtmokcpfbeggigaaGreatDoorScriptNameC30exactZ
import Derived.Test.YtmokcpfbeggigaaGreatDoorFnScriptNameK4
namespace Go.Proofs.YtmokcpfbeggigaaGreatDoor.Q
open Go Go.AM
set_option linter.unusedSimpArgs false
set_option linter.unusedVariables false
set_option linter.unusedSectionVars false
theorem av7 {k b:Nat} {o:Bool} {l:List (List V)} {H:VH} (hR:Rd k b H) (hb:b<=900000000) (ht:okT l=true):aaQ (cv T5 [.ptr k 0,.sl o l] H) (fun v H'=>∃ s,v = .str s/\s ∈ unT l/\s.length<=200/\Rd k (b+1) H'):=by
 obtain ⟨o',xs,p,h1,h2,h3⟩:=hR
 simp only [okT,Bool.and_eq_true,beq_iff_eq,decide_eq_true_eq,List.all_eq_true] at ht
 obtain ⟨⟨⟨t1,t2⟩,t3⟩,t4⟩:=ht
 have e:=av3 (o':=o) (l:=unT l) h1 (by omega) (by omega) (by omega) h3
 rw [apG t1] at e
 have hlt:=aeX xs p (unT l).length (by omega)
 have hm:(unT l).getD (K4 xs p (unT l).length) [] ∈ unT l:=by
  rw [List.getD_eq_getElem?_getD,List.getElem?_eq_getElem hlt]; exact List.getElem_mem hlt
 exact ⟨_,_,e,_,rfl,hm,t2 _ hm,o',xs,p+1,by rw [List.getElem?_set,if_pos rfl,if_pos (List.getElem?_eq_some_iff.1 h1).1],by omega,h3⟩
theorem avS {k b:Nat} {o:Bool} {l:List (List V)} {H:VH} (hR:Rd k b H) (hb:b<=900000000) (ht:okI l=true):aaQ (cv R6 [.ptr k 0,.sl o l] H) (fun v H'=>∃ s,v = .int .i64 s/\s ∈ unI l/\Rd k (b+1) H'):=by
 obtain ⟨o',xs,p,h1,h2,h3⟩:=hR
 simp only [okI,Bool.and_eq_true,beq_iff_eq,decide_eq_true_eq] at ht
 obtain ⟨⟨t1,t3⟩,t4⟩:=ht
 have e:=avU (o':=o) (l:=unI l) h1 (by omega) (by omega) (by omega) h3
 rw [aqi t1] at e
 have hlt:=aeX xs p (unI l).length (by omega)
 have hm:(unI l).getD (K4 xs p (unI l).length) 0 ∈ unI l:=by
  rw [List.getD_eq_getElem?_getD,List.getElem?_eq_getElem hlt]; exact List.getElem_mem hlt
 exact ⟨_,_,e,_,rfl,hm,o',xs,p+1,by rw [List.getElem?_set,if_pos rfl,if_pos (List.getElem?_eq_some_iff.1 h1).1],by omega,h3⟩
theorem avl {xs:Bs}:aaQ (cv V5 [.sl false (vB xs)] []) (fun v H'=>v = .ptr 0 0/\Rd 0 0 H') :=
 ⟨_,_,apr xs [],rfl,false,xs.take 2000,0,rfl,Nat.le_refl _,by simp; omega⟩
def TnT (n:Nat) (l:List Bs):Prop:=l.length<=n/\∀ s ∈ l,s.length<=200
theorem TnT.add {n:Nat} {l:List Bs} {s:Bs} (h:TnT n l) (hs:s.length<=200):TnT (n+1) (l++[s]):=by
 refine ⟨by simp; exact h.1,fun t ht=>?_⟩
 rcases List.mem_append.1 ht with h1 | h1
 ·exact h.2 t h1
 ·simp at h1; subst h1; exact hs
theorem TnT.le {n m:Nat} {l:List Bs} (h:TnT n l) (hn:n<=m):TnT m l:=⟨by have:=h.1; omega,h.2⟩
theorem TnT.none (n:Nat):TnT n []:=⟨by simp,by simp⟩
theorem TnT.one {n:Nat} {s:Bs} (hn:1<=n) (hs:s.length<=200):TnT n [s]:=⟨by simpa using hn,by simpa using hs⟩
end Go.Proofs.YtmokcpfbeggigaaGreatDoor.Q

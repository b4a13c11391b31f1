/- Contracts: draws of mails, of which only the sizes are told. -/
import Derived.Test.YtaapfgpeeghmeaaGreatDoorScriptTraceC30exactZ
import Derived.Test.YtaapfgpeeghmeaaGreatDoorFnScriptTraceK4
namespace Go.Proofs.YtaapfgpeeghmeaaGreatDoor.Q
open Go Go.AM
set_option linter.unusedSimpArgs false
set_option linter.unusedVariables false
set_option linter.unusedSectionVars false
theorem au2 {k b n:Nat} {H:VH} (hR:Rd k b H) (hb:b<=900000000) (hn:1<=n) (hn2:n<=1000000):Y9 (cv Q4 [.ptr k 0,.int .i64 (n:Int)] H) (fun v H'=>∃ i:Nat,v = .int .i64 (i:Nat)/\i<n/\Rd k (b+1) H'):=by
 obtain ⟨o,xs,p,h1,h2,h3⟩:=hR
 have e:=avP h1 hn (by omega) (by omega) h3
 exact ⟨_,_,e,_,rfl,amB _ _ _ hn,o,xs,p+1,by rw [List.getElem?_set,if_pos rfl,if_pos (List.getElem?_eq_some_iff.1 h1).1],by omega,h3⟩
theorem aha {k b:Nat} {o:Bool} {l:List (List V)} {H:VH} (hR:Rd k b H) (hb:b<=900000000) (ht:okI l=true):Y9 (cv F9 [.ptr k 0,.sl o l] H) (fun v H'=>∃ s,v = .int .i64 s/\s ∈ unI l/\Rd k (b+1) H'):=by
 obtain ⟨o',xs,p,h1,h2,h3⟩:=hR
 simp only [okI,Bool.and_eq_true,beq_iff_eq,decide_eq_true_eq] at ht
 obtain ⟨⟨t1,t3⟩,t4⟩:=ht
 have e:=aCP (o':=o) (l:=unI l) h1 (by omega) (by omega) (by omega) h3
 rw [ava t1] at e
 have hlt:=amB xs p (unI l).length (by omega)
 have hm:(unI l).getD (abF xs p (unI l).length) 0 ∈ unI l:=by
  rw [List.getD_eq_getElem?_getD,List.getElem?_eq_getElem hlt]; exact List.getElem_mem hlt
 exact ⟨_,_,e,_,rfl,hm,o',xs,p+1,by rw [List.getElem?_set,if_pos rfl,if_pos (List.getElem?_eq_some_iff.1 h1).1],by omega,h3⟩
theorem aBp {xs:Bs}:Y9 (cv ab2 [.sl false (vB xs)] []) (fun v H'=>v = .ptr 0 0/\Rd 0 0 H') :=
 ⟨_,_,ave xs [],rfl,false,xs.take 2000,0,rfl,Nat.le_refl _,by simp; omega⟩
def TnT (n:Nat) (l:List Bs):Prop:=l.length<=n/\∀ s ∈ l,s.length<=200
def TnM (m:z7):Prop:=m.from_.length<=200/\TnT 100 m.to/\TnT 100 m.lines
def cO (m:z7):List V:=[.str m.from_,.sl true (vT m.to),.sl true (vT m.lines)]
theorem adq (m:z7):cO m=[.str m.from_,.sl true (vT m.to),.sl true (vT m.lines)]:=by exact id rfl
theorem TnT.add {n:Nat} {l:List Bs} {s:Bs} (h:TnT n l) (hs:s.length<=200):TnT (n+1) (l++[s]):=by
 refine ⟨by simp; exact h.1,fun t ht=>?_⟩
 rcases List.mem_append.1 ht with h1 | h1
 ·exact h.2 t h1
 ·simp at h1; subst h1; exact hs
theorem TnT.le {n m:Nat} {l:List Bs} (h:TnT n l) (hn:n<=m):TnT m l:=⟨by have:=h.1; omega,h.2⟩
theorem TnT.none (n:Nat):TnT n []:=⟨by simp,by simp⟩
theorem TnT.one {n:Nat} {s:Bs} (hn:1<=n) (hs:s.length<=200):TnT n [s]:=⟨by simpa using hn,by simpa using hs⟩
end Go.Proofs.YtaapfgpeeghmeaaGreatDoor.Q

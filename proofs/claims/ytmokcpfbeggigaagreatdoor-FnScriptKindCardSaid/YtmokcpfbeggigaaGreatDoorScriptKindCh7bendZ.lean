/- Contracts: texts that are drawn and bent; none holds a line's end. -/
import Derived.Test.YtmokcpfbeggigaaGreatDoorScriptKindCh6readlineZ
import Derived.Test.YtmokcpfbeggigaaGreatDoorFnScriptKindK4
namespace Go.Proofs.YtmokcpfbeggigaaGreatDoor.Q
open Go Go.AM
set_option linter.unusedSimpArgs false
set_option linter.unusedVariables false
set_option linter.unusedSectionVars false
def aym (l:List (List V)):Bool:=(unT l).all fun s => !(s.contains 10)
theorem axK {k b:Nat} {o:Bool} {l:List (List V)} {H:VH} (hR:Rd k b H) (hb:b<=900000000) (ht:okT l=true) (hn:aym l=true) :
 aa2 (cv C2 [.ptr k 0,.sl o l] H) (fun v H'=>∃ s:Bs,v = .str s/\(10:UInt8) ∉ s/\s.length<=200/\Rd k (b+1) H'):=by
 obtain ⟨v,H',e,s,h1,h2,h3,h4⟩:=aod (o:=o) hR hb ht
 refine ⟨v,H',e,s,h1,?_,h3,h4⟩
 have:=List.all_eq_true.1 hn s h2
 simpa using this
theorem auZ {k b:Nat} {o:Bool} {l:List (List V)} {H:VH} (hR:Rd k b H) (hb:b<=800000000) (ht:okT l=true) (hn:aym l=true) (s:Bs) (hs:(10:UInt8) ∉ s) (hl:s.length<=100000) :
 aa2 (cv ack [.ptr k 0,.str s,.sl o l] H) (fun v H'=>∃ t:Bs,v = .str t/\(10:UInt8) ∉ t/\t.length<=s.length+200/\Rd k (b+4) H'):=by
 have hS:m6 l=l:=by
  simp only [okT,Bool.and_eq_true,beq_iff_eq] at ht
  rw [<-anX ht.1.1.1,acz]
 refine aa2.of ?_
 rw [amM]
 by_cases h0:s.length=0
 ·simp only [b8,show ((s.length:Int)=0) from by omega]
  exact j2.here ⟨s,rfl,hs,by omega,hR.le (by omega)⟩
 ·simp only [b8,show ¬ ((s.length:Int)=0) from by omega]
  rw [Option.bind_assoc]
  refine (ali (n:=2) hR (by omega) (by omega) (by omega)).bind ?_
  rintro _ H1 ⟨i,rfl,hi,R1⟩
  by_cases hi0:(i:Int)=0
  ·simp only [b8,hi0]
   exact j2.here ⟨s,rfl,hs,by omega,R1.le (by omega)⟩
  ·simp only [b8,hi0]
   refine (ali (n:=s.length) R1 (by omega) (by omega) (by omega)).bind ?_
   rintro _ H2 ⟨j,rfl,hj,R2⟩
   have p1:=agA s .i64 j (by omega)
   simp only [b8,hS,p1]
   refine (axK R2 (by omega) ht hn).bind ?_
   rintro _ H3 ⟨t,rfl,ht10,htl,R3⟩
   have a1:=G3 .str (s.take j) t (by simp; omega)
   simp only [b8,a1]
   refine (ali (n:=2) R3 (by omega) (by omega) (by omega)).bind ?_
   rintro _ H4 ⟨p,rfl,hp,R4⟩
   have a2:=p6 (.int .i64) j p (by omega)
   have p2:=adC s .i64 (j+p) (by omega)
   have a3:=G3 .str (s.take j++t) (s.drop (j+p)) (by simp; omega)
   simp only [b8,a2,p2,a3]
   refine j2.here ⟨_,rfl,?_,by simp; omega,R4.le (by omega)⟩
   simp only [List.mem_append,not_or]
   exact ⟨⟨fun h=>hs (List.mem_of_mem_take h),ht10⟩,fun h=>hs (List.mem_of_mem_drop h)⟩
theorem awD {s:Bs} (h:(10:UInt8) ∉ s):(10:UInt8) ∉ aaG s:=by
 have he:∀ t:Bs,(10:UInt8) ∉ t->(10:UInt8) ∉ (t.map W0).flatten:=fun t ht hm=>by
  obtain ⟨x,hx,hm⟩:=List.mem_flatten.1 hm
  obtain ⟨b,hb,rfl⟩:=List.mem_map.1 hx
  unfold W0 at hm
  split at hm
  ·simp only [List.mem_cons,List.not_mem_nil,or_false] at hm
   rcases hm with hm | hm
   ·cases hm
   ·subst hm; exact ht hb
  ·simp only [List.mem_cons,List.not_mem_nil,or_false] at hm
   subst hm; exact ht hb
 unfold aaG
 split
 ·simp
 ·split
  ·exact h
  ·unfold afg
   simp only [List.mem_append,List.mem_singleton,not_or]
   exact ⟨⟨by decide,he s h⟩,by decide⟩
end Go.Proofs.YtmokcpfbeggigaaGreatDoor.Q

/- Contracts: texts that are drawn and bent; none holds a line's end. -/
import Derived.Test.YtpbgpeojlfdpoaaGreatDoorScriptAddressCh6readlineZ
import Derived.Test.YtpbgpeojlfdpoaaGreatDoorFnScriptAddressK4
namespace Go.Proofs.YtpbgpeojlfdpoaaGreatDoor.Q
open Go Go.AM
set_option linter.unusedSimpArgs false
set_option linter.unusedVariables false
set_option linter.unusedSectionVars false
def awe (l:List (List V)):Bool:=(unT l).all fun s => !(s.contains 10)
theorem ant {k b:Nat} {o:Bool} {l:List (List V)} {H:VH} (hR:Rd k b H) (hb:b<=900000000) (ht:okT l=true) (hn:awe l=true) :
 abn (cv D7 [.ptr k 0,.sl o l] H) (fun v H'=>∃ s:Bs,v = .str s/\(10:UInt8) ∉ s/\s.length<=200/\Rd k (b+1) H'):=by
 obtain ⟨v,H',e,s,h1,h2,h3,h4⟩:=aya (o:=o) hR hb ht
 refine ⟨v,H',e,s,h1,?_,h3,h4⟩
 have:=List.all_eq_true.1 hn s h2
 simpa using this
theorem ato {k b:Nat} {o:Bool} {l:List (List V)} {H:VH} (hR:Rd k b H) (hb:b<=800000000) (ht:okT l=true) (hn:awe l=true) (s:Bs) (hs:(10:UInt8) ∉ s) (hl:s.length<=100000) :
 abn (cv acB [.ptr k 0,.str s,.sl o l] H) (fun v H'=>∃ t:Bs,v = .str t/\(10:UInt8) ∉ t/\t.length<=s.length+200/\Rd k (b+4) H'):=by
 have hS:p5 l=l:=by
  simp only [okT,Bool.and_eq_true,beq_iff_eq] at ht
  rw [<-anF ht.1.1.1,O2]
 refine abn.of ?_
 rw [alE]
 by_cases h0:s.length=0
 ·simp only [b8,show ((s.length:Int)=0) from by omega]
  exact j9.here ⟨s,rfl,hs,by omega,hR.le (by omega)⟩
 ·simp only [b8,show ¬ ((s.length:Int)=0) from by omega]
  rw [Option.bind_assoc]
  refine (akk (n:=2) hR (by omega) (by omega) (by omega)).bind ?_
  rintro _ H1 ⟨i,rfl,hi,R1⟩
  by_cases hi0:(i:Int)=0
  ·simp only [b8,hi0]
   exact j9.here ⟨s,rfl,hs,by omega,R1.le (by omega)⟩
  ·simp only [b8,hi0]
   refine (akk (n:=s.length) R1 (by omega) (by omega) (by omega)).bind ?_
   rintro _ H2 ⟨j,rfl,hj,R2⟩
   have p1:=abO s .i64 j (by omega)
   simp only [b8,hS,p1]
   refine (ant R2 (by omega) ht hn).bind ?_
   rintro _ H3 ⟨t,rfl,ht10,htl,R3⟩
   have a1:=E4 .str (s.take j) t (by simp; omega)
   simp only [b8,a1]
   refine (akk (n:=2) R3 (by omega) (by omega) (by omega)).bind ?_
   rintro _ H4 ⟨p,rfl,hp,R4⟩
   have a2:=y1 (.int .i64) j p (by omega)
   have p2:=abk s .i64 (j+p) (by omega)
   have a3:=E4 .str (s.take j++t) (s.drop (j+p)) (by simp; omega)
   simp only [b8,a2,p2,a3]
   refine j9.here ⟨_,rfl,?_,by simp; omega,R4.le (by omega)⟩
   simp only [List.mem_append,not_or]
   exact ⟨⟨fun h=>hs (List.mem_of_mem_take h),ht10⟩,fun h=>hs (List.mem_of_mem_drop h)⟩
end Go.Proofs.YtpbgpeojlfdpoaaGreatDoor.Q

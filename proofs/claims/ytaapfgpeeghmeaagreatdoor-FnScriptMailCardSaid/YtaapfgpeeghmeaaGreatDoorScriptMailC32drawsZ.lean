/- Contracts: draws of mails, of which only the sizes are told. -/
import Derived.Test.YtaapfgpeeghmeaaGreatDoorScriptMailC30exactZ
import Derived.Test.YtaapfgpeeghmeaaGreatDoorFnScriptMailK4
namespace Go.Proofs.YtaapfgpeeghmeaaGreatDoor.Q
open Go Go.AM
set_option linter.unusedSimpArgs false
set_option linter.unusedVariables false
set_option linter.unusedSectionVars false
theorem ayp {k b n:Nat} {H:VH} (hR:Rd k b H) (hb:b<=900000000) (hn:1<=n) (hn2:n<=1000000):Y4 (cv N4 [.ptr k 0,.int .i64 (n:Int)] H) (fun v H'=>∃ i:Nat,v = .int .i64 (i:Nat)/\i<n/\Rd k (b+1) H'):=by
 obtain ⟨o,xs,p,h1,h2,h3⟩:=hR
 have e:=aun h1 hn (by omega) (by omega) h3
 exact ⟨_,_,e,_,rfl,ahv _ _ _ hn,o,xs,p+1,by rw [List.getElem?_set,if_pos rfl,if_pos (List.getElem?_eq_some_iff.1 h1).1],by omega,h3⟩
theorem as0 {k b:Nat} {o:Bool} {l:List (List V)} {H:VH} (hR:Rd k b H) (hb:b<=900000000) (ht:okT l=true):Y4 (cv N7 [.ptr k 0,.sl o l] H) (fun v H'=>∃ s,v = .str s/\s ∈ unT l/\s.length<=200/\Rd k (b+1) H'):=by
 obtain ⟨o',xs,p,h1,h2,h3⟩:=hR
 simp only [okT,Bool.and_eq_true,beq_iff_eq,decide_eq_true_eq,List.all_eq_true] at ht
 obtain ⟨⟨⟨t1,t2⟩,t3⟩,t4⟩:=ht
 have e:=aFA (o':=o) (l:=unT l) h1 (by omega) (by omega) (by omega) h3
 rw [ayd t1] at e
 have hlt:=ahv xs p (unT l).length (by omega)
 have hm:(unT l).getD (W4 xs p (unT l).length) [] ∈ unT l:=by
  rw [List.getD_eq_getElem?_getD,List.getElem?_eq_getElem hlt]; exact List.getElem_mem hlt
 exact ⟨_,_,e,_,rfl,hm,t2 _ hm,o',xs,p+1,by rw [List.getElem?_set,if_pos rfl,if_pos (List.getElem?_eq_some_iff.1 h1).1],by omega,h3⟩
theorem aEU {k b:Nat} {o:Bool} {l:List (List V)} {H:VH} (hR:Rd k b H) (hb:b<=900000000) (ht:okI l=true):Y4 (cv abv [.ptr k 0,.sl o l] H) (fun v H'=>∃ s,v = .int .i64 s/\s ∈ unI l/\Rd k (b+1) H'):=by
 obtain ⟨o',xs,p,h1,h2,h3⟩:=hR
 simp only [okI,Bool.and_eq_true,beq_iff_eq,decide_eq_true_eq] at ht
 obtain ⟨⟨t1,t3⟩,t4⟩:=ht
 have e:=aEZ (o':=o) (l:=unI l) h1 (by omega) (by omega) (by omega) h3
 rw [ayI t1] at e
 have hlt:=ahv xs p (unI l).length (by omega)
 have hm:(unI l).getD (W4 xs p (unI l).length) 0 ∈ unI l:=by
  rw [List.getD_eq_getElem?_getD,List.getElem?_eq_getElem hlt]; exact List.getElem_mem hlt
 exact ⟨_,_,e,_,rfl,hm,o',xs,p+1,by rw [List.getElem?_set,if_pos rfl,if_pos (List.getElem?_eq_some_iff.1 h1).1],by omega,h3⟩
theorem aDs {xs:Bs}:Y4 (cv acN [.sl false (vB xs)] []) (fun v H'=>v = .ptr 0 0/\Rd 0 0 H') :=
 ⟨_,_,axS xs [],rfl,false,xs.take 2000,0,rfl,Nat.le_refl _,by simp; omega⟩
def TnT (n:Nat) (l:List Bs):Prop:=l.length<=n/\∀ s ∈ l,s.length<=200
def TnM (m:l9):Prop:=m.from_.length<=200/\TnT 100 m.to/\TnT 100 m.lines
def cO (m:l9):List V:=[.str m.from_,.sl true (vT m.to),.sl true (vT m.lines)]
theorem X8 (m:l9):cO m=[.str m.from_,.sl true (vT m.to),.sl true (vT m.lines)]:=by exact id rfl
theorem TnT.add {n:Nat} {l:List Bs} {s:Bs} (h:TnT n l) (hs:s.length<=200):TnT (n+1) (l++[s]):=by
 refine ⟨by simp; exact h.1,fun t ht=>?_⟩
 rcases List.mem_append.1 ht with h1 | h1
 ·exact h.2 t h1
 ·simp at h1; subst h1; exact hs
theorem TnT.le {n m:Nat} {l:List Bs} (h:TnT n l) (hn:n<=m):TnT m l:=⟨by have:=h.1; omega,h.2⟩
theorem TnT.none (n:Nat):TnT n []:=⟨by simp,by simp⟩
theorem TnT.one {n:Nat} {s:Bs} (hn:1<=n) (hs:s.length<=200):TnT n [s]:=⟨by simpa using hn,by simpa using hs⟩
theorem TnT.sm {n:Nat} {l:List Bs} (h:TnT n l) (hn:n<=1000000):SmT l:=⟨by have:=h.1; omega,fun s hs=>by have:=h.2 s hs; omega⟩
theorem TnM.sm {m:l9} (h:TnM m):Z7 m:=⟨by have:=h.1; omega,h.2.1.sm (by omega),h.2.2.sm (by omega)⟩
theorem aw8 {n:Nat} {l:List Bs} (h:TnT n l) (hn:n<=1000000) (s:Bs):F8 false 1 16 (vT l) (.sl true [[.str s]])=some (.sl true (vT (l++[s]))):=by
 have:=aeZ 1 16 (vT l) true (vT [s]) (abc l) (abc [s]) (by rw [aaA,aaA]; have:=h.1; simp; omega)
 rw [alq] at this
 exact this
theorem aDN {n m:Nat} {l k:List Bs} {o:Bool} (h:TnT n l) (hk:TnT m k) (hn:n+m<=1000000):F8 false 1 16 (vT l) (.sl o (vT k))=some (.sl true (vT (l++k))):=by
 have:=aeZ 1 16 (vT l) o (vT k) (abc l) (abc k) (by rw [aaA,aaA]; have:=h.1; have:=hk.1; omega)
 rw [alq] at this
 exact this
theorem awP {k b:Nat} {H:VH} (hR:Rd k b H) (hb:b<=800000000):Y4 (cv acK [.ptr k 0] H) (fun v H'=>∃ m,v = .agg (cO m)/\TnM m/\m.lines.length<=10/\Rd k (b+20) H'):=by
 refine Y4.of ?_
 rw [akX]
 simp only [c9]
 refine (as0 hR (by omega) (by decide)).bind ?_
 rintro _ H1 ⟨f,rfl,-,hf,R1⟩
 simp only [c9]
 refine (as0 R1 (by omega) (by decide)).bind ?_
 rintro _ H2 ⟨t,rfl,-,ht,R2⟩
 simp only [c9]
 refine (ayp (n:=3) R2 (by omega) (by omega) (by omega)).bind ?_
 rintro _ H3 ⟨i,rfl,hi,R3⟩
 simp only [c9]
 refine j8.N1 (I:=fun n s H=>n<=3/\∃ to,s=[.ptr k 0,.int .i64 (n:Nat),.str [],.sl true [],.sl true [],.str f,.sl true (vT to),.sl true []]/\TnT (10-n) to/\Rd k (b+6-n) H)
  (P:=fun m vs H=>∃ to,m=0/\vs=[.ptr k 0,.str [],.sl true [],.sl true [],.str f,.sl true (vT to),.sl true []]/\TnT 10 to/\Rd k (b+6) H) (n:=i) ?_ ⟨by omega,[t],rfl,TnT.one (by omega) ht,R3.le (by omega)⟩ ?_
 ·rintro n s H ⟨hn,to,rfl,hto,R⟩
  rw [aiK]
  by_cases h:n=0
  ·subst h
   simp only [c9]
   refine ⟨_,rfl,.inl ⟨_,rfl,to,rfl,rfl,hto,R⟩⟩
  ·simp only [c9,show ((n:Nat):Int)>0 from by omega]
   refine (as0 R (by omega) (by decide)).bind ?_
   rintro _ H1 ⟨f,rfl,-,hf,R1⟩
   have a1:=aw8 hto (by omega) f
   have a2:b7 (.int .i64) .sub (.int .i64 (n:Int)) (.int .i64 1)=some (.int .i64 ((n-1:Nat):Int)):=ac7 _ n 1 (by omega) (by omega)
   simp only [c9,a1,a2]
   exact ⟨_,rfl,.inr ⟨rfl,n-1,by omega,by omega,_,rfl,(hto.add hf).le (by omega),R1.le (by omega)⟩⟩
 rintro _ _ H4 ⟨to,rfl,rfl,hto,R4⟩
 simp only [c9]
 refine (aEU R4 (by omega) (by decide)).bind ?_
 rintro _ H5 ⟨j,rfl,hj,R5⟩
 obtain ⟨j,rfl,hj⟩:∃ n:Nat,j=n/\n<=3:=by
  simp only [unI,List.mem_cons,List.not_mem_nil,or_false] at hj
  rcases hj with rfl | rfl | rfl | rfl
  ·exact ⟨2,rfl,by omega⟩
  ·exact ⟨3,rfl,by omega⟩
  ·exact ⟨1,rfl,by omega⟩
  ·exact ⟨0,rfl,by omega⟩
 simp only [c9]
 refine j8.N1 (I:=fun n s H=>n<=3/\∃ ls,s=[.ptr k 0,.int .i64 (n:Nat),.str [],.sl true [],.sl true [],.str f,.sl true (vT to),.sl true (vT ls)]/\TnT (10-n) ls/\Rd k (b+16-n) H)
  (P:=fun m vs H=>∃ ls,m=0/\vs=[.str [],.sl true [],.sl true [],.str f,.sl true (vT to),.sl true (vT ls)]/\TnT 10 ls/\Rd k (b+16) H) (n:=j) ?_ ⟨by omega,[],rfl,TnT.none _,R5.le (by omega)⟩ ?_
 ·rintro n s H ⟨hn,ls,rfl,hls,R⟩
  rw [aiH]
  by_cases h:n=0
  ·subst h
   simp only [c9]
   refine ⟨_,rfl,.inl ⟨_,rfl,ls,rfl,rfl,hls,R⟩⟩
  ·simp only [c9,show ((n:Nat):Int)>0 from by omega]
   refine (as0 R (by omega) (by decide)).bind ?_
   rintro _ H1 ⟨f,rfl,-,hf,R1⟩
   have a1:=aw8 hls (by omega) f
   have a2:b7 (.int .i64) .sub (.int .i64 (n:Int)) (.int .i64 1)=some (.int .i64 ((n-1:Nat):Int)):=ac7 _ n 1 (by omega) (by omega)
   simp only [c9,a1,a2]
   exact ⟨_,rfl,.inr ⟨rfl,n-1,by omega,by omega,_,rfl,(hls.add hf).le (by omega),R1.le (by omega)⟩⟩
 rintro _ _ H6 ⟨ls,rfl,rfl,hls,R6⟩
 simp only [c9]
 exact j8.here ⟨⟨f,to,ls⟩,rfl,⟨hf,hto.le (by omega),hls.le (by omega)⟩,hls.1,R6.le (by omega)⟩
theorem ayg (m:l9) (h:TnM m):pc afh [.agg (cM m)]=some (.agg (cO m)):=by
 have a1:F8 false 1 16 [] (.sl false (vT m.to))=some (.sl true (vT ([]++m.to))):=aDN (o:=false) (TnT.none 0) h.2.1 (by omega)
 have a2:F8 false 1 16 [] (.sl false (vT m.lines))=some (.sl true (vT ([]++m.lines))):=aDN (o:=false) (TnT.none 0) h.2.2 (by omega)
 rw [List.nil_append] at a1 a2
 refine Y9 (H:=[]) ?_ (by simp only [c9]) (by simp only [c9,X8])
 show cv _ _ _=_
 rw [apt]
 simp only [c9,a1,a2,X8]
theorem avb {k b:Nat} {H:VH} {m:l9} (hR:Rd k b H) (hb:b<=800000000) (hm:TnM m) (hl:m.lines.length<=99):Y4 (cv ab5 [.ptr k 0,.agg (cM m)] H) (fun v H'=>∃ m',v = .agg (cO m')/\TnM m'/\m'.lines.length<=m.lines.length+1/\Rd k (b+2) H'):=by
 have e1:=ayg m hm
 simp only [K4,X8] at e1
 refine Y4.of ?_
 rw [akc]
 simp only [c9,e1]
 refine (ayp (n:=20) hR (by omega) (by omega) (by omega)).bind ?_
 rintro _ H1 ⟨i,rfl,hi,R1⟩
 simp only [c9,decide_eq_true_eq]
 refine j8.ite (fun h=>?_) (fun h=>?_)
 ·refine (as0 R1 (by omega) (by decide)).bind ?_
  rintro _ H2 ⟨f,rfl,-,hf,R2⟩
  simp only [c9]
  exact j8.here ⟨⟨f,m.to,m.lines⟩,rfl,⟨hf,hm.2.1,hm.2.2⟩,by simp,R2.le (by omega)⟩
 ·refine j8.ite (fun h=>?_) (fun h=>?_)
  ·exact j8.here ⟨⟨m.from_,[],m.lines⟩,rfl,⟨hm.1,TnT.none _,hm.2.2⟩,by simp,R1.le (by omega)⟩
  ·refine j8.ite (fun h=>?_) (fun h=>?_)
   ·have a1:=aw8 hm.2.2 (by omega) [10]
    simp only [c9,a1]
    exact j8.here ⟨⟨m.from_,m.to,m.lines++[[10]]⟩,rfl,⟨hm.1,hm.2.1,⟨by simp; omega,fun s hs=>by rcases List.mem_append.1 hs with h | h; exact hm.2.2.2 s h; simp at h; subst h; simp⟩⟩,by simp,R1.le (by omega)⟩
   ·exact j8.here ⟨m,rfl,hm,by simp,R1.le (by omega)⟩
end Go.Proofs.YtaapfgpeeghmeaaGreatDoor.Q

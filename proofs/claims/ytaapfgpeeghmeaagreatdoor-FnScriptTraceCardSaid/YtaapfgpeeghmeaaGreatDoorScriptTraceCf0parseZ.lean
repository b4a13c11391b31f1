/- Contracts: digits, times and zones that are read. -/
import Derived.Test.YtaapfgpeeghmeaaGreatDoorScriptTraceCe0sayZ
import Derived.Test.YtaapfgpeeghmeaaGreatDoorFnScriptTraceK5
namespace Go.Proofs.YtaapfgpeeghmeaaGreatDoor.Q
open Go Go.AM
set_option linter.unusedSimpArgs false
set_option linter.unusedVariables false
set_option linter.unusedSectionVars false
def ac2 (s:Bs):Nat:=s.foldl (fun n b=>10*n+(b.toNat-48)) 0
theorem aqN (a:Bs) (b:UInt8):ac2 (a++[b])=10*ac2 a+(b.toNat-48):=by simp [ac2]
theorem an2:∀ (i:Nat) (s:Bs),(s.all fun b=>acY b.toNat)=true->ac2 (s.take i)<10 ^ i
 | 0,s,_=>by simp [ac2]
 | i+1,s,h=>by
   by_cases hi:i<s.length
   ·have ih:=an2 i s h
    rw [List.take_succ_eq_append_getElem hi,aqN]
    have hd:=List.all_eq_true.1 h _ (List.getElem_mem hi)
    simp only [acY,decide_eq_true_eq] at hd
    have:10 ^ (i+1)=10*10 ^ i:=by rw [Nat.pow_succ,Nat.mul_comm]
    omega
   ·rw [List.take_of_length_le (by omega)]
    have ih:=an2 i s h
    rw [List.take_of_length_le (by omega)] at ih
    have:10 ^ (i+1)=10*10 ^ i:=by rw [Nat.pow_succ,Nat.mul_comm]
    omega
theorem aAp (tk:TK) (a:Nat) (h1:48<=a) (h2:a<=255):b7 tk .sub (.int .u8 (a:Int)) (.int .u8 48)=some (.int .u8 ((a-48:Nat):Int)):=by
 have e:(a:Int)-48=((a-48:Nat):Int):=by omega
 have w:=IntWalk.u8_in ((a-48:Nat):Int) ⟨by omega,by omega⟩
 simp [b7,Z8,S3,V3,ofA,e,w]
theorem adD (s:Bs) (lo hi:Int) (hs:s.length<=6) (hd:(s.all fun b=>acY b.toNat)=true) (h1:lo<=s.length) (h2:(s.length:Int)<=hi) :
 qc Q6 [.str s,.int .i64 lo,.int .i64 hi]=some (.A4 [.int .i64 (ac2 s:Nat),.bool true]):=by
 suffices h:l7 (cv Q6 [.str s,.int .i64 lo,.int .i64 hi] []) fun r=>r.1 = .A4 [.int .i64 (ac2 s:Nat),.bool true] by
  obtain ⟨⟨v,H⟩,e,h⟩:=h
  have h:v=_:=h
  subst h
  exact B7 e (by simp only [j3]) (by simp only [j3])
 have e1:=aaD (s.length:Int) lo hi
 rw [decide_eq_true ⟨h1,h2⟩] at e1
 have e2:=ait R8 acY (fun c=>akt c) s (by omega)
 rw [hd] at e2
 rw [aoO]
 simp only [j3,e1,e2]
 refine l7.Y5 (I:=fun n st H=>∃ i:Nat,n=s.length-i/\i<=s.length/\st=[.str s,.int .i64 (ac2 (s.take i):Nat),.int .i64 (s.length:Nat),.int .i64 (i:Nat)])
  (P:=fun q vs H=>q=0/\vs=[.int .i64 (ac2 s:Nat)]) (n:=s.length) ?_ ⟨0,by omega,by omega,rfl⟩ ?_
 ·rintro n st H ⟨i,rfl,hi',rfl⟩
  rw [ak9]
  by_cases hlt:i<s.length
  ·have hb:=an2 i s hd
   have hp:10 ^ i<=10 ^ 6:=Nat.pow_le_pow_right (by omega) (by omega)
   have hdi:=List.all_eq_true.1 hd _ (List.getElem_mem hlt)
   simp only [acY,decide_eq_true_eq] at hdi
   have m1:b7 (.int .i64) .mul (.int .i64 10) (.int .i64 (ac2 (s.take i):Nat))=some (.int .i64 ((10*ac2 (s.take i):Nat):Int)):=afa _ 10 _ (by omega)
   have i1:=aiK s .i64 i hlt
   have s1:=aAp (.int .u8) s[i].toNat (by omega) (by omega)
   have c1:=aku (s[i].toNat-48) (by omega)
   have a1:b7 (.int .i64) .add (.int .i64 ((10*ac2 (s.take i):Nat):Int)) (.int .i64 ((s[i].toNat-48:Nat):Int))=some (.int .i64 ((10*ac2 (s.take i)+(s[i].toNat-48):Nat):Int)):=C6 _ _ _ (by omega)
   have a2:b7 (.int .i64) .add (.int .i64 (i:Nat)) (.int .i64 1)=some (.int .i64 ((i+1:Nat):Int)):=C6 _ i 1 (by omega)
   simp only [j3,m1,i1,s1,c1,a1,a2,show ((i:Nat):Int)<(s.length:Int) from by omega]
   exact l7.here (.inr ⟨rfl,s.length-(i+1),by omega,i+1,rfl,by omega,by rw [List.take_succ_eq_append_getElem hlt,aqN]⟩)
  ·have:i=s.length:=by omega
   subst this
   simp only [j3,List.take_length,show ¬ ((s.length:Nat):Int)<(s.length:Int) from by omega]
   exact l7.here (.inl ⟨0,rfl,rfl,rfl⟩)
 rintro _ _ H ⟨rfl,rfl⟩
 simp only [j3]
 exact l7.here rfl
theorem aBz:∀ n:Nat,n<32->1<=n->(decide (1<=(l5 n 1).length/\(l5 n 1).length<=2)&&((l5 n 1).all fun b=>acY b.toNat)&&decide (ac2 (l5 n 1)=n))=true:=by decide +kernel
theorem adu:∀ n:Nat,n<100->(decide ((l5 n 2).length=2)&&((l5 n 2).all fun b=>acY b.toNat)&&decide (ac2 (l5 n 2)=n))=true:=by decide +kernel
theorem aAU:∀ k:Nat,k<130->(decide ((l5 (1970+k) 4).length=4)&&((l5 (1970+k) 4).all fun b=>acY b.toNat)&&decide (ac2 (l5 (1970+k) 4)=1970+k))=true:=by decide +kernel
theorem auZ {s:Bs} (h:s.length=2):∃ a b,s=[a,b]:=by
 match s,h with
 | [a,b],_=>exact ⟨a,b,rfl⟩
def W8 (z:Int):Bs:=(if z<0 then 45 else 43)::(l5 (z.natAbs / 60) 2++l5 (z.natAbs % 60) 2)
theorem asq (z:Int) (h1 : -720<=z) (h2:z<=840):qc ac6 [.str (W8 z)]=some (.A4 [.int .i64 z,.bool true]):=by
 have d1:=adu (z.natAbs / 60) (by omega)
 have d2:=adu (z.natAbs % 60) (by omega)
 simp only [Bool.and_eq_true,decide_eq_true_eq] at d1 d2
 obtain ⟨⟨l1,a1⟩,v1⟩:=d1
 obtain ⟨⟨l2,a2⟩,v2⟩:=d2
 obtain ⟨x,y,e1⟩:=auZ l1
 obtain ⟨u,v,e2⟩:=auZ l2
 have g1:=adD (l5 (z.natAbs / 60) 2) 2 2 (by omega) a1 (by omega) (by omega)
 have g2:=adD (l5 (z.natAbs % 60) 2) 2 2 (by omega) a2 (by omega) (by omega)
 rw [v1] at g1
 rw [v2] at g2
 unfold W8
 rw [e1] at g1 ⊢
 rw [e2] at g2 ⊢
 have m1:b7 (.int .i64) .mul (.int .i64 60) (.int .i64 ((z.natAbs / 60:Nat):Int))=some (.int .i64 ((60*(z.natAbs / 60):Nat):Int)):=afa _ 60 _ (by omega)
 have m2:b7 (.int .i64) .add (.int .i64 ((60*(z.natAbs / 60):Nat):Int)) (.int .i64 ((z.natAbs % 60:Nat):Int))=some (.int .i64 ((z.natAbs:Nat):Int)):=by
  rw [C6 _ _ _ (by omega)]
  congr 3; omega
 have m3:=atK (a:=((z.natAbs:Nat):Int)) (by omega) (by omega)
 have hle:((z.natAbs % 60:Nat):Int)<=59:=by omega
 refine B7 (H:=[]) ?_ (by simp only [j3]) (by simp only [j3])
 show cv _ _ _=_
 rw [alc]
 by_cases hz:z<0
 ·have i0:H8 (.str [45,x,y,u,v]) (.int .i64 0)=some (.int .u8 45):=rfl
  have s1:H5 (.str [45,x,y,u,v]) (some (.int .i64 1)) (some (.int .i64 3))=some (.str [x,y]):=rfl
  have s2:H5 (.str [45,x,y,u,v]) (some (.int .i64 3)) none=some (.str [u,v]):=rfl
  rw [if_pos hz]
  simp only [List.cons_append,List.nil_append]
  have hn : -((z.natAbs:Nat):Int)=z:=by omega
  rw [hn] at m3
  have n1:¬ (([45,x,y,u,v]:Bs)=[71,77,84]):=by simp
  have n0:((([45,x,y,u,v]:Bs).length:Nat):Int)=5:=rfl
  have n2:¬ (([45,x,y,u,v]:Bs)=[85,84]):=by simp
  have n3:¬ ((45:Int)=43):=by decide
  simp only [j3,i0,s1,s2,g1,g2,m1,m2,m3,hle,n0,n1,n2,n3]
 ·have i0:H8 (.str [43,x,y,u,v]) (.int .i64 0)=some (.int .u8 43):=rfl
  have s1:H5 (.str [43,x,y,u,v]) (some (.int .i64 1)) (some (.int .i64 3))=some (.str [x,y]):=rfl
  have s2:H5 (.str [43,x,y,u,v]) (some (.int .i64 3)) none=some (.str [u,v]):=rfl
  rw [if_neg hz]
  simp only [List.cons_append,List.nil_append]
  have hn:((z.natAbs:Nat):Int)=z:=by omega
  have n1:¬ (([43,x,y,u,v]:Bs)=[71,77,84]):=by simp
  have n0:((([43,x,y,u,v]:Bs).length:Nat):Int)=5:=rfl
  have n2:¬ (([43,x,y,u,v]:Bs)=[85,84]):=by simp
  have n3:¬ ((43:Int)=45):=by decide
  simp only [j3,i0,s1,s2,g1,g2,m1,m2,hle,n0,n1,n2,n3]
  rw [hn]
end Go.Proofs.YtaapfgpeeghmeaaGreatDoor.Q

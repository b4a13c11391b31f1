/- Contracts: addresses, as the specification reads and writes them. -/
import Derived.Test.YtmokcpfbeggigaaGreatDoorScriptNameCh2addressZ
namespace Go.Proofs.YtmokcpfbeggigaaGreatDoor.Q
open Go Go.AM
set_option linter.unusedSimpArgs false
set_option linter.unusedVariables false
set_option linter.unusedSectionVars false
theorem arF (s:Bs) (hs:s.length<=1000000000):qc Z0 [.str s]=some (.str (agW s)):=by
 suffices h:k9 (cv Z0 [.str s] []) fun r=>r.1 = .str (agW s) by
  obtain ⟨⟨v,H⟩,e,h⟩:=h
  have h:v=_:=h
  subst h
  exact y5 e (by simp only [j0]) rfl
 rw [aj9]
 refine k9.P6 (I:=fun n st H=>∃ t:Bs,n=t.length/\t.length<=s.length/\st=[.str t]/\S4 32 t=S4 32 s)
  (P:=fun q vs H=>q=0/\vs=[.str (S4 32 s)]) (n:=s.length) ?_ ⟨s,rfl,by omega,rfl,rfl⟩ ?_
 ·rintro n st H ⟨t,rfl,ht,rfl,inv⟩
  rw [ahf]
  cases t with
  | nil =>
    simp only [j0,List.length_nil,show ¬ (((0:Nat):Int)>0) from by omega]
    exact ⟨_,rfl,.inl ⟨0,rfl,rfl,by rw [<-inv]; rfl⟩⟩
  | cons b l =>
    have i1:p9 (.str (b::l)) (.int .i64 0)=some (.int .u8 (b.toNat:Int)):=R5 (b::l) .i64 0 (by simp)
    have p1:w8 (.str (b::l)) (some (.int .i64 1)) none=some (.str l):=agH (b::l) .i64 1 (by simp)
    simp only [List.length_cons] at ht
    by_cases hb:b=32
    ·subst hb
     simp only [j0,List.length_cons,i1,p1,show (((32:UInt8).toNat:Int)=32) from rfl,show (((l.length+1:Nat):Int)>0) from by omega]
     exact ⟨_,rfl,.inr ⟨rfl,l.length,by simp,l,rfl,by omega,rfl,by rw [<-inv]; simp [S4]⟩⟩
    ·have hk:¬ ((b.toNat:Int)=32):=fun e=>hb (UInt8.toNat_inj.1 (by simpa using Int.ofNat.inj e))
     simp only [j0,List.length_cons,i1,hk,show (((l.length+1:Nat):Int)>0) from by omega]
     exact ⟨_,rfl,.inl ⟨0,rfl,rfl,by rw [<-inv]; simp [S4,hb]⟩⟩
 rintro _ _ H ⟨rfl,rfl⟩
 simp only [j0]
 have hl:=an1 32 s
 refine k9.P6 (I:=fun n st H=>∃ t:Bs,n=t.length/\t.length<=s.length/\st=[.str t]/\Q9 32 t=Q9 32 (S4 32 s))
  (P:=fun q vs H=>q=0/\vs=[.str (Q9 32 (S4 32 s))]) (n:=(S4 32 s).length) ?_ ⟨S4 32 s,rfl,by omega,rfl,rfl⟩ ?_
 ·rintro n st H ⟨t,rfl,ht,rfl,inv⟩
  rw [ahb]
  rcases List.eq_nil_or_concat t with rfl | ⟨l,b,rfl⟩
  ·simp only [j0,List.length_nil,show ¬ (((0:Nat):Int)>0) from by omega]
   exact ⟨_,rfl,.inl ⟨0,rfl,rfl,by rw [<-inv]; rfl⟩⟩
  ·have hlen:(l.concat b).length=l.length+1:=by simp
   rw [hlen] at ht
   simp only [List.concat_eq_append] at hlen inv ⊢
   have a1:a8 (.int .i64) .sub (.int .i64 ((l.length+1:Nat):Int)) (.int .i64 1)=some (.int .i64 ((l.length:Nat):Int)):=af2 _ (l.length+1) 1 (by omega) (by omega)
   have i1:=R5 (l++[b]) .i64 l.length (by simp)
   rw [List.getElem_concat_length (by rfl)] at i1
   have p1:=agP (l++[b]) .i64 l.length (by simp)
   rw [List.take_left] at p1
   by_cases hb:b=32
   ·subst hb
    simp only [j0,hlen,a1,i1,p1,show (((32:UInt8).toNat:Int)=32) from rfl,show (((l.length+1:Nat):Int)>0) from by omega]
    exact ⟨_,rfl,.inr ⟨rfl,l.length,by omega,l,rfl,by omega,rfl,by rw [<-inv,als]⟩⟩
   ·have hk:¬ ((b.toNat:Int)=32):=fun e=>hb (UInt8.toNat_inj.1 (by simpa using Int.ofNat.inj e))
    simp only [j0,hlen,a1,i1,hk,show (((l.length+1:Nat):Int)>0) from by omega]
    exact ⟨_,rfl,.inl ⟨0,rfl,rfl,by rw [<-inv,amH hb]⟩⟩
 rintro _ _ H ⟨rfl,rfl⟩
 simp only [j0]
 exact k9.here (by rw [<-anw]; rfl)
end Go.Proofs.YtmokcpfbeggigaaGreatDoor.Q

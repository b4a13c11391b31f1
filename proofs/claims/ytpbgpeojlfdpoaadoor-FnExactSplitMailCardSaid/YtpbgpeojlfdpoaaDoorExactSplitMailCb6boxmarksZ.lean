/- Contracts: marks that are held, on lists of mails and of mailboxes. -/
import Derived.Test.YtpbgpeojlfdpoaaDoorExactSplitMailCb5rowmarksZ
import Derived.Test.YtpbgpeojlfdpoaaDoorFnExactSplitMailK4
namespace Go.Proofs.YtpbgpeojlfdpoaaDoor.Q
open Go Go.AM
set_option linter.unusedSimpArgs false
set_option linter.unusedVariables false
set_option linter.unusedSectionVars false
theorem ats (k:Nat) (l1 l2:List j0) (m:j0):(T7 k (l1++m::l2))[l1.length]? = some (mk1 (k+y6 l1) m):=by
 rw [aiD,List.getElem?_append_right (by rw [abM]; exact Nat.le_refl _),abM,Nat.sub_self]
 rfl
theorem aoE (k:Nat) (l:List j0) (hk:k+y6 l<=9000000000000000000):qc L1 [.sl false (vR eM (T7 k l)),.int .i64 (k:Nat)]=some (.int .i64 ((k+y6 l:Nat):Int)):=by
 suffices hg:o9 (cv L1 [.sl false (vR eM (T7 k l)),.int .i64 (k:Nat)] []) fun r=>r.1 = .int .i64 ((k+y6 l:Nat):Int) by
  obtain ⟨⟨v,H⟩,e,h⟩:=hg
  cases h
  exact s7 e (by simp only [b9]) rfl
 have hl:=abM k l
 rw [ah7]
 refine o9.P8 (I:=fun n st G=>∃ l1 l2:List j0,n=l2.length/\l=l1++l2/\st=[.sl false (vR eM (T7 k l)),.int .i64 ((k+y6 l1:Nat):Int),.int .i64 (l1.length:Nat)])
  (P:=fun q vs G=>q=0/\vs=[.int .i64 ((k+y6 l:Nat):Int)]) (n:=l.length) ?_ ⟨[],l,rfl,rfl,rfl⟩ ?_
 ·rintro n st G ⟨l1,l2,rfl,rfl,rfl⟩
  rw [agr]
  cases l2 with
  | nil =>
    simp only [List.append_nil] at hl ⊢
    simp only [b9,ag6,hl,show ¬ ((l1.length:Int)<(l1.length:Int)) from by omega]
    exact ⟨_,rfl,.inl ⟨0,rfl,rfl,rfl⟩⟩
  | cons m l2 =>
    have hlt:l1.length<(T7 k (l1++m::l2)).length:=by rw [hl]; simp
    have i1:=ahe false (T7 k (l1++m::l2)) .i64 l1.length hlt
    have hg:=ats k l1 l2 m
    rw [List.getElem?_eq_getElem hlt] at hg
    rw [Option.some.inj hg] at i1
    have hem:∀ x,eM.e x=cM x:=fun _=>rfl
    rw [hem,N5] at i1
    have hsz:y6 (l1++m::l2)=y6 l1+(1+m.to.length+m.lines.length)+y6 l2:=by rw [aeo]; simp only [y6,sz1]; omega
    have hge:=akZ l1
    have m1:=ad3 (k+y6 l1) (by omega)
    have e1:a8 (.int .i64) .add (.int .i64 ((k+y6 l1:Nat):Int)) (.int .i64 1)=some (.int .i64 ((k+y6 l1+1:Nat):Int)):=s9 _ _ 1 (by omega)
    have e2:a8 (.int .i64) .add (.int .i64 (l1.length:Nat)) (.int .i64 1)=some (.int .i64 ((l1.length+1:Nat):Int)):=s9 _ _ 1 (by omega)
    have h1:=agu (k+y6 l1+1) m.to.length (by omega)
    have h2:=agu (k+y6 l1+1+m.to.length) m.lines.length (by omega)
    have hnew:k+y6 l1+1+m.to.length+m.lines.length=k+y6 (l1++[m]):=by rw [aeo]; simp only [y6,sz1]; omega
    have hl':((T7 k (l1++m::l2)).length:Int)=((l1.length+1+l2.length:Nat):Int):=by rw [hl]; simp; omega
    simp only [mk1] at i1
    generalize hnum:k+y6 l1=num at *
    generalize T7 k (l1++m::l2)=Z at *
    simp only [b9,ag6,hl',i1,m1,e1,e2,h1,h2,C2,show ((l1.length:Int)<((l1.length+1+l2.length:Nat):Int)) from by omega,show ¬ (((num+1+m.to.length:Nat):Int)<0) from by omega,show ¬ (((num+1+m.to.length+m.lines.length:Nat):Int)<0) from by omega]
    exact ⟨_,rfl,.inr ⟨rfl,l2.length,by simp,l1++[m],l2,rfl,by simp,by rw [<-hnew]; simp⟩⟩
 ·rintro _ _ G ⟨rfl,rfl⟩
  simp only [b9]
  exact o9.here rfl
end Go.Proofs.YtpbgpeojlfdpoaaDoor.Q

/- Contracts: drawing. -/
import Derived.Test.YtmokcpfbeggigaaGreatDoorScriptListRunsZ
import Derived.Test.YtmokcpfbeggigaaGreatDoorFnScriptListK4
namespace Go.Proofs.YtmokcpfbeggigaaGreatDoor.Q
open Go Go.AM
set_option linter.unusedSimpArgs false
set_option linter.unusedVariables false
set_option linter.unusedSectionVars false
theorem asq (xs:List UInt8) (H:VH):cv aaA [.sl false (vB xs)] H=some (.ptr H.length 0,H++[rdr false (xs.take 2000) 0]):=by
 rw [akE]
 by_cases h:xs.length>2000
 ·have h1:V6 1 (.sl false (vB xs)) none (some (.int .i64 2000))=some (.sl false (o9 ((vB xs).take 2000))):=ayK 1 false (vB xs) .i64 2000 (acj xs) (by rw [abA]; omega)
  rw [aww,agC] at h1
  simp only [b8,decide_true,h1,show ((xs.length:Int)>2000) from by omega]
  rfl
 ·have h2:xs.take 2000=xs:=List.take_of_length_le (by omega)
  simp only [b8,show ¬ ((xs.length:Int)>2000) from by omega,decide_false]
  simp only [b8,Bool.false_eq_true,if_false,h2]
  rfl
theorem aoK {H:VH} {k p n:Nat} {o:Bool} {xs:List UInt8} (h:H[k]? = some (rdr o xs p)) (hn:1<=n) (hn2:n<=1000000000) (hp:p<=1000000000) (hx:xs.length<=2000) :
 cv I3 [.ptr k 0,.int .i64 (n:Int)] H=some (.int .i64 (O9 xs p n:Nat),H.set k (rdr o xs (p+1))):=by
 have hk:k<H.length:=(List.getElem?_eq_some_iff.1 h).1
 have l1:G7 C4 false false 1 (.ptr k 1) H=some (.int .i64 (p:Int),H):=aiP h rfl rfl
 have hst:stO (.ptr k 1) [.int .i64 ((p:Int)+1)] H=some (H.set k (rdr o xs (p+1))):=by
  rw [ap5 h (by simp [rdr])]; simp [rdr]
 generalize hH:H.set k (rdr o xs (p+1))=H2 at *
 have h2:H2[k]? = some (rdr o xs (p+1)):=by rw [<-hH,List.getElem?_set]; simp [hk]
 have m0:G7 C4 false false 1 (.ptr k 0) H2=some (.sl false (vB xs),H2):=aiP h2 rfl (by simp only [strip,agC])
 have m1:G7 C4 false false 1 (.ptr k 1) H2=some (.int .i64 ((p:Int)+1),H2):=aiP h2 rfl (by simp [strip])
 have hadd:=afl (.int .i64) (p:Int) 1 (by omega) (by omega)
 have hsub:a8 (.int .i64) .sub (.int .i64 ((p:Int)+1)) (.int .i64 1)=some (.int .i64 (p:Int)):=by
  rw [alK _ _ _ (by omega) (by omega)]; congr 2; omega
 rw [ahS]
 by_cases h0:xs.length=0
 ·have:O9 xs p n=0:=by simp [O9,h0]
  simp only [b8,l1,hadd,hst,m0,h0,show ¬ ((n:Int)<1) from by omega,Int.ofNat_zero,this]
 ·by_cases hlt:p<xs.length
  ·have hidx:=aob false xs .i64 p hlt
   have hpn:O9 xs p n=(xs[p]).toNat % n:=by
    unfold O9
    rw [if_neg h0,if_pos hlt,List.getD_eq_getElem?_getD,List.getElem?_eq_getElem hlt]; rfl
   simp only [b8,l1,hadd,hst,m0,m1,hsub,show ¬ ((n:Int)<1) from by omega,show ¬ ((xs.length:Int)=0) from by omega,decide_false,Bool.false_eq_true,if_false,
    show ((p:Int)<(xs.length:Int)) from by omega,hidx,amv _ (show (xs[p]).toNat<=255 from by have:=(xs[p]).toNat_lt; omega),akv _ _ _ _ (show (n:Int) ≠ 0 from by omega),apl,hpn]
  ·have hm:0<xs.length:=by omega
   have hA:=Nat.mod_lt p hm
   have hB:=Nat.mod_lt (p*7+3) hm
   have ga:xs.getD (p % xs.length) 0=xs[p % xs.length]:=by rw [List.getD_eq_getElem?_getD,List.getElem?_eq_getElem hA]; rfl
   have gb:xs.getD ((p*7+3) % xs.length) 0=xs[(p*7+3) % xs.length]:=by rw [List.getD_eq_getElem?_getD,List.getElem?_eq_getElem hB]; rfl
   have la:(xs[p % xs.length]).toNat<=255:=by have:=(xs[p % xs.length]).toNat_lt; omega
   have lb:(xs[(p*7+3) % xs.length]).toNat<=255:=by have:=(xs[(p*7+3) % xs.length]).toNat_lt; omega
   have iA:=aob false xs .i64 (p % xs.length) hA
   have iB:=aob false xs .i64 ((p*7+3) % xs.length) hB
   have hq:p / xs.length<=p:=Nat.div_le_self _ _
   have hpn:O9 xs p n=(((xs[p % xs.length]).toNat*131+(xs[(p*7+3) % xs.length]).toNat*1117+p*29+p / xs.length*53) ^^^ ((xs[p % xs.length]).toNat*131+(xs[(p*7+3) % xs.length]).toNat*1117+p*29+p / xs.length*53) / 64) % n:=by
    unfold O9
    rw [if_neg h0,if_neg hlt,ga,gb]
   generalize (xs[p % xs.length]).toNat=a at *
   generalize (xs[(p*7+3) % xs.length]).toNat=b at *
   have s1:=aga (.int .i64) p xs.length hm
   have s2:a8 (.int .i64) .mul (.int .i64 (a:Int)) (.int .i64 131)=some (.int .i64 ((a*131:Nat):Int)):=af5 _ a 131 (by omega)
   have s3:a8 (.int .i64) .mul (.int .i64 (p:Int)) (.int .i64 7)=some (.int .i64 ((p*7:Nat):Int)):=af5 _ p 7 (by omega)
   have s4:a8 (.int .i64) .add (.int .i64 ((p*7:Nat):Int)) (.int .i64 3)=some (.int .i64 ((p*7+3:Nat):Int)):=y4 _ (p*7) 3 (by omega)
   have s5:=aga (.int .i64) (p*7+3) xs.length hm
   have s6:a8 (.int .i64) .mul (.int .i64 (b:Int)) (.int .i64 1117)=some (.int .i64 ((b*1117:Nat):Int)):=af5 _ b 1117 (by omega)
   have s7:=y4 (.int .i64) (a*131) (b*1117) (by omega)
   have s8:a8 (.int .i64) .mul (.int .i64 (p:Int)) (.int .i64 29)=some (.int .i64 ((p*29:Nat):Int)):=af5 _ p 29 (by omega)
   have s9:=y4 (.int .i64) (a*131+b*1117) (p*29) (by omega)
   have s10:=aii (.int .i64) p xs.length hm (by omega)
   have s11:a8 (.int .i64) .mul (.int .i64 ((p / xs.length:Nat):Int)) (.int .i64 53)=some (.int .i64 ((p / xs.length*53:Nat):Int)):=af5 _ (p / xs.length) 53 (by omega)
   have s12:=y4 (.int .i64) (a*131+b*1117+p*29) (p / xs.length*53) (by omega)
   have s13:a8 (.int .i64) .quo (.int .i64 ((a*131+b*1117+p*29+p / xs.length*53:Nat):Int)) (.int .i64 64)=some (.int .i64 (((a*131+b*1117+p*29+p / xs.length*53) / 64:Nat):Int)):=aii _ _ 64 (by omega) (by omega)
   have hdl:(a*131+b*1117+p*29+p / xs.length*53) / 64<=a*131+b*1117+p*29+p / xs.length*53:=Nat.div_le_self _ _
   obtain ⟨s14,_⟩:=ayV (.int .i64) (a*131+b*1117+p*29+p / xs.length*53) ((a*131+b*1117+p*29+p / xs.length*53) / 64) (by omega) (by omega)
   have s15:=aga (.int .i64) ((a*131+b*1117+p*29+p / xs.length*53) ^^^ (a*131+b*1117+p*29+p / xs.length*53) / 64) n hn
   simp only [b8,l1,hadd,hst,m0,m1,hsub,show ¬ ((n:Int)<1) from by omega,show ¬ ((xs.length:Int)=0) from by omega,
    show ¬ ((p:Int)<(xs.length:Int)) from by omega,s1,iA,amv a la,s2,s3,s4,s5,iB,amv b lb,s6,s7,s8,s9,s10,s11,s12,s13,s14,s15,hpn]
theorem ayU {H:VH} {k p:Nat} {o o':Bool} {xs:List UInt8} {l:List Int} (h:H[k]? = some (rdr o xs p)) (hl:1<=l.length) (hl2:l.length<=1000000) (hp:p<=1000000000) (hx:xs.length<=2000) :
 cv W4 [.ptr k 0,.sl o' (vI .i64 l)] H=some (.int .i64 (l.getD (O9 xs p l.length) 0),H.set k (rdr o xs (p+1))):=by
 have hp:=aoK h hl (by omega) hp hx
 have hlt:=aeN xs p l.length hl
 have hi:=as9 o' .i64 l .i64 (O9 xs p l.length) hlt
 have hi2:=as9 false .i64 l .i64 (O9 xs p l.length) hlt
 have hg:l.getD (O9 xs p l.length) 0=l[O9 xs p l.length]:=by rw [List.getD_eq_getElem?_getD,List.getElem?_eq_getElem hlt]; rfl
 rw [aja]
 simp only [b8,hp,hi,hi2,hg]
theorem azg {H:VH} {k p:Nat} {o o':Bool} {xs:List UInt8} {l:List Bs} (h:H[k]? = some (rdr o xs p)) (hl:1<=l.length) (hl2:l.length<=1000000) (hp:p<=1000000000) (hx:xs.length<=2000) :
 cv E9 [.ptr k 0,.sl o' (vT l)] H=some (.str (l.getD (O9 xs p l.length) []),H.set k (rdr o xs (p+1))):=by
 have hp:=aoK h hl (by omega) hp hx
 have hlt:=aeN xs p l.length hl
 have hi:=aeA o' l .i64 (O9 xs p l.length) hlt
 have hi2:=aeA false l .i64 (O9 xs p l.length) hlt
 have hg:l.getD (O9 xs p l.length) []=l[O9 xs p l.length]:=by rw [List.getD_eq_getElem?_getD,List.getElem?_eq_getElem hlt]; rfl
 rw [aj8]
 simp only [b8,hp,hi,hi2,hg]
end Go.Proofs.YtmokcpfbeggigaaGreatDoor.Q

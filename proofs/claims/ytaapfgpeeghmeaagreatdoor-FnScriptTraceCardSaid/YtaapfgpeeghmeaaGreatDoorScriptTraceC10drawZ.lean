/- Contracts: drawing. -/
import Derived.Test.YtaapfgpeeghmeaaGreatDoorScriptTraceRunsZ
import Derived.Test.YtaapfgpeeghmeaaGreatDoorFnScriptTraceK4
namespace Go.Proofs.YtaapfgpeeghmeaaGreatDoor.Q
open Go Go.AM
set_option linter.unusedSimpArgs false
set_option linter.unusedVariables false
set_option linter.unusedSectionVars false
theorem ave (xs:List UInt8) (H:VH):cv ab2 [.sl false (vB xs)] H=some (.ptr H.length 0,H++[rdr false (xs.take 2000) 0]):=by
 rw [am4]
 by_cases h:xs.length>2000
 ·have h1:aaU 1 (.sl false (vB xs)) none (some (.int .i64 2000))=some (.sl false (n9 ((vB xs).take 2000))):=aCM 1 false (vB xs) .i64 2000 (ar1 xs) (by rw [anM]; omega)
  rw [azQ,aiX] at h1
  simp only [j3,decide_true,h1,show ((xs.length:Int)>2000) from by omega]
  rfl
 ·have h2:xs.take 2000=xs:=List.take_of_length_le (by omega)
  simp only [j3,show ¬ ((xs.length:Int)>2000) from by omega,decide_false]
  simp only [j3,Bool.false_eq_true,if_false,h2]
  rfl
theorem avP {H:VH} {k p n:Nat} {o:Bool} {xs:List UInt8} (h:H[k]? = some (rdr o xs p)) (hn:1<=n) (hn2:n<=1000000000) (hp:p<=1000000000) (hx:xs.length<=2000) :
 cv Q4 [.ptr k 0,.int .i64 (n:Int)] H=some (.int .i64 (abF xs p n:Nat),H.set k (rdr o xs (p+1))):=by
 have hk:k<H.length:=(List.getElem?_eq_some_iff.1 h).1
 have l1:B2 o6 false false 1 (.ptr k 1) H=some (.int .i64 (p:Int),H):=ahH h rfl rfl
 have hst:K8 (.ptr k 1) [.int .i64 ((p:Int)+1)] H=some (H.set k (rdr o xs (p+1))):=by
  rw [akN h (by simp [rdr])]; simp [rdr]
 generalize hH:H.set k (rdr o xs (p+1))=H2 at *
 have h2:H2[k]? = some (rdr o xs (p+1)):=by rw [<-hH,List.getElem?_set]; simp [hk]
 have m0:B2 o6 false false 1 (.ptr k 0) H2=some (.sl false (vB xs),H2):=ahH h2 rfl (by simp only [strip,aiX])
 have m1:B2 o6 false false 1 (.ptr k 1) H2=some (.int .i64 ((p:Int)+1),H2):=ahH h2 rfl (by simp [strip])
 have hadd:=W9 (.int .i64) (p:Int) 1 (by omega) (by omega)
 have hsub:b7 (.int .i64) .sub (.int .i64 ((p:Int)+1)) (.int .i64 1)=some (.int .i64 (p:Int)):=by
  rw [afS _ _ _ (by omega) (by omega)]; congr 2; omega
 rw [ajZ]
 by_cases h0:xs.length=0
 ·have:abF xs p n=0:=by simp [abF,h0]
  simp only [j3,l1,hadd,hst,m0,h0,show ¬ ((n:Int)<1) from by omega,Int.ofNat_zero,this]
 ·by_cases hlt:p<xs.length
  ·have hidx:=arb false xs .i64 p hlt
   have hpn:abF xs p n=(xs[p]).toNat % n:=by
    unfold abF
    rw [if_neg h0,if_pos hlt,List.getD_eq_getElem?_getD,List.getElem?_eq_getElem hlt]; rfl
   simp only [j3,l1,hadd,hst,m0,m1,hsub,show ¬ ((n:Int)<1) from by omega,show ¬ ((xs.length:Int)=0) from by omega,decide_false,Bool.false_eq_true,if_false,
    show ((p:Int)<(xs.length:Int)) from by omega,hidx,aku _ (show (xs[p]).toNat<=255 from by have:=(xs[p]).toNat_lt; omega),agP _ _ _ _ (show (n:Int) ≠ 0 from by omega),ap7,hpn]
  ·have hm:0<xs.length:=by omega
   have hA:=Nat.mod_lt p hm
   have hB:=Nat.mod_lt (p*7+3) hm
   have ga:xs.getD (p % xs.length) 0=xs[p % xs.length]:=by rw [List.getD_eq_getElem?_getD,List.getElem?_eq_getElem hA]; rfl
   have gb:xs.getD ((p*7+3) % xs.length) 0=xs[(p*7+3) % xs.length]:=by rw [List.getD_eq_getElem?_getD,List.getElem?_eq_getElem hB]; rfl
   have la:(xs[p % xs.length]).toNat<=255:=by have:=(xs[p % xs.length]).toNat_lt; omega
   have lb:(xs[(p*7+3) % xs.length]).toNat<=255:=by have:=(xs[(p*7+3) % xs.length]).toNat_lt; omega
   have iA:=arb false xs .i64 (p % xs.length) hA
   have iB:=arb false xs .i64 ((p*7+3) % xs.length) hB
   have hq:p / xs.length<=p:=Nat.div_le_self _ _
   have hpn:abF xs p n=(((xs[p % xs.length]).toNat*131+(xs[(p*7+3) % xs.length]).toNat*1117+p*29+p / xs.length*53) ^^^ ((xs[p % xs.length]).toNat*131+(xs[(p*7+3) % xs.length]).toNat*1117+p*29+p / xs.length*53) / 64) % n:=by
    unfold abF
    rw [if_neg h0,if_neg hlt,ga,gb]
   generalize (xs[p % xs.length]).toNat=a at *
   generalize (xs[(p*7+3) % xs.length]).toNat=b at *
   have s1:=X8 (.int .i64) p xs.length hm
   have s2:b7 (.int .i64) .mul (.int .i64 (a:Int)) (.int .i64 131)=some (.int .i64 ((a*131:Nat):Int)):=afa _ a 131 (by omega)
   have s3:b7 (.int .i64) .mul (.int .i64 (p:Int)) (.int .i64 7)=some (.int .i64 ((p*7:Nat):Int)):=afa _ p 7 (by omega)
   have s4:b7 (.int .i64) .add (.int .i64 ((p*7:Nat):Int)) (.int .i64 3)=some (.int .i64 ((p*7+3:Nat):Int)):=C6 _ (p*7) 3 (by omega)
   have s5:=X8 (.int .i64) (p*7+3) xs.length hm
   have s6:b7 (.int .i64) .mul (.int .i64 (b:Int)) (.int .i64 1117)=some (.int .i64 ((b*1117:Nat):Int)):=afa _ b 1117 (by omega)
   have s7:=C6 (.int .i64) (a*131) (b*1117) (by omega)
   have s8:b7 (.int .i64) .mul (.int .i64 (p:Int)) (.int .i64 29)=some (.int .i64 ((p*29:Nat):Int)):=afa _ p 29 (by omega)
   have s9:=C6 (.int .i64) (a*131+b*1117) (p*29) (by omega)
   have s10:=aaE (.int .i64) p xs.length hm (by omega)
   have s11:b7 (.int .i64) .mul (.int .i64 ((p / xs.length:Nat):Int)) (.int .i64 53)=some (.int .i64 ((p / xs.length*53:Nat):Int)):=afa _ (p / xs.length) 53 (by omega)
   have s12:=C6 (.int .i64) (a*131+b*1117+p*29) (p / xs.length*53) (by omega)
   have s13:b7 (.int .i64) .quo (.int .i64 ((a*131+b*1117+p*29+p / xs.length*53:Nat):Int)) (.int .i64 64)=some (.int .i64 (((a*131+b*1117+p*29+p / xs.length*53) / 64:Nat):Int)):=aaE _ _ 64 (by omega) (by omega)
   have hdl:(a*131+b*1117+p*29+p / xs.length*53) / 64<=a*131+b*1117+p*29+p / xs.length*53:=Nat.div_le_self _ _
   obtain ⟨s14,_⟩:=aCz (.int .i64) (a*131+b*1117+p*29+p / xs.length*53) ((a*131+b*1117+p*29+p / xs.length*53) / 64) (by omega) (by omega)
   have s15:=X8 (.int .i64) ((a*131+b*1117+p*29+p / xs.length*53) ^^^ (a*131+b*1117+p*29+p / xs.length*53) / 64) n hn
   simp only [j3,l1,hadd,hst,m0,m1,hsub,show ¬ ((n:Int)<1) from by omega,show ¬ ((xs.length:Int)=0) from by omega,
    show ¬ ((p:Int)<(xs.length:Int)) from by omega,s1,iA,aku a la,s2,s3,s4,s5,iB,aku b lb,s6,s7,s8,s9,s10,s11,s12,s13,s14,s15,hpn]
theorem aCP {H:VH} {k p:Nat} {o o':Bool} {xs:List UInt8} {l:List Int} (h:H[k]? = some (rdr o xs p)) (hl:1<=l.length) (hl2:l.length<=1000000) (hp:p<=1000000000) (hx:xs.length<=2000) :
 cv F9 [.ptr k 0,.sl o' (vI .i64 l)] H=some (.int .i64 (l.getD (abF xs p l.length) 0),H.set k (rdr o xs (p+1))):=by
 have hp:=avP h hl (by omega) hp hx
 have hlt:=amB xs p l.length hl
 have hi:=arB o' .i64 l .i64 (abF xs p l.length) hlt
 have hi2:=arB false .i64 l .i64 (abF xs p l.length) hlt
 have hg:l.getD (abF xs p l.length) 0=l[abF xs p l.length]:=by rw [List.getD_eq_getElem?_getD,List.getElem?_eq_getElem hlt]; rfl
 rw [ald]
 simp only [j3,hp,hi,hi2,hg]
end Go.Proofs.YtaapfgpeeghmeaaGreatDoor.Q

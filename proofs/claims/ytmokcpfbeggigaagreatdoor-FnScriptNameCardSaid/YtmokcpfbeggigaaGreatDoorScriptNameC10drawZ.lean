/- Contracts: drawing. -/
import Derived.Test.YtmokcpfbeggigaaGreatDoorScriptNameRunsZ
import Derived.Test.YtmokcpfbeggigaaGreatDoorFnScriptNameK4
namespace Go.Proofs.YtmokcpfbeggigaaGreatDoor.Q
open Go Go.AM
set_option linter.unusedSimpArgs false
set_option linter.unusedVariables false
set_option linter.unusedSectionVars false
theorem apr (xs:List UInt8) (H:VH):cv V5 [.sl false (vB xs)] H=some (.ptr H.length 0,H++[rdr false (xs.take 2000) 0]):=by
 rw [aiF]
 by_cases h:xs.length>2000
 ·have h1:Q2 1 (.sl false (vB xs)) none (some (.int .i64 2000))=some (.sl false (o7 ((vB xs).take 2000))):=avY 1 false (vB xs) .i64 2000 (age xs) (by rw [aew]; omega)
  rw [atL,aeP] at h1
  simp only [j0,decide_true,h1,show ((xs.length:Int)>2000) from by omega]
  rfl
 ·have h2:xs.take 2000=xs:=List.take_of_length_le (by omega)
  simp only [j0,show ¬ ((xs.length:Int)>2000) from by omega,decide_false]
  simp only [j0,Bool.false_eq_true,if_false,h2]
  rfl
theorem aqE {H:VH} {k p n:Nat} {o:Bool} {xs:List UInt8} (h:H[k]? = some (rdr o xs p)) (hn:1<=n) (hn2:n<=1000000000) (hp:p<=1000000000) (hx:xs.length<=2000) :
 cv O9 [.ptr k 0,.int .i64 (n:Int)] H=some (.int .i64 (K4 xs p n:Nat),H.set k (rdr o xs (p+1))):=by
 have hk:k<H.length:=(List.getElem?_eq_some_iff.1 h).1
 have l1:L8 I2 false false 1 (.ptr k 1) H=some (.int .i64 (p:Int),H):=ajY h rfl rfl
 have hst:stO (.ptr k 1) [.int .i64 ((p:Int)+1)] H=some (H.set k (rdr o xs (p+1))):=by
  rw [atp h (by simp [rdr])]; simp [rdr]
 generalize hH:H.set k (rdr o xs (p+1))=H2 at *
 have h2:H2[k]? = some (rdr o xs (p+1)):=by rw [<-hH,List.getElem?_set]; simp [hk]
 have m0:L8 I2 false false 1 (.ptr k 0) H2=some (.sl false (vB xs),H2):=ajY h2 rfl (by simp only [strip,aeP])
 have m1:L8 I2 false false 1 (.ptr k 1) H2=some (.int .i64 ((p:Int)+1),H2):=ajY h2 rfl (by simp [strip])
 have hadd:=acw (.int .i64) (p:Int) 1 (by omega) (by omega)
 have hsub:a8 (.int .i64) .sub (.int .i64 ((p:Int)+1)) (.int .i64 1)=some (.int .i64 (p:Int)):=by
  rw [ajj _ _ _ (by omega) (by omega)]; congr 2; omega
 rw [agx]
 by_cases h0:xs.length=0
 ·have:K4 xs p n=0:=by simp [K4,h0]
  simp only [j0,l1,hadd,hst,m0,h0,show ¬ ((n:Int)<1) from by omega,Int.ofNat_zero,this]
 ·by_cases hlt:p<xs.length
  ·have hidx:=alQ false xs .i64 p hlt
   have hpn:K4 xs p n=(xs[p]).toNat % n:=by
    unfold K4
    rw [if_neg h0,if_pos hlt,List.getD_eq_getElem?_getD,List.getElem?_eq_getElem hlt]; rfl
   simp only [j0,l1,hadd,hst,m0,m1,hsub,show ¬ ((n:Int)<1) from by omega,show ¬ ((xs.length:Int)=0) from by omega,decide_false,Bool.false_eq_true,if_false,
    show ((p:Int)<(xs.length:Int)) from by omega,hidx,aj4 _ (show (xs[p]).toNat<=255 from by have:=(xs[p]).toNat_lt; omega),aiB _ _ _ _ (show (n:Int) ≠ 0 from by omega),amQ,hpn]
  ·have hm:0<xs.length:=by omega
   have hA:=Nat.mod_lt p hm
   have hB:=Nat.mod_lt (p*7+3) hm
   have ga:xs.getD (p % xs.length) 0=xs[p % xs.length]:=by rw [List.getD_eq_getElem?_getD,List.getElem?_eq_getElem hA]; rfl
   have gb:xs.getD ((p*7+3) % xs.length) 0=xs[(p*7+3) % xs.length]:=by rw [List.getD_eq_getElem?_getD,List.getElem?_eq_getElem hB]; rfl
   have la:(xs[p % xs.length]).toNat<=255:=by have:=(xs[p % xs.length]).toNat_lt; omega
   have lb:(xs[(p*7+3) % xs.length]).toNat<=255:=by have:=(xs[(p*7+3) % xs.length]).toNat_lt; omega
   have iA:=alQ false xs .i64 (p % xs.length) hA
   have iB:=alQ false xs .i64 ((p*7+3) % xs.length) hB
   have hq:p / xs.length<=p:=Nat.div_le_self _ _
   have hpn:K4 xs p n=(((xs[p % xs.length]).toNat*131+(xs[(p*7+3) % xs.length]).toNat*1117+p*29+p / xs.length*53) ^^^ ((xs[p % xs.length]).toNat*131+(xs[(p*7+3) % xs.length]).toNat*1117+p*29+p / xs.length*53) / 64) % n:=by
    unfold K4
    rw [if_neg h0,if_neg hlt,ga,gb]
   generalize (xs[p % xs.length]).toNat=a at *
   generalize (xs[(p*7+3) % xs.length]).toNat=b at *
   have s1:=adY (.int .i64) p xs.length hm
   have s2:a8 (.int .i64) .mul (.int .i64 (a:Int)) (.int .i64 131)=some (.int .i64 ((a*131:Nat):Int)):=adV _ a 131 (by omega)
   have s3:a8 (.int .i64) .mul (.int .i64 (p:Int)) (.int .i64 7)=some (.int .i64 ((p*7:Nat):Int)):=adV _ p 7 (by omega)
   have s4:a8 (.int .i64) .add (.int .i64 ((p*7:Nat):Int)) (.int .i64 3)=some (.int .i64 ((p*7+3:Nat):Int)):=C0 _ (p*7) 3 (by omega)
   have s5:=adY (.int .i64) (p*7+3) xs.length hm
   have s6:a8 (.int .i64) .mul (.int .i64 (b:Int)) (.int .i64 1117)=some (.int .i64 ((b*1117:Nat):Int)):=adV _ b 1117 (by omega)
   have s7:=C0 (.int .i64) (a*131) (b*1117) (by omega)
   have s8:a8 (.int .i64) .mul (.int .i64 (p:Int)) (.int .i64 29)=some (.int .i64 ((p*29:Nat):Int)):=adV _ p 29 (by omega)
   have s9:=C0 (.int .i64) (a*131+b*1117) (p*29) (by omega)
   have s10:=agq (.int .i64) p xs.length hm (by omega)
   have s11:a8 (.int .i64) .mul (.int .i64 ((p / xs.length:Nat):Int)) (.int .i64 53)=some (.int .i64 ((p / xs.length*53:Nat):Int)):=adV _ (p / xs.length) 53 (by omega)
   have s12:=C0 (.int .i64) (a*131+b*1117+p*29) (p / xs.length*53) (by omega)
   have s13:a8 (.int .i64) .quo (.int .i64 ((a*131+b*1117+p*29+p / xs.length*53:Nat):Int)) (.int .i64 64)=some (.int .i64 (((a*131+b*1117+p*29+p / xs.length*53) / 64:Nat):Int)):=agq _ _ 64 (by omega) (by omega)
   have hdl:(a*131+b*1117+p*29+p / xs.length*53) / 64<=a*131+b*1117+p*29+p / xs.length*53:=Nat.div_le_self _ _
   obtain ⟨s14,_⟩:=avE (.int .i64) (a*131+b*1117+p*29+p / xs.length*53) ((a*131+b*1117+p*29+p / xs.length*53) / 64) (by omega) (by omega)
   have s15:=adY (.int .i64) ((a*131+b*1117+p*29+p / xs.length*53) ^^^ (a*131+b*1117+p*29+p / xs.length*53) / 64) n hn
   simp only [j0,l1,hadd,hst,m0,m1,hsub,show ¬ ((n:Int)<1) from by omega,show ¬ ((xs.length:Int)=0) from by omega,
    show ¬ ((p:Int)<(xs.length:Int)) from by omega,s1,iA,aj4 a la,s2,s3,s4,s5,iB,aj4 b lb,s6,s7,s8,s9,s10,s11,s12,s13,s14,s15,hpn]
theorem avU {H:VH} {k p:Nat} {o o':Bool} {xs:List UInt8} {l:List Int} (h:H[k]? = some (rdr o xs p)) (hl:1<=l.length) (hl2:l.length<=1000000) (hp:p<=1000000000) (hx:xs.length<=2000) :
 cv R6 [.ptr k 0,.sl o' (vI .i64 l)] H=some (.int .i64 (l.getD (K4 xs p l.length) 0),H.set k (rdr o xs (p+1))):=by
 have hp:=aqE h hl (by omega) hp hx
 have hlt:=aeX xs p l.length hl
 have hi:=ap0 o' .i64 l .i64 (K4 xs p l.length) hlt
 have hi2:=ap0 false .i64 l .i64 (K4 xs p l.length) hlt
 have hg:l.getD (K4 xs p l.length) 0=l[K4 xs p l.length]:=by rw [List.getD_eq_getElem?_getD,List.getElem?_eq_getElem hlt]; rfl
 rw [ag6]
 simp only [j0,hp,hi,hi2,hg]
theorem av3 {H:VH} {k p:Nat} {o o':Bool} {xs:List UInt8} {l:List Bs} (h:H[k]? = some (rdr o xs p)) (hl:1<=l.length) (hl2:l.length<=1000000) (hp:p<=1000000000) (hx:xs.length<=2000) :
 cv T5 [.ptr k 0,.sl o' (vT l)] H=some (.str (l.getD (K4 xs p l.length) []),H.set k (rdr o xs (p+1))):=by
 have hp:=aqE h hl (by omega) hp hx
 have hlt:=aeX xs p l.length hl
 have hi:=aiR o' l .i64 (K4 xs p l.length) hlt
 have hi2:=aiR false l .i64 (K4 xs p l.length) hlt
 have hg:l.getD (K4 xs p l.length) []=l[K4 xs p l.length]:=by rw [List.getD_eq_getElem?_getD,List.getElem?_eq_getElem hlt]; rfl
 rw [ahZ]
 simp only [j0,hp,hi,hi2,hg]
end Go.Proofs.YtmokcpfbeggigaaGreatDoor.Q

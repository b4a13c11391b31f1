/- Contracts: days of months, seconds of dates, valid dates. -/
import Derived.Test.YtaapfgpeeghmeaaGreatDoorScriptTraceCc0datesZ
namespace Go.Proofs.YtaapfgpeeghmeaaGreatDoor.Q
open Go Go.AM
set_option linter.unusedSimpArgs false
set_option linter.unusedVariables false
set_option linter.unusedSectionVars false
structure Dt where
 y:Int
 mo:Int
 d:Int
 h:Int
 mi:Int
 s:Int
 z:Int
def cD (d:Dt):List V:=[.int .i64 d.y,.int .i64 d.mo,.int .i64 d.d,.int .i64 d.h,.int .i64 d.mi,.int .i64 d.s,.int .i64 d.z]
theorem C4 (d:Dt):cD d=[.int .i64 d.y,.int .i64 d.mo,.int .i64 d.d,.int .i64 d.h,.int .i64 d.mi,.int .i64 d.s,.int .i64 d.z]:=by exact id rfl
def aei (y:Int):Bool:=decide (y.tmod 4=0)&&(decide (y.tmod 100 ≠ 0)||decide (y.tmod 400=0))
def O2 (y m:Int):Int:=if 1970<=y/\y<=2099 then (if m=2 then (if aei y=true then 29 else 28) else if m=4\/m=6\/m=9\/m=11 then 30 else if 1<=m/\m<=12 then 31 else 0) else 0
theorem S9 (y m:Int):0<=O2 y m/\O2 y m<=31:=by
 unfold O2
 repeat' split
 all_goals omega
theorem alX {y m:Int} (h:0<O2 y m):(1970<=y/\y<=2099)/\1<=m/\m<=12:=by
 unfold O2 at h
 split at h
 ·refine ⟨‹_›,?_⟩
  repeat' split at h
  all_goals omega
 ·omega
theorem m12 (m:Int):m=1\/m=2\/m=3\/m=4\/m=5\/m=6\/m=7\/m=8\/m=9\/m=10\/m=11\/m=12\/(m<1\/12<m):=by omega
def E2:Nat->Int
 | 0=>0
 | k+1=>E2 k+(if aei (1970+k)=true then 366 else 365)
def D8 (y:Int):Nat->Int
 | 0=>0
 | j+1=>D8 y j+O2 y (j+1)
theorem aew:∀ k,0<=E2 k/\E2 k<=366*k
 | 0=>by simp [E2]
 | k+1=>by
   have:=aew k
   unfold E2
   split<;>omega
theorem age (y:Int):∀ j,0<=D8 y j/\D8 y j<=31*j
 | 0=>by simp [D8]
 | j+1=>by
   have:=age y j
   have:=S9 y (j+1)
   unfold D8
   omega
theorem anW {y:Int} (h:1970<=y/\y<=2099):D8 y 12=if aei y=true then 366 else 365:=by
 simp only [D8,O2,h,and_self,if_true]
 by_cases hl:aei y=true<;>simp [hl]
def dbI (y m d:Int):Int:=d-1+E2 (y-1970).toNat+D8 y (m-1).toNat
def acb (d:Dt):Int:=dbI d.y d.mo d.d*86400+d.h*3600+d.mi*60+d.s-d.z*60
def acF (d:Dt):Bool:=decide (1<=d.d/\d.d<=O2 d.y d.mo/\0<=d.h/\d.h<=23/\0<=d.mi/\d.mi<=59/\0<=d.s/\d.s<=59 ∧ -720<=d.z/\d.z<=840)
def L0 (d:Dt):Bool:=acF d&&decide (0<=acb d/\acb d<4102444800)
theorem anx {y m d:Int} (h:1970<=y/\y<=2099) (hm:1<=m/\m<=12) (hd:1<=d/\d<=31):0<=dbI y m d/\dbI y m d<=48000:=by
 have h1:=aew (y-1970).toNat
 have h2:=age y (m-1).toNat
 unfold dbI
 omega
theorem aqe (y:Int):qc acz [.int .i64 y]=some (.bool (aei y)):=by
 refine B7 (H:=[]) ?_ (by simp only [j3]) rfl
 show cv _ _ _=_
 have e1:=agP (.int .i64) y 4 .i64 (by omega)
 have e2:=agP (.int .i64) y 100 .i64 (by omega)
 have e3:=agP (.int .i64) y 400 .i64 (by omega)
 rw [anY]
 unfold aei
 by_cases h1:y.tmod 4=0<;>by_cases h2:y.tmod 100=0<;>by_cases h3:y.tmod 400=0<;>simp [j3,e1,e2,e3,h1,h2,h3]
theorem ax1 {y:Int} (h:y.tmod 400=0):y.tmod 4=0:=by
 have h1:=Int.dvd_of_tmod_eq_zero h
 exact Int.tmod_eq_zero_of_dvd (Int.dvd_trans (by decide) h1)
theorem afA (y m:Int):qc aac [.int .i64 y,.int .i64 m]=some (.int .i64 (O2 y m)):=by
 refine B7 (H:=[]) ?_ (by simp only [j3]) rfl
 show cv _ _ _=_
 have e1:=agP (.int .i64) y 4 .i64 (by omega)
 have e2:=agP (.int .i64) y 100 .i64 (by omega)
 have e3:=agP (.int .i64) y 400 .i64 (by omega)
 rw [aoR]
 unfold O2
 by_cases h1:y<1970
 ·simp [j3,h1,show ¬ (1970<=y) from by omega]
 ·by_cases h2:y>2099
  ·simp [j3,h1,h2,show ¬ (y<=2099) from by omega]
  ·rcases m12 m with rfl | rfl | rfl | rfl | rfl | rfl | rfl | rfl | rfl | rfl | rfl | rfl | hm
   ·simp [j3,h1,h2,show 1970<=y from by omega,show y<=2099 from by omega]
   ·by_cases h4:y.tmod 4=0<;>by_cases h5:y.tmod 100=0<;>by_cases h6:y.tmod 400=0<;>first | (exact absurd (ax1 h6) h4) | simp [j3,h1,h2,show 1970<=y from by omega,show y<=2099 from by omega,e1,e2,e3,aei,h4,h5,h6]
   all_goals (try (simp [j3,h1,h2,show 1970<=y from by omega,show y<=2099 from by omega]; done))
   have q:∀ k:Int,1<=k->k<=12->¬ m=k:=fun k h1 h2=>by omega
   simp [j3,h1,h2,show 1970<=y from by omega,show y<=2099 from by omega,q,show ¬ (1<=m/\m<=12) from by omega]
theorem afq (y m:Int):qc aad [.int .i64 y,.int .i64 m]=some (.int .i64 (O2 y m)):=by
 have e1:=aqe y
 refine B7 (H:=[]) ?_ (by simp only [j3]) rfl
 show cv _ _ _=_
 rw [an9]
 unfold O2
 by_cases h1:y<1970
 ·simp [j3,h1,show ¬ (1970<=y) from by omega]
 ·by_cases h2:y>2099
  ·simp [j3,h1,h2,show ¬ (y<=2099) from by omega]
  ·have s:∀ (a b:Int),b7 (.int .i64) .sub (.int .i64 a) (.int .i64 b)=some (.int .i64 (IntKind.i64.wrap (a-b))):=fun a b=>by simp [b7,Z8,S3,V3,ofA]
   rcases m12 m with rfl | rfl | rfl | rfl | rfl | rfl | rfl | rfl | rfl | rfl | rfl | rfl | hm
   ·simp [j3,h1,h2,show 1970<=y from by omega,show y<=2099 from by omega]; rfl
   ·by_cases h4:aei y=true
    ·simp [j3,h1,h2,show 1970<=y from by omega,show y<=2099 from by omega,e1,h4]
    ·simp [j3,h1,h2,show 1970<=y from by omega,show y<=2099 from by omega,e1,h4]; rfl
   all_goals (try (simp [j3,h1,h2,show 1970<=y from by omega,show y<=2099 from by omega]; rfl))
   rcases hm with hm | hm
   ·simp [j3,h1,h2,hm,show ¬ (m=2) from by omega,show ¬ (m=4) from by omega,show ¬ (m=6) from by omega,show ¬ (m=9) from by omega,show ¬ (m=11) from by omega,show ¬ (1<=m) from by omega]
   ·simp [j3,h1,h2,hm,show ¬ (m<1) from by omega,show ¬ (m=2) from by omega,show ¬ (m=4) from by omega,show ¬ (m=6) from by omega,show ¬ (m=9) from by omega,show ¬ (m=11) from by omega,show ¬ (m<=12) from by omega]
end Go.Proofs.YtaapfgpeeghmeaaGreatDoor.Q

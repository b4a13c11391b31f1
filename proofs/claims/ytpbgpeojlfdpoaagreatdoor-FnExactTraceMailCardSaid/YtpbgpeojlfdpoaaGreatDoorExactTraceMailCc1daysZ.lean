/- Contracts: days of months, seconds of dates, valid dates. -/
import Derived.Test.YtpbgpeojlfdpoaaGreatDoorExactTraceMailCc0datesZ
namespace Go.Proofs.YtpbgpeojlfdpoaaGreatDoor.Q
open Go Go.AM
set_option linter.unusedSimpArgs false
set_option linter.unusedVariables false
set_option linter.unusedSectionVars false
structure Dt where
 y:Int
 mo:Int
 d:Int
 h:Int
 mi:Int
 s:Int
 z:Int
def cD (d:Dt):List V:=[.int .i64 d.y,.int .i64 d.mo,.int .i64 d.d,.int .i64 d.h,.int .i64 d.mi,.int .i64 d.s,.int .i64 d.z]
theorem y9 (d:Dt):cD d=[.int .i64 d.y,.int .i64 d.mo,.int .i64 d.d,.int .i64 d.h,.int .i64 d.mi,.int .i64 d.s,.int .i64 d.z]:=by exact id rfl
def adO (y:Int):Bool:=decide (y.tmod 4=0)&&(decide (y.tmod 100 ≠ 0)||decide (y.tmod 400=0))
def Y8 (y m:Int):Int:=if 1970<=y/\y<=2099 then (if m=2 then (if adO y=true then 29 else 28) else if m=4\/m=6\/m=9\/m=11 then 30 else if 1<=m/\m<=12 then 31 else 0) else 0
theorem aaJ (y m:Int):0<=Y8 y m/\Y8 y m<=31:=by
 unfold Y8
 repeat' split
 all_goals omega
theorem ajT {y m:Int} (h:0<Y8 y m):(1970<=y/\y<=2099)/\1<=m/\m<=12:=by
 unfold Y8 at h
 split at h
 ·refine ⟨‹_›,?_⟩
  repeat' split at h
  all_goals omega
 ·omega
theorem m12 (m:Int):m=1\/m=2\/m=3\/m=4\/m=5\/m=6\/m=7\/m=8\/m=9\/m=10\/m=11\/m=12\/(m<1\/12<m):=by omega
def L3:Nat->Int
 | 0=>0
 | k+1=>L3 k+(if adO (1970+k)=true then 366 else 365)
def O1 (y:Int):Nat->Int
 | 0=>0
 | j+1=>O1 y j+Y8 y (j+1)
theorem agb:∀ k,0<=L3 k/\L3 k<=366*k
 | 0=>by simp [L3]
 | k+1=>by
   have:=agb k
   unfold L3
   split<;>omega
theorem aiM (y:Int):∀ j,0<=O1 y j/\O1 y j<=31*j
 | 0=>by simp [O1]
 | j+1=>by
   have:=aiM y j
   have:=aaJ y (j+1)
   unfold O1
   omega
theorem awv {y:Int} (h:1970<=y/\y<=2099):O1 y 12=if adO y=true then 366 else 365:=by
 simp only [O1,Y8,h,and_self,if_true]
 by_cases hl:adO y=true<;>simp [hl]
def dbI (y m d:Int):Int:=d-1+L3 (y-1970).toNat+O1 y (m-1).toNat
def abb (d:Dt):Int:=dbI d.y d.mo d.d*86400+d.h*3600+d.mi*60+d.s-d.z*60
def abG (d:Dt):Bool:=decide (1<=d.d/\d.d<=Y8 d.y d.mo/\0<=d.h/\d.h<=23/\0<=d.mi/\d.mi<=59/\0<=d.s/\d.s<=59 ∧ -720<=d.z/\d.z<=840)
def L7 (d:Dt):Bool:=abG d&&decide (0<=abb d/\abb d<4102444800)
theorem al6 {y m d:Int} (h:1970<=y/\y<=2099) (hm:1<=m/\m<=12) (hd:1<=d/\d<=31):0<=dbI y m d/\dbI y m d<=48000:=by
 have h1:=agb (y-1970).toNat
 have h2:=aiM y (m-1).toNat
 unfold dbI
 omega
theorem aoL (y:Int):qc abv [.int .i64 y]=some (.bool (adO y)):=by
 refine o7 (H:=[]) ?_ (by simp only [g9]) rfl
 show cv _ _ _=_
 have e1:=ag3 (.int .i64) y 4 .i64 (by omega)
 have e2:=ag3 (.int .i64) y 100 .i64 (by omega)
 have e3:=ag3 (.int .i64) y 400 .i64 (by omega)
 rw [amp]
 unfold adO
 by_cases h1:y.tmod 4=0<;>by_cases h2:y.tmod 100=0<;>by_cases h3:y.tmod 400=0<;>simp [g9,e1,e2,e3,h1,h2,h3]
theorem avj {y:Int} (h:y.tmod 400=0):y.tmod 4=0:=by
 have h1:=Int.dvd_of_tmod_eq_zero h
 exact Int.tmod_eq_zero_of_dvd (Int.dvd_trans (by decide) h1)
theorem ahr (y m:Int):qc abF [.int .i64 y,.int .i64 m]=some (.int .i64 (Y8 y m)):=by
 refine o7 (H:=[]) ?_ (by simp only [g9]) rfl
 show cv _ _ _=_
 have e1:=ag3 (.int .i64) y 4 .i64 (by omega)
 have e2:=ag3 (.int .i64) y 100 .i64 (by omega)
 have e3:=ag3 (.int .i64) y 400 .i64 (by omega)
 rw [amk]
 unfold Y8
 by_cases h1:y<1970
 ·simp [g9,h1,show ¬ (1970<=y) from by omega]
 ·by_cases h2:y>2099
  ·simp [g9,h1,h2,show ¬ (y<=2099) from by omega]
  ·rcases m12 m with rfl | rfl | rfl | rfl | rfl | rfl | rfl | rfl | rfl | rfl | rfl | rfl | hm
   ·simp [g9,h1,h2,show 1970<=y from by omega,show y<=2099 from by omega]
   ·by_cases h4:y.tmod 4=0<;>by_cases h5:y.tmod 100=0<;>by_cases h6:y.tmod 400=0<;>first | (exact absurd (avj h6) h4) | simp [g9,h1,h2,show 1970<=y from by omega,show y<=2099 from by omega,e1,e2,e3,adO,h4,h5,h6]
   all_goals (try (simp [g9,h1,h2,show 1970<=y from by omega,show y<=2099 from by omega]; done))
   have q:∀ k:Int,1<=k->k<=12->¬ m=k:=fun k h1 h2=>by omega
   simp [g9,h1,h2,show 1970<=y from by omega,show y<=2099 from by omega,q,show ¬ (1<=m/\m<=12) from by omega]
theorem ahv (y m:Int):qc abm [.int .i64 y,.int .i64 m]=some (.int .i64 (Y8 y m)):=by
 have e1:=aoL y
 refine o7 (H:=[]) ?_ (by simp only [g9]) rfl
 show cv _ _ _=_
 rw [amy]
 unfold Y8
 by_cases h1:y<1970
 ·simp [g9,h1,show ¬ (1970<=y) from by omega]
 ·by_cases h2:y>2099
  ·simp [g9,h1,h2,show ¬ (y<=2099) from by omega]
  ·have s:∀ (a b:Int),b9 (.int .i64) .sub (.int .i64 a) (.int .i64 b)=some (.int .i64 (IntKind.i64.wrap (a-b))):=fun a b=>by simp [b9,Z1,R1,Q3,ofA]
   rcases m12 m with rfl | rfl | rfl | rfl | rfl | rfl | rfl | rfl | rfl | rfl | rfl | rfl | hm
   ·simp [g9,h1,h2,show 1970<=y from by omega,show y<=2099 from by omega]; rfl
   ·by_cases h4:adO y=true
    ·simp [g9,h1,h2,show 1970<=y from by omega,show y<=2099 from by omega,e1,h4]
    ·simp [g9,h1,h2,show 1970<=y from by omega,show y<=2099 from by omega,e1,h4]; rfl
   all_goals (try (simp [g9,h1,h2,show 1970<=y from by omega,show y<=2099 from by omega]; rfl))
   rcases hm with hm | hm
   ·simp [g9,h1,h2,hm,show ¬ (m=2) from by omega,show ¬ (m=4) from by omega,show ¬ (m=6) from by omega,show ¬ (m=9) from by omega,show ¬ (m=11) from by omega,show ¬ (1<=m) from by omega]
   ·simp [g9,h1,h2,hm,show ¬ (m<1) from by omega,show ¬ (m=2) from by omega,show ¬ (m=4) from by omega,show ¬ (m=6) from by omega,show ¬ (m=9) from by omega,show ¬ (m=11) from by omega,show ¬ (m<=12) from by omega]
end Go.Proofs.YtpbgpeojlfdpoaaGreatDoor.Q

/- Contracts: days of months, seconds of dates, valid dates. -/
import Derived.Test.YtmokcpfbeggigaaGreatDoorScriptNameCc0datesZ
namespace Go.Proofs.YtmokcpfbeggigaaGreatDoor.Q
open Go Go.AM
set_option linter.unusedSimpArgs false
set_option linter.unusedVariables false
set_option linter.unusedSectionVars false
structure Dt where
 y:Int
 mo:Int
 d:Int
 h:Int
 mi:Int
 s:Int
 z:Int
def cD (d:Dt):List V:=[.int .i64 d.y,.int .i64 d.mo,.int .i64 d.d,.int .i64 d.h,.int .i64 d.mi,.int .i64 d.s,.int .i64 d.z]
theorem aaf (d:Dt):cD d=[.int .i64 d.y,.int .i64 d.mo,.int .i64 d.d,.int .i64 d.h,.int .i64 d.mi,.int .i64 d.s,.int .i64 d.z]:=by exact id rfl
def aeG (y:Int):Bool:=decide (y.tmod 4=0)&&(decide (y.tmod 100 ≠ 0)||decide (y.tmod 400=0))
def Q6 (y m:Int):Int:=if 1970<=y/\y<=2099 then (if m=2 then (if aeG y=true then 29 else 28) else if m=4\/m=6\/m=9\/m=11 then 30 else if 1<=m/\m<=12 then 31 else 0) else 0
theorem aeu (y m:Int):0<=Q6 y m/\Q6 y m<=31:=by
 unfold Q6
 repeat' split
 all_goals omega
theorem arE {y m:Int} (h:0<Q6 y m):(1970<=y/\y<=2099)/\1<=m/\m<=12:=by
 unfold Q6 at h
 split at h
 ·refine ⟨‹_›,?_⟩
  repeat' split at h
  all_goals omega
 ·omega
theorem m12 (m:Int):m=1\/m=2\/m=3\/m=4\/m=5\/m=6\/m=7\/m=8\/m=9\/m=10\/m=11\/m=12\/(m<1\/12<m):=by omega
def I9:Nat->Int
 | 0=>0
 | k+1=>I9 k+(if aeG (1970+k)=true then 366 else 365)
def C6 (y:Int):Nat->Int
 | 0=>0
 | j+1=>C6 y j+Q6 y (j+1)
theorem agC:∀ k,0<=I9 k/\I9 k<=366*k
 | 0=>by simp [I9]
 | k+1=>by
   have:=agC k
   unfold I9
   split<;>omega
theorem agU (y:Int):∀ j,0<=C6 y j/\C6 y j<=31*j
 | 0=>by simp [C6]
 | j+1=>by
   have:=agU y j
   have:=aeu y (j+1)
   unfold C6
   omega
theorem anP {y:Int} (h:1970<=y/\y<=2099):C6 y 12=if aeG y=true then 366 else 365:=by
 simp only [C6,Q6,h,and_self,if_true]
 by_cases hl:aeG y=true<;>simp [hl]
def dbI (y m d:Int):Int:=d-1+I9 (y-1970).toNat+C6 y (m-1).toNat
def afk (d:Dt):Int:=dbI d.y d.mo d.d*86400+d.h*3600+d.mi*60+d.s-d.z*60
def anI (d:Dt):Bool:=decide (1<=d.d/\d.d<=Q6 d.y d.mo/\0<=d.h/\d.h<=23/\0<=d.mi/\d.mi<=59/\0<=d.s/\d.s<=59 ∧ -720<=d.z/\d.z<=840)
def al1 (d:Dt):Bool:=anI d&&decide (0<=afk d/\afk d<4102444800)
theorem auW {y m d:Int} (h:1970<=y/\y<=2099) (hm:1<=m/\m<=12) (hd:1<=d/\d<=31):0<=dbI y m d/\dbI y m d<=48000:=by
 have h1:=agC (y-1970).toNat
 have h2:=agU y (m-1).toNat
 unfold dbI
 omega
theorem aq8 {y:Int} (h:y.tmod 400=0):y.tmod 4=0:=by
 have h1:=Int.dvd_of_tmod_eq_zero h
 exact Int.tmod_eq_zero_of_dvd (Int.dvd_trans (by decide) h1)
theorem aci (y m:Int):qc M9 [.int .i64 y,.int .i64 m]=some (.int .i64 (Q6 y m)):=by
 refine y5 (H:=[]) ?_ (by simp only [j0]) rfl
 show cv _ _ _=_
 have e1:=aiB (.int .i64) y 4 .i64 (by omega)
 have e2:=aiB (.int .i64) y 100 .i64 (by omega)
 have e3:=aiB (.int .i64) y 400 .i64 (by omega)
 rw [akf]
 unfold Q6
 by_cases h1:y<1970
 ·simp [j0,h1,show ¬ (1970<=y) from by omega]
 ·by_cases h2:y>2099
  ·simp [j0,h1,h2,show ¬ (y<=2099) from by omega]
  ·rcases m12 m with rfl | rfl | rfl | rfl | rfl | rfl | rfl | rfl | rfl | rfl | rfl | rfl | hm
   ·simp [j0,h1,h2,show 1970<=y from by omega,show y<=2099 from by omega]
   ·by_cases h4:y.tmod 4=0<;>by_cases h5:y.tmod 100=0<;>by_cases h6:y.tmod 400=0<;>first | (exact absurd (aq8 h6) h4) | simp [j0,h1,h2,show 1970<=y from by omega,show y<=2099 from by omega,e1,e2,e3,aeG,h4,h5,h6]
   all_goals (try (simp [j0,h1,h2,show 1970<=y from by omega,show y<=2099 from by omega]; done))
   have q:∀ k:Int,1<=k->k<=12->¬ m=k:=fun k h1 h2=>by omega
   simp [j0,h1,h2,show 1970<=y from by omega,show y<=2099 from by omega,q,show ¬ (1<=m/\m<=12) from by omega]
end Go.Proofs.YtmokcpfbeggigaaGreatDoor.Q

/- Contracts: the laws that mark what they get. -/
import Derived.Test.YtpbgpeojlfdpoaaGreatDoorExactTraceMailCb1marksZ
import Derived.Test.YtpbgpeojlfdpoaaGreatDoorFnExactTraceMailK4
namespace Go.Proofs.YtpbgpeojlfdpoaaGreatDoor.Q
open Go Go.AM
set_option linter.unusedSimpArgs false
set_option linter.unusedVariables false
set_option linter.unusedSectionVars false
theorem ayt {f:FuncId} {H:VH} {vs:List V} {v:V} (h:I3 vs=true->s7 vs=true) (hp:pc f (vs.map (I5 3 H))=some v) (ho:H4 v=true):pco f H vs=some v:=by
 show V4 cv f H vs=some v
 cases hn:I3 vs with
 | true =>
   rw [aok (h hn),<-ags (d:=3) (H:=H) (h hn)]
   exact hp
 | false =>
   unfold V4
   rw [hn]
   show (pc f (vs.map (I5 3 H))).bind _=_
   rw [hp]
   simp only [Option.bind_some,ho]
theorem MlR.app {H:VH} {ks:List Nat} {cs:List V} {m:s8} (X:VH) (h:MlR H ks cs m) (hk:∀ j ∈ ks,j<H.length):MlR (H++X) ks cs m :=
 h.mono fun j hj=>by rw [List.getElem?_append_left (hk j hj)]
theorem asa (d:Nat) (H:VH) (m:s8):I5 d H (.agg (cM m)) = .agg (cM m):=by
 rw [V8 _ _ _ (by simp only [data,J0,s7,acE,Bool.and_self])]
 simp only [strip,J0,l8,S2]
theorem ajJ {H:VH} {ks:List Nat} {cs:List V} {m n:s8} (h:MlR H ks cs m) (hm:SmM m):qco K6 H [.agg cs,.agg (cM n)]=some (.bool (decide (m=n))):=by
 rw [alR (fun hn=>by
  simp only [I3,Bool.and_eq_true] at hn
  simp only [s7,h.nd hn.1,Bool.true_and]
  simp only [data,J0,s7,acE,Bool.and_self])]
 simp only [List.map_cons,List.map_nil,h.I5 2,asa]
 exact anX m n hm
theorem asz {H:VH} {ks ls:List Nat} {cs ds:List V} {m n:s8} (h:MlR H ks cs m) (g:MlR H ls ds n) (hm:SmM m):qco K6 H [.agg cs,.agg ds]=some (.bool (decide (m=n))):=by
 rw [alR (fun hn=>by
  simp only [I3,Bool.and_eq_true] at hn
  simp only [s7,h.nd hn.1,g.nd hn.2.1,Bool.and_self])]
 simp only [List.map_cons,List.map_nil,h.I5 2,g.I5 2]
 exact anX m n hm
theorem alp {H:VH} {ks:List Nat} {cs:List V} {m:s8} {k:Nat} (h:MlR H ks cs (mkM k m)) (hk:k+m.to.length+m.lines.length<=9000000000000000000):qco S3 H [.agg cs,.int .i64 (k:Nat)]=some (.int .i64 ((k+m.to.length+m.lines.length:Nat):Int)):=by
 rw [alR (fun hn=>by
  simp only [I3,Bool.and_eq_true] at hn
  have q:=h.nd hn.1
  show (data (.agg cs)&&(data (.int .i64 (k:Nat))&&true))=true
  rw [q]; rfl)]
 simp only [List.map_cons,List.map_nil,h.I5 2,V8 3 H (.int .i64 (k:Nat)) rfl,strip]
 exact arZ k m hk
theorem aq0:∀ l:List Bs,ab5 (vT l)=true
 | []=>rfl
 | m::l=>by
   show (abB [.str m]&&ab5 (vT l))=true
   rw [aq0 l]; rfl
theorem TxR.app {H:VH} {ks:List Nat} {v:V} {l:List Bs} (X:VH) (h:TxR H ks v l) (hk:∀ j ∈ ks,j<H.length):TxR (H++X) ks v l :=
 h.mono fun j hj=>by rw [List.getElem?_append_left (hk j hj)]
theorem aya (m:s8):H4 (.agg (cO m))=true:=by simp only [H4,Z0,abB,Bool.true_or,Bool.true_and,Bool.and_true,aq0]
end Go.Proofs.YtpbgpeojlfdpoaaGreatDoor.Q

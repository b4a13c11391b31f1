/- Contracts: mails are traced. -/
import Derived.Test.YtaapfgpeeghmeaaGreatDoorScriptMailCc3formatZ
import Derived.Test.YtaapfgpeeghmeaaGreatDoorFnScriptMailK4
namespace Go.Proofs.YtaapfgpeeghmeaaGreatDoor.Q
open Go Go.AM
set_option linter.unusedSimpArgs false
set_option linter.unusedVariables false
set_option linter.unusedSectionVars false
def aek:Bs:=[82,101,99,101,105,118,101,100,58,32,98,121,32]
def M7 (h:Bs) (d:Dt):Bs:=aek++h++[59,32]++agI d
def Z3 (m:l9) (h:Bs) (d:Dt):Bool:=D6 m 1 30&&(aaD d&&(V7 h&&(!decide (m.lines.length=30) && !decide (5<=aaj m.lines))))
def traceM (m:l9) (h:Bs) (d:Dt):l9:=if Z3 m h d=true then ⟨m.from_,m.to,M7 h d::m.lines⟩ else ⟨[],[],[]⟩
theorem auD {d:Dt} (h:aaD d=true):(agI d).length<=3000:=by
 obtain ⟨k,j,dd,hh,mm,ss,q1,q2,q3,q4,q5,q6,q7,q8,q9,q10,q11,q12,q13,q14⟩:=akg h
 have bd:=adC d.y d.mo
 have w0:(wdT d).length<=3:=amg _
 have w1:=aoi (d.mo-1).toNat
 have w2:=O7 d.d.toNat 1
 have w3:=O7 d.y.toNat 4
 have w4:=O7 d.h.toNat 2
 have w5:=O7 d.mi.toNat 2
 have w6:=O7 d.s.toNat 2
 have w7:=O7 (d.z.natAbs / 60) 2
 have w8:=O7 (d.z.natAbs % 60) 2
 have w9:(aiS d.z).length=2:=by unfold aiS; split<;>rfl
 unfold agI
 simp only [List.length_append,List.length_cons,List.length_nil]
 omega
theorem ayR {m:l9} {h:Bs} {d:Dt} (hm:Z7 m) (hl:m.lines.length<=100000) (hh:h.length<=100000):Z7 (traceM m h d)/\(traceM m h d).lines.length<=m.lines.length+1:=by
 unfold traceM
 split
 ·rename_i hb
  unfold Z3 at hb
  simp only [Bool.and_eq_true] at hb
  have:=auD hb.2.1
  refine ⟨⟨hm.1,hm.2.1,⟨by simp; omega,fun s hs=>?_⟩⟩,by simp⟩
  rcases List.mem_cons.1 hs with rfl | hs
  ·unfold M7 aek
   simp only [List.length_append,List.length_cons,List.length_nil]; omega
  ·exact hm.2.2.2 s hs
 ·exact ⟨⟨by simp,⟨by simp,by simp⟩,⟨by simp,by simp⟩⟩,by simp⟩
theorem aAJ {h:Bs} {d:Dt} (hv:aaD d=true) (hh:h.length<=100000):b7 .str .add (.str aek) (.str h)=some (.str (aek++h))/\b7 .str .add (.str (aek++h)) (.str [59,32])=some (.str (aek++h++[59,32]))/\b7 .str .add (.str (aek++h++[59,32])) (.str (agI d))=some (.str (M7 h d)):=by
 have:=auD hv
 refine ⟨D9 _ _ _ (by simp [aek]; omega),D9 _ _ _ (by simp [aek]; omega),D9 _ _ _ (by simp [aek]; omega)⟩
theorem auU (s:Bs) (H:VH):cv Q0 [.sl true [],.int .i64 0,.sl true [[.str s]]] H=some (.y1 H.length 0 1 1,H++[[.str s]]):=by
 show M3 vb _ _ _=_
 rw [afo vb _ _ _ (g:=aiI 1 16) rfl]
 rfl
theorem arn (l:List Bs):Go.AM.Rows 1 (vT l):=fun x hx=>by
 have:=abc l
 simp only [F3,List.all_eq_true] at this
 exact Nat.eq_of_beq_eq_true (this x hx)
theorem avl {l:List Bs} {k:Nat} {H:VH} (s:Bs) (hk:H[k]? = some (vT l).flatten) (hl:l ≠ []) (hll:l.length<=1049600) :
 cv Q0 [.y1 k 0 l.length 1,.int .i64 0,.sl true [[.str s]]] H=some (.y1 H.length 0 (l.length+1) 1,H.set k []++[(vT (s::l)).flatten]):=by
 show M3 vb _ _ _=_
 rw [afo vb _ _ _ (g:=aiI 1 16) rfl]
 have h0:0<l.length:=List.length_pos_iff.2 hl
 have hf:(vT l).flatten.length=l.length*1:=by have:=(arn l).flat; rw [this,aaA]
 simp only [aiI,hk,Option.bind_some]
 rw [if_pos (by first | exact ⟨rfl,h0,hf,by omega,by omega,rfl,by simp; omega⟩ | exact ⟨trivial,h0,hf,by omega,by omega,rfl,by simp; omega⟩)]
 simp only [Int.toNat_zero,Nat.zero_mul,List.take_zero,List.drop_zero,List.nil_append]
 rfl
theorem aww {R:Type} (m:l9) (K:V->VH->Option R) (ht:m.to ≠ []):W8 1 (.agg (cO m)) [] K =
 if m.lines=[] then K (.agg [.str m.from_,.y1 0 0 m.to.length 1,.sl true []]) [(vT m.to).flatten]
 else K (.agg [.str m.from_,.y1 0 0 m.to.length 1,.y1 1 0 m.lines.length 1]) [(vT m.to).flatten,(vT m.lines).flatten]:=by
 have own:∀ l:List Bs,O2 (vT l)=true:=fun l=>by
  induction l with
  | nil=>rfl
  | cons s l ih=>show (N2 [.str s]&&O2 (vT l))=true; rw [ih]; rfl
 have ho:I0 (.agg (cO m))=true:=by
  simp only [X8,I0,N2,own,Bool.true_or,Bool.and_self]
 obtain ⟨f,to,ls⟩:=m
 unfold W8
 rw [ho]
 simp only [X8]
 cases to with
 | nil=>exact absurd rfl ht
 | cons t to =>
   cases ls with
   | nil =>
     simp only [vT,List.map_cons,List.map_nil,prom,W9,ad2,if_true,List.length_nil,List.nil_append,List.length_map,List.length_cons]
   | cons s ls =>
     simp only [vT,List.map_cons,prom,W9,ad2,List.length_nil,List.nil_append,List.length_map,List.length_cons]
     rfl
theorem aCZ (d:Nat) (H:VH) (k off n:Nat):ou (d+1) H (.y1 k off (n+1) 1)=none:=by
 simp only [ou]
 cases H[k]? with
 | none=>rfl
 | some cs=>simp
theorem aos (m:l9) (h:Bs) (d:Dt) (hm:Z7 m) (hl:m.lines.length<=100000) (hh:h.length<=100000) :
 ∃ o,pc T9 [.agg (cM m),.str h,.agg (cD d)]=some (.n9 [.agg o,.bool (Z3 m h d)])/\m8 o=cM (traceM m h d)/\A7 o=true/\o.length=3:=by
 have e1:=aaz m hm
 have e2:=ag0 h (by omega)
 have e3:=ab9 d
 have e4:=ant m hm
 have e5:=amS d
 have e6:=ajW m hm
 have la:=fun hv=>aAJ (h:=h) (d:=d) hv hh
 simp only [K4,L3] at e1 e3 e4 e5 e6
 have hrec:([82,101,99,101,105,118,101,100,58,32,98,121,32]:Bs)=aek:=rfl
 have hnp:C1 [.agg (cM m),.str h,.agg (cD d)]=true:=by simp only [K4,L3,c9]
 have eq:=amT (.agg (cM m)) (.str h) (.agg (cD d)) []
 have dm:∀ (x:V),x = .agg [.str m.from_,.sl false (vT m.to),.sl false (vT m.lines)]->A7 [x]=true:=fun x hx=>by rw [hx]; simp only [c9]
 have dd:A7 [V.agg [.int .i64 d.y,.int .i64 d.mo,.int .i64 d.d,.int .i64 d.h,.int .i64 d.mi,.int .i64 d.s,.int .i64 d.z]]=true:=by simp only [c9]
 have dh:A7 [V.str h]=true:=by simp only [c9]
 have zero:Z3 m h d=false->cv T9 [.agg (cM m),.str h,.agg (cD d)] []=some (.n9 [.agg (cO ⟨[],[],[]⟩),.bool false],[])->∃ o,pc T9 [.agg (cM m),.str h,.agg (cD d)]=some (.n9 [.agg o,.bool (Z3 m h d)])/\m8 o=cM (traceM m h d)/\A7 o=true/\o.length=3:=fun hb he=>by
  refine ⟨cO ⟨[],[],[]⟩,?_,?_,rfl,rfl⟩
  ·rw [hb]; exact Y9 he hnp rfl
  ·unfold traceM; rw [hb]; rfl
 by_cases c1:D6 m 1 30=true
 ·by_cases c3:aaD d=true
  ·by_cases c2:V7 h=true
   ·by_cases c4:m.lines.length=30
    ·refine zero (by unfold Z3; rw [c1,c2,c3,decide_eq_true c4]; rfl) (eq.trans ?_)
     simp only [K4,X8,L3,c9,J5 (dm _ rfl),J5 dd,J5 dh,e1,e2,e3,c1,c2,c3,show ((m.lines.length:Int)=30) from by omega]; try rfl
    ·by_cases c5:5<=aaj m.lines
     ·refine zero (by unfold Z3; rw [c1,c2,c3,decide_eq_false c4,decide_eq_true c5]; rfl) (eq.trans ?_)
      simp only [K4,X8,L3,c9,J5 (dm _ rfl),J5 dd,J5 dh,e1,e2,e3,e4,c1,c2,c3,show ¬ ((m.lines.length:Int)=30) from by omega,show ((aaj m.lines:Nat):Int)>=5 from by omega]; try rfl
     ·have hB:Z3 m h d=true:=by unfold Z3; rw [c1,c2,c3,decide_eq_false c4,decide_eq_false c5]; rfl
      have hM:traceM m h d=⟨m.from_,m.to,M7 h d::m.lines⟩:=by unfold traceM; rw [if_pos hB]
      have hf:axj d=agI d:=by unfold axj; rw [if_pos c3]
      rw [hf] at e5
      obtain ⟨a1,a2,a3⟩:=la c3
      have ht:m.to ≠ []:=fun e=>by
       unfold D6 at c1
       simp only [Bool.and_eq_true,decide_eq_true_eq] at c1
       have:=c1.2.1; rw [e] at this; simp at this
      rw [hB,hM]
      have run:∃ (k:Nat) (H:VH),cv T9 [.agg (cM m),.str h,.agg (cD d)] []=some (.n9 [.agg [.str m.from_,.y1 0 0 m.to.length 1,.y1 k 0 (m.lines.length+1) 1],.bool true],H)/\H[0]? = some (vT m.to).flatten/\H[k]? = some (vT (M7 h d::m.lines)).flatten:=by
       rw [eq,hrec]
       simp only [K4,L3,c9,J5 (dm _ rfl),ap8 (dm _ rfl),J5 dd,J5 dh,e1,e2,e3,e4,e6,c1,c2,c3,show ¬ ((m.lines.length:Int)=30) from by omega,show ¬ ((aaj m.lines:Nat):Int)>=5 from by omega]
       rw [aww m _ ht]
       by_cases hn:m.lines=[]
       ·rw [if_pos hn]
        have i1:=auU (M7 h d) [(vT m.to).flatten]
        simp only [L3,c9,J5 dd,a1,a2,a3,e5,azr,i1,hn]
        refine ⟨1,_,rfl,rfl,?_⟩
        simp [vT]
       ·rw [if_neg hn]
        have i1:=avl (k:=1) (l:=m.lines) (H:=[(vT m.to).flatten,(vT m.lines).flatten]) (M7 h d) rfl hn (by omega)
        simp only [L3,c9,J5 dd,a1,a2,a3,e5,azr,i1]
        exact ⟨2,_,rfl,rfl,rfl⟩
      obtain ⟨k,H,he,h0,hk⟩:=run
      obtain ⟨n,hn⟩:∃ n,m.to.length=n+1:=⟨m.to.length-1,by have:=List.length_pos_iff.2 ht; omega⟩
      have u0:=ae5 h0 (arn _)
      have uk:=ae5 hk (arn _)
      rw [aaA] at u0 uk
      rw [show (M7 h d::m.lines).length=m.lines.length+1 from rfl] at uk
      refine ⟨[.str m.from_,.sl false (n8 (vT m.to)),.sl false (n8 (vT (M7 h d::m.lines)))],aE9 he hnp rfl (v := .n9 [.agg [.str m.from_,.y1 0 0 m.to.length 1,.y1 k 0 (m.lines.length+1) 1],.bool true]) rfl rfl ?_ ?_ ?_,?_,?_,rfl⟩
      ·have:ou 6 H (.n9 [.agg [.str m.from_,.y1 0 0 m.to.length 1,.y1 k 0 (m.lines.length+1) 1],.bool true])=none:=by
        show (ouL (ou 5) H _).bind _=none
        simp only [ouL]
        have:ou 5 H (.agg [.str m.from_,.y1 0 0 m.to.length 1,.y1 k 0 (m.lines.length+1) 1])=none:=by
         show (ouL (ou 4) H _).bind _=none
         simp only [ouL]
         rw [show ou 4 H (.str m.from_)=some (.str m.from_,H) from rfl]
         simp only [Option.bind_some]
         rw [hn,aCZ 3 H 0 0 n]; rfl
        rw [this]; rfl
       unfold ouR
       rw [this]; rfl
      ·simp only [alC,ahr,alo,abi,u0,uk,show ∀ b,aaG H (.bool b)=some (.bool b) from fun _=>rfl,show ∀ b,aaG H (.str b)=some (.str b) from fun _=>rfl,Option.bind_some,Option.map_some]
      ·simp only [c9]
      ·simp only [K4,c9]
      ·simp only [c9]
   ·have c2':V7 h=false:=by simpa using c2
    refine zero (by unfold Z3; rw [c1,c2',c3]; try rfl) (eq.trans ?_)
    simp only [K4,X8,L3,c9,J5 (dm _ rfl),J5 dd,J5 dh,e1,e2,e3,c1,c2',c3]; try rfl
  ·have c3':aaD d=false:=by simpa using c3
   refine zero (by unfold Z3; rw [c1,c3']; rfl) (eq.trans ?_)
   simp only [K4,X8,L3,c9,J5 (dm _ rfl),J5 dd,J5 dh,e1,e2,e3,c1,c3']; try rfl
 ·have c1':D6 m 1 30=false:=by simpa using c1
  refine zero (by unfold Z3; rw [c1']; rfl) (eq.trans ?_)
  simp only [K4,X8,L3,c9,J5 (dm _ rfl),J5 dd,J5 dh,e1,e2,e3,c1']; try rfl
end Go.Proofs.YtaapfgpeeghmeaaGreatDoor.Q

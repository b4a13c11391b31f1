/- Contracts: mails are traced. -/
import Derived.Test.YtaapfgpeeghmeaaGreatDoorScriptTraceCc4datedrawsZ
import Derived.Test.YtaapfgpeeghmeaaGreatDoorFnScriptTraceK4
namespace Go.Proofs.YtaapfgpeeghmeaaGreatDoor.Q
open Go Go.AM
set_option linter.unusedSimpArgs false
set_option linter.unusedVariables false
set_option linter.unusedSectionVars false
def acK:Bs:=[82,101,99,101,105,118,101,100,58,32,98,121,32]
def T7 (h:Bs) (d:Dt):Bs:=acK++h++[59,32]++G3 d
def X3 (m:z7) (h:Bs) (d:Dt):Bool:=L5 m 1 30&&(L0 d&&(afw h&&(!decide (m.lines.length=30) && !decide (5<=adn m.lines))))
def traceM (m:z7) (h:Bs) (d:Dt):z7:=if X3 m h d=true then ⟨m.from_,m.to,T7 h d::m.lines⟩ else ⟨[],[],[]⟩
theorem aqD {d:Dt} (h:L0 d=true):(G3 d).length<=3000:=by
 obtain ⟨k,j,dd,hh,mm,ss,q1,q2,q3,q4,q5,q6,q7,q8,q9,q10,q11,q12,q13,q14⟩:=ach h
 have bd:=S9 d.y d.mo
 have w0:(wdT d).length<=3:=agV _
 have w1:=aiu (d.mo-1).toNat
 have w2:=F5 d.d.toNat 1
 have w3:=F5 d.y.toNat 4
 have w4:=F5 d.h.toNat 2
 have w5:=F5 d.mi.toNat 2
 have w6:=F5 d.s.toNat 2
 have w7:=F5 (d.z.natAbs / 60) 2
 have w8:=F5 (d.z.natAbs % 60) 2
 have w9:(aey d.z).length=2:=by unfold aey; split<;>rfl
 unfold G3
 simp only [List.length_append,List.length_cons,List.length_nil]
 omega
theorem av5 {m:z7} {h:Bs} {d:Dt} (hm:SmM m) (hl:m.lines.length<=100000) (hh:h.length<=100000):SmM (traceM m h d)/\(traceM m h d).lines.length<=m.lines.length+1:=by
 unfold traceM
 split
 ·rename_i hb
  unfold X3 at hb
  simp only [Bool.and_eq_true] at hb
  have:=aqD hb.2.1
  refine ⟨⟨hm.1,hm.2.1,⟨by simp; omega,fun s hs=>?_⟩⟩,by simp⟩
  rcases List.mem_cons.1 hs with rfl | hs
  ·unfold T7 acK
   simp only [List.length_append,List.length_cons,List.length_nil]; omega
  ·exact hm.2.2.2 s hs
 ·exact ⟨⟨by simp,⟨by simp,by simp⟩,⟨by simp,by simp⟩⟩,by simp⟩
theorem ayl {h:Bs} {d:Dt} (hv:L0 d=true) (hh:h.length<=100000):b7 .str .add (.str acK) (.str h)=some (.str (acK++h))/\b7 .str .add (.str (acK++h)) (.str [59,32])=some (.str (acK++h++[59,32]))/\b7 .str .add (.str (acK++h++[59,32])) (.str (G3 d))=some (.str (T7 h d)):=by
 have:=aqD hv
 refine ⟨N2 _ _ _ (by simp [acK]; omega),N2 _ _ _ (by simp [acK]; omega),N2 _ _ _ (by simp [acK]; omega)⟩
theorem asw (s:Bs) (H:VH):cv P3 [.sl true [],.int .i64 0,.sl true [[.str s]]] H=some (.l8 H.length 0 1 1,H++[[.str s]]):=by
 show M8 vb _ _ _=_
 rw [afW vb _ _ _ (g:=ame 1 16) rfl]
 rfl
theorem aop (l:List Bs):Go.AM.Rows 1 (vT l):=fun x hx=>by
 have:=ahJ l
 simp only [F4,List.all_eq_true] at this
 exact Nat.eq_of_beq_eq_true (this x hx)
theorem asG {l:List Bs} {k:Nat} {H:VH} (s:Bs) (hk:H[k]? = some (vT l).flatten) (hl:l ≠ []) (hll:l.length<=1049600) :
 cv P3 [.l8 k 0 l.length 1,.int .i64 0,.sl true [[.str s]]] H=some (.l8 H.length 0 (l.length+1) 1,H.set k []++[(vT (s::l)).flatten]):=by
 show M8 vb _ _ _=_
 rw [afW vb _ _ _ (g:=ame 1 16) rfl]
 have h0:0<l.length:=List.length_pos_iff.2 hl
 have hf:(vT l).flatten.length=l.length*1:=by have:=(aop l).flat; rw [this,agI]
 simp only [ame,hk,Option.bind_some]
 rw [if_pos (by first | exact ⟨rfl,h0,hf,by omega,by omega,rfl,by simp; omega⟩ | exact ⟨trivial,h0,hf,by omega,by omega,rfl,by simp; omega⟩)]
 simp only [Int.toNat_zero,Nat.zero_mul,List.take_zero,List.drop_zero,List.nil_append]
 rfl
theorem aup {R:Type} (m:z7) (K:V->VH->Option R) (ht:m.to ≠ []):Z0 1 (.agg (cO m)) [] K =
 if m.lines=[] then K (.agg [.str m.from_,.l8 0 0 m.to.length 1,.sl true []]) [(vT m.to).flatten]
 else K (.agg [.str m.from_,.l8 0 0 m.to.length 1,.l8 1 0 m.lines.length 1]) [(vT m.to).flatten,(vT m.lines).flatten]:=by
 have own:∀ l:List Bs,N9 (vT l)=true:=fun l=>by
  induction l with
  | nil=>rfl
  | cons s l ih=>show (M9 [.str s]&&N9 (vT l))=true; rw [ih]; rfl
 have ho:I0 (.agg (cO m))=true:=by
  simp only [adq,I0,M9,own,Bool.true_or,Bool.and_self]
 obtain ⟨f,to,ls⟩:=m
 unfold Z0
 rw [ho]
 simp only [adq]
 cases to with
 | nil=>exact absurd rfl ht
 | cons t to =>
   cases ls with
   | nil =>
     simp only [vT,List.map_cons,List.map_nil,prom,U8,ade,if_true,List.length_nil,List.nil_append,List.length_map,List.length_cons]
   | cons s ls =>
     simp only [vT,List.map_cons,prom,U8,ade,List.length_nil,List.nil_append,List.length_map,List.length_cons]
     rfl
theorem aBq (d:Nat) (H:VH) (k off n:Nat):ou (d+1) H (.l8 k off (n+1) 1)=none:=by
 simp only [ou]
 cases H[k]? with
 | none=>rfl
 | some cs=>simp
theorem alM (m:z7) (h:Bs) (d:Dt) (hm:SmM m) (hl:m.lines.length<=100000) (hh:h.length<=100000) :
 ∃ o,pc T0 [.agg (cM m),.str h,.agg (cD d)]=some (.A4 [.agg o,.bool (X3 m h d)])/\o9 o=cM (traceM m h d)/\B3 o=true/\o.length=3:=by
 have e1:=adC m hm
 have e2:=ani h (by omega)
 have e3:=aag d
 have e4:=ar8 m hm
 have e5:=acZ d
 have e6:=am6 m hm
 have la:=fun hv=>ayl (h:=h) (d:=d) hv hh
 simp only [P7,C4] at e1 e3 e4 e5 e6
 have hrec:([82,101,99,101,105,118,101,100,58,32,98,121,32]:Bs)=acK:=rfl
 have hnp:C1 [.agg (cM m),.str h,.agg (cD d)]=true:=by simp only [P7,C4,j3]
 have eq:=ak0 (.agg (cM m)) (.str h) (.agg (cD d)) []
 have dm:∀ (x:V),x = .agg [.str m.from_,.sl false (vT m.to),.sl false (vT m.lines)]->B3 [x]=true:=fun x hx=>by rw [hx]; simp only [j3]
 have dd:B3 [V.agg [.int .i64 d.y,.int .i64 d.mo,.int .i64 d.d,.int .i64 d.h,.int .i64 d.mi,.int .i64 d.s,.int .i64 d.z]]=true:=by simp only [j3]
 have dh:B3 [V.str h]=true:=by simp only [j3]
 have zero:X3 m h d=false->cv T0 [.agg (cM m),.str h,.agg (cD d)] []=some (.A4 [.agg (cO ⟨[],[],[]⟩),.bool false],[])->∃ o,pc T0 [.agg (cM m),.str h,.agg (cD d)]=some (.A4 [.agg o,.bool (X3 m h d)])/\o9 o=cM (traceM m h d)/\B3 o=true/\o.length=3:=fun hb he=>by
  refine ⟨cO ⟨[],[],[]⟩,?_,?_,rfl,rfl⟩
  ·rw [hb]; exact abJ he hnp rfl
  ·unfold traceM; rw [hb]; rfl
 by_cases c1:L5 m 1 30=true
 ·by_cases c3:L0 d=true
  ·by_cases c2:afw h=true
   ·by_cases c4:m.lines.length=30
    ·refine zero (by unfold X3; rw [c1,c2,c3,decide_eq_true c4]; rfl) (eq.trans ?_)
     simp only [P7,adq,C4,j3,N0 (dm _ rfl),N0 dd,N0 dh,e1,e2,e3,c1,c2,c3,show ((m.lines.length:Int)=30) from by omega]; try rfl
    ·by_cases c5:5<=adn m.lines
     ·refine zero (by unfold X3; rw [c1,c2,c3,decide_eq_false c4,decide_eq_true c5]; rfl) (eq.trans ?_)
      simp only [P7,adq,C4,j3,N0 (dm _ rfl),N0 dd,N0 dh,e1,e2,e3,e4,c1,c2,c3,show ¬ ((m.lines.length:Int)=30) from by omega,show ((adn m.lines:Nat):Int)>=5 from by omega]; try rfl
     ·have hB:X3 m h d=true:=by unfold X3; rw [c1,c2,c3,decide_eq_false c4,decide_eq_false c5]; rfl
      have hM:traceM m h d=⟨m.from_,m.to,T7 h d::m.lines⟩:=by unfold traceM; rw [if_pos hB]
      have hf:afp d=G3 d:=by unfold afp; rw [if_pos c3]
      rw [hf] at e5
      obtain ⟨a1,a2,a3⟩:=la c3
      have ht:m.to ≠ []:=fun e=>by
       unfold L5 at c1
       simp only [Bool.and_eq_true,decide_eq_true_eq] at c1
       have:=c1.2.1; rw [e] at this; simp at this
      rw [hB,hM]
      have run:∃ (k:Nat) (H:VH),cv T0 [.agg (cM m),.str h,.agg (cD d)] []=some (.A4 [.agg [.str m.from_,.l8 0 0 m.to.length 1,.l8 k 0 (m.lines.length+1) 1],.bool true],H)/\H[0]? = some (vT m.to).flatten/\H[k]? = some (vT (T7 h d::m.lines)).flatten:=by
       rw [eq,hrec]
       simp only [P7,C4,j3,N0 (dm _ rfl),ap0 (dm _ rfl),N0 dd,N0 dh,e1,e2,e3,e4,e6,c1,c2,c3,show ¬ ((m.lines.length:Int)=30) from by omega,show ¬ ((adn m.lines:Nat):Int)>=5 from by omega]
       rw [aup m _ ht]
       by_cases hn:m.lines=[]
       ·rw [if_pos hn]
        have i1:=asw (T7 h d) [(vT m.to).flatten]
        simp only [C4,j3,N0 dd,a1,a2,a3,e5,au8,i1,hn]
        refine ⟨1,_,rfl,rfl,?_⟩
        simp [vT]
       ·rw [if_neg hn]
        have i1:=asG (k:=1) (l:=m.lines) (H:=[(vT m.to).flatten,(vT m.lines).flatten]) (T7 h d) rfl hn (by omega)
        simp only [C4,j3,N0 dd,a1,a2,a3,e5,au8,i1]
        exact ⟨2,_,rfl,rfl,rfl⟩
      obtain ⟨k,H,he,h0,hk⟩:=run
      obtain ⟨n,hn⟩:∃ n,m.to.length=n+1:=⟨m.to.length-1,by have:=List.length_pos_iff.2 ht; omega⟩
      have u0:=afX h0 (aop _)
      have uk:=afX hk (aop _)
      rw [agI] at u0 uk
      rw [show (T7 h d::m.lines).length=m.lines.length+1 from rfl] at uk
      refine ⟨[.str m.from_,.sl false (n9 (vT m.to)),.sl false (n9 (vT (T7 h d::m.lines)))],aCw he hnp rfl (v := .A4 [.agg [.str m.from_,.l8 0 0 m.to.length 1,.l8 k 0 (m.lines.length+1) 1],.bool true]) rfl rfl ?_ ?_ ?_,?_,?_,rfl⟩
      ·have:ou 6 H (.A4 [.agg [.str m.from_,.l8 0 0 m.to.length 1,.l8 k 0 (m.lines.length+1) 1],.bool true])=none:=by
        show (ouL (ou 5) H _).bind _=none
        simp only [ouL]
        have:ou 5 H (.agg [.str m.from_,.l8 0 0 m.to.length 1,.l8 k 0 (m.lines.length+1) 1])=none:=by
         show (ouL (ou 4) H _).bind _=none
         simp only [ouL]
         rw [show ou 4 H (.str m.from_)=some (.str m.from_,H) from rfl]
         simp only [Option.bind_some]
         rw [hn,aBq 3 H 0 0 n]; rfl
        rw [this]; rfl
       unfold ouR
       rw [this]; rfl
      ·simp only [akp,agO,ajJ,abj,u0,uk,show ∀ b,aaR H (.bool b)=some (.bool b) from fun _=>rfl,show ∀ b,aaR H (.str b)=some (.str b) from fun _=>rfl,Option.bind_some,Option.map_some]
      ·simp only [j3]
      ·simp only [P7,j3]
      ·simp only [j3]
   ·have c2':afw h=false:=by simpa using c2
    refine zero (by unfold X3; rw [c1,c2',c3]; try rfl) (eq.trans ?_)
    simp only [P7,adq,C4,j3,N0 (dm _ rfl),N0 dd,N0 dh,e1,e2,e3,c1,c2',c3]; try rfl
  ·have c3':L0 d=false:=by simpa using c3
   refine zero (by unfold X3; rw [c1,c3']; rfl) (eq.trans ?_)
   simp only [P7,adq,C4,j3,N0 (dm _ rfl),N0 dd,N0 dh,e1,e2,e3,c1,c3']; try rfl
 ·have c1':L5 m 1 30=false:=by simpa using c1
  refine zero (by unfold X3; rw [c1']; rfl) (eq.trans ?_)
  simp only [P7,adq,C4,j3,N0 (dm _ rfl),N0 dd,N0 dh,e1,e2,e3,c1']; try rfl
end Go.Proofs.YtaapfgpeeghmeaaGreatDoor.Q

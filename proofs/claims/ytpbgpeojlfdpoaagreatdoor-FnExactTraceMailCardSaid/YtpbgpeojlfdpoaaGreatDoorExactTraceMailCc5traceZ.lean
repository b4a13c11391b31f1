/- Contracts: mails are traced. -/
import Derived.Test.YtpbgpeojlfdpoaaGreatDoorExactTraceMailCc3formatZ
import Derived.Test.YtpbgpeojlfdpoaaGreatDoorFnExactTraceMailK4
namespace Go.Proofs.YtpbgpeojlfdpoaaGreatDoor.Q
open Go Go.AM
set_option linter.unusedSimpArgs false
set_option linter.unusedVariables false
set_option linter.unusedSectionVars false
def ab8:Bs:=[82,101,99,101,105,118,101,100,58,32,98,121,32]
def T2 (h:Bs) (d:Dt):Bs:=ab8++h++[59,32]++afg d
def C6 (m:s8) (h:Bs) (d:Dt):Bool:=U8 m 1 30&&(L7 d&&(U2 h&&(!decide (m.lines.length=30) && !decide (5<=N4 m.lines))))
def traceM (m:s8) (h:Bs) (d:Dt):s8:=if C6 m h d=true then ⟨m.from_,m.to,T2 h d::m.lines⟩ else ⟨[],[],[]⟩
theorem aos {d:Dt} (h:L7 d=true):(afg d).length<=3000:=by
 obtain ⟨k,j,dd,hh,mm,ss,q1,q2,q3,q4,q5,q6,q7,q8,q9,q10,q11,q12,q13,q14⟩:=aeY h
 have bd:=aaJ d.y d.mo
 have w0:(wdT d).length<=3:=aiq _
 have w1:=akb (d.mo-1).toNat
 have w2:=D5 d.d.toNat 1
 have w3:=D5 d.y.toNat 4
 have w4:=D5 d.h.toNat 2
 have w5:=D5 d.mi.toNat 2
 have w6:=D5 d.s.toNat 2
 have w7:=D5 (d.z.natAbs / 60) 2
 have w8:=D5 (d.z.natAbs % 60) 2
 have w9:(ajY d.z).length=2:=by unfold ajY; split<;>rfl
 unfold afg
 simp only [List.length_append,List.length_cons,List.length_nil]
 omega
theorem atb {m:s8} {h:Bs} {d:Dt} (hm:SmM m) (hl:m.lines.length<=1049600) (hh:h.length<=1049600):SmM (traceM m h d)/\(traceM m h d).lines.length<=m.lines.length+1:=by
 unfold traceM
 split
 ·rename_i hb
  unfold C6 at hb
  simp only [Bool.and_eq_true] at hb
  have:=aos hb.2.1
  have h30:m.lines.length<=30:=by
   have q:=hb.1
   unfold U8 at q
   simp only [Bool.and_eq_true,decide_eq_true_eq] at q
   have:=q.2.2.2.2.1; omega
  have h40:h.length<=40:=by
   have q:=hb.2.2.1
   unfold U2 at q
   simp only [Bool.and_eq_true,decide_eq_true_eq] at q
   exact q.1
  refine ⟨⟨hm.1,hm.2.1,⟨by simp; omega,fun s hs=>?_⟩⟩,by simp⟩
  rcases List.mem_cons.1 hs with rfl | hs
  ·unfold T2 ab8
   simp only [List.length_append,List.length_cons,List.length_nil]; omega
  ·exact hm.2.2.2 s hs
 ·exact ⟨⟨by simp,⟨by simp,by simp⟩,⟨by simp,by simp⟩⟩,by simp⟩
theorem apm {h:Bs} {d:Dt} (hv:L7 d=true) (hh:h.length<=1049600):b9 .str .add (.str ab8) (.str h)=some (.str (ab8++h))/\b9 .str .add (.str (ab8++h)) (.str [59,32])=some (.str (ab8++h++[59,32]))/\b9 .str .add (.str (ab8++h++[59,32])) (.str (afg d))=some (.str (T2 h d)):=by
 have:=aos hv
 refine ⟨aal _ _ _ (by simp [ab8]; omega),aal _ _ _ (by simp [ab8]; omega),aal _ _ _ (by simp [ab8]; omega)⟩
theorem akq (m:s8) (h:Bs) (d:Dt) (hm:SmM m) (hl:m.lines.length<=1049600) (hh:h.length<=1049600) (hT:U8 m 1 30=true->pc aaW [.agg (cM m)]=some (.agg (cO m))) :
 pc W4 [.agg (cM m),.str h,.agg (cD d)]=some (.A5 [.agg (cO (traceM m h d)),.bool (C6 m h d)]):=by
 have e1:=akJ m hm
 have e2:=akV h (by omega)
 have e3:=aci d
 have e4:=asc m.lines hm.2.2
 have e5:=ajk d
 have la:=fun hv=>apm (h:=h) (d:=d) hv hh
 have e6:Q9 false 1 16 [[.str (T2 h d)]] (.sl false (vT m.lines))=some (.sl true (vT ([T2 h d]++m.lines))):=by
  have:=akS 1 16 (vT [T2 h d]) false (vT m.lines) (aaY _) (aaY _) (by rw [U9,U9]; simp; omega)
  rw [alQ] at this
  exact this
 simp only [J0,y9] at e1 e3 e5 hT
 have hrec:([82,101,99,101,105,118,101,100,58,32,98,121,32]:Bs)=ab8:=rfl
 refine ahi (H:=[]) ?_ (by simp only [J0,y9,g9]) (by simp only [Z0,g9])
 show cv _ _ _=_
 rw [ajo,hrec]
 have hz:C6 m h d=false->traceM m h d=⟨[],[],[]⟩:=fun hb=>by unfold traceM; rw [hb]; rfl
 by_cases c1:U8 m 1 30=true
 ·by_cases c2:U2 h=true
  ·by_cases c3:L7 d=true
   ·by_cases c4:m.lines.length=30
    ·have hB:C6 m h d=false:=by unfold C6; rw [c1,c2,c3,decide_eq_true c4]; rfl
     rw [hz hB,hB]
     simp only [J0,Z0,y9,g9,e1,e2,e3,c1,c2,c3,show ((m.lines.length:Int)=30) from by omega]
     try rfl
    ·by_cases c5:5<=N4 m.lines
     ·have hB:C6 m h d=false:=by unfold C6; rw [c1,c2,c3,decide_eq_false c4,decide_eq_true c5]; rfl
      rw [hz hB,hB]
      simp only [J0,Z0,y9,g9,e1,e2,e3,e4,c1,c2,c3,show ¬ ((m.lines.length:Int)=30) from by omega,show ((N4 m.lines:Nat):Int)>=5 from by omega]
      try rfl
     ·have hB:C6 m h d=true:=by unfold C6; rw [c1,c2,c3,decide_eq_false c4,decide_eq_false c5]; rfl
      have hM:traceM m h d=⟨m.from_,m.to,T2 h d::m.lines⟩:=by unfold traceM; rw [if_pos hB]
      have hf:ah2 d=afg d:=by unfold ah2; rw [if_pos c3]
      rw [hf] at e5
      obtain ⟨a1,a2,a3⟩:=la c3
      rw [hB,hM]
      simp only [J0,Z0,y9,g9,e1,e2,e3,e4,hT c1,c1,c2,c3,show ¬ ((m.lines.length:Int)=30) from by omega,show ¬ ((N4 m.lines:Nat):Int)>=5 from by omega,a1,a2,a3,e5,e6,an4,auR]
      try rfl
   ·have c3':L7 d=false:=by simpa using c3
    have hB:C6 m h d=false:=by unfold C6; rw [c1,c3']; rfl
    rw [hz hB,hB]
    simp only [J0,Z0,y9,g9,e1,e2,e3,c1,c2,c3']
    try rfl
  ·have c2':U2 h=false:=by simpa using c2
   have hB:C6 m h d=false:=by unfold C6; rw [c1,c2',Bool.false_and,Bool.and_false]; rfl
   rw [hz hB,hB]
   simp only [J0,Z0,y9,g9,e1,e2,c1,c2']
   try rfl
 ·have c1':U8 m 1 30=false:=by simpa using c1
  have hB:C6 m h d=false:=by unfold C6; rw [c1']; rfl
  rw [hz hB,hB]
  simp only [J0,Z0,y9,g9,e1,c1']
  try rfl
theorem ap9 (s:Bs) (H:VH):cv J6 [.sl true [],.int .i64 0,.sl true [[.str s]]] H=some (.o9 H.length 0 1 1,H++[[.str s]]):=by
 show K8 vb _ _ _=_
 rw [alL vb _ _ _ (g:=amn 1 16) rfl]
 rfl
theorem aqc {l:List Bs} {k:Nat} {H:VH} (s:Bs) (hk:H[k]? = some (vT l).flatten) (hl:l ≠ []) (hll:l.length<=1049600) :
 cv J6 [.o9 k 0 l.length 1,.int .i64 0,.sl true [[.str s]]] H=some (.o9 H.length 0 (l.length+1) 1,H.set k []++[(vT (s::l)).flatten]):=by
 show K8 vb _ _ _=_
 rw [alL vb _ _ _ (g:=amn 1 16) rfl]
 have h0:0<l.length:=List.length_pos_iff.2 hl
 have hf:(vT l).flatten.length=l.length*1:=by have:=(aqS l).flat; rw [this,U9]
 simp only [amn,hk,Option.bind_some]
 rw [if_pos (by first | exact ⟨rfl,h0,hf,by omega,by omega,rfl,by simp; omega⟩ | exact ⟨trivial,h0,hf,by omega,by omega,rfl,by simp; omega⟩)]
 simp only [Int.toNat_zero,Nat.zero_mul,List.take_zero,List.drop_zero,List.nil_append]
 rfl
theorem apW {R:Type} (m:s8) (K:V->VH->Option R) (ht:m.to ≠ []):adS 1 (.agg (cO m)) [] K =
 if m.lines=[] then K (.agg [.str m.from_,.o9 0 0 m.to.length 1,.sl true []]) [(vT m.to).flatten]
 else K (.agg [.str m.from_,.o9 0 0 m.to.length 1,.o9 1 0 m.lines.length 1]) [(vT m.to).flatten,(vT m.lines).flatten]:=by
 have own:∀ l:List Bs,ab5 (vT l)=true:=fun l=>by
  induction l with
  | nil=>rfl
  | cons s l ih=>show (abB [.str s]&&ab5 (vT l))=true; rw [ih]; rfl
 have ho:H4 (.agg (cO m))=true:=by
  simp only [Z0,H4,abB,own,Bool.true_or,Bool.and_self]
 obtain ⟨f,to,ls⟩:=m
 unfold adS
 rw [ho]
 simp only [Z0]
 cases to with
 | nil=>exact absurd rfl ht
 | cons t to =>
   cases ls with
   | nil =>
     simp only [vT,List.map_cons,List.map_nil,prom,T5,afY,if_true,List.length_nil,List.nil_append,List.length_map,List.length_cons]
   | cons s ls =>
     simp only [vT,List.map_cons,prom,T5,afY,List.length_nil,List.nil_append,List.length_map,List.length_cons]
     rfl
theorem akg (m:s8) (h:Bs) (d:Dt) (hm:SmM m) (hl:m.lines.length<=1049600) (hh:h.length<=1049600) :
 (C6 m h d=false->cv D8 [.agg (cM m),.str h,.agg (cD d)] []=some (.A5 [.agg (cO ⟨[],[],[]⟩),.bool false],[])) ∧
 (C6 m h d=true->m.to ≠ []/\∃ (k:Nat) (H:VH),k ≠ 0/\cv D8 [.agg (cM m),.str h,.agg (cD d)] []=some (.A5 [.agg [.str m.from_,.o9 0 0 m.to.length 1,.o9 k 0 (m.lines.length+1) 1],.bool true],H)/\H[0]? = some (vT m.to).flatten/\H[k]? = some (vT (T2 h d::m.lines)).flatten):=by
 have e1:=akm m hm
 have e2:=alO h (by omega)
 have e3:=acs d
 have e4:=aqe m hm
 have e5:=ai8 d
 have e6:=ard m hm
 have la:=fun hv=>apm (h:=h) (d:=d) hv hh
 simp only [J0,y9] at e1 e3 e4 e5 e6
 have hrec:([82,101,99,101,105,118,101,100,58,32,98,121,32]:Bs)=ab8:=rfl
 have eq:=aja (.agg (cM m)) (.str h) (.agg (cD d)) []
 have dm:∀ (x:V),x = .agg [.str m.from_,.sl false (vT m.to),.sl false (vT m.lines)]->s7 [x]=true:=fun x hx=>by rw [hx]; simp only [g9]
 have dd:s7 [V.agg [.int .i64 d.y,.int .i64 d.mo,.int .i64 d.d,.int .i64 d.h,.int .i64 d.mi,.int .i64 d.s,.int .i64 d.z]]=true:=by simp only [g9]
 have dh:s7 [V.str h]=true:=by simp only [g9]
 have zero:∀ {P:Prop},C6 m h d=false->cv D8 [.agg (cM m),.str h,.agg (cD d)] []=some (.A5 [.agg (cO ⟨[],[],[]⟩),.bool false],[]) →
  (C6 m h d=false->cv D8 [.agg (cM m),.str h,.agg (cD d)] []=some (.A5 [.agg (cO ⟨[],[],[]⟩),.bool false],[]))/\(C6 m h d=true->P) :=
  fun hb he=>And.intro (fun _=>he) (fun hB=>by rw [hb] at hB; cases hB)
 by_cases c1:U8 m 1 30=true
 ·by_cases c3:L7 d=true
  ·by_cases c2:U2 h=true
   ·by_cases c4:m.lines.length=30
    ·refine zero (by unfold C6; rw [c1,c2,c3,decide_eq_true c4]; rfl) (eq.trans ?_)
     simp only [J0,Z0,y9,g9,O5 (dm _ rfl),O5 dd,O5 dh,e1,e2,e3,c1,c2,c3,show ((m.lines.length:Int)=30) from by omega]; try rfl
    ·by_cases c5:5<=N4 m.lines
     ·refine zero (by unfold C6; rw [c1,c2,c3,decide_eq_false c4,decide_eq_true c5]; rfl) (eq.trans ?_)
      simp only [J0,Z0,y9,g9,O5 (dm _ rfl),O5 dd,O5 dh,e1,e2,e3,e4,c1,c2,c3,show ¬ ((m.lines.length:Int)=30) from by omega,show ((N4 m.lines:Nat):Int)>=5 from by omega]; try rfl
     ·have hB:C6 m h d=true:=by unfold C6; rw [c1,c2,c3,decide_eq_false c4,decide_eq_false c5]; rfl
      have hf:ah2 d=afg d:=by unfold ah2; rw [if_pos c3]
      rw [hf] at e5
      obtain ⟨a1,a2,a3⟩:=la c3
      have ht:m.to ≠ []:=fun e=>by
       unfold U8 at c1
       simp only [Bool.and_eq_true,decide_eq_true_eq] at c1
       have:=c1.2.1; rw [e] at this; simp at this
      refine ⟨fun hf=>(by rw [hB] at hf; cases hf),fun _=>⟨ht,?_⟩⟩
      rw [eq,hrec]
      simp only [J0,y9,g9,O5 (dm _ rfl),ay3 (dm _ rfl),O5 dd,O5 dh,e1,e2,e3,e4,e6,c1,c2,c3,show ¬ ((m.lines.length:Int)=30) from by omega,show ¬ ((N4 m.lines:Nat):Int)>=5 from by omega]
      rw [apW m _ ht]
      by_cases hn:m.lines=[]
      ·rw [if_pos hn]
       have i1:=ap9 (T2 h d) [(vT m.to).flatten]
       simp only [y9,g9,O5 dd,a1,a2,a3,e5,an4,i1,hn]
       refine ⟨1,_,by omega,rfl,rfl,?_⟩
       simp [vT]
      ·rw [if_neg hn]
       have i1:=aqc (k:=1) (l:=m.lines) (H:=[(vT m.to).flatten,(vT m.lines).flatten]) (T2 h d) rfl hn (by omega)
       simp only [y9,g9,O5 dd,a1,a2,a3,e5,an4,i1]
       exact ⟨2,_,by omega,rfl,rfl,rfl⟩
   ·have c2':U2 h=false:=by simpa using c2
    refine zero (by unfold C6; rw [c1,c2',c3]; try rfl) (eq.trans ?_)
    simp only [J0,Z0,y9,g9,O5 (dm _ rfl),O5 dd,O5 dh,e1,e2,e3,c1,c2',c3]; try rfl
  ·have c3':L7 d=false:=by simpa using c3
   refine zero (by unfold C6; rw [c1,c3']; rfl) (eq.trans ?_)
   simp only [J0,Z0,y9,g9,O5 (dm _ rfl),O5 dd,O5 dh,e1,e2,e3,c1,c3']; try rfl
 ·have c1':U8 m 1 30=false:=by simpa using c1
  refine zero (by unfold C6; rw [c1']; rfl) (eq.trans ?_)
  simp only [J0,Z0,y9,g9,O5 (dm _ rfl),O5 dd,O5 dh,e1,e2,e3,c1']; try rfl
end Go.Proofs.YtpbgpeojlfdpoaaGreatDoor.Q

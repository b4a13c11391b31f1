/- Contracts: a mail for each domain. -/
import Derived.Test.YtpbgpeojlfdpoaaDoorExactSplitMailC97boxlawsZ
namespace Go.Proofs.YtpbgpeojlfdpoaaDoor.Q
open Go Go.AM
set_option linter.unusedSimpArgs false
set_option linter.unusedVariables false
set_option linter.unusedSectionVars false
def E6 (t:Bs):Bs:=R1 64 t
def H5 (tos:List Bs):List Bs:=F6 [] (tos.map E6)
def G0 (m:j0) (tos:List Bs) (d:Bs):j0:=⟨m.from_,tos.filter (fun t=>decide (E6 t=d)),m.lines⟩
def w8 (m:j0) (tos:List Bs):List j0:=(H5 tos).map (G0 m tos)
def aae (m:j0):List j0:=if F4 m 1 30=true then w8 m (P5 m).to else []
theorem akA:∀ {l acc:List Bs} {t:Bs},F6 acc (l++[t])=if t ∈ F6 acc l then F6 acc l else F6 acc l++[t]
 | [],acc,t=>by simp only [List.nil_append,F6]; rfl
 | x::l,acc,t=>by
   simp only [List.cons_append,F6]
   exact akA
theorem afR (tos:List Bs) (t:Bs):H5 (tos++[t])=if E6 t ∈ H5 tos then H5 tos else H5 tos++[E6 t]:=by
 unfold H5
 rw [List.map_append]
 exact akA
theorem apw {tos:List Bs} {d:Bs}:d ∈ H5 tos<->∃ t ∈ tos,E6 t=d:=by
 unfold H5
 rw [ac5]
 simp [List.mem_map]
theorem arj (tos:List Bs):(H5 tos).Nodup:=aiC (by simp)
theorem af8 (m:j0) (tos:List Bs) (t d:Bs):G0 m (tos++[t]) d=if E6 t=d then ⟨m.from_,(G0 m tos d).to++[t],m.lines⟩ else G0 m tos d:=by
 unfold G0
 rw [List.filter_append]
 by_cases h:E6 t=d
 ·simp [h]
 ·simp [h]
def H8 (t:Bs) (x:j0):Bool:=decide (E6 (x.to.headD [])=E6 t)
theorem afX {m:j0} {tos:List Bs} {d:Bs} (h:d ∈ H5 tos):(G0 m tos d).to ≠ []/\E6 ((G0 m tos d).to.headD [])=d:=by
 obtain ⟨t,ht,hd⟩:=apw.1 h
 have hm:t ∈ (G0 m tos d).to:=by unfold G0; simp [ht,hd]
 have hne:(G0 m tos d).to ≠ []:=fun e=>by rw [e] at hm; simp at hm
 refine ⟨hne,?_⟩
 cases hg:(G0 m tos d).to with
 | nil=>exact absurd hg hne
 | cons a l =>
   have:a ∈ (G0 m tos d).to:=by rw [hg]; simp
   unfold G0 at this
   simp at this
   exact this.2
theorem apC (m:j0) (tos:List Bs) (t:Bs):(w8 m tos).any (H8 t)=decide (E6 t ∈ H5 tos):=by
 unfold w8
 rw [Bool.eq_iff_iff,List.any_eq_true,decide_eq_true_eq]
 constructor
 ·rintro ⟨x,hx,hs⟩
  obtain ⟨d,hd,rfl⟩:=List.mem_map.1 hx
  have:=(afX (m:=m) hd).2
  unfold H8 at hs
  rw [this,decide_eq_true_eq] at hs
  rw [<-hs]; exact hd
 ·intro h
  refine ⟨_,List.mem_map.2 ⟨_,h,rfl⟩,?_⟩
  unfold H8
  rw [(afX (m:=m) h).2]; simp
theorem avw {m:j0} {tos:List Bs} {t:Bs} (h:E6 t ∈ H5 tos):∃ hx:(w8 m tos).findIdx (H8 t)<(w8 m tos).length,
 w8 m (tos++[t])=(w8 m tos).set ((w8 m tos).findIdx (H8 t)) ⟨m.from_,(w8 m tos)[(w8 m tos).findIdx (H8 t)].to++[t],m.lines⟩/\(w8 m tos)[(w8 m tos).findIdx (H8 t)].from_=m.from_/\(w8 m tos)[(w8 m tos).findIdx (H8 t)].lines=m.lines:=by
 have ha:(w8 m tos).any (H8 t)=true:=by rw [apC]; simpa using h
 have hx:(w8 m tos).findIdx (H8 t)<(w8 m tos).length:=List.findIdx_lt_length_of_exists (by rw [List.any_eq_true] at ha; exact ha)
 have hp:=List.findIdx_getElem (w:=hx)
 refine ⟨hx,?_,?_,?_⟩
 ·generalize hi:(w8 m tos).findIdx (H8 t)=i at *
  have hds:H5 (tos++[t])=H5 tos:=by rw [afR,if_pos h]
  have hil:i<(H5 tos).length:=by simpa [w8] using hx
  have hdi:(H5 tos)[i]=E6 t:=by
   have:(w8 m tos)[i]=G0 m tos (H5 tos)[i]:=by simp [w8]
   rw [this] at hp
   unfold H8 at hp
   rw [(afX (List.getElem_mem hil)).2,decide_eq_true_eq] at hp
   exact hp
  apply List.ext_getElem
  ·simp [w8,hds]
  ·intro j h1 h2
   have hj:j<(H5 tos).length:=by simpa [w8,hds] using h1
   have e1:(w8 m (tos++[t]))[j]=G0 m (tos++[t]) (H5 tos)[j]:=by simp [w8,hds]
   rw [e1,af8]
   by_cases hji:j=i
   ·subst hji
    rw [List.getElem_set_self,if_pos hdi.symm]
    simp [w8,G0]
   ·rw [List.getElem_set_ne (by omega)]
    have hne:¬ E6 t=(H5 tos)[j]:=fun e=>by
     rw [<-hdi] at e
     exact hji ((List.getElem_inj (arj tos)).1 e).symm
    rw [if_neg hne]
    simp [w8]
 ·simp [w8,G0]
 ·simp [w8,G0]
theorem avm {m:j0} {tos:List Bs} {t:Bs} (h:E6 t ∉ H5 tos):w8 m (tos++[t])=w8 m tos++[⟨m.from_,[t],m.lines⟩]:=by
 have hds:H5 (tos++[t])=H5 tos++[E6 t]:=by rw [afR,if_neg h]
 unfold w8
 rw [hds,List.map_append]
 congr 1
 ·apply List.map_congr_left
  intro d hd
  rw [af8,if_neg (fun e=>h (by rw [e]; exact hd))]
 ·simp only [List.map_cons,List.map_nil]
  rw [af8,if_pos rfl]
  have:(G0 m tos (E6 t)).to=[]:=by
   cases hg:(G0 m tos (E6 t)).to with
   | nil=>rfl
   | cons a l =>
     have hm:a ∈ (G0 m tos (E6 t)).to:=by rw [hg]; simp
     unfold G0 at hm
     simp at hm
     exact absurd (apw.2 ⟨a,hm.1,hm.2⟩) h
  rw [this]; rfl
theorem acI (l:List j0):Go.AM.Rows 3 (vO l):=fun x hx=>by
 obtain ⟨b,_,rfl⟩:=List.mem_map.1 hx
 rfl
theorem ar8 (l:List j0) (i:Nat) (h:i<l.length):(vO l)[i]? = some (cO l[i]):=by simp [vO,List.getElem?_eq_getElem h]
def HoM (v:V) (H:VH) (l:List j0):Prop:=(l=[]/\v = .sl true [])\/(l ≠ []/\∃ k,v = .m8 k 0 l.length 3/\H[k]? = some (vO l).flatten)
theorem HoM.ne {v:V} {H:VH} {l:List j0} (h:HoM v H l) (hne:l ≠ []):∃ k,v = .m8 k 0 l.length 3/\H[k]? = some (vO l).flatten:=by
 rcases h with ⟨h,_⟩ | ⟨_,h⟩
 ·exact absurd h hne
 ·exact h
theorem HoM.snoc {v:V} {H:VH} {l:List j0} (h:HoM v H l) (c:List V):HoM v (H++[c]) l:=by
 rcases h with h | ⟨hne,k,rfl,hk⟩
 ·exact .inl h
 ·exact .inr ⟨hne,k,rfl,by rw [List.getElem?_append_left (List.getElem?_eq_some_iff.1 hk).1]; exact hk⟩
section
variable {k i:Nat} {H:VH} {l:List j0} (hk:H[k]? = some (vO l).flatten) (hi:i<l.length)
include hk hi
theorem asA (g:Nat->Option (List V)):y3 g true false 1 (.ptr k (i*3+1)) H=some (.sl true (vT l[i].to),H.set k (C8 (vO l).flatten (i*3+1) [.sl false (vT l[i].to)])):=by
 have hc:(vO l).flatten[i*3+1]? = some (.sl true (vT l[i].to)):=by
  rw [Go.AM.Rows.get (by omega) (acI l) (ar8 l i hi)]; rfl
 rw [ahL hk hc]
 simp only [strip,C2]
theorem atC (ts:List Bs) (w:V):M6 (.ptr k (i*3+1)) [.sl true (vT ts)] (H.set k (C8 (vO l).flatten (i*3+1) [w]))=some (H.set k (vO (l.set i ⟨l[i].from_,ts,l[i].lines⟩)).flatten):=by
 have hf:=(acI l).flat
 rw [ac7] at hf
 have hkl:=(List.getElem?_eq_some_iff.1 hk).1
 have afw:C8 (C8 (vO l).flatten (i*3+1) [w]) (i*3+1) [V.sl true (vT ts)]=(vO (l.set i ⟨l[i].from_,ts,l[i].lines⟩)).flatten:=by
  have h1:=Go.AM.Rows.set (v:=V.sl true (vT ts)) (j:=1) (by omega) (acI l) (ar8 l i hi)
  rw [aqN (by omega),h1]
  congr 1
  have:(cO l[i]).set 1 (V.sl true (vT ts))=cO ⟨l[i].from_,ts,l[i].lines⟩:=rfl
  rw [this]
  unfold vO
  rw [List.map_set]
 have hlen:i*3+1+[V.sl true (vT ts)].length<=(C8 (vO l).flatten (i*3+1) [w]).length:=by
  simp only [C8,List.length_append,List.length_take,List.length_drop,List.length_singleton]; omega
 have hset:(H.set k (C8 (vO l).flatten (i*3+1) [w]))[k]? = some (C8 (vO l).flatten (i*3+1) [w]):=by simp [hkl]
 rw [akw hset hlen,afw,List.set_set]
end
theorem aq8 {b bytes k e:Nat} {r s:List (List V)} {H:VH} (hk:H[k]? = some r.flatten) (hr:Go.AM.Rows e r) (hne:r ≠ []) (hs:s ≠ []) (he:A9 e s=true) (hb:(r.length+s.length)*bytes<=140737488355328) (fl:Bool) :
 ads fl false e bytes (.m8 k 0 r.length e) (.sl true s) H=some (.m8 H.length 0 (r.length+s.length) e,H.set k []++[r.flatten++s.flatten]):=by
 simp only [ads,hk,Option.bind_some]
 have h0:0<r.length:=List.length_pos_iff.2 hne
 rw [if_pos ⟨trivial,trivial,h0,hr.flat,he,hb⟩]
 cases s with
 | nil=>exact absurd rfl hs
 | cons y l=>rfl
theorem akB (t:Bs) (h:t.length<=1000000000):qc Y6 [.str t]=some (.str (E6 t)):=by
 have e1:=auO t 64 h
 refine s7 (H:=[]) ?_ (by simp only [b9]) rfl
 show cv _ _ _=_
 rw [aiK]
 simp only [b9,e1,E6]
theorem amc (x:j0) (t:Bs) (hne:x.to ≠ []) (hx:∀ s ∈ x.to,s.length<=1000000000) (ht:t.length<=1000000000):qc E7 [.agg (cM x),.D2 [.str t] 0]=some (.bool (H8 t x)):=by
 obtain ⟨f,tos,ls⟩:=x
 cases tos with
 | nil=>exact absurd rfl hne
 | cons a l =>
   have e1:=akB a (hx a (by simp))
   have e2:=akB t ht
   have i1:s6 1 (.sl false (vT (a::l))) (.int .i64 0)=some (.D2 [.str a] 0):=M0 false (a::l) .i64 0 (by simp)
   refine s7 (H:=[]) ?_ (by simp only [b9,N5]) rfl
   show cv _ _ _=_
   rw [agB]
   by_cases hq:E6 a=E6 t<;>simp only [b9,N5,i1,e1,e2,H8,List.headD_cons,hq]
theorem anv (l:List j0) (t:Bs) (hl:l.length<=1000000000) (hne:∀ x ∈ l,x.to ≠ []/\∀ s ∈ x.to,s.length<=1000000000) (ht:t.length<=1000000000) :
 qc A4 [.sl false (vR eM l),.fn E7 [.D2 [.str t] 0]]=some (.int .i64 (if l.any (H8 t)=true then ((l.findIdx (H8 t):Nat):Int) else -1)):=by
 refine s7 (H:=[]) ?_ (by simp only [b9]) rfl
 show cv _ _ _=_
 rw [V6]
 have loop:=ajj (B:=A3) (S:=fun i=>[.sl false (vR eM l),.fn E7 [.D2 [.str t] 0],.int .i64 l.length,.int .i64 (i:Nat)]) (H:=[]) (m0:=0) (m1:=1) (vs0:=[]) l (H8 t)
  (fun i hi=>by
   have i1:=ahe false l .i64 i hi
   have hx:=hne _ (List.getElem_mem hi)
   have e1:=amc l[i] t hx.1 hx.2 ht
   simp only [N5] at e1
   have e2:a8 (.int .i64) .add (.int .i64 (i:Int)) (.int .i64 1)=some (.int .i64 ((i+1:Nat):Int)):=s9 _ i 1 (by omega)
   rw [H9]
   by_cases hp:H8 t l[i]=true<;>simp only [b9,i1,e1,hp,e2,show ((i:Int)<(l.length:Int)) from by omega])
  (by
   rw [H9]
   simp only [b9,show ¬ ((l.length:Int)<(l.length:Int)) from by omega])
 have loop':j4 A3 [.sl false (vR eM l),.fn E7 [.D2 [.str t] 0],.int .i64 l.length,.int .i64 0] []=_:=loop
 simp only [b9,loop']
 by_cases h:l.any (H8 t)=true<;>simp only [b9,h]
theorem HoM.q {v:V} {H:VH} {l:List j0} (h:HoM v H l) (f g:FuncId) (t:Bs) (j:Nat) (hj:H[j]? = some [.str t]):qco f H [strip v,.fn g [.ptr j 0]]=qc f [.sl false (vR eM l),.fn g [.D2 [.str t] 0]]:=by
 have hg:H.getD j []=[.str t]:=by rw [List.getD_eq_getElem?_getD,hj]; rfl
 rcases h with ⟨rfl,rfl⟩ | ⟨hne,k,rfl,hk⟩
 ·show G8 cv f H _=_
  rw [alu (by rfl)]
  show I3 cv f [l4 H (.sl false []),l4 H (.fn g [.ptr j 0])]=_
  have:l4 H (.fn g [.ptr j 0]) = .fn g [.D2 [.str t] 0]:=by
   simp only [l4,List.map_cons,List.map_nil,adB,hg,aey,j3,strip]
  rw [this]
  rfl
 ·show G8 cv f H _=_
  rw [al5 (by rfl)]
  have h2:A1 3 H (.m8 k 0 l.length 3) = .sl false (vR eM l):=by
   have:=apx 3 hk (acI l) (afn l)
   rw [ac7,acD] at this
   exact this
  have h3:A1 3 H (.fn g [.ptr j 0]) = .fn g [.D2 [.str t] 0]:=by
   have hm:(H.map fun cs=>cs.map (A1 2 H)).getD j []=[.str t]:=by
    rw [List.getD_eq_getElem?_getD,List.getElem?_map,hj]
    show [A1 2 H (.str t)]=_
    rw [Y1 2 H (.str t) rfl]; rfl
   show K3 (H.map fun cs=>cs.map (A1 2 H)) (.fn g [.ptr j 0])=_
   simp only [K3,aah,hm,aey,j3,strip]
  show I3 cv f [A1 3 H (.m8 k 0 l.length 3),A1 3 H (.fn g [.ptr j 0])]=_
  rw [h2,h3]
  rfl
theorem ao5 {m:j0} {tos:List Bs} (h:∀ t ∈ tos,t.length<=1049600):∀ x ∈ w8 m tos,x.to ≠ []/\(∀ s ∈ x.to,s.length<=1049600)/\x.to.length<=tos.length/\x.lines=m.lines/\x.from_=m.from_:=fun x hx=>by
 obtain ⟨d,hd,rfl⟩:=List.mem_map.1 hx
 refine ⟨(afX hd).1,fun s hs=>?_,List.length_filter_le _ _,rfl,rfl⟩
 unfold G0 at hs
 simp at hs
 exact h s hs.1
theorem apd (tos:List Bs):(H5 tos).length<=tos.length:=by
 have:=(ac9 (l:=tos.map E6) (acc:=[])).2
 simpa [H5] using this
theorem anW (m:j0) (tos:List Bs):(w8 m tos).length<=tos.length:=by
 unfold w8; rw [List.length_map]; exact apd tos
theorem amC (m:j0) (h:Z6 m) (ht:∀ t ∈ m.to,t.length<=1049600):L7 (cv H6 [.agg (cM m)] []) (fun r H=>(F4 m 1 30=false/\r = .u6 [.sl true [],.bool false])\/(F4 m 1 30=true/\∃ o,r = .u6 [o,.bool true]/\HoM o H (w8 m (P5 m).to))):=by
 have e2:=ajq m h
 simp only [N5] at e2
 have e4:=ana m.lines (by have:=h.2.2.1; omega)
 refine L7.of ?_
 rw [aia]
 by_cases hv:F4 m 1 30=true
 ·rw [hv] at e2
  have hto:m.to.length<=10:=aiG hv
  have hnl:(P5 m).to.length<=10:=by have:=(ac9 (l:=m.to) (acc:=[])).2; simp [P5] at this ⊢; omega
  have hnt:∀ t ∈ (P5 m).to,t.length<=1049600:=fun t hh=>ht t (by have:=ac5.1 hh; simpa using this)
  simp only [b9,N5,apQ,e2]
  refine (ah3 m _ [] ⟨_,_,rfl,by simp only [strip,C2],by simp only [strip,C2]⟩ h).bind ?_
  rintro _ H0 ⟨rfl,hH0⟩
  have hfl:(P5 m).from_=m.from_/\(P5 m).lines=m.lines:=⟨rfl,rfl⟩
  generalize hT:(P5 m).to=tos at *
  have hcO:cO (P5 m)=[.str m.from_,.sl true (vT tos),.sl true (vT m.lines)]:=by rw [afe,hT]; rfl
  simp only [b9,hcO,List.getElem?_cons_succ,List.getElem?_cons_zero]
  refine o9.P8 (I:=fun n st H=>∃ (i:Nat) (o:V),n=tos.length-i/\i<=tos.length/\st=[o,.sl false (vT tos),.int .i64 (tos.length:Nat),.int .i64 (i:Nat),.str m.from_,.sl false (vT m.to),.sl false (vT m.lines)]/\HoM o H (w8 m (tos.take i)))
   (P:=fun q vs H=>q=0/\∃ o,vs=[o]/\HoM o H (w8 m tos)) (n:=tos.length) ?_ ⟨0,.sl true [],by omega,by omega,rfl,.inl ⟨rfl,rfl⟩⟩ ?_
  ·rintro n st H ⟨i,o,rfl,hi,rfl,ho⟩
   rw [af1]
   by_cases hlt:i<tos.length
   ·have i1:=M0 false tos .i64 i hlt
    have e5:a8 (.int .i64) .add (.int .i64 (i:Int)) (.int .i64 1)=some (.int .i64 ((i+1:Nat):Int)):=s9 _ i 1 (by omega)
    have htk:=List.take_succ_eq_append_getElem hlt
    have hti:=hnt tos[i] (List.getElem_mem hlt)
    have hpre:∀ t ∈ tos.take i,t.length<=1049600:=fun t hh=>hnt t (List.mem_of_mem_take hh)
    have hokx:=ao5 (m:=m) hpre
    have hll:=anW m (tos.take i)
    rw [List.length_take] at hll
    have s1:M6 (.ptr H.length 0) [.str tos[i]] (H++[[.str []]])=some (H++[[.str tos[i]]]):=by
     have:=ajD (k:=H.length) (H:=H++[[V.str []]]) (cs:=[V.str []]) (c:=[V.str tos[i]]) (by simp) rfl
     rw [this,Q6]
    have hbx:(H++[[V.str tos[i]]])[H.length]? = some [.str tos[i]]:=by simp
    have l1:y3 o7 false false 1 (.ptr H.length 0) (H++[[.str tos[i]]])=some (.str tos[i],H++[[.str tos[i]]]):=ahR (g:=o7) (off:=0) (v:=V.str tos[i]) hbx rfl
    have ho':=ho.snoc [.str tos[i]]
    have f1:=HoM.q ho' A4 E7 tos[i] H.length hbx
    rw [anv (w8 m (tos.take i)) tos[i] (by omega) (fun x hx=>⟨(hokx x hx).1,fun s hs=>by have:=(hokx x hx).2.1 s hs; omega⟩) (by omega)] at f1
    rw [apC] at f1
    by_cases hd:E6 tos[i] ∈ H5 (tos.take i)
    ·obtain ⟨hx,hset,hfr,hln⟩:=avw (m:=m) hd
     rw [<-htk] at hset
     have hox:=hokx _ (List.getElem_mem hx)
     simp only [hd,decide_true,if_true] at f1
     obtain ⟨k,rfl,hk⟩:=HoM.ne ho' (fun e=>by rw [e] at hx; simp at hx)
     simp only [strip] at f1
     have g1:s6 3 (.m8 k 0 (w8 m (tos.take i)).length 3) (.int .i64 ((w8 m (tos.take i)).findIdx (H8 tos[i]):Nat))=some (.ptr k ((w8 m (tos.take i)).findIdx (H8 tos[i])*3)):=ajA hx
     have g3:=asA hk hx o7
     have hkne:H.length ≠ k:=fun e=>by
      subst e
      rw [hbx] at hk
      have:=congrArg (Option.map List.length) hk
      have hf:=(acI (w8 m (tos.take i))).flat
      rw [ac7] at hf
      simp [hf] at this
      omega
     have l2:∀ c,y3 o7 false false 1 (.ptr H.length 0) ((H++[[V.str tos[i]]]).set k c)=some (V.str tos[i],(H++[[V.str tos[i]]]).set k c):=fun c =>
      ahR (g:=o7) (off:=0) (v:=V.str tos[i]) (cs:=[V.str tos[i]]) (by rw [List.getElem?_set_ne (fun e=>hkne e.symm)]; exact hbx) rfl
     have hap:∀ H,ads true false 1 16 (.sl true (vT (w8 m (tos.take i))[(w8 m (tos.take i)).findIdx (H8 tos[i])].to)) (.sl true [[.str tos[i]]]) H=some (.sl true (vT ((w8 m (tos.take i))[(w8 m (tos.take i)).findIdx (H8 tos[i])].to++[tos[i]])),H):=fun H=>by
      rw [auV _ _ _ _ _ _ _ _ (.inr (fun e=>hox.1 (by simpa [vT] using e)))]
      have hlx:=hox.2.2.1
      rw [List.length_take] at hlx
      simp only [aaE,Option.bind_some,afH tos[i] (show (w8 m (tos.take i))[(w8 m (tos.take i)).findIdx (H8 tos[i])].to.length+1<=4000000 from by omega)]
     have g5:=fun w=>atC hk hx ((w8 m (tos.take i))[(w8 m (tos.take i)).findIdx (H8 tos[i])].to++[tos[i]]) w
     rw [hfr,hln] at g5
     simp only [b9,i1,s1,f1,g1,g3,l2,hap,g5,e5,show ((i:Int)<(tos.length:Int)) from by omega,show ¬ ((((w8 m (tos.take i)).findIdx (H8 tos[i]):Nat):Int)<0) from by omega]
     refine ⟨_,rfl,.inr ⟨rfl,tos.length-(i+1),by omega,i+1,V.m8 k 0 (w8 m (tos.take i)).length 3,by omega,by omega,rfl,.inr ⟨fun e=>?_,k,?_,?_⟩⟩⟩
     ·rw [hset] at e
      have:=congrArg List.length e
      rw [List.length_set,List.length_nil] at this
      omega
     ·rw [hset,List.length_set]
     ·rw [hset]
      have hkl:=(List.getElem?_eq_some_iff.1 hk).1
      simp at hkl
      simp [hkl]
    ·have hd':decide (E6 tos[i] ∈ H5 (tos.take i))=false:=by simpa using hd
     have hnew:=avm (m:=m) hd
     rw [<-htk] at hnew
     rw [hd'] at f1
     simp only [Bool.false_eq_true,if_false] at f1
     have hlen1:(w8 m (tos.take i)).length+1<=2000000:=by omega
     rcases ho' with ⟨hn,rfl⟩ | ⟨hne,k,rfl,hk⟩
     ·have ap:ads true false 3 64 (.sl true []) (.sl true [[.str m.from_,.sl true [[.str tos[i]]],.sl true (vT m.lines)]]) (H++[[V.str tos[i]]])=some (.m8 (H++[[V.str tos[i]]]).length 0 1 3,(H++[[V.str tos[i]]])++[(vO [⟨m.from_,[tos[i]],m.lines⟩]).flatten]):=by
       simp only [ads,aaE,Option.bind_some]
       have:=agO (l:=[]) ⟨m.from_,[tos[i]],m.lines⟩ (by simp)
       have this':F1 false 3 64 [] (.sl true [[.str m.from_,.sl true [[.str tos[i]]],.sl true (vT m.lines)]])=some (.sl true (vO [⟨m.from_,[tos[i]],m.lines⟩])):=this
       rw [this']
       rfl
      simp only [strip,l9] at f1
      simp only [b9,i1,s1,f1,l1,e4,auf,ap,e5,show ((i:Int)<(tos.length:Int)) from by omega,show ((-1:Int)<0) from by omega]
      refine ⟨_,rfl,.inr ⟨rfl,tos.length-(i+1),by omega,i+1,V.m8 (H++[[V.str tos[i]]]).length 0 1 3,by omega,by omega,rfl,.inr ⟨?_,(H++[[V.str tos[i]]]).length,?_,?_⟩⟩⟩
      ·rw [hnew]; simp
      ·rw [hnew,hn]; simp
      ·rw [hnew,hn]; simp
     ·have ap:=aq8 (bytes:=64) (b:=0) (s:=[[.str m.from_,.sl true [[.str tos[i]]],.sl true (vT m.lines)]]) hk (acI _) (fun e=>hne (by simpa [vO] using e)) (by simp) rfl (by rw [ac7]; simp; omega) true
      rw [ac7] at ap
      simp only [strip] at f1
      simp only [b9,i1,s1,f1,l1,e4,auf,ap,e5,show ((i:Int)<(tos.length:Int)) from by omega,show ((-1:Int)<0) from by omega]
      refine ⟨_,rfl,.inr ⟨rfl,tos.length-(i+1),by omega,i+1,V.m8 (H++[[V.str tos[i]]]).length 0 ((w8 m (tos.take i)).length+1) 3,by omega,by omega,rfl,.inr ⟨?_,(H++[[V.str tos[i]]]).length,?_,?_⟩⟩⟩
      ·rw [hnew]; simp
      ·rw [hnew]; simp
      ·rw [hnew,<-asg,List.flatten_append]
       simp [vO,cO]
       rfl
   ·have:i=tos.length:=by omega
    subst this
    rw [List.take_length] at ho
    simp only [b9,show ¬ ((tos.length:Int)<(tos.length:Int)) from by omega]
    exact ⟨_,rfl,.inl ⟨0,rfl,rfl,_,rfl,ho⟩⟩
  ·rintro _ _ H ⟨rfl,o,rfl,ho⟩
   simp only [b9]
   exact o9.here (.inr ⟨hv,_,rfl,ho⟩)
 ·have hv':F4 m 1 30=false:=by simpa using hv
  rw [hv'] at e2
  simp only [b9,N5,apQ,e2]
  exact o9.here (.inl ⟨hv',rfl⟩)
theorem avA {s a z:Bs} {ok:Bool} (h:ahC 64 s a z ok) (hp:J5 s=true):z=E6 s:=by
 rcases h with ⟨_,_,h,_⟩ | ⟨h,_⟩
 ·exact h
 ·exfalso
  unfold J5 at hp
  rw [akW h,Bool.false_and,Bool.and_false] at hp
  cases hp
theorem aoJ (t:Bs) (h:t.length<=1049600) (hp:J5 t=true):qc P4 [.str t]=some (.str (E6 t)):=by
 obtain ⟨a,z,ok,e1,hR⟩:=ao0 t 64 (by decide) (by omega)
 have e1':qc O6 [.str t,.int .u8 64]=_:=e1
 have hz:=avA hR hp
 refine s7 (H:=[]) ?_ (by simp only [b9]) rfl
 show cv _ _ _=_
 rw [aif]
 simp only [b9,e1',hz]
theorem aqa {m:j0} (h:F4 m 1 30=true):∀ t ∈ m.to,J5 t=true:=fun t ht=>by
 unfold F4 at h
 simp only [Bool.and_eq_true,Bool.not_eq_true',List.any_eq_false] at h
 have:=h.2.2.2.1 t ht
 simpa using this
theorem au3 {m:j0} {tos:List Bs} {i:Nat} (hi:i<tos.length) (h:E6 tos[i] ∉ H5 (tos.take i)):H5 (tos.take (i+1))=H5 (tos.take i)++[E6 tos[i]]:=by
 rw [List.take_succ_eq_append_getElem hi,afR,if_neg h]
theorem ajX (m:j0) (v:V) (H:VH) (hvm:AsM v m) (h:Z6 m) (ht:∀ t ∈ m.to,t.length<=1049600):L7 (cv S4 [v] H) (fun r H'=>r = .u6 [.sl true (vO (aae m)),.bool (F4 m 1 30)]):=by
 obtain ⟨vx,vy,rfl,hvx,hvy⟩:=hvm
 refine L7.of ?_
 rw [aeG]
 simp only [b9]
 refine (aii m _ H ⟨_,_,rfl,hvx,hvy⟩ h).bind ?_
 rintro _ H0 ⟨rfl,hH0⟩
 by_cases hv:F4 m 1 30=true
 ·have hsp:aae m=w8 m (P5 m).to:=by unfold aae; rw [hv]; rfl
  have hto:m.to.length<=10:=aiG hv
  have hnl:(P5 m).to.length<=10:=by have:=(ac9 (l:=m.to) (acc:=[])).2; simp [P5] at this ⊢; omega
  have hnm:∀ t ∈ (P5 m).to,t ∈ m.to:=fun t hh=>by have:=ac5.1 hh; simpa using this
  have hnR:ak9 m=P5 m:=by unfold ak9; rw [hv]; rfl
  rw [hsp,hv,hnR]
  have hlines:=h.2.2.1
  generalize hT:(P5 m).to=tos at *
  have hcO:cO (P5 m)=[.str m.from_,.sl true (vT tos),.sl true (vT m.lines)]:=by rw [afe,hT]; rfl
  have hdc:∀ (i:Nat) (hi:i<tos.length),qc P4 [.str tos[i]]=some (.str (E6 tos[i])):=fun i hi =>
   aoJ _ (ht _ (hnm _ (List.getElem_mem hi))) (aqa hv _ (hnm _ (List.getElem_mem hi)))
  simp only [b9,hcO]
  refine o9.P8 (I:=fun n st G=>∃ (i:Nat) (ob:Bool),n=tos.length-i/\i<=tos.length/\st=[.sl true (vO ((H5 (tos.take i)).map (G0 m tos))),.sl true (vT (H5 (tos.take i))),.int .i64 (i:Nat),.str m.from_,.sl true (vT tos),.sl ob (vT m.lines)])
   (P:=fun q vs G=>q=0/\vs=[.sl true (vO (w8 m tos))]) (n:=tos.length) ?_ ⟨0,true,by omega,by omega,rfl⟩ ?_
  ·rintro n st G ⟨i,ob,rfl,hi,rfl⟩
   rw [adx]
   by_cases hlt:i<tos.length
   ·have i1:=M0 false tos .i64 i hlt
    have e5:a8 (.int .i64) .add (.int .i64 (i:Int)) (.int .i64 1)=some (.int .i64 ((i+1:Nat):Int)):=s9 _ i 1 (by omega)
    have dl:=apd (tos.take i)
    rw [List.length_take] at dl
    have f1:=anw (H5 (tos.take i)) (E6 tos[i]) (by omega)
    have hd0:=hdc i hlt
    simp only [b9,i1,hd0,f1,show ((i:Int)<(tos.length:Int)) from by omega]
    by_cases hd:E6 tos[i] ∈ H5 (tos.take i)
    ·have hds:H5 (tos.take (i+1))=H5 (tos.take i):=by rw [List.take_succ_eq_append_getElem hlt,afR,if_pos hd]
     simp only [b9,hd,e5]
     exact ⟨_,rfl,.inr ⟨rfl,tos.length-(i+1),by omega,i+1,ob,rfl,by omega,by rw [hds]⟩⟩
    ·have hds:=au3 (m:=m) hlt hd
     have a1:=afH (l:=H5 (tos.take i)) (E6 tos[i]) (by omega)
     have a2:F1 false 1 16 [] (.sl ob (vT m.lines))=some (.sl true (vT m.lines)):=adV 1 16 [] ob (vT m.lines) rfl (W6 _) (by rw [P3]; simp; omega)
     have s1:M6 (.ptr G.length 0) [.str m.from_,.sl true [],.sl true (vT m.lines)] (G++[[.str [],.sl true [],.sl true []]])=some (G++[[.str m.from_,.sl true [],.sl true (vT m.lines)]]):=by
      have:=ajD (k:=G.length) (H:=G++[[V.str [],V.sl true [],V.sl true []]]) (cs:=[V.str [],V.sl true [],V.sl true []]) (c:=[V.str m.from_,V.sl true [],V.sl true (vT m.lines)]) (by simp) rfl
      rw [this,Q6]
     have hd':decide (E6 tos[i] ∈ H5 (tos.take i))=false:=decide_eq_false hd
     simp only [b9,hd',a1,a2,s1]
     refine o9.bind (P:=fun r=>∃ G',r=(0,[.sl true (vO ((H5 (tos.take (i+1))).map (G0 m tos))),.sl true (vT (H5 (tos.take (i+1)))),.int .i64 (i:Nat),.str m.from_,.sl true (vT tos),.sl false (vT m.lines)],G')) ?_ ?_
     ·refine o9.P8 (I:=fun n st G'=>∃ k:Nat,n=tos.length-k/\k<=tos.length/\st=[.sl true (vO ((H5 (tos.take i)).map (G0 m tos))),.sl true (vT (H5 (tos.take i)++[E6 tos[i]])),.int .i64 (i:Nat),.str (E6 tos[i]),.ptr G.length 0,.int .i64 (k:Nat),.str m.from_,.sl true (vT tos),.sl false (vT m.lines)]/\G'=G++[cO (G0 m (tos.take k) (E6 tos[i]))])
       (P:=fun q vs G'=>q=0/\vs=[.sl true (vO ((H5 (tos.take i)).map (G0 m tos))),.sl true (vT (H5 (tos.take i)++[E6 tos[i]])),.int .i64 (i:Nat),.ptr G.length 0,.str m.from_,.sl true (vT tos),.sl false (vT m.lines)]/\G'=G++[cO (G0 m tos (E6 tos[i]))]) (n:=tos.length) ?_ ⟨0,by omega,by omega,rfl,rfl⟩ ?_
      ·rintro n st G' ⟨k,rfl,hk,rfl,rfl⟩
       rw [adg]
       by_cases hlk:k<tos.length
       ·have j1:=M0 false tos .i64 k hlk
        have e6:a8 (.int .i64) .add (.int .i64 (k:Int)) (.int .i64 1)=some (.int .i64 ((k+1:Nat):Int)):=s9 _ k 1 (by omega)
        have hgs:=af8 m (tos.take k) tos[k] (E6 tos[i])
        rw [<-List.take_succ_eq_append_getElem hlk] at hgs
        have hgl:(G0 m (tos.take k) (E6 tos[i])).to.length<=10:=by
         have:=List.length_filter_le (fun t=>decide (E6 t=E6 tos[i])) (tos.take k)
         rw [List.length_take] at this
         show (List.filter _ _).length<=10
         omega
        have hdk:=hdc k hlk
        by_cases hq:E6 tos[k]=E6 tos[i]
        ·rw [if_pos hq] at hgs
         generalize hgg:G0 m (tos.take k) (E6 tos[i])=g at *
         have hgf:g.from_=m.from_/\g.lines=m.lines:=by rw [<-hgg]; exact ⟨rfl,rfl⟩
         have hcell:(G++[cO g])[G.length]? = some (cO g):=by simp
         have l1:y3 o7 true false 1 (.ptr G.length 1) (G++[cO g])=some (.sl true (vT g.to),G++[[.str g.from_,.sl false (vT g.to),.sl true (vT g.lines)]]):=by
          rw [ahL (v:=V.sl true (vT g.to)) hcell rfl]
          simp only [strip,C2]
          rw [Q6]; rfl
         have a3:=afH (l:=g.to) tos[k] (by omega)
         have s2:M6 (.ptr G.length 1) [.sl true (vT (g.to++[tos[k]]))] (G++[[.str g.from_,.sl false (vT g.to),.sl true (vT g.lines)]])=some (G++[cO ⟨m.from_,g.to++[tos[k]],m.lines⟩]):=by
          rw [akw (cs:=[V.str g.from_,V.sl false (vT g.to),V.sl true (vT g.lines)]) (by simp) (by simp),Q6]
          rw [hgf.1,hgf.2]; rfl
         simp only [b9,j1,hdk,hq,l1,a3,s2,e6,show ((k:Int)<(tos.length:Int)) from by omega]
         exact ⟨_,rfl,.inr ⟨rfl,tos.length-(k+1),by omega,k+1,rfl,by omega,rfl,by rw [hgs]⟩⟩
        ·rw [if_neg hq] at hgs
         simp only [b9,j1,hdk,hq,e6,show ((k:Int)<(tos.length:Int)) from by omega]
         exact ⟨_,rfl,.inr ⟨rfl,tos.length-(k+1),by omega,k+1,rfl,by omega,rfl,by rw [hgs]⟩⟩
       ·have:k=tos.length:=by omega
        subst this
        rw [List.take_length]
        simp only [b9,show ¬ ((tos.length:Int)<(tos.length:Int)) from by omega]
        exact ⟨_,rfl,.inl ⟨0,rfl,rfl,rfl,rfl⟩⟩
      ·rintro _ _ G' ⟨rfl,rfl,rfl⟩
       have hcell:(G++[cO (G0 m tos (E6 tos[i]))])[G.length]? = some (cO (G0 m tos (E6 tos[i]))):=by simp
       have l3:=ani (g:=o7) (n:=3) hcell rfl
       have hml:((H5 (tos.take i)).map (G0 m tos)).length+1<=2000000:=by rw [List.length_map]; omega
       have a4:=agO (G0 m tos (E6 tos[i])) hml
       simp only [b9]
       rw [l3]
       simp only [b9,afe,a4]
       refine o9.here ?_
       rw [hds,List.map_append]
       exact ⟨_,rfl⟩
     ·rintro _ ⟨G',rfl⟩
      simp only [b9,e5]
      exact ⟨_,rfl,.inr ⟨rfl,tos.length-(i+1),by omega,i+1,false,rfl,by omega,rfl⟩⟩
   ·have:i=tos.length:=by omega
    subst this
    rw [List.take_length]
    simp only [b9,show ¬ ((tos.length:Int)<(tos.length:Int)) from by omega]
    exact ⟨_,rfl,.inl ⟨0,rfl,rfl,rfl⟩⟩
  ·rintro _ _ G ⟨rfl,rfl⟩
   simp only [b9]
   exact o9.here rfl
 ·have hv':F4 m 1 30=false:=by simpa using hv
  have hsp:aae m=[]:=by unfold aae; rw [hv']; rfl
  rw [hsp,hv']
  have hnR:ak9 m=⟨[],[],[]⟩:=by unfold ak9; rw [hv']; rfl
  rw [hnR]
  simp only [b9,afe]
  exact o9.here rfl
theorem apm {m:j0} (h:Z6 m) (ht:∀ t ∈ m.to,t.length<=1049600):ae5 (aae m)/\(aae m).length<=10:=by
 unfold aae
 by_cases hv:F4 m 1 30=true
 ·rw [if_pos hv]
  have hto:=aiG hv
  have hnl:(P5 m).to.length<=10:=by have:=(ac9 (l:=m.to) (acc:=[])).2; simp [P5] at this ⊢; omega
  have hnt:∀ t ∈ (P5 m).to,t.length<=1049600:=fun t hh=>ht t (by have:=ac5.1 hh; simpa using this)
  have hl:=anW m (P5 m).to
  refine ⟨⟨by omega,fun x hx=>?_⟩,by omega⟩
  obtain ⟨h1,h2,h3,h4,h5⟩:=ao5 hnt x hx
  exact ⟨by rw [h5]; exact h.1,⟨by omega,fun s hs=>by have:=h2 s hs; omega⟩,by rw [h4]; exact h.2.2⟩
 ·rw [if_neg hv]
  exact ⟨⟨by simp,by simp⟩,by simp⟩
theorem amP (m:j0) (h:Z6 m) (ht:∀ t ∈ m.to,t.length<=1049600):pc O8 [.agg (cM m)]=some (.u6 [.sl true (vO (aae m)),.bool (F4 m 1 30)]):=by
 have e2:=ajb (aae m) (apm h ht).1
 suffices hg:o9 (cv O8 [.agg (cM m)] []) fun r=>r.1 = .u6 [.sl true (vO (aae m)),.bool (F4 m 1 30)] by
  obtain ⟨⟨v,H⟩,e,h⟩:=hg
  have h:v=_:=h
  subst h
  exact ahI e (by simp only [b9,N5]) (by simp only [data,o8,afn,Bool.and_self])
 rw [aih]
 simp only [b9,N5]
 refine (ajX m _ [] ⟨_,_,rfl,by simp only [strip,C2],by simp only [strip,C2]⟩ h ht).bind ?_
 rintro _ H rfl
 simp only [b9,acD,e2]
 exact o9.here rfl
end Go.Proofs.YtpbgpeojlfdpoaaDoor.Q

/- Laws: a mail that is spoken is handed over. -/
import Derived.Test.YtaapfgpeeghmeaaGreatDoorScriptMailC80sayallZ
namespace Go.Proofs.YtaapfgpeeghmeaaGreatDoor.Q
open Go Go.AM
set_option linter.unusedSimpArgs false
set_option linter.unusedVariables false
set_option linter.unusedSectionVars false
theorem aAc {p:Bs} (h:abE p=true):okP p=some p:=by
 have e:aeY p=p:=by
  unfold aeY
  split
  ·rename_i hm
   have hp:p ≠ []:=fun e=>by rw [e] at hm; simp at hm
   unfold abE G0 at h
   rw [decide_eq_false hp,Bool.false_or,Bool.and_eq_true,Bool.and_eq_true] at h
   rw [awe h.2.2]
   exact (akn hm).symm
  ·rfl
 unfold okP
 rw [e,if_pos h]
theorem aw5 (p:Bs):agC ([60]++p++[62])=some p:=by
 unfold agC
 rw [if_pos ⟨by simp,by simp,by rw [List.getLast?_append]; rfl⟩]
 simp
theorem ao1 {w v p:Bs} (hv:B4 v=w) (h:abE p=true):aem w (v++([60]++p++[62]))=some p:=by
 have hl:w.length=v.length:=by rw [<-hv]; simp [B4]
 unfold aem
 rw [hl,List.take_left,List.drop_left,if_pos ⟨by simp,hv⟩,aw5,Option.bind_some,aAc h]
theorem atb {a z:Bs} (h:(32:UInt8) ∉ a):E4 32 (a++[32]++z)=a/\E5 32 (a++[32]++z)=z:=ai2 h
theorem azM (h:Bs) (d:List l9) (p:Bs) (hp:abE p=true):V5 ⟨1,h,noM,d⟩ (aah p)=(⟨2,h,⟨p,[],[]⟩,d⟩,250):=by
 have e:aah p=[77,65,73,76]++[32]++([70,82,79,77,58]++([60]++p++[62])):=by simp [aah]
 have hc:=atb (a:=[77,65,73,76]) (z:=[70,82,79,77,58]++([60]++p++[62])) (by decide)
 have ha:=ao1 (w:=[102,114,111,109,58]) (v:=[70,82,79,77,58]) rfl hp
 unfold V5
 rw [if_neg (show ¬ ((1:Int)=4) by decide),e]
 unfold aiN
 rw [hc.1,hc.2,if_neg (by decide),if_pos (by decide),ha]
 rfl
theorem aEe (st:Int) (h f:Bs) (pre:List Bs) (d:List l9) (p:Bs) (hst:st=2\/st=3) (hp:G0 p=true) (hn:pre.length<10):V5 ⟨st,h,⟨f,pre,[]⟩,d⟩ (Y3 p)=(⟨3,h,⟨f,pre++[p],[]⟩,d⟩,250):=by
 have e:Y3 p=[82,67,80,84]++[32]++([84,79,58]++([60]++p++[62])):=by simp [Y3]
 have hc:=atb (a:=[82,67,80,84]) (z:=[84,79,58]++([60]++p++[62])) (by decide)
 have hpn:p ≠ []:=fun e=>by rw [e] at hp; exact absurd hp (by decide)
 have ha:=ao1 (w:=[116,111,58]) (v:=[84,79,58]) rfl (show abE p=true by unfold abE; rw [hp,Bool.or_true])
 unfold V5
 rw [if_neg (show ¬ (st=4) by omega),e]
 unfold aiN
 rw [hc.1,hc.2,if_neg (by decide),if_neg (by decide),if_pos (by decide),ha]
 unfold toF
 simp only
 rw [if_neg hpn,if_pos hst,if_neg (by omega)]
theorem akv {s:y6} {line:Bs} (h:s.state ≠ 5) (ht:A6 line=true):okB s line=true:=by
 unfold okB
 rw [decide_eq_false h,ht]; rfl
theorem azl (h f:Bs) (d:List l9):∀ (l pre:List Bs) (st:Int) (cs:List Int),(st=2\/st=3)->(∀ t ∈ l,G0 t=true/\A6 (Y3 t)=true)->pre.length+l.length<=10 →
 V8 ⟨st,h,⟨f,pre,[]⟩,d⟩ cs (l.map Y3)=some (⟨if l=[] then st else 3,h,⟨f,pre++l,[]⟩,d⟩,cs++List.replicate l.length 250)
 | [],pre,st,cs,hst,hl,hn=>by simp [V8]
 | t::l,pre,st,cs,hst,hl,hn=>by
   obtain ⟨h1,h2⟩:=hl t (by simp)
   have ih:=azl h f d l (pre++[t]) 3 (cs++[250]) (.inr rfl) (fun q hq=>hl q (by simp [hq])) (by simp at hn ⊢; omega)
   simp only [List.map_cons,V8]
   rw [if_pos (akv (by show st ≠ 5; omega) h2),aEe st h f pre d t hst h1 (by simp at hn; omega)]
   simp only [show ¬ ((250:Int)=0) from by decide,if_false]
   rw [ih]
   have e:(if l=[] then (3:Int) else 3)=3:=by split<;>rfl
   rw [e]
   simp [List.replicate_succ]
theorem axc (l:Bs):ae6 (A5 l)=l/\A5 l ≠ [46]:=by
 unfold A5
 rw [aqW]
 by_cases h:l.head? = some 46
 ·rw [if_pos (decide_eq_true h)]
  refine ⟨by simp [ae6],fun e=>?_⟩
  have:l=[]:=by simpa using e
  rw [this] at h; cases h
 ·rw [if_neg (by simpa using h)]
  refine ⟨by unfold ae6; rw [if_neg h],fun e=>?_⟩
  rw [e] at h; exact h rfl
theorem arA (h f:Bs) (to:List Bs) (d:List l9) (cs:List Int):∀ (l pre:List Bs),(∀ t ∈ l,A6 (A5 t)=true)->pre.length+l.length<=30 →
 V8 ⟨4,h,⟨f,to,pre⟩,d⟩ cs (l.map A5)=some (⟨4,h,⟨f,to,pre++l⟩,d⟩,cs)
 | [],pre,hl,hn=>by simp [V8]
 | t::l,pre,hl,hn=>by
   have ih:=arA h f to d cs l (pre++[t]) (fun q hq=>hl q (by simp [hq])) (by simp at hn ⊢; omega)
   obtain ⟨u1,u2⟩:=axc t
   have hF:V5 ⟨4,h,⟨f,to,pre⟩,d⟩ (A5 t)=(⟨4,h,⟨f,to,pre++[t]⟩,d⟩,0):=by
    unfold V5
    rw [if_pos rfl]
    unfold aiu
    rw [if_neg u2,if_pos (by show pre.length<=30; simp at hn; omega),u1]
   simp only [List.map_cons,V8]
   rw [if_pos (akv (by show (4:Int) ≠ 5; decide) (hl t (by simp))),hF]
   simp only [if_true]
   rw [ih]
   simp
def aph (m:l9):List Int:=[250]++List.replicate m.to.length 250++[354]++[250]
theorem arO {m:l9} {h:Bs} {d:List l9} {cs:List Int} (hb:L4 m=true) (hd:d.length<5):V8 ⟨1,h,noM,d⟩ cs (D2 m)=some (⟨1,h,noM,d++[m]⟩,cs++aph m):=by
 have hb':=hb
 unfold L4 at hb'
 rw [Bool.and_eq_true] at hb'
 obtain ⟨hv,hl⟩:=hb'
 have hm:=(acB m 1 30).1 hv
 have ht:=arJ hv
 rw [List.any_eq_false] at ht
 have htx:∀ t ∈ K3 m,A6 t=true:=fun t q=>by have:=ht t q; simpa using this
 have hlx:∀ t ∈ m.lines,A6 (A5 t)=true:=by simpa using hl
 have e1:A6 (aah m.from_)=true:=htx _ (by simp [K3])
 have hto:∀ t ∈ m.to,G0 t=true/\A6 (Y3 t)=true:=fun t q=>⟨hm.2.2.2.1 t q,htx _ (by simp only [K3,List.mem_append,List.mem_map]; exact .inl (.inr ⟨t,q,rfl⟩))⟩
 have hne:m.to ≠ []:=fun e=>by have:=hm.2.1; rw [e] at this; simp at this
 have hL:D2 m=[aah m.from_]++(m.to.map Y3++([[68,65,84,65]]++(m.lines.map A5++[[46]]))):=by
  unfold D2; rw [if_pos hb]; simp [K3]
 have r1:V8 ⟨1,h,noM,d⟩ cs [aah m.from_]=some (⟨2,h,⟨m.from_,[],[]⟩,d⟩,cs++[250]):=by
  simp only [V8]
  rw [if_pos (akv (by show (1:Int) ≠ 5; decide) e1),azM h d _ hm.1]
  simp
 have r2:=azl h m.from_ d m.to [] 2 (cs++[250]) (.inl rfl) hto (by have:=hm.2.2.1; simp; omega)
 rw [if_neg hne,List.nil_append] at r2
 have r3:V8 ⟨3,h,⟨m.from_,m.to,[]⟩,d⟩ (cs++[250]++List.replicate m.to.length 250) [[68,65,84,65]]=some (⟨4,h,⟨m.from_,m.to,[]⟩,d⟩,cs++[250]++List.replicate m.to.length 250++[354]):=by
  have hF:V5 ⟨3,h,⟨m.from_,m.to,[]⟩,d⟩ [68,65,84,65]=(⟨4,h,⟨m.from_,m.to,[]⟩,d⟩,354):=rfl
  simp only [V8]
  rw [if_pos (akv (by show (3:Int) ≠ 5; decide) (by decide)),hF]
  simp
 have r4:=arA h m.from_ m.to d (cs++[250]++List.replicate m.to.length 250++[354]) m.lines [] hlx (by have:=hm.2.2.2.2.1; simp; omega)
 rw [List.nil_append] at r4
 have r5:V8 ⟨4,h,⟨m.from_,m.to,m.lines⟩,d⟩ (cs++[250]++List.replicate m.to.length 250++[354]) [[46]]=some (⟨1,h,noM,d++[m]⟩,cs++[250]++List.replicate m.to.length 250++[354]++[250]):=by
  have hF:V5 ⟨4,h,⟨m.from_,m.to,m.lines⟩,d⟩ [46]=(⟨1,h,noM,d++[m]⟩,250):=by
   unfold V5
   rw [if_pos rfl]
   unfold aiu
   rw [if_pos rfl,if_neg (by have:=hm.2.2.2.2.1; show ¬ 30<m.lines.length; omega),if_neg (by show ¬ d.length=5; omega)]
  simp only [V8]
  rw [if_pos (akv (by show (4:Int) ≠ 5; decide) (by decide)),hF]
  simp
 rw [hL,ahE,r1,Option.bind_some,ahE,r2,Option.bind_some,ahE,r3,Option.bind_some,ahE,r4,Option.bind_some,r5]
 unfold aph
 simp only [List.append_assoc]
theorem axf {m:l9} (h:TnM m):(D2 m).length<=203/\∀ l ∈ D2 m,l.length<=1000:=by
 have h1:=h.1
 have h2:=h.2.1.1
 have h3:=h.2.2.1
 unfold D2
 split
 ·refine ⟨by simp [K3]; omega,fun l hl=>?_⟩
  simp only [K3,List.mem_append,List.mem_singleton,List.mem_map] at hl
  rcases hl with (((rfl | ⟨p,hp,rfl⟩) | rfl) | ⟨p,hp,rfl⟩) | rfl
  ·simp [aah]; omega
  ·have:=h.2.1.2 p hp; simp [Y3]; omega
  ·simp
  ·have:=h.2.2.2 p hp; have:=aj5 p; omega
  ·simp
 ·simp
theorem aDj:afX noS=true:=by decide
end Go.Proofs.YtaapfgpeeghmeaaGreatDoor.Q

/- Part 4 of the machines: what is proved is told at each theorem; no condition. -/
import Derived.Test.YtpbgpeojlfdpoaaDoorFnExactSplitMailK3
import Derived.Test.YtpbgpeojlfdpoaaDoorFnExactSplitMailK2
import Derived.IntWalk
import Derived.Laws.Strings
import Derived.Lib.Bytealg
import Derived.ChangeArms
import Derived.DataReads
import Derived.LaidSub
import Derived.OpenShut
import Derived.WideShapes
/- One operation: the machine of values and the abstract machine side by side. -/
namespace Go.AM
set_option linter.unusedSimpArgs false
set_option linter.unusedVariables false
structure aaS (X:XV):Prop where
 zero:∀ t ti,look X.tab t=some ti->∀ u ∈ ti.zero,F9 u=true
 sl:∀ t e b7 eb z ag n zz,look X.tab t=some ⟨.slice e b7 eb z,ag,n,zz⟩->(∀ u ∈ z,F9 u=true)/\z.length=b7/\0<b7
 gd:aiY X
 pos:∀ t ti,look X.tab t=some ti->0<ti.size
theorem atL {n:Nat} {l:List V}:(W3 n l).length=n*l.length:=by
 induction n with
 | zero=>simp [W3]
 | succ n ih=>simp only [W3,List.length_append,ih,Nat.succ_mul]; omega
theorem akM {w:Wd} {l:List V} {xs:List Value} (h:c4 w l xs (fun _=>0)):∀ n,c4 w (W3 n l) (rep n xs) (fun _=>0)
 | 0=>by simp [W3,rep,c4]
 | n+1=>by
   simp only [W3,rep]
   exact h.app (akM h n)
theorem arN {w:Wd} {r:V} {x:Value} {c:c9} (h:RV w r x c) (hs:ab5 r=true):afx x=true/\∀ i,c i=0:=by
 have one:∀ {r:V} {x:Value} {c:c9},RV w r x c->T4 r=true->acS x=true/\∀ i,c i=0:=by
  intro r x c h hs
  cases r<;>simp only [T4] at hs<;>try (cases hs; done)
  all_goals simp only [RV] at h; rw [h.1]; exact ⟨rfl,h.2⟩
 by_cases ht:∃ vs,r = .u6 vs
 rotate_left
 ·have hs1:T4 r=true:=by cases r<;>first | exact hs | exact absurd ⟨_,rfl⟩ ht
  obtain ⟨h1,h2⟩:=one h hs1
  refine ⟨?_,h2⟩
  cases x<;>first | exact h1 | cases h1
 obtain ⟨vs,rfl⟩:=ht
 simp only [ab5] at hs
 simp only [RV] at h
 obtain ⟨ws,rfl,hw⟩:=h
 have:∀ {vs:List V} {ws:List Value} {c:c9},c4 w vs ws c->vs.all T4=true->ws.all acS=true/\∀ i,c i=0:=by
  intro vs
  induction vs with
  | nil=>intro ws c h _; simp only [c4] at h; rw [h.1]; exact ⟨rfl,h.2⟩
  | cons v vs ih =>
    intro ws c h hs
    simp only [c4] at h
    obtain ⟨x,ys,c1,c2,rfl,h2,h3,h4⟩:=h
    simp only [List.all_cons,Bool.and_eq_true] at hs ⊢
    obtain ⟨a1,a2⟩:=one h2 hs.1
    obtain ⟨b1,b2⟩:=ih h3 hs.2
    exact ⟨⟨a1,b1⟩,fun i=>by rw [h4,a2,b2]⟩
 obtain ⟨a,b⟩:=this hw hs
 refine ⟨?_,b⟩
 simp only [afx]
 simpa using a
theorem anG {take agg:Bool} {size off:Nat} {cs:List V} {r:V × List V} (h:abv take agg size cs off=some r) (hp:0<size):cs ≠ []:=by
 intro e
 subst e
 cases agg with
 | true =>
   simp only [abv] at h
   obtain ⟨c,h1,_⟩:=a7 h
   have:=(E4 h1).1
   simp at this; omega
 | false =>
   simp [abv] at h
theorem aqP {X:XV} {E:En} {w:Wd} {s:VS} {s':St} {ce cl ch cx c:c9} (g:StC X E w s s' ce cl ch cx) {k off:Nat} {p6 cs:List V} {p:Value} {xs:List Value} {cp:c9}
 (hp:RV w (.ptr k off) p cp) (hk:s.H[k]? = some p6) (hcs:c4 w cs xs c) (hc:∀ i,c i<=cx i) (hb:off+cs.length<=p6.length) (hne:cs ≠ []) :
 ∃ w2,afl w.hp p xs=some w2.hp/\D9 X E w2 { s with H:=s.H.set k (C8 p6 off cs) } { s' with hp:=w2.hp } (fun _=>0):=by
 simp only [RV] at hp
 obtain ⟨⟨b,h1,rfl⟩,_⟩:=hp
 obtain ⟨kb,c1,c2,g2,g3,g4,o2,g5⟩:=g.obj.store g.hw.nd hk (fun e=>by subst e; cases cs with | nil=>exact hne rfl | cons a l=>simp at hb) h1
 have hbm:=List.mem_of_getElem? h1
 obtain ⟨c',k1,k2⟩:=g3.seg hcs hb
 have hl:=g3.len
 have hst:afl w.hp (.pointer (some ⟨b,off,none⟩)) xs=some (setW w b { kb with cells:=E1 kb.cells off xs }).hp:=by
  simp only [afl,w9 g2 (by rw [o2]; simp),Option.bind_some]
  rw [if_pos ⟨o2,by rw [<-hcs.len,<-hl]; exact hb⟩]
  rfl
 have hx:Ext w (setW w b { kb with cells:=E1 kb.cells off xs }) (fun _=>True):=avj (k:={ kb with cells:=E1 kb.cells off xs }) g.hw hbm g2 rfl rfl _
 have hset:(setW w b { kb with cells:=E1 kb.cells off xs }).hp[b]? = some { kb with cells:=E1 kb.cells off xs }:=by
  exact akR (List.getElem?_eq_some_iff.1 g2).1
 have hobj:=g5 _ (C8 p6 off cs) _ c' hx (fun e he hne ke hke=>by
  obtain ⟨q',a1,_⟩:=ae2 (b:=b) (k:={ kb with cells:=E1 kb.cells off xs }) g2 rfl rfl hke
  refine ⟨q',a1,fun hm=>?_⟩
  have:=ahS (k:={ kb with cells:=E1 kb.cells off xs }) hke (show ke.c7 ≠ kb.c7 from g.hw.axU hke g2 hm o2 hne) hne
  rw [this] at a1; cases a1; rfl) hset (.inr ⟨o2,c4.mono hx _ k1 (fun _ _=>trivial)⟩)
 have hlen:(setW w b { kb with cells:=E1 kb.cells off xs }).hp.length=w.hp.length:=afS
 refine ⟨_,hst,ce,cl,_,rfl,g.hw.set hbm g2 rfl rfl rfl,g.gl.mono hx,g.fr.set g.hw hbm g2 rfl rfl,g.env.mono hx (fun _ _=>trivial),g.loc.mono hx (fun _ _=>trivial),g.aaF,hobj,fun i=>?_,fun i hi=>?_,fun i hi=>?_⟩
 ·have:=g.L5 i; have:=k2 i; have:=hc i; have:=g4 i; omega
 ·have:=g.O7 i hi; have:=k2 i; have:=hc i; have:=g4 i; omega
 ·rw [hlen] at hi; have:=g.M1 i hi; have:=k2 i; have:=hc i; have:=g4 i; omega
theorem ada {X:XV} {E:En} {w:Wd} {s:VS} {s':St} {ce cl ch cx c:c9} (g:StC X E w s s' ce cl ch cx) {cs:List V} {xs:List Value} (hcs:c4 w cs xs c) (hc:∀ i,c i<=cx i) (n:Nat) (p:Bool) (hpl:p=false->n=1) :
 ∃ w2,w2.hp=w.hp++[⟨xs,n,.rw,w.hp.length,p⟩]/\D9 X E w2 { s with H:=s.H++[cs] } { s' with hp:=w2.hp } (fun _=>0)/\RV w2 (.ptr s.H.length 0) (.pointer (some ⟨w.hp.length,0,none⟩)) (fun _=>0):=by
 have hx:=apA (k:=⟨xs,n,.rw,w.hp.length,p⟩) g.hw rfl (fun _=>True)
 refine ⟨{ hp:=w.hp++[⟨xs,n,.rw,w.hp.length,p⟩],c5:=w.c5++[w.hp.length],fb:=w.hp.length::w.fb },rfl,⟨ce,cl,fun i=>ch i+c i,rfl,g.hw.afE rfl hpl,g.gl.mono hx,g.fr.afE g.hw rfl,g.env.mono hx (fun _ _=>trivial),g.loc.mono hx (fun _ _=>trivial),g.aaF,?_,fun i=>?_,fun i hi=>?_,fun i hi=>?_⟩,?_⟩
 ·refine p5.snoc (kb:=⟨xs,n,.rw,w.hp.length,p⟩) (by simp) rfl (c4.mono hx _ hcs (fun _ _=>trivial)) (g.obj.mono hx (fun b hb => .eq ?_) (fun _ _=>trivial))
  show (w.hp++_)[b]? = _
  rw [List.getElem?_append_left (g.hw.W7 _ (g.hw.sub _ hb))]
 ·have:=g.L5 i; have:=hc i; omega
 ·have:=g.O7 i hi; have:=hc i; omega
 ·simp at hi; have:=g.M1 i (by omega); have:=hc i; omega
 ·simp only [RV]
  exact ⟨⟨w.hp.length,by rw [<-g.obj.len]; simp,rfl⟩,by simp⟩
theorem ak5 {w w2:Wd} {p:Bool} {k m b7 cc:Nat} {xs:List Value} (h1:w2.hp=w.hp++[⟨xs,b7,.rw,w.hp.length,p⟩]) (h2:RV w2 (.ptr k 0) (.pointer (some ⟨w.hp.length,0,none⟩)) (fun _=>0)) (h0:0<b7) :
 RV w2 (.m8 k 0 m b7) (M8 w.hp m cc) (fun _=>0):=by
 simp only [RV] at h2 ⊢
 obtain ⟨⟨b,g1,g2⟩,g3⟩:=h2
 cases g2
 exact ⟨⟨w.hp.length,cc,⟨xs,b7,.rw,w.hp.length,p⟩,g1,by rw [h1]; simp,rfl,h0,rfl⟩,by simp⟩
theorem atk {X:XV} {E:En} {w:Wd} {s:VS} {s':St} {ce cl ch cx c1 c2:c9} {fl b:Bool} {b7 bytes:Nat} {sv yv r:V} {x z:Value} {H':VH}
 (g:StC X E w s s' ce cl ch cx) (hx:RV w sv x c1) (hy:RV w yv z c2) (hc:∀ i,c1 i+c2 i<=cx i) (h:ads fl b b7 bytes sv yv s.H=some (r,H')) (h0:0<b7) :
 ∃ w2 x' c',R7 false w.hp b7 bytes x z=some (x',w2.hp)/\adt b z=some z/\D9 X E w2 { s with H:=H' } { s' with hp:=w2.hp } c'/\RV w2 r x' c':=by
 unfold ads at h
 split at h
 ·-- the row lies in an object
  rename_i k off n e
  split at h
  ·rename_i ow ys
   obtain ⟨cs,hk,hq⟩:=a7 h
   clear h
   have h:=hq
   clear hq
   split at h
   ·rename_i hcond
    obtain ⟨rfl,rfl,hn,hcl,hesz,hbt⟩:=hcond
    obtain ⟨new,d,hnew,hys,hd,hlen,_,a2,cc2,rfl⟩:=hy.read hesz
    have hvs:adt false (Value.slice a2 ys.length cc2)=some (Value.slice a2 ys.length cc2):=rfl
    simp only [RV] at hx
    obtain ⟨⟨bk,cc,kb,hr,hkb,hsz,_,rfl⟩,hx0⟩:=hx
    have hne:cs ≠ []:=fun e=>by subst e; simp only [List.length_nil] at hcl; have:=Nat.mul_pos hn h0; omega
    obtain ⟨kb',d1,d2,g2,g3,g4,hrw,g5⟩:=g.obj.store g.hw.nd hk hne hr
    rw [hkb] at g2; cases g2
    have hbm:=List.mem_of_getElem? hr
    have afw:n*e=kb.cells.length:=by rw [<-g3.len]; exact hcl.symm
    have hw:=g.hw
    have hbl:=(List.getElem?_eq_some_iff.1 hkb).1
    have hcut:cut kb.cells 0 (n*e)=some kb.cells:=by
     show H7 kb.cells 0 (n*e)=some kb.cells
     rw [J1 (by omega),afw]; simp
    have hold:C6 w.hp e (.slice (some ⟨bk,0,none⟩) n cc)=some kb.cells:=by
     simp only [C6]
     rw [if_neg (by omega),w9 hkb (by rw [hrw]; simp)]
     simp only [Option.bind_some,hsz,if_true,hcut]
    cases ys with
    | nil =>
      cases h
      simp only [List.length_nil] at hlen hnew ⊢
      refine ⟨w,.slice (some ⟨bk,0,none⟩) n cc,fun _=>0,?_,hvs,⟨ce,cl,ch,{ g with hp:=rfl,L5:=fun i=>by have:=g.L5 i; omega,O7:=fun i hi=>by have:=g.O7 i hi; omega,M1:=fun i hi=>by have:=g.M1 i hi; omega }⟩,?_⟩
      rotate_left
      ·simp only [RV]
       exact ⟨⟨bk,cc,kb,hr,hkb,hsz,h0,rfl⟩,by simp⟩
      ·simp only [R7,adv]
       split
       ·simp only [J9,hnew,Option.bind_some,hlen,if_true,List.length_nil]
       ·simp only [hnew,Option.bind_some,hlen,if_true,List.length_nil]
    | cons y l =>
      cases h
      have hll:B2 (Value.slice a2 (y::l).length cc2)=l.length+1:=hlen
      have hfl:=g.fr.len
      have fin:∀ (w2:Wd) (f:Nat) (p:Bool),w2.hp[w.hp.length]? = some ⟨kb.cells++new,e,.rw,f,p⟩->w2.c5=w.c5++[w.hp.length]->w2.hp.length=w.hp.length+1->Ext w w2 (fun _=>True)->HW w2->D1 E w2 →
       (∀ c ∈ w.c5,c ≠ bk->adT w w2 c)->(∃ kb':j6,w2.hp[bk]? = some kb') →
       D9 X E w2 { s with H:=s.H.set k []++[cs++(y::l).flatten] } { s' with hp:=w2.hp } (fun _=>0)/\RV w2 (.m8 s.H.length 0 (n+(l.length+1)) e) (M8 w.hp (n+(l.length+1)) (n+(l.length+1)+1)) (fun _=>0):=by
       intro w2 f p hat hrho hlen2 hE hw2 hfr hkeep ⟨kb2,hkb2⟩
       refine ⟨⟨ce,cl,fun i=>(0+d2 i)+(d1 i+d i),rfl,hw2,g.gl.mono hE,hfr,g.env.mono hE (fun _ _=>trivial),g.loc.mono hE (fun _ _=>trivial),g.aaF,?_,fun i=>?_,fun i hi=>?_,fun i hi=>?_⟩,?_⟩
       ·rw [hrho]
        exact p5.snoc (kb:=⟨kb.cells++new,e,.rw,f,p⟩) hat rfl ((c4.mono hE _ g3 (fun _ _=>trivial)).app (c4.mono hE _ hys.flat (fun _ _=>trivial))) (g5 w2 [] kb2 (fun _=>0) hE hkeep hkb2 (.inl ⟨rfl,by simp⟩))
       ·have:=g.L5 i; have:=g4 i; have:=hd i; have:=hc i; omega
       ·have:=g.O7 i hi; have:=g4 i; have:=hd i; have:=hc i; omega
       ·have:=g.M1 i (by omega); have:=g4 i; have:=hd i; have:=hc i; omega
       ·simp only [RV,M8]
        refine ⟨⟨w.hp.length,_,_,?_,hat,rfl,h0,rfl⟩,by simp⟩
        rw [hrho,<-g.obj.len]; simp
      by_cases hcc:cc=n
      ·obtain ⟨f1,f2⟩:=fin ⟨w.hp++[⟨kb.cells++new,e,.rw,w.hp.length,true⟩],w.c5++[w.hp.length],w.hp.length::w.fb⟩ w.hp.length true (by simp) rfl (by simp) (apA hw rfl _) (hw.afE rfl (fun h=>by cases h)) (g.fr.afE hw rfl)
        (fun c hc _ => .eq (by show (w.hp++_)[c]? = _; rw [List.getElem?_append_left (hw.rlt c hc)])) ⟨kb,by show (w.hp++_)[bk]? = _; rw [List.getElem?_append_left hbl]; exact hkb⟩
       refine ⟨_,_,_,?_,hvs,f1,f2⟩
       simp only [R7,adv]
       rw [if_pos hcc]
       simp only [J9,hnew,Option.bind_some,hll]
       rw [if_neg (by omega),if_pos ⟨hcc,by simpa using hbt⟩,hold]; rfl
      ·obtain ⟨f1,f2⟩:=fin (aeA w bk kb ⟨kb.cells++new,e,.rw,kb.c7,kb.pl⟩) kb.c7 kb.pl (by simp [aeA,I5]) rfl (by simp [aeA,I5]) (atG (k:=⟨kb.cells++new,e,.rw,kb.c7,kb.pl⟩) hw hkb hbm rfl _) (hw.aeA (k:=⟨kb.cells++new,e,.rw,kb.c7,kb.pl⟩) hkb hrw hbm rfl (fun h=>by show e=1; rw [<-hsz]; exact hw.mrk bk kb hkb h)) (g.fr.aeA (k:=⟨kb.cells++new,e,.rw,kb.c7,kb.pl⟩) hw hkb hbm rfl hsz.symm)
        (fun c hc hne => .eq (L2 (hw.rlt c hc) hne)) ⟨_,aer hbl⟩
       have huse:aa4 w.hp bk kb (0+n*e)=w.hp.set bk { kb with md := .ro }:=by unfold aa4; rw [if_pos (by omega)]
       refine ⟨_,_,_,?_,hvs,f1,f2⟩
       simp only [R7,adv]
       rw [if_neg hcc]
       simp only [hnew,Option.bind_some,hll]
       rw [if_neg (by omega),if_pos ⟨hn,by simpa using hbt⟩,hold]
       simp only [Option.bind_some,w9 hkb (by rw [hrw]; simp),hrw,if_true,huse]
       rfl
   ·cases h
  ·cases h
 ·-- an own row
  obtain ⟨xs,hxs,hq⟩:=a7 h
  clear h
  obtain ⟨rv,ha,h⟩:=a7 hq
  clear hq
  have hsv:sv = .sl true xs:=by
   unfold aaE at hxs
   split at hxs
   ·cases hxs; rfl
   ·cases hxs
  subst hsv
  have plain:r=rv->H'=s.H->∃ w2 x' c',R7 false w.hp b7 bytes x z=some (x',w2.hp)/\adt b z=some z/\D9 X E w2 { s with H:=H' } { s' with hp:=w2.hp } c'/\RV w2 r x' c':=by
   rintro rfl rfl
   obtain ⟨w2,x',c',k1,k2,k3,k4⟩:=apj (full:=false) g hx (fun q=>by cases q) hy hc ha h0
   exact ⟨w2,x',c',k1,k2,⟨ce,cl,ch,k3⟩,k4⟩
  split at h
  ·rename_i hfl
   split at h
   ·rename_i y l
    cases h
    obtain ⟨ys,new,d,hrv,hnew,hys,hd,hlen,hesz,hb,hst⟩:=anO ha hy
    have hxe:xs=[]:=by simp at hfl; exact hfl.2
    subst hxe
    injection hrv with _ hrv
    simp only [List.nil_append] at hrv
    subst hrv
    simp only [RV] at hx
    rcases hx with ⟨_,⟨a,cc,rfl,hcc⟩,hx0⟩ | ⟨h',_⟩
    ·have hcc:=hcc trivial
     subst hcc
     obtain ⟨w2,k1,k2,k3⟩:=ada g (cs:=(y::l).flatten) hys.flat (fun i=>by have:=hd i; have:=hc i; omega) b7 true (fun h=>by cases h)
     refine ⟨w2,M8 w.hp (l.length+1) (l.length+1+1),fun _=>0,?_,hst,k2,ak5 k1 k3 h0⟩
     have hlen':B2 z=l.length+1:=hlen
     simp only [R7,adv,List.length_nil,if_true]
     simp only [J9,hnew,Option.bind_some,hlen']
     rw [if_neg (by omega),if_pos ⟨trivial,by simpa using hb⟩]
     have hold:C6 w.hp b7 (.slice a 0 0)=some []:=by
      cases a with
      | none=>rfl
      | some a =>
        obtain ⟨b0,o0,s0⟩:=a
        cases s0<;>simp [C6]
     rw [hold,k1]
     simp [M8]
    ·exact absurd rfl h'
   ·cases h; exact plain rfl rfl
  ·cases h; exact plain rfl rfl
theorem aqC {X:XV} {w:Wd} {n b7:Nat} {a v:V} {x:Value} {c:c9} (hg:J3 X w) (h:aiZ X.G9 n b7 a=some v) (ha:RV w a x c):∃ z,afK w.hp n b7 x=some z/\RV w v z (fun _=>0):=by
 unfold aiZ at h
 split at h
 ·rename_i g
  obtain ⟨cs,hcs,hq⟩:=a7 h
  split at hq
  ·rename_i hc
   obtain ⟨hn,rfl,hl⟩:=hc
   cases hq
   obtain ⟨kb,b1,b2,b3,b4,b5⟩:=hg g cs hcs
   simp only [RV] at ha
   obtain ⟨rfl,_⟩:=ha
   have hlen:kb.cells.length=n:=by rw [<-b3.len,hl]
   refine ⟨.slice (some ⟨g,0,none⟩) n n,?_,?_⟩
   ·simp only [afK,b1,Option.bind_some]
    rw [if_pos ⟨hn,trivial,b5,by omega⟩]
   ·have hch:=aax (sz:=1) (n:=n) b3 (by omega)
    have hcl:(w7 1 n cs).length=n:=by have:=hch.len; omega
    simp only [RV]
    refine .inr ⟨fun q=>by rw [q] at hcl; simp at hcl; omega,g,0,kb,kb.cells,n,fun _=>0,b1,b4,b2,by rw [hcl],by omega,?_,by rw [b5]; exact hch,.inl ⟨trivial,by simp,by simp⟩⟩
    rw [hcl,b5,J1 (by omega)]
    rw [List.drop_zero,List.take_of_length_le (by omega)]
  ·cases hq
 ·cases h
theorem aqQ {w:Wd} (l:List UInt8):c4 w (l.map fun b=>V.int .u8 b.toNat) (l.map fun b=>Value.int .u8 b.toNat) (fun _=>0):=by
 induction l with
 | nil=>simp [c4]
 | cons b l ih =>
   simp only [List.map_cons,c4]
   exact ⟨_,_,fun _=>0,fun _=>0,rfl,by simp [RV],ih,by simp⟩
section
variable {X:XV} {Y:Ctx} {A:S1} {T:List Nat} {E:En} {w:Wd} {s:VS} {s':St} {R R':Type} {r:R} {o:Oper}
 {K:VE->VS->B4->Option R} {K':EV->List (Nat × List Value)->Heap->B4->Option R'} {Q:R'->Prop}
def aiE (X:XV) (E:En) (env:List (Nat × EV)) (K:VE->VS->B4->Option R) (K':EV->List (Nat × List Value)->Heap->B4->Option R') (r:R) (Q:R'->Prop):Prop :=
 ∀ (w2:Wd) (e:VE) (e':EV) (s2:VS) (loc:List (Nat × List Value)) (c:B4) (ce:c9),K e s2 c=some r->RE w2 e e' ce->D9 X E w2 s2 ⟨env,loc,w2.hp⟩ ce->∃ r',K' e' loc w2.hp c=some r'/\Q r'
theorem D9.hp {cx:c9} (hs:D9 X E w s s' cx):s'.hp=w.hp:=by
 obtain ⟨_,_,_,g⟩:=hs; exact g.hp
theorem D9.self {cx:c9} (hs:D9 X E w s s' cx):D9 X E w s ⟨s'.env,s'.loc,w.hp⟩ cx:=by
 have:=hs.hp
 obtain ⟨env,loc,hp⟩:=s'
 simp only at this
 subst this
 exact hs
theorem aiE.pure (hK:aiE X E s'.env K K' r Q) {v:V} {x:Value} {s2:VS} {c:B4} {cx:c9} (h:K (.val v) s2 c=some r) (hr:RV w v x (fun _=>0)) (hs:D9 X E w s2 s' cx):∃ r',K' (.val x) s'.loc s'.hp c=some r'/\Q r':=by
 rw [hs.hp]
 exact hK w (.val v) (.val x) s2 s'.loc c (fun _=>0) h hr (hs.less (by simp)).self
theorem apk {hp:Heap} {k:j6} (h:k.md ≠ .gone):j9 (hp++[k]) hp.length=some k:=by
 unfold j9
 rw [List.getElem?_append_right (Nat.le_refl _)]
 simp [h]
def avU (full:Bool):B4:=match full with | true => .A | false => .W
theorem StC.arT {ce cl ch cx c:c9} (g:StC X E w s s' ce cl ch cx) {d:Nat} (hl:look s.loc d=none) {cs:List V} {xs:List Value} (hcs:c4 w cs xs c) (hc:∀ i,c i<=cx i) :
 D9 X E w { s with loc:=(d,cs)::s.loc } ⟨s'.env,(d,xs)::s'.loc,w.hp⟩ (fun _=>0):=by
 refine ⟨ce,fun i=>c i+cl i,ch,rfl,g.hw,g.gl,g.fr,g.env,?_,fun k hk=>?_,g.obj,fun i=>?_,fun i hi=>?_,fun i hi=>?_⟩
 ·simp only [K6]
  refine ⟨xs,c,cl,by rw [j2,if_pos rfl],hcs,hl,?_,by simp⟩
  have:∀ {l:List (Nat × List V)} {c:c9},K6 w l s'.loc c->look l d=none->K6 w l ((d,xs)::s'.loc) c:=by
   intro l
   induction l with
   | nil=>intro c h _; simpa [K6] using h
   | cons p l ih =>
     intro c h hn
     obtain ⟨q,v⟩:=p
     simp only [K6] at h ⊢
     obtain ⟨ws,d1,d2,h1,h2,h0,h3,h4⟩:=h
     rw [j2] at hn
     split at hn
     ·cases hn
     ·rename_i hq
      exact ⟨ws,d1,d2,by rw [j2,if_neg (Ne.symm hq)]; exact h1,h2,h0,ih h3 hn,h4⟩
  exact this g.loc hl
 ·rw [j2] at hk ⊢
  split at hk
  ·cases hk
  ·rename_i hq; rw [if_neg hq]; exact g.aaF k hk
 ·have:=g.L5 i; have:=hc i; omega
 ·have:=g.O7 i hi; have:=hc i; omega
 ·have:=g.M1 i hi; have:=hc i; omega
theorem c4.one {w:Wd} {v:V} {x:Value} {c:c9} (h:RV w v x c):c4 w [v] [x] c:=⟨x,[],c,fun _=>0,rfl,h,by simp [c4],by simp⟩
theorem alW (hcall:∀ f args H r H',X.call f args H=some (r,H')->C5 X Y.call f args H r H') {cx:c9} (hs:D9 X E w s s' cx) {f:FuncId} {vs:List V} {xs:List Value} {c1:c9} (h2:c4 w vs xs c1) (hc:∀ i,c1 i<=cx i) {rv:V} {H':VH} (hr:X.call f vs s.H=some (rv,H')) :
 ∃ x w2 cr,Y.call f xs w.hp=some (x,w2.hp)/\RV w2 rv x cr/\D9 X E w2 { s with H:=H' } ⟨s'.env,s'.loc,w2.hp⟩ cr:=by
 obtain ⟨ce,cl,ch,g⟩:=hs
 obtain ⟨x,w2,cr,ch',q1,q2,q3,q4,q5,q6,q7,q8,q9⟩:=hcall f vs s.H rv H' hr w xs c1 ch g.hw g.gl h2 g.obj (fun i=>by have:=g.L5 i; have:=hc i; omega) (fun i hi=>by have:=g.M1 i hi; have:=hc i; omega)
 have hx:=q4.ext
 refine ⟨x,w2,cr,q1,q5,ce,cl,ch',rfl,q2,q3,?_,g.env.mono hx (fun b hb=>by have:=g.L5 b; have:=hc b; show c1 b+ch b=0; omega),g.loc.mono hx (fun b hb=>by have:=g.L5 b; have:=hc b; show c1 b+ch b=0; omega),g.aaF,q6,fun i=>?_,fun i hi=>?_,fun i hi=>?_⟩
 ·refine g.fr.trans q4 g.hw q2 (fun b hb=>hb) (fun i hi=>by have:=g.O7 i hi; have:=hc i; omega) rfl ?_ ?_
  ·obtain ⟨r1,a1,a2⟩:=g.fr.c5
   obtain ⟨r2,b1,b2⟩:=q4.c5
   simp only at b1 b2
   refine ⟨r1++r2,by rw [b1,a1,List.append_assoc],fun b hb=>?_⟩
   have hl:=g.fr.len
   rcases List.mem_append.1 hb with hb | hb
   ·have hbw:b<w.hp.length:=g.hw.rlt b (by rw [a1]; exact List.mem_append.2 (.inr hb))
    refine ⟨(a2 b hb).1,fun k hk=>?_⟩
    rw [q4.aaf b _ k (List.getElem?_eq_getElem hbw) hk]
    exact (a2 b hb).2 _ (List.getElem?_eq_getElem hbw)
   ·have:=(b2 b hb).1
    refine ⟨by omega,fun k hk=>?_⟩
    rcases (b2 b hb).2 k hk with q | ⟨b0,q1,k0,q2,q3⟩
    ·left; simp only at q; omega
    ·rw [<-q3]; exact g.fr.aet q1 q2
  ·obtain ⟨r1,a1,a2⟩:=g.fr.fb
   obtain ⟨r2,b1,b2⟩:=q4.fb
   simp only at b1 b2
   refine ⟨r2++r1,by rw [b1,a1,List.append_assoc],fun b hb=>?_⟩
   rcases List.mem_append.1 hb with hb | hb
   ·have:=b2 b hb; have:=g.fr.len; omega
   ·exact a2 b hb
 ·by_cases hi:i<w.hp.length
  ·have:=q8 i hi; have:=g.L5 i; have:=hc i; omega
  ·have:=g.M1 i (by omega); have:=q7 i; omega
 ·have:=q8 i (by have:=g.fr.len; omega); have:=g.O7 i hi; have:=hc i; omega
 ·have:=q9 i hi
  have hl:=q4.len
  simp only at hl
  have:=g.M1 i (by omega); omega
theorem agV (hT:aaS X) (hcall:∀ f args H r H',X.call f args H=some (r,H')->C5 X Y.call f args H r H') {cx:c9} (hs:D9 X E w s s' cx) {f:FuncId} {vs:List V} {xs:List Value} (fb:List Nat) (hfb:∀ b ∈ fb,b ∈ w.fb) (h2:r5 vs=true->c4 ⟨w.hp,[],fb⟩ vs xs (fun _=>0)) {rv:V} (hr:I3 X.call f vs=some rv) :
 ∃ x,U5 Y.call f xs s'.hp=some x/\RV w rv x (fun _=>0):=by
 have hhp:=hs.hp
 obtain ⟨ce,cl,ch,g⟩:=hs
 unfold I3 at hr
 split at hr
 ·rename_i hn
  obtain ⟨⟨rv',H'⟩,hr1,hr2⟩:=a7 hr
  simp only at hr2
  split at hr2
  ·rename_i hsc
   cases hr2
   obtain ⟨x,hp2,fb2,rho2,cr,q1,q2,q3,q4,q5,q6,q7,q8,q9,q10,_⟩:=acL g.hw g.gl hT.gd fb hfb (h2 hn) (hcall _ _ _ _ _ hr1)
   obtain ⟨t1,t2⟩:=arN q3 hsc
   have hq:U5 Y.call f xs s'.hp=some x:=by
    unfold U5
    rw [hhp,q1]
    simp only [Option.bind_some]
    rw [if_pos ⟨q2,t1⟩]
   have hdat:data rv=true:=by
    cases rv<;>first | rfl | (simp only [ab5,T4] at hsc; cases hsc; done) | skip
    rename_i l
    simp only [ab5] at hsc
    simp only [data]
    have:∀ {l:List V},l.all T4=true->o8 l=true:=by
     intro l
     induction l with
     | nil=>intro _; rfl
     | cons a l ih =>
       intro h
       simp only [List.all_cons,Bool.and_eq_true] at h
       simp only [o8,Bool.and_eq_true]
       refine ⟨?_,ih h.2⟩
       cases a<;>first | rfl | (simp only [T4] at h; exact absurd h.1 (by simp))
    exact this hsc
   have hxw:RV w rv x (fun _=>0):=by
    have:∀ {v:V} {x:Value} {c:c9},RV ⟨hp2,rho2,fb2⟩ v x c->T4 v=true->RV w v x (fun _=>0):=by
     intro v x c h hs
     cases v<;>simp only [T4] at hs<;>first | (cases hs; done) | skip
     all_goals simp only [RV] at h ⊢; exact ⟨h.1,by simp⟩
    by_cases ht2:∃ l,rv = .u6 l
    ·obtain ⟨l,rfl⟩:=ht2
     simp only [ab5] at hsc
     simp only [RV] at q3 ⊢
     obtain ⟨ws,rfl,q3⟩:=q3
     refine ⟨ws,rfl,?_⟩
     have all:∀ {l:List V} {ws:List Value} {c:c9},c4 ⟨hp2,rho2,fb2⟩ l ws c->l.all T4=true->c4 w l ws (fun _=>0):=by
      intro l
      induction l with
      | nil=>intro ws c h _; simp only [c4] at h ⊢; exact ⟨h.1,by simp⟩
      | cons a l ih =>
        intro ws c h hs
        simp only [c4] at h ⊢
        obtain ⟨x,ys,c1,c2,rfl,h2,h3,h4⟩:=h
        simp only [List.all_cons,Bool.and_eq_true] at hs
        exact ⟨x,ys,_,_,rfl,this h2 hs.1,ih h3 hs.2,by simp⟩
     exact all q3 hsc
    ·have hs1:T4 rv=true:=by cases rv<;>first | exact hsc | exact absurd ⟨_,rfl⟩ ht2
     exact this q3 hs1
   exact ⟨x,hq,hxw⟩
  ·cases hr2
 ·cases hr
theorem afW (hT:aaS X) (hcall:∀ f args H r H',X.call f args H=some (r,H')->C5 X Y.call f args H r H') {cx:c9} (hs:D9 X E w s s' cx) {f:FuncId} {vs:List V} {xs:List Value} {c1:c9} (h2:c4 w vs xs c1) {rv:V} (hr:I3 X.call f (vs.map (l4 s.H))=some rv) :
 ∃ x,U5 Y.call f xs s'.hp=some x/\RV w rv x (fun _=>0):=by
 have hs':=hs
 obtain ⟨ce,cl,ch,g⟩:=hs'
 exact agV hT hcall hs w.fb (fun _ h=>h) (fun hn=>ai8 (wc:=⟨w.hp,[],w.fb⟩) g.hw g.obj rfl rfl rfl h2 hn) hr
theorem aoH (hT:aaS X) (hcall:∀ f args H r H',X.call f args H=some (r,H')->C5 X Y.call f args H r H') {cx:c9} (hs:D9 X E w s s' cx) {f:FuncId} {vs:List V} {xs:List Value} {c1:c9} (h2:c4 w vs xs c1) {rv:V} (hr:G8 X.call f s.H vs=some rv) :
 ∃ x,U5 Y.call f xs s'.hp=some x/\RV w rv x (fun _=>0):=by
 unfold G8 at hr
 split at hr
 ·exact afW hT hcall hs h2 hr
 ·have hs':=hs
  obtain ⟨ce,cl,ch,g⟩:=hs'
  exact agV hT hcall hs [] (by simp) (fun hn=>abR (w:=w) (wc:=⟨w.hp,[],[]⟩) rfl rfl rfl g.hw g.obj 3 h2 hn) hr
theorem aon (hT:aaS X) (hcall:∀ f args H r H',X.call f args H=some (r,H')->C5 X Y.call f args H r H') {cx:c9} (hs:D9 X E w s s' cx) {f:FuncId} {vs:List V} {xs:List Value} {c1:c9} (h2:c4 w vs xs c1) {rv:V} (hr:acN X.call f s.H vs=some rv) :
 ∃ x,U5 Y.call f xs s'.hp=some x/\RV w rv x (fun _=>0):=by
 unfold acN at hr
 have hs':=hs
 obtain ⟨ce,cl,ch,g⟩:=hs'
 exact agV hT hcall hs [] (by simp) (fun hn=>abR (w:=w) (wc:=⟨w.hp,[],[]⟩) rfl rfl rfl g.hw g.obj 3 h2 hn) hr
def ang (Y:Ctx) (w:Wd) (f:FuncId) (xs:List Value) (rv:V):Prop :=
 ∃ (x:Value) (hp2:Heap) (fb fb2 rho2:List Nat) (cr:c9),Y.call f xs w.hp=some (x,hp2)/\hp2.take w.hp.length=w.hp/\RV ⟨hp2,w.c5,w.fb⟩ rv x cr/\(∀ i,cr i<=1)/\(∀ i,i<w.hp.length->cr i=0)/\(∀ i,hp2.length<=i->cr i=0) ∧
   HW ⟨hp2,w.c5,w.fb⟩/\D1 ⟨w.hp,[],fb,fun _=>0⟩ ⟨hp2,rho2,fb2⟩/\HW ⟨hp2,rho2,fb2⟩
theorem alh {w:Wd} {f:FuncId} {xs:List Value} {rv rv':V} {x:Value} {hp2:Heap} {fb fb2 rho2:List Nat} {cr ch':c9} {H':VH} (q1:Y.call f xs w.hp=some (x,hp2)) (q2:hp2.take w.hp.length=w.hp) (q3:RV ⟨hp2,rho2,fb2⟩ rv' x cr)
 (q7:HW ⟨hp2,w.c5,w.fb⟩) (q9:D1 ⟨w.hp,[],fb,fun _=>0⟩ ⟨hp2,rho2,fb2⟩) (q10:HW ⟨hp2,rho2,fb2⟩) (hq:∀ (b:Nat) (k:j6),w.hp.length<=b->hp2[b]? = some k->b ∉ w.fb/\y0 hp2 w.c5 k.c7)
 (ho:p5 ⟨hp2,rho2,fb2⟩ H' rho2 ch') (c1:∀ i,cr i+ch' i<=1) (c2:∀ i,i<w.hp.length->cr i+ch' i=0) (c3:∀ i,hp2.length<=i->cr i+ch' i=0) (hr:ouR H' rv'=some rv):ang Y w f xs rv:=by
 unfold ouR at hr
 obtain ⟨⟨v,H2⟩,e1,e2⟩:=a7 hr
 simp only at e2
 split at e2
 ·cases e2
  have hge:∀ b ∈ rho2,w.hp.length<=b:=fun b hb=>q9.akp (w:=⟨hp2,rho2,fb2⟩) hb (by simp)
  obtain ⟨c',ch2,p1,p2,p3⟩:=amw (w:=⟨hp2,rho2,fb2⟩) (w':=⟨hp2,w.c5,w.fb⟩) (n0:=w.hp.length) rfl hq q10 hge 6 ho q3 c2 e1
  have hlo:=fun i=>aqc (H:=H') i q10.nd
  have hin:∀ i,1<=LO H' rho2 i->cr i=0/\ch' i=0/\w.hp.length<=i/\i<hp2.length:=fun i hi=>by
   have hm:i ∈ rho2:=by
    by_cases q:i ∈ rho2
    ·exact q
    ·rw [aem q] at hi; omega
   refine ⟨?_,?_,hge i hm,q10.rlt i hm⟩
   ·by_cases q:1<=cr i
    ·exact absurd hm (RV.owned _ q3 i q).2.1
    ·omega
   ·by_cases q:1<=ch' i
    ·obtain ⟨kb,a1,a2⟩:=p5.ahB ho i q
     exact absurd hm (a2.nin a1)
    ·omega
  refine ⟨x,hp2,fb,fb2,rho2,c',q1,q2,p1,fun i=>?_,fun i hi=>?_,fun i hi=>?_,q7,q9,q10⟩
  ·have:=p3 i; have:=c1 i; have:=hlo i
   by_cases q:1<=LO H' rho2 i
   ·have:=hin i q; simp only at *; omega
   ·simp only at *; omega
  ·have:=p3 i; have:=c2 i hi
   by_cases q:1<=LO H' rho2 i
   ·have:=hin i q; omega
   ·simp only at *; omega
  ·have:=p3 i; have:=c3 i hi
   by_cases q:1<=LO H' rho2 i
   ·have:=hin i q; omega
   ·simp only at *; omega
 ·cases e2
theorem aj6 (hT:aaS X) (hcall:∀ f args H r H',X.call f args H=some (r,H')->C5 X Y.call f args H r H') {cx:c9} (hs:D9 X E w s s' cx) {f:FuncId} {vs:List V} {xs:List Value} {c1:c9} (h2:c4 w vs xs c1) {rv:V} (hr:U2 X.call f (vs.map (l4 s.H))=some rv):ang Y w f xs rv:=by
 obtain ⟨ce,cl,ch,g⟩:=hs
 unfold U2 at hr
 split at hr
 ·rename_i hn
  obtain ⟨⟨rv',H'⟩,hr1,hr2⟩:=a7 hr
  simp only at hr2
  split at hr2
  ·rename_i hdat
   cases hr2
   obtain ⟨x,hp2,fb2,rho2,cr,q1,q2,q3,q4,q5,q6,q7,q8,q9,q10,q11,q12,_⟩:=af7 g.hw g.obj g.gl hT.gd h2 hn (hcall _ _ _ _ _ hr1)
   exact ⟨x,hp2,_,fb2,rho2,cr,q1,q2,RV.data (w:=⟨hp2,rho2,fb2⟩) (w':=⟨hp2,w.c5,w.fb⟩) rfl q8 rv hdat q3,q4,q5,q6,q7,q9,q10⟩
  ·obtain ⟨v2,hv2,hr3⟩:=a7 hr2
   split at hr3
   ·rename_i hdat
    cases hr3
    obtain ⟨x,hp2,fb2,rho2,cr,q1,q2,q3,q4,q5,q6,q7,q8,q9,q10,q11,_,ch',q12,_⟩:=af7 g.hw g.obj g.gl hT.gd h2 hn (hcall _ _ _ _ _ hr1)
    obtain ⟨c',p1,p2⟩:=alD (w:=⟨hp2,rho2,fb2⟩) (w':=⟨hp2,w.c5,w.fb⟩) rfl q8 q11 q10 q12 q3 hv2 hdat
    exact ⟨x,hp2,_,fb2,rho2,c',q1,q2,p1,fun i=>Nat.le_trans (p2 i) (q4 i),fun i hi=>by have:=p2 i; have:=q5 i hi; omega,fun i hi=>by have:=p2 i; have:=q6 i hi; omega,q7,q9,q10⟩
   ·unfold ouD at hr3
    split at hr3
    ·rename_i u hu
     cases hr3
     obtain ⟨x,hp2,fb2,rho2,cr,q1,q2,q3,q4,q5,q6,q7,q8,q9,q10,q11,q12,ch',q13,q14,q15,q16⟩:=af7 g.hw g.obj g.gl hT.gd h2 hn (hcall _ _ _ _ _ hr1)
     exact alh q1 q2 q3 q7 q9 q10 q12 q13 q14 q15 q16 hu
    ·obtain ⟨v3,hv3,hr4⟩:=a7 hr3
     split at hr4
     ·rename_i hdat
      cases hr4
      obtain ⟨x,hp2,fb2,rho2,cr,q1,q2,q3,q4,q5,q6,q7,q8,q9,q10,q11,_,ch',q12,_⟩:=af7 g.hw g.obj g.gl hT.gd h2 hn (hcall _ _ _ _ _ hr1)
      obtain ⟨c',p1,p2⟩:=ajB (w:=⟨hp2,rho2,fb2⟩) (w':=⟨hp2,w.c5,w.fb⟩) rfl q8 q11 q10 q12 q3 hv3 hdat
      exact ⟨x,hp2,_,fb2,rho2,c',q1,q2,p1,fun i=>Nat.le_trans (p2 i) (q4 i),fun i hi=>by have:=p2 i; have:=q5 i hi; omega,fun i hi=>by have:=p2 i; have:=q6 i hi; omega,q7,q9,q10⟩
     ·cases hr4
 ·cases hr
theorem aor (hT:aaS X) (hcall:∀ f args H r H',X.call f args H=some (r,H')->C5 X Y.call f args H r H') {cx:c9} (hs:D9 X E w s s' cx) {f:FuncId} {vs:List V} {xs:List Value} {c1:c9} (h2:c4 w vs xs c1) {rv:V} (hr:akc X.call f s.H vs=some rv):ang Y w f xs rv:=by
 obtain ⟨ce,cl,ch,g⟩:=hs
 unfold akc at hr
 split at hr
 ·rename_i hn
  obtain ⟨⟨rv',H'⟩,hr1,hr2⟩:=a7 hr
  simp only at hr2
  obtain ⟨x,hp2,fb2,rho2,cr,q1,q2,q3,q4,q5,q6,q7,q8,q9,q10,ch',q13,q14,q15,q16⟩:=acL g.hw g.gl hT.gd [] (by simp) (abR (w:=w) (wc:=⟨w.hp,[],[]⟩) rfl rfl rfl g.hw g.obj 3 h2 hn) (hcall _ _ _ _ _ hr1)
  exact alh q1 q2 q3 q7 q8 q9 q10 q13 q14 q15 q16 hr2
 ·cases hr
theorem aoq (hT:aaS X) (hcall:∀ f args H r H',X.call f args H=some (r,H')->C5 X Y.call f args H r H') {cx:c9} (hs:D9 X E w s s' cx) {f:FuncId} {vs:List V} {xs:List Value} {c1:c9} (h2:c4 w vs xs c1) {rv:V} (hr:S6 X.call f s.H vs=some rv):ang Y w f xs rv:=by
 unfold S6 at hr
 split at hr
 ·exact aj6 hT hcall hs h2 hr
 ·obtain ⟨v,hr,hown⟩:=a7 hr
  split at hown
  ·rename_i ho
   cases hown
   obtain ⟨ce,cl,ch,g⟩:=hs
   unfold U2 at hr
   split at hr
   ·rename_i hn
    obtain ⟨⟨rv',H'⟩,hr1,hr2⟩:=a7 hr
    simp only at hr2
    obtain ⟨x,hp2,fb2,rho2,cr,q1,q2,q3,q4,q5,q6,q7,q8,q9,q10,ch',q12,q13⟩:=acL g.hw g.gl hT.gd [] (by simp) (abR (w:=w) (wc:=⟨w.hp,[],[]⟩) rfl rfl rfl g.hw g.obj 3 h2 hn) (hcall _ _ _ _ _ hr1)
    have fin:∀ {v:V} {c:c9},RV ⟨hp2,rho2,fb2⟩ v x c->(∀ i,c i<=cr i)->D7 v=true->RV ⟨hp2,w.c5,w.fb⟩ v x c:=fun h hc ho=>RV.own (w:=⟨hp2,rho2,fb2⟩) (w':=⟨hp2,w.c5,w.fb⟩) rfl _ ho h (fun b k hb hk=>q10 b k (by
     have:=hc b
     by_cases hlt:b<w.hp.length
     ·have:=q5 b hlt; omega
     ·omega) hk)
    split at hr2
    ·cases hr2
     exact ⟨x,hp2,_,fb2,rho2,cr,q1,q2,fin q3 (fun _=>Nat.le_refl _) ho,q4,q5,q6,q7,q8,q9⟩
    ·obtain ⟨v2,hv2,hr3⟩:=a7 hr2
     split at hr3
     ·rename_i hdat
      cases hr3
      obtain ⟨c',p1,p2⟩:=alD (w:=⟨hp2,rho2,fb2⟩) (w':=⟨hp2,[],[]⟩) rfl (fun b k _ _=>⟨by simp,y0.nil⟩) (fun b _ k _=>⟨by simp,y0.nil⟩) q9 q12 q3 hv2 hdat
      have:=RV.own (w:=⟨hp2,[],[]⟩) (w':=⟨hp2,w.c5,w.fb⟩) rfl _ ho p1 (fun b k hb hk=>q10 b k (by
       have:=p2 b
       by_cases hlt:b<w.hp.length
       ·have:=q5 b hlt; omega
       ·omega) hk)
      exact ⟨x,hp2,_,fb2,rho2,c',q1,q2,this,fun i=>Nat.le_trans (p2 i) (q4 i),fun i hi=>by have:=p2 i; have:=q5 i hi; omega,fun i hi=>by have:=p2 i; have:=q6 i hi; omega,q7,q8,q9⟩
     ·unfold ouD at hr3
      split at hr3
      ·rename_i u hu
       cases hr3
       exact alh q1 q2 q3 q7 q8 q9 q10 q12 q13.1 q13.2.1 q13.2.2 hu
      ·obtain ⟨v3,hv3,hr4⟩:=a7 hr3
       split at hr4
       ·rename_i hdat
        cases hr4
        obtain ⟨c',p1,p2⟩:=ajB (w:=⟨hp2,rho2,fb2⟩) (w':=⟨hp2,[],[]⟩) rfl (fun b k _ _=>⟨by simp,y0.nil⟩) (fun b _ k _=>⟨by simp,y0.nil⟩) q9 q12 q3 hv3 hdat
        have:=RV.own (w:=⟨hp2,[],[]⟩) (w':=⟨hp2,w.c5,w.fb⟩) rfl _ ho p1 (fun b k hb hk=>q10 b k (by
         have:=p2 b
         by_cases hlt:b<w.hp.length
         ·have:=q5 b hlt; omega
         ·omega) hk)
        exact ⟨x,hp2,_,fb2,rho2,c',q1,q2,this,fun i=>Nat.le_trans (p2 i) (q4 i),fun i hi=>by have:=p2 i; have:=q5 i hi; omega,fun i hi=>by have:=p2 i; have:=q6 i hi; omega,q7,q8,q9⟩
       ·cases hr4
   ·cases hr
  ·cases hown
theorem anC {cx:c9} (hK:aiE X E s'.env K K' r Q) (hs:D9 X E w s s' cx) {f:FuncId} {xs:List Value} {x:Value} {hp2:Heap} {fb fb2 rho2:List Nat} {rv:V} {cr:c9} (h1:K (.val rv) s .A=some r) (q1:Y.call f xs w.hp=some (x,hp2)) (q2:hp2.take w.hp.length=w.hp)
 (q3:RV ⟨hp2,w.c5,w.fb⟩ rv x cr) (q4:∀ i,cr i<=1) (q5:∀ i,i<w.hp.length->cr i=0) (q6:∀ i,hp2.length<=i->cr i=0) (q7:HW ⟨hp2,w.c5,w.fb⟩) (q9:D1 ⟨w.hp,[],fb,fun _=>0⟩ ⟨hp2,rho2,fb2⟩) (q10:HW ⟨hp2,rho2,fb2⟩) :
 ∃ r',((U1 Y.call f xs s'.hp).bind fun r=>K' (.val r.1) s'.loc r.2 .A)=some r'/\Q r':=by
 have hhp:=hs.hp
 obtain ⟨ce,cl,ch,g⟩:=hs
 have hq:U1 Y.call f xs s'.hp=some (x,hp2):=by
  unfold U1
  rw [hhp,q1]
  simp only [Option.bind_some]
  rw [if_pos q2]
 rw [hq]
 simp only [Option.bind_some]
 have hlen:=q9.len
 simp only at hlen
 have same:∀ b,b<w.hp.length->hp2[b]? = w.hp[b]?:=fun b hb=>by
  rw [List.getElem?_eq_getElem hb]
  exact q9.same b _ (List.getElem?_eq_getElem hb) y0.nil rfl
 have hx:Ext w ⟨hp2,w.c5,w.fb⟩ (fun _=>True):=by
  refine ⟨fun b kb hb hn=>?_,fun k b h=>h,fun j b kb _ hb=>⟨kb,by show hp2[b]? = _; rw [same b (List.getElem?_eq_some_iff.1 hb).1]; exact hb,rfl⟩⟩
  obtain ⟨a1,a2,a3⟩:=j5 hb
  exact ⟨kb,w9 (by show hp2[b]? = _; rw [same b a3]; exact a1) a2,fun c hc q hq=>hn c hc q (by rw [<-same c (g.hw.rlt c hc)]; exact hq),fun h=>h,rfl,rfl,fun _=>⟨rfl,rfl⟩⟩
 have hfr:D1 E ⟨hp2,w.c5,w.fb⟩:=g.fr.trans q9 g.hw q10 (by simp) (by simp) rfl (by
  obtain ⟨r0,a1,a2⟩:=g.fr.c5
  refine ⟨r0,a1,fun b hb=>⟨(a2 b hb).1,fun k hk=>?_⟩⟩
  have hk':hp2[b]? = some k:=hk
  rw [same b (g.hw.rlt b (by rw [a1]; exact List.mem_append.2 (.inr hb)))] at hk'
  exact (a2 b hb).2 k hk') g.fr.fb
 have g':=g.move hx (fun _ _=>trivial) q7 hfr (fun b hb => .eq (same b (g.hw.W7 _ (g.hw.sub _ hb)))) rfl hlen
 refine hK ⟨hp2,w.c5,w.fb⟩ (.val rv) (.val x) _ _ _ cr h1 (by simp only [RE]; exact q3) ⟨ce,cl,ch,{ g' with L5:=fun i=>?_,O7:=fun i hi=>?_,M1:=fun i hi=>?_ }⟩
 ·by_cases hi:i<w.hp.length
  ·have:=q5 i hi; have:=g.L5 i; omega
  ·have:=g.M1 i (by omega); have:=q4 i; omega
 ·have:=q5 i (by have:=g.fr.len; omega); have:=g.O7 i hi; omega
 ·have:=q6 i hi; have:=g.M1 i (by simp only at hi; omega); omega
open Classical in
theorem agY {cx:c9} (hK:aiE X E s'.env K K' r Q) (hs:D9 X E w s s' cx) {f:FuncId} {xs:List Value} {x:Value} {hp2:Heap} {fb fb2 rho2:List Nat} {ov:V} {oH:VH} {cr:c9} (own:∀ b,1<=cr b->b ∉ w.fb/\b ∉ w.c5/\∃ kb:j6,j9 hp2 b=some kb/\kb.md = .rw/\y0 hp2 w.c5 kb.c7)
 (hP:Prm ⟨hp2,w.c5,w.fb⟩ s.H oH cr (fun W c'=>RV W ov x c')) (h1:K (.val ov) { s with H:=oH } .A=some r) (q1:Y.call f xs w.hp=some (x,hp2)) (q2:hp2.take w.hp.length=w.hp)
 (q4:∀ i,cr i<=1) (q5:∀ i,i<w.hp.length->cr i=0) (q6:∀ i,hp2.length<=i->cr i=0) (q7:HW ⟨hp2,w.c5,w.fb⟩) (q9:D1 ⟨w.hp,[],fb,fun _=>0⟩ ⟨hp2,rho2,fb2⟩) (q10:HW ⟨hp2,rho2,fb2⟩) :
 ∃ r',((U1 Y.call f xs s'.hp).bind fun r=>K' (.val r.1) s'.loc r.2 .A)=some r'/\Q r':=by
 have hhp:=hs.hp
 obtain ⟨ce,cl,ch,g⟩:=hs
 have hq:U1 Y.call f xs s'.hp=some (x,hp2):=by
  unfold U1
  rw [hhp,q1]
  simp only [Option.bind_some]
  rw [if_pos q2]
 rw [hq]
 simp only [Option.bind_some]
 have hlen:=q9.len
 simp only at hlen
 have same:∀ b,b<w.hp.length->hp2[b]? = w.hp[b]?:=fun b hb=>by
  rw [List.getElem?_eq_getElem hb]
  exact q9.same b _ (List.getElem?_eq_getElem hb) y0.nil rfl
 have newf:∀ (b:Nat) (k:j6),w.hp.length<=b->hp2[b]? = some k->w.hp.length<=k.c7:=fun b k hb hk=>by
  rcases q9.c7 b k hb hk with (q | ⟨_,q,_⟩) | ⟨_,_,_,q,_⟩
  ·exact q
  ·cases q
  ·simp at q
 obtain ⟨ps,Hs,c',ch',e1,e2,e3,e4,e5,e6⟩:=hP.ex
 let FB:List Nat:=(List.range hp2.length).filter fun b=>decide (∃ p ∈ ps,∃ kp kb:j6,hp2[p]? = some kp/\hp2[b]? = some kb/\kb.c7=kp.c7)
 have hFB:∀ b,b ∈ FB<->b<hp2.length/\∃ p ∈ ps,∃ kp kb:j6,hp2[p]? = some kp/\hp2[b]? = some kb/\kb.c7=kp.c7:=fun b=>by
  simp only [FB,List.mem_filter,List.mem_range,decide_eq_true_eq]
 have pnew:∀ p ∈ ps,w.hp.length<=p:=fun p hp=>by
  have:=e4 p hp
  by_cases hlt:p<w.hp.length
  ·have:=q5 p hlt; omega
  ·omega
 have pown:∀ p ∈ ps,∃ kp:j6,hp2[p]? = some kp/\kp.md = .rw/\w.hp.length<=kp.c7/\p<hp2.length:=fun p hp=>by
  obtain ⟨_,_,kp,a1,a2,_⟩:=own p (e4 p hp)
  obtain ⟨b1,b2,b3⟩:=j5 a1
  exact ⟨kp,b1,a2,newf p kp (pnew p hp) b1,b3⟩
 have FBnew:∀ b ∈ FB,w.hp.length<=b:=fun b hb=>by
  obtain ⟨_,p,hp,kp,kb,a1,a2,a3⟩:=(hFB b).1 hb
  obtain ⟨kp',b1,_,b3,_⟩:=pown p hp
  rw [a1] at b1; cases b1
  by_cases hlt:b<w.hp.length
  ·rw [same b hlt] at a2
   have:=g.hw.c7 b kb a2; omega
  ·omega
 have hW:HW ⟨hp2,w.c5++ps,FB++w.fb⟩:=by
  refine ⟨fun b hb=>?_,q7.one,q7.c7,fun b hb=>?_,fun b hb=>?_,?_,fun b c kb kc hb hk hk' hff=>?_,q7.mrk⟩
  ·rcases List.mem_append.1 hb with hb | hb
   ·exact q7.obj b hb
   ·obtain ⟨kp,a1,a2,_⟩:=pown b hb
    exact ⟨kp,a1⟩
  ·rcases List.mem_append.1 hb with hb | hb
   ·exact ((hFB b).1 hb).1
   ·exact q7.W7 b hb
  ·rcases List.mem_append.1 hb with hb | hb
   ·exact List.mem_append.2 (.inr (q7.sub b hb))
   ·obtain ⟨kp,a1,a2,_,a4⟩:=pown b hb
    exact List.mem_append.2 (.inl ((hFB b).2 ⟨a4,b,hb,kp,kp,a1,a1,rfl⟩))
  ·rw [List.nodup_append]
   exact ⟨q7.nd,e3,fun a ha b hb e=>by subst e; have:=g.hw.rlt a ha; have:=pnew a hb; omega⟩
  ·rcases List.mem_append.1 hb with hb | hb
   ·exact List.mem_append.2 (.inr (q7.fbf b c kb kc hb hk hk' hff))
   ·exact List.mem_append.2 (.inl ((hFB c).2 ⟨(List.getElem?_eq_some_iff.1 hk').1,b,hb,kb,kc,hk,hk',hff⟩))
 have hx:Ext w ⟨hp2,w.c5++ps,FB++w.fb⟩ (fun _=>True):=by
  refine ⟨fun b kb hb hn=>?_,fun k b h=>?_,fun j b kb _ hb=>⟨kb,by show hp2[b]? = _; rw [same b (List.getElem?_eq_some_iff.1 hb).1]; exact hb,rfl⟩⟩
  ·obtain ⟨a1,a2,a3⟩:=j5 hb
   refine ⟨kb,w9 (by show hp2[b]? = _; rw [same b a3]; exact a1) a2,fun c hc q hq=>?_,fun h h'=>?_,rfl,rfl,fun _=>⟨rfl,rfl⟩⟩
   ·have hq':hp2[c]? = some q:=hq
    rcases List.mem_append.1 hc with hc | hc
    ·exact hn c hc q (by rw [<-same c (g.hw.rlt c hc)]; exact hq')
    ·have:=newf c q (pnew c hc) hq'
     have:=g.hw.c7 b kb a1
     omega
   ·rcases List.mem_append.1 h' with h' | h'
    ·have:=FBnew b h'; omega
    ·exact h h'
  ·show (w.c5++ps)[k]? = _
   rw [List.getElem?_append_left (List.getElem?_eq_some_iff.1 h).1]; exact h
 have hfr:D1 E ⟨hp2,w.c5++ps,FB++w.fb⟩:=g.fr.trans q9 g.hw q10 (by simp) (by simp) rfl (by
  obtain ⟨r0,a1,a2⟩:=g.fr.c5
  have hl:=g.fr.len
  refine ⟨r0++ps,by show w.c5++ps=_; rw [a1,List.append_assoc],fun b hb=>?_⟩
  rcases List.mem_append.1 hb with hb | hb
  ·refine ⟨(a2 b hb).1,fun k hk=>?_⟩
   have hk':hp2[b]? = some k:=hk
   rw [same b (g.hw.rlt b (by rw [a1]; exact List.mem_append.2 (.inr hb)))] at hk'
   exact (a2 b hb).2 k hk'
  ·have:=pnew b hb
   refine ⟨by omega,fun k hk=>?_⟩
   have:=newf b k this hk; left; omega) (by
  obtain ⟨r0,a1,a2⟩:=g.fr.fb
  have hl:=g.fr.len
  refine ⟨FB++r0,by show FB++w.fb=_; rw [a1,List.append_assoc],fun b hb=>?_⟩
  rcases List.mem_append.1 hb with hb | hb
  ·have:=FBnew b hb; omega
  ·exact a2 b hb)
 obtain ⟨p1,o1⟩:=e6 ⟨hp2,w.c5++ps,FB++w.fb⟩ rfl (fun j hj=>by
  show (w.c5++ps)[_]? = _
  rw [<-g.obj.len,List.getElem?_append_right (by omega)]
  congr 1; omega) (fun b k hb hk=>by
  have hcb:=e5 b
  have hnb:b ∉ ps:=fun hp=>by rw [if_pos hp] at hcb; have:=q4 b; omega
  rw [if_neg hnb] at hcb
  obtain ⟨a1,_,kb,a3,a4,a5⟩:=own b (by omega)
  have hkb:=(j5 a3).1
  have hk':hp2[b]? = some k:=hk
  have hkb':hp2[b]? = some kb:=hkb
  rw [hk'] at hkb'; cases hkb'
  have ne:∀ p ∈ ps,∀ kp:j6,hp2[p]? = some kp->kp.c7 ≠ k.c7:=fun p hp kp hkp e=>by
   obtain ⟨kp',b1,b2,_⟩:=pown p hp
   rw [hkp] at b1; cases b1
   exact hnb (q7.one p b kp k hkp hk' b2 a4 e ▸ hp)
  refine ⟨fun h=>?_,fun c hc q hq=>?_⟩
  ·rcases List.mem_append.1 h with h | h
   ·obtain ⟨_,p,hp,kp,kb,b1,b2,b3⟩:=(hFB b).1 h
    rw [hk'] at b2; cases b2
    exact ne p hp kp b1 b3.symm
   ·exact a1 h
  ·rcases List.mem_append.1 hc with hc | hc
   ·exact a5 c hc q hq
   ·exact ne c hc q hq)
 have hobj:p5 ⟨hp2,w.c5++ps,FB++w.fb⟩ oH (w.c5++ps) (fun i=>ch i+ch' i):=by
  rw [e1]
  exact (g.obj.mono hx (fun b hb => .eq (same b (g.hw.rlt b hb))) (fun _ _=>trivial)).app o1
 have cnt:∀ i,c' i+ch' i<=cr i:=fun i=>by have:=e5 i; omega
 refine hK ⟨hp2,w.c5++ps,FB++w.fb⟩ (.val ov) (.val x) _ _ _ c' h1 (by simp only [RE]; exact p1) ⟨ce,cl,_,rfl,hW,g.gl.mono hx,hfr,g.env.mono hx (fun _ _=>trivial),g.loc.mono hx (fun _ _=>trivial),g.aaF,hobj,fun i=>?_,fun i hi=>?_,fun i hi=>?_⟩
 ·have:=cnt i
  by_cases hi:i<w.hp.length
  ·have:=q5 i hi; have:=g.L5 i; omega
  ·have:=g.M1 i (by omega); have:=q4 i; omega
 ·have:=cnt i; have:=q5 i (by have:=g.fr.len; omega); have:=g.O7 i hi; omega
 ·have:=cnt i; have:=q6 i hi; have:=g.M1 i (by simp only at hi; omega); omega
theorem aog {cx:c9} (hK:aiE X E s'.env K K' r Q) (hs:D9 X E w s s' cx) {f:FuncId} {xs:List Value} {x:Value} {hp2:Heap} {fb fb2 rho2:List Nat} {rv:V} {cr:c9} {d:Nat} (ho:D7 rv=true) (h1:K (.val (prom d s.H rv).1) { s with H:=(prom d s.H rv).2 } .A=some r) (q1:Y.call f xs w.hp=some (x,hp2)) (q2:hp2.take w.hp.length=w.hp)
 (q3:RV ⟨hp2,w.c5,w.fb⟩ rv x cr) (q4:∀ i,cr i<=1) (q5:∀ i,i<w.hp.length->cr i=0) (q6:∀ i,hp2.length<=i->cr i=0) (q7:HW ⟨hp2,w.c5,w.fb⟩) (q9:D1 ⟨w.hp,[],fb,fun _=>0⟩ ⟨hp2,rho2,fb2⟩) (q10:HW ⟨hp2,rho2,fb2⟩) :
 ∃ r',((U1 Y.call f xs s'.hp).bind fun r=>K' (.val r.1) s'.loc r.2 .A)=some r'/\Q r' :=
 agY hK hs (fun b hb=>RV.owned rv q3 b hb) (aiQ rv d s.H ho q3 q4) h1 q1 q2 q4 q5 q6 q7 q9 q10
theorem c4.text {w w':Wd}:∀ {cs:List V} {xs:List Value} {c:c9},afT cs=true->c4 w cs xs c->c4 w' cs xs (fun _=>0)
 | [],xs,c,ht,h=>by simp only [c4] at *; exact ⟨h.1,by simp⟩
 | v::cs,xs,c,ht,h=>by
   cases v with
   | str s =>
     simp only [c4,RV] at h ⊢
     obtain ⟨x,ys,c1,c2,h1,⟨h2,_⟩,h3,_⟩:=h
     exact ⟨x,ys,fun _=>0,fun _=>0,h1,⟨h2,by simp⟩,c4.text (cs:=cs) ht h3,by simp⟩
   | _=>simp [afT] at ht
theorem as9 (hT:aaS X) (hcall:∀ f args H r H',X.call f args H=some (r,H')->C5 X Y.call f args H r H') {cx:c9} (hK:aiE X E s'.env K K' r Q) (hs:D9 X E w s s' cx) {f:FuncId} {vs:List V} {xs:List Value} {c1:c9} (h2:c4 w vs xs c1) {rv:V × VH} (hr:aaC X.call f s.H vs=some rv) (h1:K (.val rv.1) { s with H:=rv.2 } .A=some r) :
 ∃ r',((U1 Y.call f xs s'.hp).bind fun r=>K' (.val r.1) s'.loc r.2 .A)=some r'/\Q r':=by
 have hs':=hs
 obtain ⟨ce,cl,ch,g⟩:=hs'
 unfold aaC at hr
 split at hr
 ·rename_i hn
  obtain ⟨⟨rv',H'⟩,hr1,hr2⟩:=a7 hr
  simp only at hr2
  split at hr2
  ·rename_i k off n e
   obtain ⟨cs,hcs,hr3⟩:=a7 hr2
   split at hr3
   ·rename_i htx
    cases hr3
    simp only [Bool.and_eq_true] at htx
    obtain ⟨x,hp2,fb2,rho2,cr,q1,q2,q3,q4,q5,q6,q7,q8,q9,q10,ch',q13,q14,q15,q16⟩:=acL g.hw g.gl hT.gd [] (by simp) (abR (w:=w) (wc:=⟨w.hp,[],[]⟩) rfl rfl rfl g.hw g.obj 3 h2 hn) (hcall _ _ _ _ _ hr1)
    simp only [RV] at q3
    obtain ⟨⟨b,cc,kb,b1,b2,b3,b4,rfl⟩,_⟩:=q3
    have hne:cs ≠ []:=fun e=>by subst e; simp at htx
    obtain ⟨b',kb',d1,d2,a1,a2,a3,a4,a5,a6⟩:=q13.get hcs hne
    rw [b1] at a1; cases a1
    have b2':hp2[b]? = some kb:=b2
    have a2':hp2[b]? = some kb':=a2
    rw [b2'] at a2'; cases a2'
    have hbm:=List.mem_of_getElem? b1
    have hge:w.hp.length<=b:=q8.akp (w:=⟨hp2,rho2,fb2⟩) hbm (by simp)
    have hlt:=(List.getElem?_eq_some_iff.1 b2').1
    obtain ⟨n1,n2⟩:=q10 b kb hge b2'
    refine agY hK hs (cr:=fun i=>if i=b then 1 else 0) (fun i hi=>?_) ⟨[b],[cs],fun _=>0,fun _=>0,rfl,rfl,by simp,fun p hp=>by simp at hp; subst hp; simp,fun i=>by by_cases q:i=b<;>simp [q],fun W hW hr hb=>⟨?_,?_⟩⟩ h1 q1 q2 (fun i=>by show (if i=b then 1 else 0)<=1; split<;>omega) (fun i hi=>by show (if i=b then 1 else 0)=0; rw [if_neg (by omega)]) (fun i hi=>by show (if i=b then 1 else 0)=0; rw [if_neg (by omega)]) q7 q8 q9
    ·have:i=b:=by
      by_cases q:i=b
      ·exact q
      ·simp only [if_neg q] at hi; omega
     subst this
     exact ⟨n1,fun h=>by have:=g.hw.rlt _ h; omega,kb,w9 b2' (by rw [a6]; simp),a6,n2⟩
    ·have:=hr 0 (by simp)
     simp only [Nat.add_zero,List.getElem?_cons_zero] at this
     simp only [RV]
     exact ⟨⟨b,cc,kb,this,by rw [hW]; exact b2',b3,b4,rfl⟩,by simp⟩
    ·simp only [p5]
     exact ⟨b,[],kb,fun _=>0,fun _=>0,rfl,by rw [hW]; exact b2',.inr ⟨a6,c4.text htx.1 a3⟩,⟨rfl,by simp⟩,by simp⟩
   ·cases hr3
  ·obtain ⟨⟨v',G',H2⟩,hr3,rfl⟩:=Option.map_eq_some_iff.1 hr2
   obtain ⟨x,hp2,fb2,rho2,cr,q1,q2,q3,q4,q5,q6,q7,q8,q9,q10,ch',q13,q14,q15,q16⟩:=acL g.hw g.gl hT.gd [] (by simp) (abR (w:=w) (wc:=⟨w.hp,[],[]⟩) rfl rfl rfl g.hw g.obj 3 h2 hn) (hcall _ _ _ _ _ hr1)
   have hge:∀ b ∈ rho2,w.hp.length<=b:=fun b hb=>q8.akp (w:=⟨hp2,rho2,fb2⟩) hb (by simp)
   have hlo:∀ i,cr i+ch' i+LO H' rho2 i<=1:=fun i=>awo (w:=⟨hp2,rho2,fb2⟩) q9 q13 q3 q14 i
   obtain ⟨c',ch2,p1,p2,p3,p4⟩:=ajZ (w:=⟨hp2,rho2,fb2⟩) q9 5 (H:=s.H) q13 q3 hlo hr3
   have z5:∀ i,i<w.hp.length->c' i=0:=fun i hi=>by
    have:=p3 i; have:=q15 i hi
    have:LO H' rho2 i=0:=aem (fun hm=>by have:=hge i hm; omega)
    simp only at *
    omega
   have z6:∀ i,hp2.length<=i->c' i=0:=fun i hi=>by
    have:=p3 i; have:=q16 i hi
    have:LO H' rho2 i=0:=aem (fun hm=>by
     obtain ⟨kb,o1⟩:=q9.obj i hm
     have:=(List.getElem?_eq_some_iff.1 o1).1
     simp only at this
     omega)
    simp only at *
    omega
   refine agY hK hs (cr:=c') (fun i hi=>?_) ⟨p2.ex⟩ h1 q1 q2 (fun i=>by have:=p3 i; have:=hlo i; simp only at *; omega) z5 z6 q7 q8 q9
   obtain ⟨kb,k1,k2⟩:=p4 i hi
   have hge2:w.hp.length<=i:=by
    by_cases q:i<w.hp.length
    ·have:=z5 i q; omega
    ·omega
   obtain ⟨n1,n2⟩:=q10 i kb hge2 k1
   exact ⟨n1,fun h=>by have:=g.hw.rlt _ h; omega,kb,w9 k1 (by rw [k2]; simp),k2,n2⟩
 ·cases hr
set_option maxHeartbeats 4000000 in
theorem avE (ht:Twin X Y) (hT:aaS X) (hcall:∀ f args H r H',X.call f args H=some (r,H')->C5 X Y.call f args H r H')
 (hs:D9 X E w s s' (fun _=>0)) (h:z7 X A T o s K=some r) (hK:aiE X E s'.env K K' r Q):∃ r',A6 Y A o s' K'=some r'/\Q r':=by
 have hhp:=hs.hp
 unfold z7 at h
 unfold A6
 cases hop:o.op with
 | move x =>
   simp only [hop] at h ⊢
   split at h
   ·obtain ⟨e,e',c,h1,h2,h3,h4⟩:=Z9 ht hs h
    rw [h4,hhp]
    exact hK w e e' _ _ _ c h1 h2 (h3.less (by simp)).self
   ·obtain ⟨e,e',c,h1,h2,h3,h4⟩:=Z9 ht hs h
    rw [h4,hhp]
    exact hK w (aaa e) e' _ _ _ (fun _=>0) h1 h2.aaa (hs.less (by simp)).self
 | assign x =>
   simp only [hop] at h ⊢
   split at h
   ·obtain ⟨e,e',c,h1,h2,h3,h4⟩:=Z9 ht hs h
    rw [h4,hhp]
    exact hK w e e' _ _ _ c h1 h2 (h3.less (by simp)).self
   ·obtain ⟨e,e',c,h1,h2,h3,h4⟩:=Z9 ht hs h
    rw [h4,hhp]
    exact hK w (aaa e) e' _ _ _ (fun _=>0) h1 h2.aaa (hs.less (by simp)).self
 | pick cc x y =>
   simp only [hop] at h ⊢
   obtain ⟨vc,xc,c0,h1,h2,_,h4⟩:=A2 ht hs h
   obtain ⟨ea,ea',ca,g1,g2,g3,g4⟩:=Z9 ht hs h1
   obtain ⟨eb,eb',cb,k1,k2,k3,k4⟩:=Z9 ht g3 g1
   rw [h4,g4,k4]
   have hb:∀ {S:Type} {p q:Option S} {a:S},l7 vc p q=some a->(vc = .bool true/\p=some a)\/(vc = .bool false/\q=some a):=by
    intro S p q a hh
    unfold l7 at hh
    split at hh
    ·exact .inl ⟨rfl,hh⟩
    ·exact .inr ⟨rfl,hh⟩
    ·cases hh
   split at k1
   ·-- B9,val
    cases ea'<;>simp only [RE] at g2
    cases eb'<;>simp only [RE] at k2
    rcases hb k1 with ⟨rfl,hh⟩ | ⟨rfl,hh⟩
    ·cases hh
    ·simp only [RV] at h2
     simp only [h2.1,S0,hhp]
     exact hK w _ _ _ _ _ cb hh (by simpa only [RE] using k2) (k3.less (by simp)).self
   ·-- val,B9
    cases ea'<;>simp only [RE] at g2
    cases eb'<;>simp only [RE] at k2
    rcases hb k1 with ⟨rfl,hh⟩ | ⟨rfl,hh⟩
    ·simp only [RV] at h2
     simp only [h2.1,S0,hhp]
     exact hK w _ _ _ _ _ ca hh (by simpa only [RE] using g2) (k3.less (by simp)).self
    ·cases hh
   ·-- val,val
    cases ea'<;>simp only [RE] at g2
    cases eb'<;>simp only [RE] at k2
    obtain ⟨v,hv,k1⟩:=a7 k1
    unfold asv at hv
    split at hv
    ·cases hv
     simp only [RV] at h2
     simp only [h2.1,amh,Option.bind_some,hhp]
     exact hK w _ _ _ _ _ ca k1 (by simpa only [RE] using g2) (k3.less (by simp)).self
    ·cases hv
     simp only [RV] at h2
     simp only [h2.1,amh,Option.bind_some,hhp]
     exact hK w _ _ _ _ _ cb k1 (by simpa only [RE] using k2) (k3.less (by simp)).self
    ·cases hv
   ·cases k1
 | alloc elem =>
   simp only [hop] at h ⊢
   rw [ht.tab]
   split at h
   ·rename_i ti d hti hd
    simp only [hti,hd]
    have hz:=X6 (w:=w) (hT.zero _ _ hti)
    split at h
    ·rename_i hm
     simp only [hm]
     split at h
     ·rename_i hl
      obtain ⟨ce,cl,ch,g⟩:=hs
      simp only [g.aaF d hl,hhp]
      exact hK w _ (.loc d 0) _ _ _ (fun _=>0) h (by simp [RE]) (g.arT hl hz (by simp))
     ·cases h
    ·rename_i hm
     simp only [hm]
     obtain ⟨ce,cl,ch,g⟩:=hs
     obtain ⟨w2,h1,h2,h3⟩:=ada g hz (by simp) ti.size true (fun h=>by cases h)
     rw [hhp,<-h1]
     exact hK w2 _ _ _ _ _ (fun _=>0) h h3 h2.self
   ·cases h
 | box elem x =>
   simp only [hop] at h ⊢
   rw [ht.tab]
   split at h
   ·rename_i ti d hti hd
    simp only [hti,hd]
    obtain ⟨v,x',c,h1,h2,h3,h4⟩:=ach ht hs h
    obtain ⟨cs,xs,g1,g2,g3,_⟩:=ag8 h1 h2
    rw [h4,g3]
    obtain ⟨ce,cl,ch,g⟩:=h3
    split at g1
    ·rename_i hm
     simp only [hm]
     split at g1
     ·rename_i hl
      have hl':look (used s x).loc d=none:=hl
      simp only [g.aaF d hl',hhp]
      exact hK w _ (.loc d 0) _ _ _ (fun _=>0) g1 (by simp [RE]) (g.arT hl' g2 (by simp))
     ·cases g1
    ·rename_i hm
     simp only [hm]
     obtain ⟨w2,k1,k2,k3⟩:=ada g g2 (by simp) ti.size true (fun h=>by cases h)
     rw [hhp,<-k1]
     exact hK w2 _ _ _ _ _ (fun _=>0) g1 k3 k2.self
   ·cases h
 | build t parts =>
   simp only [hop] at h ⊢
   rw [ht.tab]
   split at h
   ·rename_i fs z ag n hti
    simp only [hti]
    have hz:=X6 (w:=w) (hT.zero _ _ hti)
    obtain ⟨cs,s2,ys,c,h1,h2,h3,h4,h5⟩:=aeZ ht hs hz h
    rw [h5,hhp]
    exact hK w (.val (.agg cs)) (.val (.agg ys.toArray)) _ _ _ c h1 (by simp only [RE,RV]; exact ⟨ys,rfl,h2⟩) h3.self
   ·rename_i na b7 z ag n hti
    simp only [hti]
    have hz:=X6 (w:=w) (hT.zero _ _ hti)
    obtain ⟨cs,s2,ys,c,h1,h2,h3,h4,h5⟩:=aeZ ht hs hz h
    rw [h5,hhp]
    exact hK w (.val (.agg cs)) (.val (.agg ys.toArray)) _ _ _ c h1 (by simp only [RE,RV]; exact ⟨ys,rfl,h2⟩) h3.self
   ·cases h
 | buildSlice t len parts =>
   simp only [hop] at h ⊢
   rw [ht.tab]
   split at h
   ·rename_i e b7 eb z ag n zz hti
    simp only [hti]
    split at h
    ·rename_i te hte
     simp only [hte]
     split at h
     ·rename_i hb
      simp only [hb]
      obtain ⟨q1,q2,q3⟩:=hT.sl _ _ _ _ _ _ _ _ hti
      have hz:=akM (X6 (w:=w) q1) len
      obtain ⟨cs,s2,ys,c,h1,h2,h3,h4,h5⟩:=aeZ ht hs hz h
      rw [h5,hhp]
      have hlen:cs.length=len*b7:=by rw [h4,atL,List.length_map,q2]
      have hch:=aax h2 hlen
      obtain ⟨ce,cl,ch,g⟩:=h3
      have hx:=amY g.hw ⟨ys,b7,.rw,w.hp.length,true⟩ (fun _=>True)
      have g':=g.move hx (fun _ _=>trivial) (g.hw.push rfl (fun h=>by cases h)) (g.fr.push g.hw rfl) (fun b hb => .eq (by show (w.hp++_)[b]? = _; rw [List.getElem?_append_left (g.hw.W7 _ (g.hw.sub _ hb))])) rfl (by simp)
      have hcl:(w7 b7 len cs).length=len:=by
       have:∀ (n:Nat) (l:List V),(w7 b7 n l).length=n:=by
        intro n; induction n with
        | zero=>intro l; rfl
        | succ n ih=>intro l; simp only [w7,List.length_cons,ih]
       exact this _ _
      by_cases h0:w7 b7 len cs=[]
      ·refine hK { w with hp:=w.hp++[⟨ys,b7,.rw,w.hp.length,true⟩] } (.fl (w7 b7 len cs)) _ _ _ _ c h1 ?_ ⟨ce,cl,ch,g'⟩
       simp only [RE,RV,M8]
       refine ⟨?_,_,by rw [hcl]⟩
       left
       have hl0:len=0:=by rw [h0] at hcl; simpa using hcl.symm
       refine ⟨h0,⟨_,_,by rw [hl0],fun _=>rfl⟩,?_⟩
       rw [h0] at hch
       simp only [j7] at hch; exact hch.2
      ·have hfl:=g.fr.len
       refine hK { w with hp:=w.hp++[⟨ys,b7,.rw,w.hp.length,true⟩] } (.fl (w7 b7 len cs)) _ _ _ _ (fun i=>c i+if i=w.hp.length then 1 else 0) h1 ?_ ⟨ce,cl,ch,{ g' with L5:=fun i=>?_,O7:=fun i hi=>?_,M1:=fun i hi=>?_ }⟩
       rotate_left
       ·have:=g.L5 i
        by_cases e:i=w.hp.length
        ·have:=g.M1 i (by omega); rw [if_pos e]; omega
        ·rw [if_neg e]; omega
       ·have:=g.O7 i hi
        rw [if_neg (by omega)]; omega
       ·have hi':(w.hp++[(⟨ys,b7,.rw,w.hp.length,true⟩:j6)]).length<=i:=hi
        simp at hi'
        have:=g.M1 i (by omega)
        rw [if_neg (by omega)]; omega
       simp only [RE,RV,M8]
       refine ⟨?_,_,by rw [hcl]⟩
       right
       have hyl:=hch.len
       refine ⟨h0,w.hp.length,0,⟨ys,b7,.rw,w.hp.length,true⟩,ys,len,c,apk (by simp),?_,?_,by rw [hcl],q3,?_,j7.mono hx _ hch (fun _ _=>trivial),.inr ⟨trivial,⟨rfl,rfl⟩,rfl,hyl.symm,fun i=>rfl⟩⟩
       ·intro hb; have:=g.hw.W7 _ hb; omega
       ·exact (show y0 w.hp w.c5 w.hp.length from fun b hb q hq=>by have:=g.hw.c7 b q hq; omega).push g.hw.rlt
       ·have hyl':ys.length=(w7 b7 len cs).length*b7:=hyl
        show H7 ys 0 ((w7 b7 len cs).length*b7)=some ys
        rw [J1 (by omega)]
        simp only [List.drop_zero]
        rw [List.take_of_length_le (by omega)]
     ·cases h
    ·cases h
   ·cases h
 | load t x =>
   simp only [hop] at h ⊢
   rw [ht.tab]
   split at h
   ·rename_i ti hti
    simp only [hti]
    obtain ⟨e,e',c,h1,h2,h3,h4⟩:=Z9 ht hs h
    rw [h4]
    split at h1
    ·-- a local
     rename_i k off
     cases e'<;>simp only [RE] at h2
     obtain ⟨rfl,rfl,_⟩:=h2
     split at h1
     ·rename_i cs hl
      obtain ⟨⟨v,cs2⟩,hld,h1⟩:=a7 h1
      obtain ⟨ce,cl,ch,g⟩:=hs
      obtain ⟨ws,c1,c2,g1,g2,g3,g4⟩:=g.loc.look hl
      obtain ⟨z,d1,d2,k1,k2,k3,k4⟩:=aiT hld g2
      have hset:=g4 cs2 ws d2 k3
      have hsame:Z1 s'.loc k ws=s'.loc:=by
       have:∀ {l:List (Nat × List Value)},look l k=some ws->Z1 l k ws=l:=by
        intro l
        induction l with
        | nil=>intro h; rfl
        | cons p l ih =>
          intro h
          obtain ⟨q,v⟩:=p
          by_cases e:q=k
          ·subst e
           have hb:Nat.beq q q=true:=Nat.beq_refl q
           simp only [look,hb] at h
           cases h; simp only [Z1,hb]
          ·simp only [look,V9 e] at h
           simp only [Z1,V9 e,ih h]
       exact this g1
      rw [hsame] at hset
      have hst:D9 X E w { s with loc:=N9 s.loc k cs2 } s' d1:=by
       refine ⟨ce,fun i=>d2 i+c2 i,ch,g.hp,g.hw,g.gl,g.fr,g.env,hset,fun j hj=>g.aaF j (adZ hj),g.obj,fun i=>?_,fun i hi=>?_,fun i hi=>?_⟩
       ·have:=g.L5 i; have:=g3 i; have:=k4 i; omega
       ·have:=g.O7 i hi; have:=g3 i; have:=k4 i; omega
       ·have:=g.M1 i hi; have:=g3 i; have:=k4 i; omega
      simp only [g1,hhp]
      cases hag:ti.agg with
      | true =>
        rw [hag] at k1
        simp only at k1
        cases hcut:cut ws off ti.size with
        | none=>rw [hcut] at k1; cases k1
        | some m =>
          rw [hcut] at k1; cases k1
          simp only [Option.bind_some]
          exact hK w _ _ _ _ _ d1 h1 (by simp only [RE]; exact k2) hst.self
      | false =>
        rw [hag] at k1
        simp only at k1
        simp only [k1,Option.bind_some]
        exact hK w _ _ _ _ _ d1 h1 (by simp only [RE]; exact k2) hst.self
     ·cases h1
    ·rename_i p
     obtain ⟨⟨v,H2⟩,hld,h1⟩:=a7 h1
     cases e'<;>simp only [RE] at h2
     rename_i x'
     unfold y3 at hld
     split at hld
     ·-- an object
      rename_i k off
      simp only [RV] at h2
      obtain ⟨⟨b,hb1,rfl⟩,_⟩:=h2
      split at hld
      ·rename_i cs hl
       obtain ⟨⟨v',cs2⟩,hlc,heq⟩:=Option.map_eq_some_iff.1 hld
       cases heq
       obtain ⟨ce,cl,ch,g⟩:=hs
       obtain ⟨b',kb,c1,c2,g1,g2,g3,g4,g5,o2⟩:=g.obj.get hl (anG hlc (hT.pos _ _ hti))
       rw [hb1] at g1; cases g1
       obtain ⟨z,d1,d2,k1,k2,k3,k4⟩:=aiT hlc g3
       have hst:D9 X E w { s with H:=s.H.set k cs2 } s' d1:=by
        refine ⟨ce,cl,fun i=>d2 i+c2 i,g.hp,g.hw,g.gl,g.fr,g.env,g.loc,g.aaF,g5 cs2 d2 k3,fun i=>?_,fun i hi=>?_,fun i hi=>?_⟩
        ·have:=g.L5 i; have:=g4 i; have:=k4 i; omega
        ·have:=g.O7 i hi; have:=g4 i; have:=k4 i; omega
        ·have:=g.M1 i hi; have:=g4 i; have:=k4 i; omega
       have hload:aa7 s'.hp ti.agg ti.size (.pointer (some ⟨b,off,none⟩))=some z:=by
        simp only [aa7,hhp,w9 g2 (by rw [o2]; simp),Option.bind_some]; exact k1
       simp only [hload,Option.bind_some]
       rw [hhp]
       exact hK w _ _ _ _ _ d1 h1 (by simp only [RE]; exact k2) hst.self
      ·cases hld
     ·-- an element
      rename_i cs off
      simp only [RV] at h2
      obtain ⟨⟨b,o',kb,ws,b1,b2,rfl,b3,b4⟩,_⟩:=h2
      cases hv:ah0 ti.agg ti.size cs off with
      | none=>rw [hv] at hld; cases hld
      | some v' =>
        rw [hv] at hld
        cases hld
        obtain ⟨z,k1,k2⟩:=aly hv b4
        have hload:aa7 s'.hp ti.agg ti.size (.pointer (some ⟨b,o'+off,none⟩))=some z:=by
         simp only [aa7,hhp,b1,Option.bind_some]
         cases hag:ti.agg with
         | true =>
           rw [hag] at k1
           simp only at k1 ⊢
           cases hcut:cut ws off ti.size with
           | none=>rw [hcut] at k1; cases k1
           | some m =>
             rw [hcut] at k1; cases k1
             have:cut kb.cells (o'+off) ti.size=some m:=aeX b3 hcut
             rw [this]; rfl
         | false =>
           rw [hag] at k1
           simp only at k1 ⊢
           exact acU (aeX b3 (acR k1))
        simp only [hload,Option.bind_some]
        exact hK.pure h1 k2 hs
     ·-- a package variable
      rename_i g0 off
      simp only [RV] at h2
      obtain ⟨rfl,_⟩:=h2
      split at hld
      ·rename_i cs hg
       cases hv:ah0 ti.agg ti.size cs off with
       | none=>rw [hv] at hld; cases hld
       | some v' =>
         rw [hv] at hld
         cases hld
         have hgl:J3 X w:=by obtain ⟨_,_,_,g⟩:=hs; exact g.gl
         obtain ⟨kb,b1,b2,b3,_⟩:=hgl g0 cs hg
         obtain ⟨z,k1,k2⟩:=aly hv b3
         have hload:aa7 s'.hp ti.agg ti.size (.pointer (some ⟨g0,off,none⟩))=some z:=by
          simp only [aa7,hhp,b1,Option.bind_some]; exact k1
         simp only [hload,Option.bind_some]
         exact hK.pure h1 k2 hs
      ·cases hld
     ·cases hld
    ·cases h1
   ·cases h
 | store t x y =>
   simp only [hop] at h ⊢
   rw [ht.tab]
   split at h
   ·rename_i ti hti
    simp only [hti]
    obtain ⟨e,e',c,h1,h2,_,h4⟩:=Z9 ht hs h
    obtain ⟨v,x',cv,g1,g2,g3,g4⟩:=ach ht hs h1
    obtain ⟨cs,xs,k1,k2,k3,k5⟩:=ag8 g1 g2
    rw [h4,g4,k3]
    obtain ⟨ce,cl,ch,g⟩:=g3
    split at k1
    ·rename_i k off
     cases e'<;>simp only [RE] at h2
     obtain ⟨rfl,rfl,_⟩:=h2
     split at k1
     ·rename_i p6 hl
      split at k1
      ·rename_i hb
       have hle:=Nat.le_of_ble_eq_true hb
       obtain ⟨ws,c1,c2,m1,m2,m3,m4⟩:=g.loc.look hl
       obtain ⟨c',n1,n2⟩:=m2.seg k2 hle
       have hb':Nat.ble (off+xs.length) ws.length=true:=by rw [<-k2.len,<-m2.len]; exact hb
       simp only [m1,hb',hhp]
       refine hK w .B9 .B9 _ _ _ (fun _=>0) k1 (by simp [RE]) ⟨ce,fun i=>c' i+c2 i,ch,rfl,g.hw,g.gl,g.fr,g.env,m4 _ _ c' n1,fun j hj=>aq3 (g.aaF j (adZ hj)),g.obj,fun i=>?_,fun i hi=>?_,fun i hi=>?_⟩
       ·have:=g.L5 i; have:=m3 i; have:=n2 i; omega
       ·have:=g.O7 i hi; have:=m3 i; have:=n2 i; omega
       ·have:=g.M1 i hi; have:=m3 i; have:=n2 i; omega
      ·cases k1
     ·cases k1
    ·rename_i p0
     cases e'<;>simp only [RE] at h2
     rename_i p
     obtain ⟨H2,hst,k1⟩:=a7 k1
     unfold M6 at hst
     split at hst
     ·rename_i k off
      split at hst
      ·rename_i p6 hl
       split at hst
       ·rename_i hb
        cases hst
        have hle:=Nat.le_of_ble_eq_true hb
        obtain ⟨w2,n1,n2⟩:=aqP g h2 hl k2 (by simp) hle (k5 (hT.pos _ _ hti))
        simp only [hhp,n1,Option.bind_some]
        exact hK w2 .B9 .B9 _ _ _ (fun _=>0) k1 (by simp [RE]) n2.self
       ·cases hst
      ·cases hst
     ·cases hst
    ·cases k1
   ·cases h
 | nilCheck x =>
   simp only [hop] at h ⊢
   obtain ⟨e,e',c,h1,h2,_,h4⟩:=Z9 ht hs h
   rw [h4]
   split at h1
   ·cases e'<;>simp only [RE] at h2
    obtain ⟨rfl,rfl,_⟩:=h2
    rw [hhp]
    exact hK w _ _ _ _ _ (fun _=>0) h1 (by simp [RE]) hs.self
   ·rename_i p0
    cases e'<;>simp only [RE] at h2
    obtain ⟨v,hv,h1⟩:=a7 h1
    have h2':=h2
    unfold akm at hv
    split at hv
    ·cases hv
     simp only [RV] at h2
     obtain ⟨⟨b,hb1,rfl⟩,h0⟩:=h2
     simp only [akU,Option.bind_some]
     exact hK.pure h1 (h2'.congr (fun i=>(h0 i).symm)) hs
    ·cases hv
     simp only [RV] at h2
     obtain ⟨rfl,h0⟩:=h2
     simp only [akU,Option.bind_some]
     exact hK.pure h1 (h2'.congr (fun i=>(h0 i).symm)) hs
    ·cases hv
     simp only [RV] at h2
     obtain ⟨⟨b,o',kb,ws,b1,b2,rfl,b3,b4⟩,h0⟩:=h2
     simp only [akU,Option.bind_some]
     exact hK.pure h1 (h2'.congr (fun i=>(h0 i).symm)) hs
    ·cases hv
     simp only [RV] at h2
     obtain ⟨⟨ws,rfl,b1⟩,h0⟩:=h2
     simp only [akU,Option.bind_some]
     exact hK.pure h1 (h2'.congr (fun i=>(h0 i).symm)) hs
    ·cases hv
   ·cases h1
 | binOp op t x y yt =>
   simp only [hop] at h ⊢
   rw [ht.tab]
   split at h
   ·rename_i ti hti
    simp only [hti]
    split at h
    ·rename_i hn
     obtain ⟨hk,rfl⟩:=aoL hn
     obtain ⟨a,x',c,h1,h2,_,h4⟩:=A2 ht hs h
     obtain ⟨v,hv,h1⟩:=a7 h1
     obtain ⟨z,k1,k2⟩:=au8 hk hv h2
     rw [h4]
     have e:∀ (K2:Value->Option R'),E5 Y s' (.const (.slice none 0 0)) K2=K2 (.slice none 0 0):=fun K2=>rfl
     rw [e,k1]
     exact hK.pure h1 k2 hs
    ·obtain ⟨a,x',c,h1,h2,_,h4⟩:=A2 ht hs h
     obtain ⟨b,y',d,g1,g2,_,g4⟩:=A2 ht hs h1
     obtain ⟨v,hv,g1⟩:=a7 g1
     obtain ⟨z,k1,k2⟩:=avg hv h2 g2
     rw [h4,g4,k1]
     exact hK.pure g1 k2 hs
   ·cases h
 | unOp op t x =>
   simp only [hop] at h ⊢
   obtain ⟨a,x',c,h1,h2,_,h4⟩:=A2 ht hs h
   obtain ⟨v,hv,h1⟩:=a7 h1
   obtain ⟨z,k1,k2⟩:=awQ hv h2
   rw [h4,k1]
   exact hK.pure h1 k2 hs
 | convert src dst x =>
   simp only [hop] at h ⊢
   rw [ht.tab]
   split at h
   ·rename_i ts td hts htd
    simp only [hts,htd]
    obtain ⟨a,x',c,h1,h2,_,h4⟩:=A2 ht hs h
    rw [h4]
    split at h1
    ·rename_i k k' hk hk'
     obtain ⟨v,hv,h1⟩:=a7 h1
     obtain ⟨z,k1,k2⟩:=as2 hv h2
     simp only [hk,hk',k1,Option.bind_some]
     exact hK.pure h1 k2 hs
    ·rename_i hk hk'
     obtain ⟨v,hv,h1⟩:=a7 h1
     obtain ⟨z,k1,k2⟩:=asG hv h2
     simp only [hk,hk',k1,Option.bind_some]
     exact hK.pure h1 k2 hs
    ·rename_i e b7 eb zz hk hk'
     split at h1
     ·rename_i ti4 hti4
      obtain ⟨v,hv,h1⟩:=a7 h1
      unfold aqq at hv
      split at hv
      ·rename_i l
       cases hv
       simp only [RV] at h2
       obtain ⟨rfl,_⟩:=h2
       simp only [hk,hk',hti4,hhp]
       have hsz:(ByteArray.mk l.toArray).size=l.length:=by simp [ByteArray.size]
       obtain ⟨ce,cl,ch,g⟩:=hs
       obtain ⟨w2,q1,q2,q3⟩:=ada g (aqQ l) (by simp) 1 false (fun _=>rfl)
       have hb:aaH ⟨l.toArray⟩=l.map fun b=>Value.int .u8 b.toNat:=rfl
       rw [hb,<-q1,hsz]
       refine hK w2 _ _ _ _ _ (fun _=>0) h1 ?_ q2.self
       have e:(l.map fun b=>V.int .u8 (b.toNat:Int)).length=l.length:=by simp
       simp only [RE]
       have:=ak5 (m:=l.length) (cc:=l.length+1) q1 q3 (by omega)
       rw [<-e] at this ⊢
       simpa using this
      ·cases hv
     ·cases h1
    ·rename_i e b7 eb zz hk hk'
     split at h1
     ·rename_i ti4 hti4
      obtain ⟨v,hv,h1⟩:=a7 h1
      have hs0:=hs
      obtain ⟨ce,cl,ch,g⟩:=hs0
      obtain ⟨z,k1,k2⟩:=avs g.hw g.obj hv h2
      simp only [hk,hk',hti4,hhp,k1,Option.bind_some]
      rw [<-hhp]
      exact hK.pure h1 k2 hs
     ·cases h1
    ·cases h1
   ·cases h
 | makeFunc fn first captured =>
   simp only [hop] at h ⊢
   cases hz:first.size with
   | zero =>
     simp only [hz] at h ⊢
     split at h
     ·rename_i f
      obtain ⟨vs,xs,c,h1,h2,h4⟩:=ad9 ht hs h
      simp only [h4]
      exact hK.pure h1 (by simp only [RV]; exact ⟨⟨xs,rfl,c4.strip _ h2⟩,by simp⟩) hs
     ·cases h
   | succ n=>simp only [hz] at h; cases h
 | slice t x lo hi mx =>
   simp only [hop] at h ⊢
   rw [ht.tab]
   split at h
   ·rename_i hti
    simp only [hti]
    obtain ⟨a,x',c,h1,h2,_,h4⟩:=A2 ht hs h
    obtain ⟨l,l',g1,g2,g3⟩:=aj4 ht hs h1
    obtain ⟨k,k',m1,m2,m3⟩:=aj4 ht hs g1
    rw [h4,g3,m3]
    split at m1
    ·obtain ⟨v,hv,m1⟩:=a7 m1
     obtain ⟨z,k1,k2⟩:=aqE hv h2 g2 m2
     simp only [k1,Option.bind_some]
     exact hK.pure m1 k2 hs
    ·cases m1
   ·rename_i e b7 eb zz ag n z2 hti
    simp only [hti]
    obtain ⟨a,x',c,h1,h2,_,h4⟩:=A2 ht hs h
    rw [h4]
    split at h1
    ·obtain ⟨l,l',g1,g2,g3⟩:=aj4 ht hs h1
     obtain ⟨k,k',m1,m2,m3⟩:=aj4 ht hs g1
     obtain ⟨v,hv,m1⟩:=a7 m1
     obtain ⟨z,k1,k2⟩:=ap3 hv h2 g2 m2
     rw [g3,m3]
     simp only [voK,hhp,k1,Option.bind_some]
     rw [<-hhp]
     exact hK.pure m1 k2 hs
    ·obtain ⟨l,l',cl',g1,g2,_,g3⟩:=A2 ht hs h1
     obtain ⟨k,k',ck',m1,m2,_,m3⟩:=A2 ht hs g1
     obtain ⟨u,u',cu',n1,n2,_,n3⟩:=A2 ht hs m1
     obtain ⟨xs,hv,n1⟩:=a7 n1
     obtain ⟨z,k1,k2⟩:=ap6 hv h2 g2 m2 n2
     simp only [voK,g3,m3,n3,hhp,k1,Option.bind_some]
     exact hK w _ _ _ _ _ (fun _=>0) n1 k2 hs.self
    ·cases h1
   ·rename_i na ag n2 z2 hti
    simp only [hti]
    split at h
    ·obtain ⟨a,x',c,h1,h2,_,h4⟩:=A2 ht hs h
     obtain ⟨v,hv,h1⟩:=a7 h1
     have hgl:J3 X w:=by obtain ⟨_,_,_,g⟩:=hs; exact g.gl
     obtain ⟨z,k1,k2⟩:=aqC hgl hv h2
     rw [h4]
     simp only [hhp,k1,Option.bind_some]
     rw [<-hhp]
     exact hK.pure h1 k2 hs
    ·cases h
   ·cases h
 | fieldAddr t x f =>
   simp only [hop] at h ⊢
   rw [ht.tab]
   split at h
   ·rename_i fs ag n zz hti
    simp only [hti]
    split at h
    ·rename_i off m ag2 hf
     simp only [hf]
     obtain ⟨e,e',c,h1,h2,_,h4⟩:=Z9 ht hs h
     rw [h4]
     split at h1
     ·cases e'<;>simp only [RE] at h2
      obtain ⟨rfl,rfl,_⟩:=h2
      rw [hhp]
      exact hK w _ _ _ _ _ (fun _=>0) h1 (by simp [RE]) hs.self
     ·cases e'<;>simp only [RE] at h2
      obtain ⟨v,hv,h1⟩:=a7 h1
      obtain ⟨z,k1,k2⟩:=apn hv h2
      simp only [k1,Option.bind_some]
      exact hK.pure h1 k2 hs
     ·cases h1
    ·cases h
   ·cases h
 | field t x f =>
   simp only [hop] at h ⊢
   rw [ht.tab]
   split at h
   ·rename_i fs ag n zz hti
    simp only [hti]
    split at h
    ·rename_i off m ag2 hf
     simp only [hf]
     obtain ⟨a,x',c,h1,h2,_,h4⟩:=A2 ht hs h
     obtain ⟨cs,hcs,h7⟩:=a7 h1
     clear h1
     rw [h4]
     unfold C1 at hcs
     split at hcs
     ·split at hcs
      ·rename_i hn
       cases hcs
       simp only [RV] at h2
       obtain ⟨ws,rfl,h2⟩:=h2
       have hl:=h2.len
       have hag:agP n (.agg ⟨ws⟩)=some ws:=by simp only [agP]; rw [if_pos (by simp; omega)]
       simp only [hag,Option.bind_some]
       split at h7
       ·obtain ⟨m',hm,h8⟩:=a7 h7
        obtain ⟨ys,p,q,k1,k2,_,_⟩:=h2.cut hm
        have k1':cut ws off m=some ys:=k1
        simp only [k1',Option.bind_some]
        exact hK.pure h8 (by simp only [RV]; exact ⟨ys,rfl,c4.strip _ k2⟩) hs
       ·obtain ⟨m',hm,h8⟩:=a7 h7
        obtain ⟨ys,p,q,k1,k2,_,_⟩:=h2.cut (acR hm)
        simp only [c4] at k2
        obtain ⟨z,zs,p1,p2,rfl,h5,⟨rfl,h6⟩,h9⟩:=k2
        simp only [acU k1,Option.bind_some]
        exact hK.pure h8 (RV.strip _ h5) hs
      ·cases hcs
     ·cases hcs
    ·cases h
   ·cases h
 | indexAddr t x i =>
   simp only [hop] at h ⊢
   rw [ht.tab]
   split at h
   ·rename_i e b7 eb zz ag n z2 hti
    simp only [hti]
    obtain ⟨a,x',c,h1,h2,_,h4⟩:=A2 ht hs h
    obtain ⟨b,y',d,g1,g2,_,g4⟩:=A2 ht hs h1
    obtain ⟨v,hv,g1⟩:=a7 g1
    obtain ⟨z,k1,k2⟩:=avc hv h2 g2
    rw [h4,g4,k1]
    exact hK.pure g1 k2 hs
   ·rename_i n b7 ag n2 z2 hti
    simp only [hti]
    obtain ⟨a,x',c,h1,h2,_,h4⟩:=A2 ht hs h
    obtain ⟨b,y',d,g1,g2,_,g4⟩:=A2 ht hs h1
    obtain ⟨v,hv,g1⟩:=a7 g1
    obtain ⟨z,k1,k2⟩:=asD hv h2 g2
    rw [h4,g4,k1]
    exact hK.pure g1 k2 hs
   ·cases h
 | index t x i =>
   simp only [hop] at h ⊢
   rw [ht.tab]
   split at h
   ·rename_i hti
    simp only [hti]
    obtain ⟨a,x',c,h1,h2,_,h4⟩:=A2 ht hs h
    obtain ⟨b,y',d,g1,g2,_,g4⟩:=A2 ht hs h1
    obtain ⟨v,hv,g1⟩:=a7 g1
    obtain ⟨z,k1,k2⟩:=aqx hv h2 g2
    rw [h4,g4,k1]
    exact hK.pure g1 k2 hs
   ·rename_i n b7 ag n2 z2 hti
    simp only [hti]
    obtain ⟨a,x',c,h1,h2,_,h4⟩:=A2 ht hs h
    obtain ⟨b,y',d,g1,g2,_,g4⟩:=A2 ht hs h1
    obtain ⟨v,hv,g1⟩:=a7 g1
    obtain ⟨z,k1,k2⟩:=aqJ hv h2 g2
    rw [h4,g4,k1]
    exact hK.pure g1 k2 hs
   ·cases h
 | extract x i =>
   simp only [hop] at h ⊢
   split at h
   ·rename_i t
    obtain ⟨a,x',c,h1,h2,h3,h4⟩:=A2 ht hs h
    obtain ⟨u,hu,h1⟩:=a7 h1
    obtain ⟨z,c1,c2,k1,k2,k3,k4⟩:=au4 hu h2
    rw [h4,k1]
    split at h1
    ·obtain ⟨ce,cl,ch,g⟩:=h3
     have hlook:∃ xx,look s'.env t=some (.val xx)/\xx=x':=by
      have:=h4 (EV) (fun v=>some (.val v))
      simp only [E5,V8] at this
      cases e:look s'.env t with
      | none=>rw [e] at this; cases this
      | some q =>
        rw [e] at this
        cases q<;>simp only at this<;>first | (cases this; done) | skip
        cases this; exact ⟨_,rfl,rfl⟩
     obtain ⟨xx,hl,rfl⟩:=hlook
     obtain ⟨c3,m1,m2⟩:=g.env.avR (d:=t)
     have hdel:∀ {l:List (Nat × VE)},S5 (W4 l t) t=S5 l t:=by
      intro l
      induction l with
      | nil=>rfl
      | cons p l ih =>
        obtain ⟨q,v⟩:=p
        by_cases e:q=t
        ·subst e
         have hb:Nat.beq q q=true:=Nat.beq_refl q
         simp only [W4,S5,hb]
        ·simp only [W4,S5,V9 e,ih]
     simp only [Option.bind_some]
     rw [hhp]
     refine hK w (.val u) (.val z) _ _ _ c1 h1 (by simpa only [RE] using k2) ?_
     have m1':B6 w (S5 s.env t) s'.env c3:=by rw [<-hdel]; exact m1
     refine ⟨fun i=>c2 i+c3 i,cl,ch,rfl,g.hw,g.gl,g.fr,?_,g.loc,g.aaF,g.obj,fun i=>?_,fun i hi=>?_,fun i hi=>?_⟩
     ·simp only [B6]
      exact ⟨_,c2,c3,hl,by simpa only [RE] using k3,m1',by simp⟩
     ·have:=g.L5 i; have:=k4 i; have:=m2 i; omega
     ·have:=g.O7 i hi; have:=k4 i; have:=m2 i; omega
     ·have:=g.M1 i hi; have:=k4 i; have:=m2 i; omega
    ·exact hK.pure h1 (RV.strip _ k2) hs
   ·cases h
 | call c =>
   simp only [hop] at h ⊢
   rw [ht.tab,ht.kind,ht.ext]
   split at h
   ·-- len
    rename_i hcal
    simp only [hcal]
    split at h
    ·rename_i x t hargs htys
     simp only [hargs,htys]
     split at h
     ·rename_i hti
      simp only [hti]
      obtain ⟨a,x',c',h1,h2,_,h4⟩:=A2 ht hs h
      obtain ⟨v,hv,h1⟩:=a7 h1
      obtain ⟨z,k1,k2⟩:=atK hv h2
      rw [h4,k1]
      exact hK.pure h1 k2 hs
     ·rename_i hti
      simp only [hti]
      obtain ⟨a,x',c',h1,h2,_,h4⟩:=A2 ht hs h
      obtain ⟨v,hv,h1⟩:=a7 h1
      obtain ⟨z,k1,k2⟩:=atp hv h2
      rw [h4,k1]
      exact hK.pure h1 k2 hs
     ·cases h
    ·cases h
   ·-- min
    rename_i hcal
    simp only [hcal]
    split at h
    ·rename_i x y hargs
     simp only [hargs]
     obtain ⟨a,x',c',h1,h2,_,h4⟩:=A2 ht hs h
     obtain ⟨b,y',d,g1,g2,_,g4⟩:=A2 ht hs h1
     obtain ⟨v,hv,g1⟩:=a7 g1
     obtain ⟨z,k1,k2⟩:=avx hv h2 g2
     rw [h4,g4,k1]
     exact hK.pure g1 k2 hs
    ·cases h
   ·-- append
    rename_i hcal
    simp only [hcal]
    split at h
    ·rename_i x y t u d hargs htys hd
     simp only [hargs,htys,hd]
     split at h
     ·rename_i e b7 eb z ag n zz ku ag2 n2 zz2 hti hui
      obtain ⟨_,_,h0⟩:=hT.sl _ _ _ _ _ _ _ _ hti
      simp only [hti,hui]
      split at h
      ·rename_i b hku
       have fin:∀ {c1 c2 cx:c9} {s2:VS} {xs:List (List V)} {x' y':Value} {yv rv:V} {ce cl ch:c9} {full:Bool},StC X E w s2 s' ce cl ch cx->RV w (.sl true xs) x' c1->(full=true->∃ a,x' = .slice a xs.length xs.length)->RV w yv y' c2->(∀ i,c1 i+c2 i<=cx i) →
        F1 b b7 eb xs yv=some rv->K (.val rv) s2 (avU full)=some r →
        ∃ w2 x2,R7 full s'.hp b7 eb x' y'=some (x2,w2)/\adt b y'=some y'/\∃ r',K' (.val x2) s'.loc w2 (avU full)=some r'/\Q r':=by
        intro c1 c2 cx s2 xs x' y' yv rv ce cl ch full g hx hf hy hc ha hk
        obtain ⟨w2,x2,c',k1,k2,k3,k4⟩:=apj g hx hf hy hc ha h0
        rw [hhp]
        exact ⟨w2.hp,x2,k1,k2,hK w2 (.val rv) (.val x2) s2 s'.loc _ c' hk (by simpa only [RE] using k4) ⟨ce,cl,ch,k3⟩⟩
       split at h
       ·rename_i hm
        simp only [hm]
        obtain ⟨e1,e1',c1,h1,h2,h3,h4⟩:=Z9 ht hs h
        obtain ⟨yv,y',c2,g1,g2,g3,g4⟩:=ach ht h3 h1
        split at g1
        ·rename_i xs
         cases e1'<;>simp only [RE] at h2
         rename_i x'
         obtain ⟨rv,ha,g1⟩:=a7 g1
         obtain ⟨ce,cl,ch,g⟩:=g3
         obtain ⟨w2,x2,k1,k2,r',k3,k4⟩:=fin (full:=true) g h2.1 (fun _=>h2.2) g2 (by simp) ha g1
         have g4':∀ (R':Type) (K':Value->Option R'),E5 Y s' y K'=K' y':=g4
         have h4':∀ (K':Value->Option R'),E5 Y s' x K'=K' x':=fun K'=>by unfold E5; rw [h4]
         cases ku<;>simp only at hku<;>first | (cases hku; done) | skip
         ·cases hku
          dsimp only
          rw [h4',g4']
          simp only [adt] at k2
          simp only [R7] at k1
          simp only [k2,Option.bind_some,k1]
          exact ⟨r',k3,k4⟩
         ·cases hku
          dsimp only
          rw [h4',g4']
          simp only [adt] at k2
          simp only [R7] at k1
          simp only [k2,Option.bind_some,k1]
          exact ⟨r',k3,k4⟩
        ·cases g1
       ·rename_i hm
        simp only [hm]
        split at h
        ·obtain ⟨sv,x',c1,h1,h2,h3,h4⟩:=ach ht hs h
         obtain ⟨yv,y',c2,g1,g2,g3,g4⟩:=ach ht h3 h1
         obtain ⟨⟨rv,H2⟩,ha,g6⟩:=a7 g1
         obtain ⟨ce,cl,ch,g⟩:=g3
         obtain ⟨w2,x2,c',k1,k2,k3,k4⟩:=atk g h2 g2 (by simp) ha h0
         have hfin:=hK w2 (.val rv) (.val x2) _ s'.loc _ c' g6 (by simpa only [RE] using k4) k3
         obtain ⟨r',q3,q4⟩:=hfin
         cases ku<;>simp only at hku<;>first | (cases hku; done) | skip
         ·cases hku
          dsimp only
          rw [h4,g4]
          simp only [adt] at k2
          simp only [R7] at k1
          simp only [k2,Option.bind_some,hhp,k1]
          exact ⟨r',q3,q4⟩
         ·cases hku
          dsimp only
          rw [h4,g4]
          simp only [adt] at k2
          simp only [R7] at k1
          simp only [k2,Option.bind_some,hhp,k1]
          exact ⟨r',q3,q4⟩
        obtain ⟨sv,x',c1,h1,h2,h3,h4⟩:=ach ht hs h
        obtain ⟨yv,y',c2,g1,g2,g3,g4⟩:=ach ht h3 h1
        obtain ⟨xs,hxs,g5⟩:=a7 g1
        obtain ⟨rv,ha,g6⟩:=a7 g5
        clear g5 g1
        have hsv:sv = .sl true xs:=by
         unfold aaE at hxs
         split at hxs
         ·cases hxs; rfl
         ·cases hxs
        subst hsv
        obtain ⟨ce,cl,ch,g⟩:=g3
        obtain ⟨w2,x2,k1,k2,r',k3,k4⟩:=fin (full:=false) g h2 (fun q=>by cases q) g2 (by simp) ha g6
        cases ku<;>simp only at hku<;>first | (cases hku; done) | skip
        ·cases hku
         dsimp only
         rw [h4,g4]
         simp only [adt] at k2
         simp only [R7] at k1
         simp only [k2,Option.bind_some,k1]
         exact ⟨r',k3,k4⟩
        ·cases hku
         dsimp only
         rw [h4,g4]
         simp only [adt] at k2
         simp only [R7] at k1
         simp only [k2,Option.bind_some,k1]
         exact ⟨r',k3,k4⟩
      ·cases h
     ·cases h
    ·cases h
   ·-- a known function
    rename_i f hcal
    simp only [hcal]
    split at h
    ·rename_i hk
     simp only [hk]
     obtain ⟨vs,s2,xs,c1,h1,h2,h3,h4⟩:=ajl ht hs h
     obtain ⟨⟨rv,H'⟩,hr,h1⟩:=a7 h1
     obtain ⟨x,w2,cr,q1,q2,q3⟩:=alW hcall h3 h2 (by simp) hr
     rw [h4,hhp,q1]
     exact hK w2 _ _ _ _ _ cr h1 (by simp only [RE]; exact q2) q3
    ·rename_i hk
     simp only [hk]
     obtain ⟨vs,xs,c1,h1,h2,h4⟩:=ad9 ht hs h
     split at h1
     ·split at h1
      ·obtain ⟨rv,hr,h1⟩:=a7 h1
       obtain ⟨x,q1,q2⟩:=aon hT hcall hs h2 hr
       rw [h4,q1]
       exact hK.pure h1 q2 hs
      ·obtain ⟨rv,hr,h1⟩:=a7 h1
       obtain ⟨x,q1,q2⟩:=aoH hT hcall hs h2 hr
       rw [h4,q1]
       exact hK.pure h1 q2 hs
     ·obtain ⟨rv,hr,h1⟩:=a7 h1
      obtain ⟨x,q1,q2⟩:=afW hT hcall hs h2 hr
      rw [h4,q1]
      exact hK.pure h1 q2 hs
    ·rename_i hk
     simp only [hk]
     obtain ⟨vs,xs,c1,h1,h2,h4⟩:=ad9 ht hs h
     rw [h4]
     split at h1
     ·split at h1
      ·obtain ⟨rv,hr,h1⟩:=a7 h1
       exact as9 hT hcall hK hs h2 hr h1
      obtain ⟨rv,hr,h1⟩:=a7 h1
      have came:ang Y w f xs rv:=by
       unfold ahu at hr
       split at hr
       ·exact aor hT hcall hs h2 hr
       ·exact aoq hT hcall hs h2 hr
      obtain ⟨x,hp2,fb,fb2,rho2,cr,q1,q2,q3,q4,q5,q6,q7,q9,q10⟩:=came
      split at h1
      ·unfold agd at h1
       split at h1
       ·rename_i hown
        exact aog hK hs hown h1 q1 q2 q3 q4 q5 q6 q7 q9 q10
       ·cases h1
      ·split at h1
       ·unfold agd at h1
        split at h1
        ·rename_i hown
         exact aog hK hs hown h1 q1 q2 q3 q4 q5 q6 q7 q9 q10
        ·cases h1
       ·exact anC hK hs h1 q1 q2 q3 q4 q5 q6 q7 q9 q10
     ·obtain ⟨rv,hr,h1⟩:=a7 h1
      obtain ⟨x,hp2,fb,fb2,rho2,cr,q1,q2,q3,q4,q5,q6,q7,q9,q10⟩:=aj6 hT hcall hs h2 hr
      exact anC hK hs h1 q1 q2 q3 q4 q5 q6 q7 q9 q10
    ·rename_i n hk
     simp only [hk]
     obtain ⟨vs,xs,c1,h1,h2,h4⟩:=ad9 ht hs h
     obtain ⟨az,has,h5⟩:=a7 h1
     obtain ⟨y,hy,h6⟩:=a7 h5
     obtain ⟨v,hv,h7⟩:=a7 h6
     clear h1 h5 h6
     rw [h4]
     have:xs=az:=by
      have:∀ {vs:List V} {xs az:List Value} {c:c9},c4 w vs xs c->vs.mapM toA=some az->xs=az:=by
       intro vs
       induction vs with
       | nil=>intro xs az c h h2; simp only [c4] at h; simp at h2; rw [h.1,h2]
       | cons a vs ih =>
         intro xs az c h h2
         simp only [c4] at h
         obtain ⟨x,ys,c1,c2,rfl,k1,k2,k3⟩:=h
         rw [List.mapM_cons] at h2
         obtain ⟨p,p1,h2⟩:=a7 h2
         obtain ⟨q,q1,h2⟩:=a7 h2
         cases h2
         rw [aka k1 p1,ih k2 q1]
      exact this h2 has
     subst this
     rw [hy]
     exact hK.pure h7 (amz hv) hs
   ·-- a function value
    rename_i x hne hcal
    obtain ⟨fv,fv',cf,h1,h2,_,h4⟩:=A2 ht hs h
    obtain ⟨vs,xs,c1,g1,g2,g4⟩:=ad9 ht hs h1
    obtain ⟨⟨f,caps⟩,hf,g5⟩:=a7 g1
    have hfv:fv = .fn f caps:=by
     unfold aec at hf
     split at hf
     ·cases hf; rfl
     ·cases hf
    clear g1 h1 h
    subst hfv
    simp only [RV] at h2
    obtain ⟨⟨ws,rfl,hcap⟩,_⟩:=h2
    have hcal':callee (.func (.func f) #[] ⟨ws⟩)=some (f,ws):=rfl
    have key:∃ r',(E5 Y s' x fun fv=>ab1 Y s' c.args.toList fun vs=>(callee fv).bind fun p=>match A.o6 with
     | true=>(U5 Y.call p.1 (vs++p.2) s'.hp).bind fun v=>K' (.val v) s'.loc s'.hp .H
     | false=>(Y.call p.1 (vs++p.2) s'.hp).bind fun r=>K' (.val r.1) s'.loc r.2 .W)=some r'/\Q r':=by
     rw [h4,g4]
     simp only [hcal',Option.bind_some]
     have hall:=g2.app hcap
     split at g5
     ·rename_i hq
      obtain ⟨rv,hr,g6⟩:=a7 g5
      obtain ⟨x2,q1,q2⟩:=afW hT hcall hs hall hr
      simp only [hq,q1,Option.bind_some]
      exact hK.pure g6 q2 hs
     ·rename_i hq
      obtain ⟨⟨rv,H'⟩,hr,g6⟩:=a7 g5
      obtain ⟨x2,w2,cr,q1,q2,q3⟩:=alW hcall hs (c4.strip _ hall) (by simp) hr
      try simp only [hq]
      rw [hhp,q1]
      exact hK w2 _ _ _ _ _ cr g6 (by simp only [RE]; exact q2) q3
    cases x with
    | func f=>exact absurd rfl (hne f)
    | _=>simp only [hcal]; exact key
   ·cases h
 | makeSlice t l c =>
   simp only [hop] at h ⊢
   rw [ht.tab]
   split at h
   ·rename_i e b7 eb z ag n zz hti
    simp only [hti]
    obtain ⟨q1,q2,q3⟩:=hT.sl _ _ _ _ _ _ _ _ hti
    obtain ⟨vl,xl,cl',h1,h2,_,h4⟩:=A2 ht hs h
    obtain ⟨vc,xc,cc',g1,g2,_,g4⟩:=A2 ht hs h1
    obtain ⟨m,hm,g5⟩:=a7 g1
    clear g1 h1 h
    rw [h4,g4]
    have hm':amo eb xl xc=some m:=by
     unfold afi at hm
     split at hm
     ·simp only [RV] at h2 g2
      rw [h2.1,g2.1]
      exact hm
     ·cases hm
    simp only [hm',Option.bind_some]
    obtain ⟨ce,cl,ch,g⟩:=hs
    obtain ⟨w2,k1,k2,k3⟩:=ada g (akM (X6 (w:=w) q1) m.2) (by simp) b7 true (fun h=>by cases h)
    rw [hhp,<-k1]
    exact hK w2 _ _ _ _ _ (fun _=>0) g5 (by simp only [RE]; exact ak5 k1 k3 q3) k2.self
   ·cases h
 | _=>simp only [hop] at h; cases h
end
end Go.AM

/- Code: the machine of values and the abstract machine side by side. -/
namespace Go.AM
set_option linter.unusedSimpArgs false
set_option linter.unusedVariables false
def St0 (X:XV) (E:En) (s:VS) (s':St):Prop:=∃ w,D9 X E w s s' (fun _=>0)
def ad2 (X:XV) (E:En) (vs:List V) (H:VH) (xs:List Value) (hp:Heap):Prop :=
 ∃ (w:Wd) (cv ch:c9),hp=w.hp/\HW w/\J3 X w/\D1 E w/\c4 w vs xs cv/\p5 w H w.c5 ch/\(∀ i,cv i+ch i<=1)/\(∀ i,i<E.hp.length->cv i+ch i<=E.c0 i)/\(∀ i,w.hp.length<=i->cv i+ch i=0)
theorem ala {X:XV} {E:En} {w:Wd} {s:VS} {env:List (Nat × EV)} {loc:List (Nat × List Value)} {ce:c9} {e:VE} {e':EV} (hs:D9 X E w s ⟨env,loc,w.hp⟩ ce) (hr:RE w e e' ce) (d:Option Nat) :
 D9 X E w { s with env:=anN s.env d e } ⟨adC env d e',loc,w.hp⟩ (fun _=>0):=by
 cases d with
 | none=>exact hs.less (by simp)
 | some d =>
   obtain ⟨c1,cl,ch,g⟩:=hs
   obtain ⟨c2,h1,h2⟩:=g.env.del (d:=d) (x:=e')
   refine ⟨fun i=>ce i+c2 i,cl,ch,rfl,g.hw,g.gl,g.fr,?_,g.loc,g.aaF,g.obj,fun i=>?_,fun i hi=>?_,fun i hi=>?_⟩
   ·simp only [anN,adC,B6]
    exact ⟨e',ce,c2,by rw [j2,if_pos rfl],hr,h1,by simp⟩
   ·have:=g.L5 i; have:=h2 i; omega
   ·have:=g.O7 i hi; have:=h2 i; omega
   ·have:=g.M1 i hi; have:=h2 i; omega
theorem al4 {S:Type} {v:V} {p q:Option S} {a:S} (hh:j8 v p q=some a):(v = .bool true/\p=some a)\/(v = .bool false/\q=some a)\/(v = .ub/\p=some a/\q=some a):=by
 unfold j8 at hh
 split at hh
 ·exact .inl ⟨rfl,hh⟩
 ·exact .inr (.inl ⟨rfl,hh⟩)
 ·unfold ahW at hh
  split at hh
  ·rename_i e; exact .inr (.inr ⟨rfl,hh,by rw [<-e]; exact hh⟩)
  ·cases hh
 ·cases hh
theorem abW {S:Type} {v:V} {p q:Option S} {a:S} (hh:l7 v p q=some a):(v = .bool true/\p=some a)\/(v = .bool false/\q=some a):=by
 unfold l7 at hh
 split at hh
 ·exact .inl ⟨rfl,hh⟩
 ·exact .inr ⟨rfl,hh⟩
 ·cases hh
section
variable {X:XV} {Y:Ctx} {A:S1} {T:List Nat} {E:En}
theorem St0.bool {s:VS} {s':St} (hs:St0 X E s s') (d:Nat) (b:Bool):St0 X E { s with env:=(d,.val (.bool b))::S5 s.env d } { s' with env:=(d,.val (.bool b))::s'.env }:=by
 obtain ⟨w,h⟩:=hs
 have:=ala (e := .val (.bool b)) (e' := .val (.bool b)) h.self (by simp [RE,RV]) (some d)
 refine ⟨w,?_⟩
 have hh:=h.hp
 obtain ⟨env,loc,hp⟩:=s'
 simp only at hh
 subst hh
 exact this
theorem aq6 {R R':Type} {r:R} {Q:R'->Prop} {ops:Array Oper} {o:Oper} {s:VS} {s':St} (hs:St0 X E s s') {run pass:List (Nat × VE)->Option R} {run' pass':List (Nat × EV)->Option R'}
 (h:W2 ops o s.env run pass=some r) (h1:∀ e e',run e=some r->St0 X E { s with env:=e } { s' with env:=e' }->∃ r',run' e'=some r'/\Q r') (h2:∀ e e',pass e=some r->St0 X E { s with env:=e } { s' with env:=e' }->∃ r',pass' e'=some r'/\Q r') :
 ∃ r',N2 ops o s'.env run' pass'=some r'/\Q r':=by
 unfold W2 at h
 unfold N2
 split at h
 ·rename_i hg
  simp only [hg]
  exact h1 _ _ h hs
 ·rename_i j want hg
  simp only [hg]
  split at h
  ·cases h
  ·rename_i d hd
   simp only [hd]
   split at h
   ·rename_i v hl
    obtain ⟨w,ce,cl,ch,g⟩:=hs
    obtain ⟨x,c1,c2,k1,k2,_,_⟩:=g.env.look hl
    cases x<;>simp only [RE] at k2
    rename_i x
    have hs':St0 X E s s':=⟨w,ce,cl,ch,g⟩
    rw [k1]
    split at h
    ·rcases abW h with ⟨rfl,h⟩ | ⟨rfl,h⟩
     ·simp only [RV] at k2
      simp only [k2.1,S0]
      exact h1 _ _ h (hs'.bool d true)
     ·simp only [RV] at k2
      simp only [k2.1,S0]
      exact h2 _ _ h (hs'.bool d false)
    ·rcases abW h with ⟨rfl,h⟩ | ⟨rfl,h⟩
     ·simp only [RV] at k2
      simp only [k2.1,S0]
      exact h2 _ _ h (hs'.bool d true)
     ·simp only [RV] at k2
      simp only [k2.1,S0]
      exact h1 _ _ h (hs'.bool d false)
   ·rename_i hl
    obtain ⟨w,ce,cl,ch,g⟩:=hs
    obtain ⟨x,c1,c2,k1,k2,_,_⟩:=g.env.look hl
    cases x<;>simp only [RE] at k2
    rw [k1]
    exact h2 _ _ h ⟨w,ce,cl,ch,g⟩
   ·cases h
theorem ahX (ht:Twin X Y) (hT:aaS X) (hcall:∀ f args H r H',X.call f args H=some (r,H')->C5 X Y.call f args H r H') {R R':Type} {r:R} {Q:R'->Prop} {ops:Array Oper} :
 ∀ {os:List Oper} {cl:List B4} {s:VS} {s':St} {K:List B4->VS->Option R} {K':List B4->St->Option R'},St0 X E s s'->ae6 X A T ops os cl s K=some r →
   (∀ cl s s',K cl s=some r->St0 X E s s'->∃ r',K' cl s'=some r'/\Q r')->∃ r',aau Y A ops os cl s' K'=some r'/\Q r'
 | [],cl,s,s',K,K',hs,h,hK=>hK _ _ _ h hs
 | o::os,cl,s,s',K,K',hs,h,hK=>by
   simp only [ae6] at h
   simp only [aau]
   refine aq6 hs h (fun e e' hr hs2=>?_) (fun e e' hp hs2=>?_)
   ·obtain ⟨w,hs2⟩:=hs2
    refine avE ht hT hcall hs2 hr ?_
    intro w2 ev ev' s2 loc c ce hk hre hst
    exact ahX ht hT hcall ⟨w2,ala hst hre o.dst⟩ hk hK
   ·refine ahX ht hT hcall ?_ hp hK
    obtain ⟨w,hs2⟩:=hs2
    have hh:=hs2.hp
    simp only at hh
    have:=ala (e := .B9) (e' := .B9) hs2.self (by simp [RE]) o.dst
    refine ⟨w,?_⟩
    rw [<-hh] at this
    exact this
theorem akr {t u:Nat} (h:u ≠ t):∀ {l:List (Nat × VE)},look (W4 l t) u=look l u
 | []=>rfl
 | (k,v)::l=>by
   by_cases e:k=t
   ·subst e
    have hb:Nat.beq k k=true:=Nat.beq_refl k
    simp only [W4,hb]
    rw [j2,j2,if_neg h,if_neg h]
   ·simp only [W4,V9 e]
    rw [j2,j2]
    split
    ·rfl
    ·exact akr h
theorem afN {R:Type} {t:Nat} {l:List (Nat × VE)}:∀ {ss:List Nat} {K:List V->Option R},t ∉ ss->aak (W4 l t) ss K=aak l ss K
 | [],K,h=>rfl
 | s::ss,K,h=>by
   simp only [aak]
   rw [akr (fun e=>h (by simp [e]))]
   split
   ·exact afN (fun hm=>h (by simp [hm]))
   ·exact afN (fun hm=>h (by simp [hm]))
   ·rfl
theorem anZ {w:Wd} {ae:List (Nat × EV)} {R:Type} {r:R}:∀ {ss:List Nat} {l:List (Nat × VE)} {ce:c9} {K:List V->Option R},ss.Nodup->B6 w l ae ce->aak l ss K=some r →
 ∃ vs xs c,K vs=some r/\c4 w vs xs c/\(∀ i,c i<=ce i)/\vs.length=ss.length/\∀ (R':Type) (K':List Value->Option R'),abZ ae ss K'=K' xs
 | [],l,ce,K,nd,he,h=>⟨[],[],fun _=>0,h,by simp [c4],by simp,rfl,fun _ _=>rfl⟩
 | s::ss,l,ce,K,nd,he,h=>by
   simp only [aak] at h
   simp at nd
   have key:∀ {v:V} {x:Value} {e:VE} {c1 c2:c9} {K2:List V->Option R},look ae s=some (.val x)->RV w v x c1->B6 w (W4 l s) ae c2->(∀ i,ce i=c1 i+c2 i)->aak l ss (fun vs=>K (v::vs))=some r →
    ∃ vs xs c,K vs=some r/\c4 w vs xs c/\(∀ i,c i<=ce i)/\vs.length=(s::ss).length/\∀ (R':Type) (K':List Value->Option R'),abZ ae (s::ss) K'=K' xs:=by
    intro v x e c1 c2 K2 h1 h2 h3 h4 h5
    rw [<-afN (t:=s) nd.1] at h5
    obtain ⟨vs,xs,c,g1,g2,g3,g4,g5⟩:=anZ nd.2 h3 h5
    refine ⟨v::vs,x::xs,fun i=>c1 i+c i,g1,⟨x,xs,c1,c,rfl,h2,g2,by simp⟩,fun i=>by have:=g3 i; have:=h4 i; show c1 i+c i<=ce i; omega,by simp [g4],fun R' K'=>by simp only [abZ,h1,g5]⟩
   split at h
   ·rename_i v hl
    obtain ⟨x,c1,c2,h1,h2,h3,h4⟩:=he.look hl
    cases x<;>simp only [RE] at h2
    exact key (e := .B9) (K2:=K) h1 h2 h3 h4 h
   ·rename_i ys hl
    obtain ⟨x,c1,c2,h1,h2,h3,h4⟩:=he.look hl
    cases x<;>simp only [RE] at h2
    exact key (e := .B9) (K2:=K) h1 h2.1 h3 h4 h
   ·cases h
theorem aq0 {w:Wd} {ae:List (Nat × EV)}:∀ {ls:List (Nat × Nat × Nat)} {l:List (Nat × VE)} {ce:c9},B6 w l ae ce->amu l ls=true->ak4 ae ls=true
 | [],l,ce,he,h=>rfl
 | (s,k,o)::ls,l,ce,he,h=>by
   simp only [amu] at h
   split at h
   ·rename_i k' o' hl
    obtain ⟨x,c1,c2,h1,h2,h3,h4⟩:=he.look hl
    cases x<;>simp only [RE] at h2
    obtain ⟨rfl,rfl,_⟩:=h2
    simp only [Bool.and_eq_true] at h
    simp only [ak4,h1,Bool.and_eq_true]
    exact ⟨h.1,aq0 he h.2⟩
   ·cases h
theorem aj9 {k j:Nat} (h:j ≠ k) {cs:List V}:∀ {l:List (Nat × List V)},look (N9 l k cs) j=look l j
 | []=>rfl
 | (q,v)::l=>by
   by_cases e:q=k
   ·subst e
    have hb:Nat.beq q q=true:=Nat.beq_refl q
    simp only [N9,hb]
    rw [j2,j2,if_neg h,if_neg h]
   ·simp only [N9,V9 e]
    rw [j2,j2]
    split
    ·rfl
    ·exact aj9 h
theorem arY {R:Type} {k:Nat} {d:List V} {l:List (Nat × List V)}:∀ {ks:List (Nat × Nat)} {K:List V->Option R},k ∉ ks.map (·.1)->csV (N9 l k d) ks K=csV l ks K
 | [],K,h=>rfl
 | (j,n)::ks,K,h=>by
   simp only [csV]
   rw [aj9 (fun e=>h (by simp [e]))]
   split
   ·split
    ·exact arY (fun hm=>h (by simp at hm ⊢; exact .inr hm))
    ·rfl
   ·rfl
theorem ahF {k:Nat} {ws:List Value}:∀ {l:List (Nat × List Value)},look l k=some ws->Z1 l k ws=l
 | [],h=>rfl
 | (q,v)::l,h=>by
   by_cases e:q=k
   ·subst e
    have hb:Nat.beq q q=true:=Nat.beq_refl q
    simp only [look,hb] at h
    cases h; simp only [Z1,hb]
   ·simp only [look,V9 e] at h
    simp only [Z1,V9 e,ahF h]
theorem arc {w:Wd} {al:List (Nat × List Value)} {R:Type} {r:R}:∀ {ks:List (Nat × Nat)} {l:List (Nat × List V)} {cl:c9} {K:List V->Option R},(ks.map (·.1)).Nodup->K6 w l al cl->csV l ks K=some r →
 ∃ vs xs c,K vs=some r/\c4 w vs xs c/\(∀ i,c i<=cl i)/\vs.length=total ks/\∀ (R':Type) (K':List Value->Option R'),csK al ks K'=K' xs
 | [],l,cl,K,nd,he,h=>⟨[],[],fun _=>0,h,by simp [c4],by simp,rfl,fun _ _=>rfl⟩
 | (k,n)::ks,l,cl,K,nd,he,h=>by
   simp only [csV] at h
   simp only [List.map_cons,List.nodup_cons] at nd
   split at h
   ·rename_i cs hl
    split at h
    ·rename_i hb
     obtain ⟨ws,c1,c2,h1,h2,h3,h4⟩:=he.look hl
     have h5:=h4 _ _ _ (c4.strip _ h2)
     rw [ahF h1] at h5
     rw [<-arY (k:=k) (d:=j3 cs) nd.1] at h
     obtain ⟨vs,xs,c,g1,g2,g3,g4,g5⟩:=arc nd.2 h5 h
     have hn:=Nat.eq_of_beq_eq_true hb
     have hb':Nat.beq ws.length n=true:=by rw [<-h2.len]; exact hb
     exact ⟨cs++vs,ws++xs,_,g1,h2.app g2,fun i=>by have:=g3 i; have:=h3 i; omega,by simp only [List.length_append,total,g4]; omega,fun R' K'=>by simp only [csK,h1,hb',g5]⟩
    ·cases h
   ·cases h
theorem aix {kp:H3} (h:ahN kp=true):ac8 kp=true/\(kp.cs.map (·.1)).Nodup/\kp.vs.Nodup/\(kp.ls.map (·.1)).Nodup/\∀ x ∈ kp.ls,mem kp.vs x.1=false:=by
 unfold ahN at h
 simp only [Bool.and_eq_true,decide_eq_true_eq,List.all_eq_true] at h
 obtain ⟨⟨⟨⟨h1,h2⟩,h3⟩,h4⟩,h5⟩:=h
 refine ⟨?_,h2,h3,h4,fun x hx=>by have:=h5 x hx; simpa using this⟩
 unfold ac8
 simp only [Bool.and_eq_true]
 exact ⟨h1,by simpa using h2⟩
theorem af4 {R:Type} {r:R} {kp:H3} {s:VS} {s':St} (hs:St0 X E s s') {K:List V->VH->Option R} (h:aa3 kp s K=some r) :
 ∃ vs xs,K vs s.H=some r/\ad2 X E vs s.H xs s'.hp/\∀ (R':Type) (K':List Value->Heap->Option R'),O3 kp s' K'=K' xs s'.hp:=by
 unfold aa3 at h
 split at h
 ·rename_i hk
  simp only [Bool.and_eq_true] at hk
  obtain ⟨k1,k2,k3,k4,k5⟩:=aix hk.1
  obtain ⟨w,ce,cl,ch,g⟩:=hs
  obtain ⟨vs,xs,c,h1,h2,h3,h4,h5⟩:=anZ k3 g.env h
  obtain ⟨us,ys,d,g1,g2,g3,g4,g5⟩:=arc k2 g.loc h1
  refine ⟨vs++us,xs++ys,g1,⟨w,_,ch,g.hp,g.hw,g.gl,g.fr,h2.app g2,g.obj,fun i=>?_,fun i hi=>?_,fun i hi=>?_⟩,fun R' K'=>?_⟩
  ·have:=g.L5 i; have:=h3 i; have:=g3 i; omega
  ·have:=g.O7 i hi; have:=h3 i; have:=g3 i; omega
  ·have:=g.M1 i hi; have:=h3 i; have:=g3 i; omega
  ·simp only [O3,aq0 g.env hk.2,h5,g5]
 ·cases h
theorem alN {a:Nat}:∀ {l:List Nat},mem l a=false->a ∉ l
 | [],_=>by simp
 | b::l,h=>by
   simp only [mem] at h
   split at h
   ·cases h
   ·rename_i hb
    intro hm
    rcases List.mem_cons.1 hm with e | hm
    ·rw [e,Nat.beq_refl] at hb; cases hb
    ·exact alN h hm
theorem c4.head {w:Wd} {vs:List V} {xs:List Value} {d:c9} {i:Nat} (hi:i<vs.length) (h:c4 w (vs.drop i) (xs.drop i) d):∃ a b,RV w (vs.getD i .g8) (xs.getD i undef) a/\c4 w (vs.drop (i+1)) (xs.drop (i+1)) b/\∀ j,d j=a j+b j:=by
 rw [List.drop_eq_getElem_cons hi] at h
 simp only [c4] at h
 obtain ⟨x,ys,a,b,h1,h2,h3,h4⟩:=h
 have hx:xs[i]? = some x:=by
  have:(xs.drop i)[0]? = some x:=by rw [h1]; rfl
  simpa using this
 have hy:xs.drop (i+1)=ys:=by rw [<-List.drop_drop,h1]; rfl
 refine ⟨a,b,?_,by rw [hy]; exact h3,h4⟩
 rw [List.getD_eq_getElem?_getD,List.getD_eq_getElem?_getD,hx,List.getElem?_eq_getElem hi]; exact h2
theorem aod {w:Wd} {vs:List V} {xs:List Value} {ae:List (Nat × EV)}:∀ {ss:List Nat} {i:Nat} {d:c9},c4 w (vs.drop i) (xs.drop i) d->i+ss.length<=vs.length->(∀ (j s:Nat),ss[j]? = some s->look ae s=some (.val (xs.getD (i+j) undef))) →
 ∃ c1 c2,B6 w (agN i ss vs) ae c1/\c4 w (vs.drop (i+ss.length)) (xs.drop (i+ss.length)) c2/\∀ j,c1 j+c2 j=d j
 | [],i,d,hd,hl,ha=>⟨fun _=>0,d,by simp [agN,B6],by simpa using hd,by simp⟩
 | s::ss,i,d,hd,hl,ha=>by
   simp at hl
   obtain ⟨a,b,h1,h2,h3⟩:=hd.head (i:=i) (by omega)
   obtain ⟨c1,c2,g1,g2,g3⟩:=aod (ss:=ss) (i:=i+1) h2 (by omega) (fun j t ht=>by have:=ha (j+1) t (by simpa using ht); rw [this]; congr 3; omega)
   refine ⟨fun j=>a j+c1 j,c2,?_,by rw [List.length_cons,show i+(ss.length+1)=i+1+ss.length by omega]; exact g2,fun j=>by have:=g3 j; have:=h3 j; show a j+c1 j+c2 j=d j; omega⟩
   simp only [agN,B6]
   exact ⟨_,a,c1,ha 0 s (by simp),by simp only [RE]; exact h1,g1,by simp⟩
theorem anT {w:Wd} {vs:List V} {xs:List Value}:∀ {ks:List (Nat × Nat)} {i:Nat} {d:c9} {al:List (Nat × List Value)},(ks.map (·.1)).Nodup->c4 w (vs.drop i) (xs.drop i) d->i+total ks<=vs.length->i+total ks<=xs.length->(∀ k n,look (L6 i ks xs) k=some n->look al k=some n)->(∀ p ∈ ks,(look (L6 i ks xs) p.1).isSome=true) →
 ∃ c1,K6 w (aco i ks vs) al c1/\∀ j,c1 j<=d j
 | [],i,d,al,nd,hd,hl,hl2,ha,hm=>⟨fun _=>0,by simp [aco,K6],by simp⟩
 | (k,n)::ks,i,d,al,nd,hd,hl,hl2,ha,hm=>by
   simp only [List.map_cons,List.nodup_cons] at nd
   simp only [total] at hl hl2
   have e1:vs.drop i=(vs.drop i).take n++vs.drop (i+n):=by rw [<-List.drop_drop,List.take_append_drop]
   rw [e1] at hd
   obtain ⟨ys,zs,a,b,h1,h2,h3,h4⟩:=hd.split
   have hyl:=h2.len
   rw [List.length_take,List.length_drop,Nat.min_eq_left (by omega)] at hyl
   have hys:ys=(xs.drop i).take n:=by rw [h1,hyl,List.take_left]
   have hzs:zs=xs.drop (i+n):=by rw [<-List.drop_drop,h1,hyl,List.drop_left]
   subst hzs
   have hne:∀ k' v,look (L6 (i+n) ks xs) k'=some v->k' ≠ k:=fun k' v h e=>by
    subst e
    have:∀ {ks:List (Nat × Nat)} {i:Nat},k' ∉ ks.map (·.1)->look (L6 i ks xs) k'=none:=by
     intro ks
     induction ks with
     | nil=>intro i _; rfl
     | cons p ks ih =>
       intro i hn
       obtain ⟨q,m⟩:=p
       simp only [List.map_cons,List.mem_cons,not_or] at hn
       simp only [L6]
       rw [j2,if_neg hn.1]; exact ih hn.2
    rw [this nd.1] at h; cases h
   have memv:∀ {ks:List (Nat × Nat)} {i:Nat},k ∉ ks.map (·.1)->look (aco i ks vs) k=none:=by
    intro ks
    induction ks with
    | nil=>intro i _; rfl
    | cons p ks ih =>
      intro i hn
      obtain ⟨q,m⟩:=p
      simp only [List.map_cons,List.mem_cons,not_or] at hn
      simp only [aco]
      rw [j2,if_neg hn.1]; exact ih hn.2
   have somev:∀ {ks:List (Nat × Nat)} {i:Nat},∀ p ∈ ks,(look (L6 i ks xs) p.1).isSome=true:=by
    intro ks
    induction ks with
    | nil=>intro i p hp; cases hp
    | cons q ks ih =>
      intro i p hp
      obtain ⟨q,m⟩:=q
      simp only [L6]
      rw [j2]
      split
      ·rfl
      ·rename_i hq
       rcases List.mem_cons.1 hp with rfl | hp
       ·exact absurd rfl hq
       ·exact ih p hp
   obtain ⟨c1,g1,g2⟩:=anT (ks:=ks) (i:=i+n) (al:=al) nd.2 h3 (by omega) (by omega) (fun k' v h=>ha k' v (by simp only [L6]; rw [j2,if_neg (hne k' v h)]; exact h)) somev
   refine ⟨fun j=>a j+c1 j,?_,fun j=>by have:=g2 j; have:=h4 j; show a j+c1 j<=d j; omega⟩
   simp only [aco,K6]
   refine ⟨abI i n xs,a,c1,ha k _ (by simp only [L6]; rw [j2,if_pos rfl]),?_,memv nd.1,g1,by simp⟩
   rw [aiU (by omega),ahm (by omega),<-hys]; exact h2
theorem agU {R:Type} {r:R} {kp:H3} {vs:List V} {H:VH} {xs:List Value} {hp:Heap} (hs:ad2 X E vs H xs hp) {K:VS->Option R} (h:aci kp vs H K=some r) :
 ∃ s s',K s=some r/\St0 X E s s'/\∀ (R':Type) (K':St->Option R'),aaR kp xs hp K'=K' s':=by
 unfold aci at h
 split at h
 ·rename_i hk
  obtain ⟨k1,k2,k3,k4,k5⟩:=aix hk
  split at h
  ·rename_i hl
   obtain ⟨w,cv,ch,rfl,hw,hg,hf,hv,ho,l1,l0,lb⟩:=hs
   have hlen:=hv.len
   have hlook:∀ (j s:Nat),kp.vs[j]? = some s->look (Z2 kp.ls++aam 0 kp.vs xs) s=some (.val (xs.getD (0+j) undef)):=by
    intro j s hj
    have hnl:∀ {ls:List (Nat × Nat × Nat)} {m:List (Nat × EV)},(∀ x ∈ ls,x.1 ≠ s)->look (Z2 ls++m) s=look m s:=by
     intro ls
     induction ls with
     | nil=>intro m _; rfl
     | cons p ls ih =>
       intro m hn
       obtain ⟨q,k,o⟩:=p
       simp only [Z2,List.cons_append]
       rw [j2,if_neg (fun e=>hn (q,k,o) (by simp) e.symm)]
       exact ih (fun x hx=>hn x (by simp [hx]))
    rw [hnl (fun x hx e=>alN (k5 x hx) (by rw [e]; exact List.mem_of_getElem? hj))]
    have hev:∀ {ss:List Nat} {i j:Nat},ss.Nodup->ss[j]? = some s->look (aam i ss xs) s=some (.val (xs.getD (i+j) undef)):=by
     intro ss
     induction ss with
     | nil=>intro i j _ h; simp at h
     | cons t ss ih =>
       intro i j nd h
       simp at nd
       simp only [aam]
       rw [j2]
       cases j with
       | zero=>simp at h; subst h; rw [if_pos rfl]; rfl
       | succ j =>
         simp at h
         rw [if_neg (fun e=>nd.1 (by subst e; exact List.mem_of_getElem? h)),ih nd.2 h]
         congr 3; omega
    exact hev k3 hj
   obtain ⟨c1,c2,e1,e2,e3⟩:=aod (ss:=kp.vs) (i:=0) (ae:=Z2 kp.ls++aam 0 kp.vs xs) (by simpa using hv) (by omega) hlook
   have hls:∀ {ls:List (Nat × Nat × Nat)} {pre:List (Nat × EV)} {rest:List (Nat × VE)} {c:c9},(ls.map (·.1)).Nodup->B6 w rest (pre++(Z2 ls++aam 0 kp.vs xs)) c->(∀ x ∈ ls,look pre x.1=none)->B6 w (aml ls++rest) (pre++(Z2 ls++aam 0 kp.vs xs)) c:=by
    intro ls
    induction ls with
    | nil=>intro pre rest c _ h _; exact h
    | cons p ls ih =>
      intro pre rest c nd h hn
      obtain ⟨q,k,o⟩:=p
      simp only [List.map_cons,List.nodup_cons] at nd
      simp only [aml,List.cons_append,B6]
      have hpre:∀ {m:List (Nat × EV)} {t:Nat},look pre t=none->look (pre++m) t=look m t:=by
       intro m t
       have:∀ {pre:List (Nat × EV)},look pre t=none->look (pre++m) t=look m t:=by
        intro pre
        induction pre with
        | nil=>intro _; rfl
        | cons a pre ih2 =>
          intro hh
          obtain ⟨a1,a2⟩:=a
          rw [j2] at hh
          split at hh
          ·cases hh
          ·rename_i hq
           simp only [List.cons_append]
           rw [j2,if_neg hq]; exact ih2 hh
       exact this
      refine ⟨.loc k o,fun _=>0,c,?_,by simp [RE],?_,by simp⟩
      ·have hq:look pre q=none:=hn (q,k,o) (by simp)
       rw [hpre hq]
       simp only [Z2,List.cons_append]
       rw [j2,if_pos rfl]
      ·have e:pre++(Z2 ((q,k,o)::ls)++aam 0 kp.vs xs)=(pre++[(q,EV.loc k o)])++(Z2 ls++aam 0 kp.vs xs):=by simp [Z2]
       rw [e] at h ⊢
       refine ih nd.2 h (fun x hx=>?_)
       have:look pre x.1=none:=hn x (by simp [hx])
       rw [hpre this,j2,if_neg (fun e=>nd.1 (by rw [<-e]; exact List.mem_map_of_mem hx))]
       rfl
   have henv:=hls (pre:=[]) k4 e1 (fun _ _=>rfl)
   simp only [List.nil_append] at henv
   obtain ⟨c3,f1,f2⟩:=anT (ks:=kp.cs) (i:=kp.vs.length) (al:=L6 kp.vs.length kp.cs xs) k2 (by simpa using e2) (by omega) (by omega) (fun k n h=>h) (by
    intro p hp
    have somev:∀ {ks:List (Nat × Nat)} {i:Nat},∀ p ∈ ks,(look (L6 i ks xs) p.1).isSome=true:=by
     intro ks
     induction ks with
     | nil=>intro i p hp; cases hp
     | cons q ks ih =>
       intro i p hp
       obtain ⟨q,m⟩:=q
       simp only [L6]
       rw [j2]
       split
       ·rfl
       ·rename_i hq
        rcases List.mem_cons.1 hp with rfl | hp
        ·exact absurd rfl hq
        ·exact ih p hp
    exact somev p hp)
   refine ⟨_,aav kp xs w.hp,h,⟨w,c1,c3,ch,rfl,hw,hg,hf,henv,f1,fun k hk=>?_,ho,fun i=>?_,fun i hi=>?_,fun i hi=>?_⟩,fun R' K'=>?_⟩
   ·have:∀ {ks:List (Nat × Nat)} {i:Nat},look (aco i ks vs) k=none->look (L6 i ks xs) k=none:=by
     intro ks
     induction ks with
     | nil=>intro i _; rfl
     | cons p ks ih =>
       intro i hh
       obtain ⟨q,m⟩:=p
       simp only [aco] at hh
       simp only [L6]
       rw [j2] at hh ⊢
       split at hh
       ·cases hh
       ·rename_i hq; rw [if_neg hq]; exact ih hh
    exact this hk
   ·have:=l1 i; have:=e3 i; have:=f2 i; omega
   ·have:=l0 i hi; have:=e3 i; have:=f2 i; omega
   ·have:=lb i hi; have:=e3 i; have:=f2 i; omega
   ·unfold aaR
    rw [k1]
    simp only
    rw [if_pos (by omega)]; rfl
  ·cases h
 ·cases h
theorem ahG {R:Type} {r:R} {e:Exit} {s:VS} {s':St} (hs:St0 X E s s'):∀ {outs:List (Exit × H3)} {K:Nat->List V->VH->Option R},aff outs e s K=some r →
 ∃ n vs xs,K n vs s.H=some r/\ad2 X E vs s.H xs s'.hp/\∀ (R':Type) (K':Nat->List Value->Heap->Option R'),aad outs e s' K'=K' n xs s'.hp
 | [],K,h=>by cases h
 | (x,kp)::l,K,h=>by
   simp only [aff] at h
   split at h
   ·rename_i hx
    obtain ⟨vs,xs,h1,h2,h3⟩:=af4 hs h
    exact ⟨0,vs,xs,h1,h2,fun R' K'=>by simp only [aad,hx,h3]⟩
   ·rename_i hx
    obtain ⟨n,vs,xs,h1,h2,h3⟩:=ahG hs h
    exact ⟨n+1,vs,xs,h1,h2,fun R' K'=>by simp only [aad,hx,h3]⟩
theorem am7 {R:Type} {r:R} {vs:List V} {H:VH} {xs:List Value} {hp:Heap} (hs:ad2 X E vs H xs hp) {K:Exit->VS->Option R}:∀ {outs:List (Exit × H3)} {n:Nat},inV outs n vs H K=some r →
 ∃ e s s',K e s=some r/\St0 X E s s'/\∀ (R':Type) (K':Exit->St->Option R'),inK outs n xs hp K'=K' e s'
 | [],n,h=>by cases h
 | (x,kp)::l,0,h=>by
   simp only [inV] at h
   obtain ⟨s,s',h1,h2,h3⟩:=agU hs h
   exact ⟨x,s,s',h1,h2,fun R' K'=>by simp only [inK,h3]⟩
 | (x,kp)::l,n+1,h=>by
   simp only [inV] at h
   obtain ⟨e,s,s',h1,h2,h3⟩:=am7 hs h
   exact ⟨e,s,s',h1,h2,fun R' K'=>by simp only [inK,h3]⟩
inductive ajh (B:List V->VH->Option (Option Nat × List V × VH)):Nat->List V->VH->(Nat × List V × VH)->Prop
 | stop {vs:List V} {hp:VH} {m:Nat} {vs':List V} {hp':VH}:B vs hp=some (some m,vs',hp')->ajh B 0 vs hp (m,vs',hp')
 | more {n:Nat} {vs:List V} {hp:VH} {vs1:List V} {hp1:VH} {res:Nat × List V × VH}:B vs hp=some (none,vs1,hp1)->ajh B n vs1 hp1 res->ajh B (n+1) vs hp res
def ap9 (lp:T8):Prop:=∀ B vs hp res,lp B vs hp=some res->∃ n,ajh B n vs hp res
def axk (lp:LpT):Prop:=∀ B vs hp,lp B vs hp=match B vs hp with | none=>none | some (none,vs,hp)=>lp B vs hp | some (some m,vs,hp)=>some (m,vs,hp)
theorem R2 (ht:Twin X Y) (hT:aaS X) (hcall:∀ f args H r H',X.call f args H=some (r,H')->C5 X Y.call f args H r H') (hlp:ap9 X.lp) (hlq:axk Y.lp) :
 ∀ (x:Code) {R R':Type} {r:R} {Q:R'->Prop} {s:VS} {s':St} {K:Exit->VS->Option R} {K':Exit->St->Option R'},St0 X E s s'->D6 X A T x s K=some r →
   (∀ e s s',K e s=some r->St0 X E s s'->∃ r',K' e s'=some r'/\Q r')->∃ r',u7 Y A x s' K'=some r'/\Q r'
 | .skip,R,R',r,Q,s,s',K,K',hs,h,hK=>hK _ _ _ h hs
 | .exit id,R,R',r,Q,s,s',K,K',hs,h,hK=>hK _ _ _ h hs
 | .ret,R,R',r,Q,s,s',K,K',hs,h,hK=>hK _ _ _ h hs
 | .region id ops draw,R,R',r,Q,s,s',K,K',hs,h,hK=>by
   cases draw with
   | false =>
     simp only [D6] at h
     simp only [u7]
     exact ahX ht hT hcall hs h fun cl s s' h hs=>hK _ _ _ h hs
   | true =>
     simp only [D6] at h
     simp only [u7]
     refine ahX ht hT hcall hs h fun cl s s' h hs=>?_
     split at h
     ·rename_i ho; simp only [ho]; exact hK _ _ _ h hs
     ·cases h
 | .cond y a b,R,R',r,Q,s,s',K,K',hs,h,hK=>by
   simp only [D6] at h
   simp only [u7]
   obtain ⟨w,hs⟩:=hs
   obtain ⟨v,x',c,h1,h2,_,h4⟩:=A2 ht hs h
   rw [h4]
   rcases al4 h1 with ⟨rfl,h⟩ | ⟨rfl,h⟩ | ⟨rfl,h,h'⟩
   ·simp only [RV] at h2
    simp only [h2.1,S0]
    exact R2 ht hT hcall hlp hlq a ⟨w,hs⟩ h hK
   ·simp only [RV] at h2
    simp only [h2.1,S0]
    exact R2 ht hT hcall hlp hlq b ⟨w,hs⟩ h hK
   ·simp only [RV] at h2
    obtain ⟨⟨bb,hb⟩,_⟩:=h2
    subst hb
    cases bb with
    | true=>exact R2 ht hT hcall hlp hlq a ⟨w,hs⟩ h hK
    | false=>exact R2 ht hT hcall hlp hlq b ⟨w,hs⟩ h' hK
 | .block id a,R,R',r,Q,s,s',K,K',hs,h,hK=>by
   simp only [D6] at h
   simp only [u7]
   refine R2 ht hT hcall hlp hlq a hs h fun e s s' h hs=>?_
   cases e with
   | exit i =>
     simp only at h ⊢
     split at h
     ·rename_i hb; simp only [hb]; exact hK _ _ _ h hs
     ·rename_i hb; simp only [hb]; exact hK _ _ _ h hs
   | _=>exact hK _ _ _ h hs
 | .seq a b,R,R',r,Q,s,s',K,K',hs,h,hK=>by
   simp only [D6] at h
   simp only [u7]
   have behind:∀ (e:Exit) (s:VS) (s':St),(match e with | .normal=>D6 X A T b s K | e=>K e s)=some r->St0 X E s s'->∃ r',(fun (e:Exit) (st:St)=>match e with | .normal=>u7 Y A b st K' | e=>K' e st) e s'=some r'/\Q r':=by
    intro e s s' h hs
    cases e with
    | normal=>exact R2 ht hT hcall hlp hlq b hs h hK
    | _=>exact hK _ _ _ h hs
   split at h
   ·rename_i hj
    split
    ·exact R2 ht hT hcall hlp hlq a (K':=fun e st=>match e with | .normal=>u7 Y A b st K' | e=>K' e st) hs h behind
    ·rename_i hj2
     have:=hj.symm.trans hj2
     cases this
   ·rename_i outs hj
    split
    ·rename_i hj2
     have:=hj.symm.trans hj2
     cases this
    rename_i outs' hj2
    have:=hj.symm.trans hj2
    cases this
    obtain ⟨⟨n,vs,H⟩,h1,h2⟩:=a7 h
    obtain ⟨⟨n',xs,hp⟩,g1,g2⟩:=R2 ht hT hcall hlp hlq a (K':=fun e st=>aad outs e st fun n vs hp=>some (n,vs,hp)) (Q:=fun q=>q.1=n/\ad2 X E vs H q.2.1 q.2.2) hs h1 (fun e s s' h hs=>by
     obtain ⟨m,us,xs,k1,k2,k3⟩:=ahG hs h
     cases k1
     exact ⟨_,k3 _ _,rfl,k2⟩)
    simp only at g2
    obtain ⟨rfl,g2⟩:=g2
    rw [g1]
    simp only [Option.bind_some]
    obtain ⟨e,s2,s2',k1,k2,k3⟩:=am7 g2 h2
    rw [k3]
    exact behind e s2 s2' k1 k2
 | .loop a,R,R',r,Q,s,s',K,K',hs,h,hK=>by
   simp only [D6] at h
   simp only [u7]
   split at h
   ·cases h
   ·rename_i li hli
    obtain ⟨vs,xs,h1,h2,h3⟩:=af4 hs h
    obtain ⟨⟨n,us,H⟩,h4,h5⟩:=a7 h1
    simp only [hli]
    rw [h3]
    obtain ⟨m,hm⟩:=hlp _ _ _ _ h4
    have loop:∀ {m:Nat} {vs:List V} {H:VH} {res:Nat × List V × VH} {xs:List Value} {hp:Heap},ajh (fun vs hp=>aci li.ks vs hp fun st=>D6 X A T a st fun e st=>match e with
     | .normal=>aa3 li.ks st fun vs hp=>some (none,vs,hp)
     | e=>aff li.outs e st fun n vs hp=>some (some n,vs,hp)) m vs H res->ad2 X E vs H xs hp →
     ∃ ys hp',Y.lp (fun vs hp=>aaR li.ks vs hp fun st=>u7 Y A a st fun e st=>match e with
       | .normal=>O3 li.ks st fun vs hp=>some (none,vs,hp)
       | e=>aad li.outs e st fun n vs hp=>some (some n,vs,hp)) xs hp=some (res.1,ys,hp')/\ad2 X E res.2.1 res.2.2 ys hp':=by
     intro m vs H res xs hp hl
     induction hl generalizing xs hp with
     | @stop vs0 H0 m0 vs1 H1 hB =>
       intro hsv
       obtain ⟨s,s',k1,k2,k3⟩:=agU hsv hB
       obtain ⟨⟨o,ys,hp'⟩,k4,k5⟩:=R2 ht hT hcall hlp hlq a (K':=fun e st=>match e with
        | .normal=>O3 li.ks st fun vs hp=>some (none,vs,hp)
        | e=>aad li.outs e st fun n vs hp=>some (some n,vs,hp)) (Q:=fun q=>q.1=some m0/\ad2 X E vs1 H1 q.2.1 q.2.2) k2 k1 (fun e s s' h hs=>by
          cases e with
          | normal =>
            obtain ⟨us,xs,a1,a2,a3⟩:=af4 hs h
            cases a1
          | _ =>
            obtain ⟨m,us,xs,a1,a2,a3⟩:=ahG hs h
            cases a1
            exact ⟨_,a3 _ _,rfl,a2⟩)
       simp only at k5
       obtain ⟨rfl,k5⟩:=k5
       refine ⟨ys,hp',?_,k5⟩
       rw [hlq,k3,k4]
     | @more n0 vs0 H0 vs1 H1 res0 hB _ ih =>
       intro hsv
       obtain ⟨s,s',k1,k2,k3⟩:=agU hsv hB
       obtain ⟨⟨o,ys,hp'⟩,k4,k5⟩:=R2 ht hT hcall hlp hlq a (K':=fun e st=>match e with
        | .normal=>O3 li.ks st fun vs hp=>some (none,vs,hp)
        | e=>aad li.outs e st fun n vs hp=>some (some n,vs,hp)) (Q:=fun q=>q.1=none/\ad2 X E vs1 H1 q.2.1 q.2.2) k2 k1 (fun e s s' h hs=>by
          cases e with
          | normal =>
            obtain ⟨us,xs,a1,a2,a3⟩:=af4 hs h
            cases a1
            exact ⟨_,a3 _ _,rfl,a2⟩
          | _ =>
            obtain ⟨m,us,xs,a1,a2,a3⟩:=ahG hs h
            cases a1)
       simp only at k5
       obtain ⟨rfl,k5⟩:=k5
       obtain ⟨zs,hp2,k6,k7⟩:=ih k5
       refine ⟨zs,hp2,?_,k7⟩
       rw [hlq,k3,k4]
       exact k6
    obtain ⟨ys,hp',k1,k2⟩:=loop hm h2
    obtain ⟨e,s2,s2',k3,k4,k5⟩:=am7 k2 h5
    obtain ⟨r',q1,q2⟩:=hK _ _ _ k3 k4
    exact ⟨r',(congrArg (fun (o:Option (Nat × List Value × Heap))=>o.bind fun q=>inK li.outs q.1 q.2.1 q.2.2 K') k1).trans ((k5 R' K').trans q1),q2⟩
 | .rangeFunc ..,R,R',r,Q,s,s',K,K',hs,h,hK=>by cases h
 | .scope ..,R,R',r,Q,s,s',K,K',hs,h,hK=>by cases h
 | .label ..,R,R',r,Q,s,s',K,K',hs,h,hK=>by cases h
 | .goto ..,R,R',r,Q,s,s',K,K',hs,h,hK=>by cases h
 | .refuse ..,R,R',r,Q,s,s',K,K',hs,h,hK=>by cases h
theorem afh (ht:Twin X Y) (hT:aaS X) {w:Wd} {R R':Type} {r:R} {Q:R'->Prop} {s':St}:∀ {rs:List ResultVar} {s:VS} {cx:c9} {K:List V->VS->Option R} {K':List Value->Option R'},D9 X E w s s' cx->ab3 X rs s K=some r →
 (∀ vs s2 xs c,K vs s2=some r->c4 w vs xs c->D9 X E w s2 s' (fun i=>cx i+c i)->∃ r',K' xs=some r'/\Q r')->∃ r',K7 Y rs s' K'=some r'/\Q r'
 | [],s,cx,K,K',hs,h,hK=>hK [] s [] (fun _=>0) h (by simp [c4]) (hs.less (by simp))
 | .tmp t::l,s,cx,K,K',hs,h,hK=>by
   simp only [ab3] at h
   simp only [K7]
   obtain ⟨v,x,c,h1,h2,h3,h4⟩:=ach ht hs h
   have hl:look s'.env t=some (.val x):=by
    have:=h4 Value (fun v=>some v)
    simp only [E5,V8] at this
    cases e:look s'.env t with
    | none=>rw [e] at this; cases this
    | some q =>
      rw [e] at this
      cases q<;>simp only at this<;>first | (cases this; done) | skip
      cases this; rfl
   simp only [hl]
   exact afh ht hT h3 h1 fun vs s2 xs d k1 k2 k3=>hK (v::vs) s2 (x::xs) (fun i=>c i+d i) k1 ⟨x,xs,c,d,rfl,h2,k2,by simp⟩ (k3.less (fun i=>by omega))
 | .cell a t::l,s,cx,K,K',hs,h,hK=>by
   simp only [ab3] at h
   simp only [K7]
   rw [ht.tab]
   split at h
   ·rename_i ti hti
    simp only [hti]
    obtain ⟨ce,cl,ch,g⟩:=hs
    split at h
    ·rename_i k hl
     obtain ⟨x,c1,c2,h1,h2,_,_⟩:=g.env.look hl
     cases x<;>simp only [RE] at h2
     obtain ⟨rfl,rfl,_⟩:=h2
     simp only [h1]
     split at h
     ·rename_i cs hcs
      obtain ⟨ws,d1,d2,k1,k2,k3,k4⟩:=g.loc.look hcs
      simp only [k1]
      split at h
      ·rename_i hb
       have hb':Nat.beq ws.length ti.size=true:=by rw [<-k2.len]; exact hb
       simp only [hb']
       have hset:=k4 _ _ _ (c4.strip _ k2)
       rw [ahF k1] at hset
       have hst:D9 X E w { s with loc:=N9 s.loc k (j3 cs) } s' (fun i=>cx i+d1 i):=by
        refine ⟨ce,fun i=>0+d2 i,ch,g.hp,g.hw,g.gl,g.fr,g.env,hset,fun j hj=>g.aaF j (adZ hj),g.obj,fun i=>?_,fun i hi=>?_,fun i hi=>?_⟩
        ·have:=g.L5 i; have:=k3 i; omega
        ·have:=g.O7 i hi; have:=k3 i; omega
        ·have:=g.M1 i hi; have:=k3 i; omega
       split at h
       ·rename_i hag
        simp only [hag]
        exact afh ht hT hst h fun vs s2 xs d q1 q2 q3=>hK (.agg cs::vs) s2 (.agg ws.toArray::xs) (fun i=>d1 i+d i) q1 ⟨_,xs,d1,d,rfl,by simp only [RV]; exact ⟨ws,rfl,k2⟩,q2,by simp⟩ (q3.less (fun i=>by omega))
       ·rename_i hag
        simp only [hag]
        split at h
        ·rename_i v
         simp only [c4] at k2
         obtain ⟨x,ys,e1,e2,rfl,m1,⟨rfl,m2⟩,m3⟩:=k2
         simp only
         exact afh ht hT hst h fun vs s2 xs d q1 q2 q3=>hK (v::vs) s2 (x::xs) (fun i=>d1 i+d i) q1 ⟨x,xs,d1,d,rfl,m1.congr (fun i=>by rw [m3,m2]; rfl),q2,by simp⟩ (q3.less (fun i=>by omega))
        ·cases h
      ·cases h
     ·cases h
    ·rename_i k off hl
     obtain ⟨x,c1,c2,h1,h2,_,_⟩:=g.env.look hl
     cases x<;>simp only [RE] at h2
     simp only [RV] at h2
     obtain ⟨⟨b,hb1,rfl⟩,_⟩:=h2
     simp only [h1]
     split at h
     ·rename_i cs hcs
      obtain ⟨⟨v,cs2⟩,hld,h⟩:=a7 h
      obtain ⟨b',kb,d1,d2,g1,g2,g3,g4,g5,o2⟩:=g.obj.get hcs (anG hld (hT.pos _ _ hti))
      rw [hb1] at g1; cases g1
      obtain ⟨z,e1,e2,k1,k2,k3,k4⟩:=aiT hld g3
      have hload:aa7 s'.hp ti.agg ti.size (.pointer (some ⟨b,off,none⟩))=some z:=by
       simp only [aa7,g.hp,w9 g2 (by rw [o2]; simp),Option.bind_some]; exact k1
      simp only [hload,Option.bind_some]
      have hst:D9 X E w { s with H:=s.H.set k cs2 } s' (fun i=>cx i+e1 i):=by
       refine ⟨ce,cl,fun i=>e2 i+d2 i,g.hp,g.hw,g.gl,g.fr,g.env,g.loc,g.aaF,g5 cs2 e2 k3,fun i=>?_,fun i hi=>?_,fun i hi=>?_⟩
       ·have:=g.L5 i; have:=g4 i; have:=k4 i; omega
       ·have:=g.O7 i hi; have:=g4 i; have:=k4 i; omega
       ·have:=g.M1 i hi; have:=g4 i; have:=k4 i; omega
      exact afh ht hT hst h fun vs s2 xs d q1 q2 q3=>hK (v::vs) s2 (z::xs) (fun i=>e1 i+d i) q1 ⟨z,xs,e1,d,rfl,k2,q2,by simp⟩ (q3.less (fun i=>by omega))
     ·cases h
    ·cases h
   ·cases h
theorem amE {w:Wd}:∀ {args:List V} {xs:List Value} {i:Nat} {pre:List (Nat × EV)} {c:c9},c4 w args xs c->(∀ j,i<=j->look pre j=none)->B6 w (aeF i args) (pre++aa1 i xs) c
 | [],xs,i,pre,c,h,hp=>by simp only [c4] at h; simp only [aeF,B6]; exact h.2
 | v::args,xs,i,pre,c,h,hp=>by
   simp only [c4] at h
   obtain ⟨x,ys,c1,c2,rfl,h1,h2,h3⟩:=h
   have hpre:∀ {m:List (Nat × EV)} {t:Nat} {pre:List (Nat × EV)},look pre t=none->look (pre++m) t=look m t:=by
    intro m t pre
    induction pre with
    | nil=>intro _; rfl
    | cons a pre ih2 =>
      intro hh
      obtain ⟨a1,a2⟩:=a
      rw [j2] at hh
      split at hh
      ·cases hh
      ·rename_i hq
       simp only [List.cons_append]
       rw [j2,if_neg hq]; exact ih2 hh
   simp only [aeF,B6]
   refine ⟨.val x,c1,c2,?_,by simp only [RE]; exact h1,?_,h3⟩
   ·rw [hpre (hp i (Nat.le_refl _))]
    simp only [aa1]
    rw [j2,if_pos rfl]
   ·have e:pre++aa1 i (x::ys)=(pre++[(i,EV.val x)])++aa1 (i+1) ys:=by simp [aa1]
    rw [e]
    refine amE h2 fun j hj=>?_
    rw [hpre (hp j (by omega)),j2,if_neg (by omega)]; rfl
def ark (X:XV) (E:En) (r:V) (H':VH) (q:Value × Heap):Prop :=
 ∃ (w2:Wd) (cr ch':c9),q.2=w2.hp/\HW w2/\J3 X w2/\D1 E w2/\RV w2 r q.1 cr/\p5 w2 H' w2.c5 ch'/\(∀ i,cr i+ch' i<=1)/\(∀ i,i<E.hp.length->cr i+ch' i<=E.c0 i)/\(∀ i,w2.hp.length<=i->cr i+ch' i=0)
theorem atN (ht:Twin X Y) (hT:aaS X) (hcall:∀ f args H r H',X.call f args H=some (r,H')->C5 X Y.call f args H r H') (hlp:ap9 X.lp) (hlq:axk Y.lp)
 {f:FuncId} {args:List V} {H H':VH} {r:V} (h:acV X f args H=some (r,H')):C5 X (abC Y) f args H r H':=by
 intro w args' ca ch hw hg hv ho hle hbig
 unfold acV at h
 unfold abC
 rw [ht.fn,ht.E2]
 split at h
 ·cases h
 ·rename_i fn hfn
  simp only [hfn]
  split at h
  ·cases h
  ·rename_i c hc
   simp only [hc]
   split at h
   ·rename_i hd
    simp only [hd]
    have hfr:D1 ⟨w.hp,w.c5,w.fb,fun i=>ca i+ch i⟩ w:=by
     refine ⟨Nat.le_refl _,fun _ _ h _ _=>h,fun b k hk _=>⟨k,hk,rfl,rfl,rfl,.inl rfl⟩,fun c k hc hk=>?_,⟨[],by simp,by simp⟩,⟨[],by simp,by simp⟩,fun b k hb hk=>?_,fun b kb hk=>⟨kb,hk,rfl,rfl⟩,hw.rlt,hw.c7⟩
     ·have:=(List.getElem?_eq_some_iff.1 hk).1; simp only at hc; omega
     ·simp only at hb
      by_cases q:1<=ca b
      ·obtain ⟨_,_,kb,a1,_,a3⟩:=c4.owned _ hv b q
       have a1':=(j5 a1).1
       rw [hk] at a1'; cases a1'; exact a3
      ·obtain ⟨kb,a1,a3⟩:=p5.ahB ho b (by omega)
       rw [hk] at a1; cases a1; exact a3
    have henv:B6 w (aeF 0 args) (aa1 0 args') ca:=by
     have:=amE (pre:=[]) (i:=0) hv (fun _ _=>rfl)
     simpa using this
    have hst:St0 X ⟨w.hp,w.c5,w.fb,fun i=>ca i+ch i⟩ ⟨aeF 0 args,[],H⟩ ⟨aa1 0 args',[],w.hp⟩ :=
     ⟨w,ca,fun _=>0,ch,rfl,hw,hg,hfr,henv,by simp [K6],fun _ _=>rfl,ho,fun i=>by have:=hle i; omega,fun i hi=>by simp,fun i hi=>by have:=hbig i hi; omega⟩
    obtain ⟨⟨x,hp2⟩,h1,w2,cr,ch',q2,p2,q3,q4,q5,q6,q7,q8,q9⟩:=R2 ht hT hcall hlp hlq c (Y:=Y) (K':=fun e st=>match e with
     | .normal | .ret=>K7 Y fn.results.toList st fun vs=>some (one vs,st.hp)
     | _=>none) (Q:=ark X ⟨w.hp,w.c5,w.fb,fun i=>ca i+ch i⟩ r H') hst h (fun e s s' h hs=>by
       have fin:ab3 X fn.results.toList s (fun vs st=>some (ans vs,st.H))=some (r,H')->∃ r',(K7 Y fn.results.toList s' fun vs=>some (one vs,s'.hp))=some r'/\ark X ⟨w.hp,w.c5,w.fb,fun i=>ca i+ch i⟩ r H' r':=by
        intro h
        obtain ⟨w2,hs⟩:=hs
        refine afh ht hT hs h fun vs s2 xs c k1 k2 k3=>?_
        cases k1
        obtain ⟨ce,cl,ch2,g⟩:=k3
        refine ⟨_,rfl,w2,c,ch2,g.hp,g.hw,g.gl,g.fr,?_,g.obj,fun i=>by have:=g.L5 i; omega,fun i hi=>by have:=g.O7 i hi; show c i+ch2 i<=ca i+ch i; simp only at this; omega,fun i hi=>by have:=g.M1 i hi; omega⟩
        have hl:=k2.len
        match vs,xs,k2,hl with
        | [],[],k2,_=>simp only [ans,one,RV]; exact ⟨[],rfl,k2⟩
        | [v],[x],k2,_ =>
          simp only [c4] at k2
          obtain ⟨x',ys,e1,e2,h1,m1,⟨rfl,m2⟩,m3⟩:=k2
          cases h1
          exact m1.congr (fun i=>by rw [m3,m2]; rfl)
        | a::b::l,x::y::m,k2,_=>simp only [ans,one,RV]; exact ⟨_,rfl,k2⟩
       cases e<;>simp only at h ⊢<;>first | exact fin h | cases h)
    simp only at q2
    subst q2
    exact ⟨x,w2,cr,ch',h1,p2,q3,q4,q5,q6,q7,q8,q9⟩
   ·cases h
end
end Go.AM

/- What an operation of the machine of values asks of the calls behind it. -/
namespace Go.AM
set_option linter.unusedSimpArgs false
set_option linter.unusedVariables false
def XV.over (X:XV) (call:p9) (lp:T8):XV:={ X with call:=call,lp:=lp }
section
variable {R:Type} {X:XV} {st:VS} {r:R}
theorem abz {x:Operand} {K:VE->Option R} (h:evV X st x K=some r):∃ e,K e=some r/\∀ (c:p9) (l:T8) (R':Type) (K':VE->Option R'),evV (X.over c l) st x K'=K' e:=by
 cases x with
 | tmp t =>
   simp only [evV] at h
   cases e:look st.env t with
   | none=>rw [e] at h; cases h
   | some e'=>rw [e] at h; exact ⟨e',h,fun c l R' K'=>by simp only [evV,e]⟩
 | const v =>
   simp only [evV] at h
   split at h
   ·exact ⟨_,h,fun c l R' K'=>rfl⟩
   ·rename_i hv
    split at h
    ·rename_i hp
     refine ⟨_,h,fun c l R' K'=>?_⟩
     simp only [evV,hp]
    ·cases h
 | global g =>
   simp only [evV] at h
   cases e:Nat.blt g X.ng with
   | true=>rw [e] at h; exact ⟨_,h,fun c l R' K'=>by show evV _ _ _ _=_; simp only [evV,XV.over,e]⟩
   | false=>rw [e] at h; cases h
 | func f=>exact ⟨_,h,fun c l R' K'=>rfl⟩
theorem C4 {x:Operand} {K:V->Option R} (h:L0 X st x K=some r):∃ v,K v=some r/\∀ (c:p9) (l:T8) (R':Type) (K':V->Option R'),L0 (X.over c l) st x K'=K' v:=by
 obtain ⟨e,hk,he⟩:=abz h
 cases e with
 | val v=>exact ⟨v,hk,fun c l R' K'=>by unfold L0; rw [he]⟩
 | fl xs=>exact ⟨_,hk,fun c l R' K'=>by unfold L0; rw [he]⟩
 | loc k o=>cases hk
 | B9=>cases hk
theorem aeP {x:Operand} {K:V->VS->Option R} (h:vtV X st x K=some r):∃ v,K v (used st x)=some r/\∀ (c:p9) (l:T8) (R':Type) (K':V->VS->Option R'),vtV (X.over c l) st x K'=K' v (used st x):=by
 obtain ⟨v,h1,h2⟩:=C4 (K:=fun v=>K v (used st x)) h
 exact ⟨v,h1,fun c l R' K'=>h2 c l R' fun v=>K' v (used st x)⟩
theorem afA:∀ {xs:List Operand} {K:List V->Option R},afd X st xs K=some r->∃ vs,K vs=some r/\∀ (c:p9) (l:T8) (R':Type) (K':List V->Option R'),afd (X.over c l) st xs K'=K' vs
 | [],K,h=>⟨[],h,fun _ _ _ _=>rfl⟩
 | x::xs,K,h=>by
   obtain ⟨v,h,hv⟩:=C4 h
   obtain ⟨vs,h,hvs⟩:=afA h
   exact ⟨v::vs,h,fun c l R' K'=>by simp only [afd,hv,hvs]⟩
theorem amj {x:Option Operand} {K:Option V->Option R} (h:voV X st x K=some r):∃ v,K v=some r/\∀ (c:p9) (l:T8) (R':Type) (K':Option V->Option R'),voV (X.over c l) st x K'=K' v:=by
 cases x with
 | none=>exact ⟨none,h,fun _ _ _ _=>rfl⟩
 | some x =>
   obtain ⟨v,h,hv⟩:=C4 h
   exact ⟨some v,h,fun c l R' K'=>by simp only [voV,hv]⟩
theorem akO {mv:List Nat}:∀ {xs:List Operand} {i:Nat} {st:VS} {K:List V->VS->Option R},acZ X mv i xs st K=some r->∃ vs s2,K vs s2=some r/\∀ (c:p9) (l:T8) (R':Type) (K':List V->VS->Option R'),acZ (X.over c l) mv i xs st K'=K' vs s2
 | [],i,st,K,h=>⟨[],st,h,fun _ _ _ _=>rfl⟩
 | x::xs,i,st,K,h=>by
   simp only [acZ] at h
   obtain ⟨v,h,hv⟩:=C4 h
   split at h
   ·rename_i hm
    obtain ⟨vs,s2,h,hvs⟩:=akO h
    exact ⟨v::vs,s2,h,fun c l R' K'=>by simp only [acZ,hv,hm,hvs]⟩
   ·rename_i hm
    obtain ⟨vs,s2,h,hvs⟩:=akO h
    exact ⟨strip v::vs,s2,h,fun c l R' K'=>by simp only [acZ,hv,hm,hvs]⟩
theorem agK {agg:Bool} {n:Nat} {v:V} {K:List V->Option R} (h:Z7 agg n v K=some r):∃ cs,K cs=some r/\∀ (R':Type) (K':List V->Option R'),Z7 agg n v K'=K' cs:=by
 cases agg with
 | true =>
   simp only [Z7] at h
   obtain ⟨cs,h1,h⟩:=a7 h
   exact ⟨_,h,fun R' K'=>by simp only [Z7,h1,Option.bind_some]⟩
 | false =>
   simp only [Z7] at h
   obtain ⟨u,h1,h⟩:=a7 h
   exact ⟨_,h,fun R' K'=>by simp only [Z7,h1,Option.bind_some]⟩
theorem aeW {place:Nat->Option (Nat × Nat × Bool)}:∀ {ps:List (Nat × Operand)} {cells:List V} {st:VS} {K:List V->VS->Option R},abl X place ps cells st K=some r →
 ∃ cs s2,K cs s2=some r/\∀ (c:p9) (l:T8) (R':Type) (K':List V->VS->Option R'),abl (X.over c l) place ps cells st K'=K' cs s2
 | [],cells,st,K,h=>⟨cells,st,h,fun _ _ _ _=>rfl⟩
 | (i,x)::rest,cells,st,K,h=>by
   simp only [abl] at h
   cases e:place i with
   | none=>rw [e] at h; cases h
   | some p =>
     obtain ⟨off,n,agg⟩:=p
     rw [e] at h
     simp only at h
     cases hb:Nat.ble (off+n) cells.length with
     | false=>rw [hb] at h; cases h
     | true =>
       rw [hb] at h
       obtain ⟨v,h,hv⟩:=aeP h
       obtain ⟨cs,h,hcs⟩:=agK h
       cases hb2:Nat.ble (off+cs.length) cells.length with
       | false=>rw [hb2] at h; cases h
       | true =>
         rw [hb2] at h
         obtain ⟨cells',s2,h,hp⟩:=aeW h
         exact ⟨cells',s2,h,fun c l R' K'=>by simp only [abl,e,hb,hv,hcs,hb2,hp]⟩
end
def au1 (X:XV) (A:S1) (T:List Nat) (o:Oper) (st:VS) {R:Type} (K:VE->VS->B4->Option R) (r:R):Prop :=
 (∃ e s2 c,K e s2 c=some r/\∀ (cl:p9) (l:T8) (R':Type) (K':VE->VS->B4->Option R'),z7 (X.over cl l) A T o st K'=K' e s2 c) ∨
 (∃ (f:FuncId) (vs:List V) (s2:VS) (res:V × VH),X.call f vs s2.H=some res/\K (.val res.1) { s2 with H:=res.2 } .W=some r/\∀ (cl:p9) (l:T8) (R':Type) (K':VE->VS->B4->Option R'),z7 (X.over cl l) A T o st K'=(cl f vs s2.H).bind fun r=>K' (.val r.1) { s2 with H:=r.2 } .W) ∨
 (∃ (f:FuncId) (vs:List V) (res:V × VH) (e:VE) (s2:VS) (c:B4),X.call f vs []=some res/\K e s2 c=some r/\∀ (cl:p9) (l:T8) (R':Type) (K':VE->VS->B4->Option R'),cl f vs []=some res->z7 (X.over cl l) A T o st K'=K' e s2 c)
theorem adr {c:p9} {f:FuncId} {vs:List V} {v:V} (h:I3 c f vs=some v):∃ res,c f vs []=some res/\∀ c':p9,c' f vs []=some res->I3 c' f vs=some v:=by
 unfold I3 at h ⊢
 split at h
 ·rename_i hn
  obtain ⟨res,h1,h2⟩:=a7 h
  exact ⟨res,h1,fun c' h3=>by rw [h3]; exact h2⟩
 ·cases h
theorem ajr {c:p9} {f:FuncId} {vs:List V} {v:V} (h:U2 c f vs=some v):∃ res,c f vs []=some res/\∀ c':p9,c' f vs []=some res->U2 c' f vs=some v:=by
 unfold U2 at h ⊢
 split at h
 ·rename_i hn
  obtain ⟨res,h1,h2⟩:=a7 h
  exact ⟨res,h1,fun c' h3=>by rw [h3]; exact h2⟩
 ·cases h
theorem aqH {c:p9} {f:FuncId} {H:VH} {vs:List V} {v:V} (h:G8 c f H vs=some v):∃ az res,c f az []=some res/\∀ c':p9,c' f az []=some res->G8 c' f H vs=some v:=by
 unfold G8 at h
 split at h
 ·rename_i hn
  obtain ⟨res,h1,h2⟩:=adr h
  exact ⟨_,res,h1,fun c' h3=>by unfold G8; rw [hn]; exact h2 c' h3⟩
 ·rename_i hn
  obtain ⟨res,h1,h2⟩:=adr h
  exact ⟨_,res,h1,fun c' h3=>by unfold G8; rw [hn]; exact h2 c' h3⟩
theorem aqB {c:p9} {f:FuncId} {H:VH} {vs:List V} {v:V} (h:acN c f H vs=some v):∃ az res,c f az []=some res/\∀ c':p9,c' f az []=some res->acN c' f H vs=some v:=by
 unfold acN at h
 obtain ⟨res,h1,h2⟩:=adr h
 exact ⟨_,res,h1,fun c' h3=>by unfold acN; exact h2 c' h3⟩
theorem arU {c:p9} {f:FuncId} {H:VH} {vs:List V} {v:V} (h:S6 c f H vs=some v):∃ az res,c f az []=some res/\∀ c':p9,c' f az []=some res->S6 c' f H vs=some v:=by
 unfold S6 at h
 split at h
 ·rename_i hn
  obtain ⟨res,h1,h2⟩:=ajr h
  exact ⟨_,res,h1,fun c' h3=>by unfold S6; rw [hn]; exact h2 c' h3⟩
 ·rename_i hn
  obtain ⟨u,hu,h⟩:=a7 h
  obtain ⟨res,h1,h2⟩:=ajr hu
  exact ⟨_,res,h1,fun c' h3=>by unfold S6; rw [hn]; simp only [h2 c' h3,Option.bind_some]; exact h⟩
theorem asl {u:Bool} {c:p9} {f:FuncId} {H:VH} {vs:List V} {v:V} (h:ahu u c f H vs=some v):∃ az res,c f az []=some res/\∀ c':p9,c' f az []=some res->ahu u c' f H vs=some v:=by
 cases u with
 | false=>exact arU h
 | true =>
   simp only [ahu,akc] at h ⊢
   split at h
   ·rename_i hn
    obtain ⟨res,h1,h2⟩:=a7 h
    exact ⟨_,res,h1,fun c' h3=>by rw [h3]; exact h2⟩
   ·cases h
theorem arQ {c:p9} {f:FuncId} {H:VH} {vs:List V} {v:V × VH} (h:aaC c f H vs=some v):∃ az res,c f az []=some res/\∀ c':p9,c' f az []=some res->aaC c' f H vs=some v:=by
 unfold aaC at h ⊢
 split at h
 ·obtain ⟨res,h1,h2⟩:=a7 h
  exact ⟨_,res,h1,fun c' h3=>by rw [h3]; exact h2⟩
 ·cases h
theorem amQ {R:Type} {d:Nat} {v:V} {H:VH} {K:V->VH->Option R} {r:R} (h:agd d v H K=some r):K (prom d H v).1 (prom d H v).2=some r/\∀ (R':Type) (K':V->VH->Option R'),agd d v H K'=K' (prom d H v).1 (prom d H v).2:=by
 unfold agd at h ⊢
 split at h
 ·rename_i ho
  exact ⟨h,fun R' K'=>rfl⟩
 ·cases h
section
variable {X:XV} {A:S1} {T:List Nat} {R:Type} {K:VE->VS->B4->Option R} {r:R} {o:Oper} {st:VS}
theorem n9 (X:XV) (c:p9) (l:T8):(X.over c l).tab=X.tab:=rfl
theorem M9 (X:XV) (c:p9) (l:T8):(X.over c l).kind=X.kind:=rfl
theorem arF (X:XV) (c:p9) (l:T8):(X.over c l).ext=X.ext:=rfl
theorem asI (X:XV) (c:p9) (l:T8):(X.over c l).mv=X.mv:=rfl
theorem akD (X:XV) (c:p9) (l:T8):(X.over c l).G9=X.G9:=rfl
theorem K5 (X:XV) (c:p9) (l:T8):(X.over c l).call=c:=rfl
set_option maxHeartbeats 4000000 in
theorem as8 (h:z7 X A T o st K=some r):au1 X A T o st K r:=by
 unfold z7 at h
 cases hop:o.op with
 | move x =>
   simp only [hop] at h
   split at h
   ·rename_i ht
    obtain ⟨e,h,he⟩:=abz h
    exact .inl ⟨_,_,_,h,fun cl l R' K'=>by unfold z7; simp only [hop,ht,he]⟩
   ·rename_i ht
    obtain ⟨e,h,he⟩:=abz h
    exact .inl ⟨_,_,_,h,fun cl l R' K'=>by unfold z7; simp only [hop,ht,he]⟩
 | assign x =>
   simp only [hop] at h
   split at h
   ·rename_i ht
    obtain ⟨e,h,he⟩:=abz h
    exact .inl ⟨_,_,_,h,fun cl l R' K'=>by unfold z7; simp only [hop,ht,he]⟩
   ·rename_i ht
    obtain ⟨e,h,he⟩:=abz h
    exact .inl ⟨_,_,_,h,fun cl l R' K'=>by unfold z7; simp only [hop,ht,he]⟩
 | pick c x y =>
   simp only [hop] at h
   obtain ⟨vc,h,hc⟩:=C4 h
   obtain ⟨ex,h,hx⟩:=abz h
   obtain ⟨ey,h,hy⟩:=abz h
   split at h
   ·rcases abW h with ⟨rfl,h⟩ | ⟨rfl,h⟩
    ·cases h
    ·exact .inl ⟨_,_,_,h,fun cl l R' K'=>by unfold z7; simp only [hop,hc,hx,hy,l7]⟩
   ·rcases abW h with ⟨rfl,h⟩ | ⟨rfl,h⟩
    ·exact .inl ⟨_,_,_,h,fun cl l R' K'=>by unfold z7; simp only [hop,hc,hx,hy,l7]⟩
    ·cases h
   ·obtain ⟨v,hv,h⟩:=a7 h
    exact .inl ⟨_,_,_,h,fun cl l R' K'=>by unfold z7; simp only [hop,hc,hx,hy,hv,Option.bind_some]⟩
   ·cases h
 | alloc elem =>
   simp only [hop] at h
   split at h
   ·rename_i ti d ht hd
    split at h
    ·rename_i hm
     split at h
     ·rename_i hl
      exact .inl ⟨_,_,_,h,fun cl l R' K'=>by unfold z7; simp only [hop,n9,ht,hd,hm,hl]⟩
     ·cases h
    ·rename_i hm
     exact .inl ⟨_,_,_,h,fun cl l R' K'=>by unfold z7; simp only [hop,n9,ht,hd,hm]⟩
   ·cases h
 | box elem x =>
   simp only [hop] at h
   split at h
   ·rename_i ti d ht hd
    obtain ⟨v,h,hv⟩:=aeP h
    obtain ⟨cs,h,hcs⟩:=agK h
    split at h
    ·rename_i hm
     split at h
     ·rename_i hl
      exact .inl ⟨_,_,_,h,fun cl l R' K'=>by unfold z7; simp only [hop,n9,ht,hd,hm,hl,hv,hcs]⟩
     ·cases h
    ·rename_i hm
     exact .inl ⟨_,_,_,h,fun cl l R' K'=>by unfold z7; simp only [hop,n9,ht,hd,hm,hv,hcs]⟩
   ·cases h
 | build t parts =>
   simp only [hop] at h
   split at h
   ·rename_i ht
    obtain ⟨cells',s2,h,hp⟩:=aeW h
    exact .inl ⟨_,_,_,h,fun cl l R' K'=>by unfold z7; simp only [hop,n9,ht,hp]⟩
   ·rename_i ht
    obtain ⟨cells',s2,h,hp⟩:=aeW h
    exact .inl ⟨_,_,_,h,fun cl l R' K'=>by unfold z7; simp only [hop,n9,ht,hp]⟩
   ·cases h
 | buildSlice t len parts =>
   simp only [hop] at h
   split at h
   ·rename_i ht
    split at h
    ·rename_i te hte
     split at h
     ·rename_i hb
      obtain ⟨cells',s2,h,hp⟩:=aeW h
      exact .inl ⟨_,_,_,h,fun cl l R' K'=>by unfold z7; simp only [hop,n9,ht,hte,hb,hp]⟩
     ·cases h
    ·cases h
   ·cases h
 | load t x =>
   simp only [hop] at h
   split at h
   ·rename_i ti ht
    obtain ⟨e,h,he⟩:=abz h
    split at h
    ·split at h
     ·rename_i cs hk
      obtain ⟨c,hc,h⟩:=a7 h
      exact .inl ⟨_,_,_,h,fun cl l R' K'=>by unfold z7; simp only [hop,n9,ht,he,hk,hc,Option.bind_some]⟩
     ·cases h
    ·obtain ⟨c,hc,h⟩:=a7 h
     exact .inl ⟨_,_,_,h,fun cl l R' K'=>by unfold z7; simp only [hop,n9,akD,ht,he,hc,Option.bind_some]⟩
    ·cases h
   ·cases h
 | store t x y =>
   simp only [hop] at h
   split at h
   ·rename_i ti ht
    obtain ⟨e,h,he⟩:=abz h
    obtain ⟨v,h,hv⟩:=aeP h
    obtain ⟨cs,h,hcs⟩:=agK h
    split at h
    ·split at h
     ·rename_i p6 hk
      split at h
      ·rename_i hb
       exact .inl ⟨_,_,_,h,fun cl l R' K'=>by unfold z7; simp only [hop,n9,ht,he,hv,hcs,hk,hb]⟩
      ·cases h
     ·cases h
    ·obtain ⟨H2,hh,h⟩:=a7 h
     exact .inl ⟨_,_,_,h,fun cl l R' K'=>by unfold z7; simp only [hop,n9,ht,he,hv,hcs,hh,Option.bind_some]⟩
    ·cases h
   ·cases h
 | nilCheck x =>
   simp only [hop] at h
   obtain ⟨e,h,he⟩:=abz h
   split at h
   ·exact .inl ⟨_,_,_,h,fun cl l R' K'=>by unfold z7; simp only [hop,he]⟩
   ·obtain ⟨v,hv,h⟩:=a7 h
    exact .inl ⟨_,_,_,h,fun cl l R' K'=>by unfold z7; simp only [hop,he,hv,Option.bind_some]⟩
   ·cases h
 | binOp op t x y yt =>
   simp only [hop] at h
   split at h
   ·rename_i ti ht
    split at h
    ·rename_i hn
     obtain ⟨a,h,ha⟩:=C4 h
     obtain ⟨v,hv,h⟩:=a7 h
     exact .inl ⟨_,_,_,h,fun cl l R' K'=>by unfold z7; simp only [hop,n9,ht,hn,ha,hv,Option.bind_some]⟩
    ·rename_i hn
     obtain ⟨a,h,ha⟩:=C4 h
     obtain ⟨b,h,hb⟩:=C4 h
     obtain ⟨v,hv,h⟩:=a7 h
     exact .inl ⟨_,_,_,h,fun cl l R' K'=>by unfold z7; simp only [hop,n9,ht,hn,ha,hb,hv,Option.bind_some]⟩
   ·cases h
 | unOp op t x =>
   simp only [hop] at h
   obtain ⟨a,h,ha⟩:=C4 h
   obtain ⟨v,hv,h⟩:=a7 h
   exact .inl ⟨_,_,_,h,fun cl l R' K'=>by unfold z7; simp only [hop,ha,hv,Option.bind_some]⟩
 | convert src dst x =>
   simp only [hop] at h
   split at h
   ·rename_i ts td hts htd
    obtain ⟨va,h,ha⟩:=C4 h
    split at h
    ·rename_i k k' hk hk'
     obtain ⟨v,hv,h⟩:=a7 h
     exact .inl ⟨_,_,_,h,fun cl l R' K'=>by unfold z7; simp only [hop,n9,hts,htd,ha,hk,hk',hv,Option.bind_some]⟩
    ·rename_i hk hk'
     obtain ⟨v,hv,h⟩:=a7 h
     exact .inl ⟨_,_,_,h,fun cl l R' K'=>by unfold z7; simp only [hop,n9,hts,htd,ha,hk,hk',hv,Option.bind_some]⟩
    ·rename_i hk hk'
     split at h
     ·rename_i hte
      obtain ⟨v,hv,h⟩:=a7 h
      exact .inl ⟨_,_,_,h,fun cl l R' K'=>by unfold z7; simp only [hop,n9,hts,htd,ha,hk,hk',hte,hv,Option.bind_some]⟩
     ·cases h
    ·rename_i hk hk'
     split at h
     ·rename_i hte
      obtain ⟨v,hv,h⟩:=a7 h
      exact .inl ⟨_,_,_,h,fun cl l R' K'=>by unfold z7; simp only [hop,n9,hts,htd,ha,hk,hk',hte,hv,Option.bind_some]⟩
     ·cases h
    ·cases h
   ·cases h
 | makeFunc fn first captured =>
   simp only [hop] at h
   cases hz:first.size with
   | zero =>
     simp only [hz] at h
     split at h
     ·obtain ⟨vs,h,hvs⟩:=afA h
      exact .inl ⟨_,_,_,h,fun cl l R' K'=>by unfold z7; simp only [hop,hz,hvs]⟩
     ·cases h
   | succ n=>simp only [hz] at h; cases h
 | makeSlice t l c =>
   simp only [hop] at h
   split at h
   ·rename_i ht
    obtain ⟨vl,h,hl⟩:=C4 h
    obtain ⟨vc,h,hc⟩:=C4 h
    obtain ⟨n,hn,h⟩:=a7 h
    exact .inl ⟨_,_,_,h,fun cl l R' K'=>by unfold z7; simp only [hop,n9,ht,hl,hc,hn,Option.bind_some]⟩
   ·cases h
 | slice t x lo hi mx =>
   simp only [hop] at h
   split at h
   ·rename_i ht
    obtain ⟨v,h,hv⟩:=C4 h
    obtain ⟨l,h,hl⟩:=amj h
    obtain ⟨k,h,hk⟩:=amj h
    split at h
    ·obtain ⟨u,hu,h⟩:=a7 h
     exact .inl ⟨_,_,_,h,fun cl l R' K'=>by unfold z7; simp only [hop,n9,ht,hv,hl,hk,hu,Option.bind_some]⟩
    ·cases h
   ·rename_i ht
    obtain ⟨v,h,hv⟩:=C4 h
    split at h
    ·obtain ⟨l,h,hl⟩:=amj h
     obtain ⟨k,h,hk⟩:=amj h
     obtain ⟨u,hu,h⟩:=a7 h
     exact .inl ⟨_,_,_,h,fun cl l R' K'=>by unfold z7; simp only [hop,n9,ht,hv,hl,hk,hu,Option.bind_some]⟩
    ·obtain ⟨l,h,hl⟩:=C4 h
     obtain ⟨k,h,hk⟩:=C4 h
     obtain ⟨m,h,hm⟩:=C4 h
     obtain ⟨u,hu,h⟩:=a7 h
     exact .inl ⟨_,_,_,h,fun cl l R' K'=>by unfold z7; simp only [hop,n9,ht,hv,hl,hk,hm,hu,Option.bind_some]⟩
    ·cases h
   ·rename_i ht
    split at h
    ·obtain ⟨v,h,hv⟩:=C4 h
     obtain ⟨u,hu,h⟩:=a7 h
     exact .inl ⟨_,_,_,h,fun cl l R' K'=>by unfold z7; simp only [hop,n9,akD,ht,hv,hu,Option.bind_some]⟩
    ·cases h
   ·cases h
 | fieldAddr t x f =>
   simp only [hop] at h
   split at h
   ·rename_i ht
    split at h
    ·rename_i off n agg hf
     obtain ⟨e,h,he⟩:=abz h
     split at h
     ·exact .inl ⟨_,_,_,h,fun cl l R' K'=>by unfold z7; simp only [hop,n9,ht,hf,he]⟩
     ·obtain ⟨v,hv,h⟩:=a7 h
      exact .inl ⟨_,_,_,h,fun cl l R' K'=>by unfold z7; simp only [hop,n9,ht,hf,he,hv,Option.bind_some]⟩
     ·cases h
    ·cases h
   ·cases h
 | field t x f =>
   simp only [hop] at h
   split at h
   ·rename_i ht
    split at h
    ·rename_i off m agg hf
     obtain ⟨v,h,hv⟩:=C4 h
     obtain ⟨cs,hcs,h⟩:=a7 h
     split at h
     ·obtain ⟨c,hc,h⟩:=a7 h
      exact .inl ⟨_,_,_,h,fun cl l R' K'=>by unfold z7; simp only [hop,n9,ht,hf,hv,hcs,hc,Option.bind_some]⟩
     ·obtain ⟨c,hc,h⟩:=a7 h
      exact .inl ⟨_,_,_,h,fun cl l R' K'=>by unfold z7; simp only [hop,n9,ht,hf,hv,hcs,hc,Option.bind_some]⟩
    ·cases h
   ·cases h
 | indexAddr t x i =>
   simp only [hop] at h
   split at h
   ·rename_i ht
    obtain ⟨v,h,hv⟩:=C4 h
    obtain ⟨j,h,hj⟩:=C4 h
    obtain ⟨u,hu,h⟩:=a7 h
    exact .inl ⟨_,_,_,h,fun cl l R' K'=>by unfold z7; simp only [hop,n9,ht,hv,hj,hu,Option.bind_some]⟩
   ·rename_i ht
    obtain ⟨v,h,hv⟩:=C4 h
    obtain ⟨j,h,hj⟩:=C4 h
    obtain ⟨u,hu,h⟩:=a7 h
    exact .inl ⟨_,_,_,h,fun cl l R' K'=>by unfold z7; simp only [hop,n9,ht,hv,hj,hu,Option.bind_some]⟩
   ·cases h
 | index t x i =>
   simp only [hop] at h
   split at h
   ·rename_i ht
    obtain ⟨v,h,hv⟩:=C4 h
    obtain ⟨j,h,hj⟩:=C4 h
    obtain ⟨u,hu,h⟩:=a7 h
    exact .inl ⟨_,_,_,h,fun cl l R' K'=>by unfold z7; simp only [hop,n9,ht,hv,hj,hu,Option.bind_some]⟩
   ·rename_i ht
    obtain ⟨v,h,hv⟩:=C4 h
    obtain ⟨j,h,hj⟩:=C4 h
    obtain ⟨u,hu,h⟩:=a7 h
    exact .inl ⟨_,_,_,h,fun cl l R' K'=>by unfold z7; simp only [hop,n9,ht,hv,hj,hu,Option.bind_some]⟩
   ·cases h
 | extract x i =>
   simp only [hop] at h
   split at h
   ·rename_i t
    obtain ⟨v,h,hv⟩:=C4 h
    obtain ⟨u,hu,h⟩:=a7 h
    split at h
    ·rename_i hm
     exact .inl ⟨_,_,_,h,fun cl l R' K'=>by unfold z7; simp only [hop,hv,hu,hm,Option.bind_some]⟩
    ·rename_i hm
     exact .inl ⟨_,_,_,h,fun cl l R' K'=>by unfold z7; simp only [hop,hv,hu,hm,Option.bind_some]⟩
   ·cases h
 | call c =>
   simp only [hop] at h
   split at h
   ·rename_i hcal
    split at h
    ·rename_i x t hargs htys
     split at h
     ·rename_i ht
      obtain ⟨v,h,hv⟩:=C4 h
      obtain ⟨u,hu,h⟩:=a7 h
      exact .inl ⟨_,_,_,h,fun cl l R' K'=>by unfold z7; simp only [hop,n9,hcal,hargs,htys,ht,hv,hu,Option.bind_some]⟩
     ·rename_i ht
      obtain ⟨v,h,hv⟩:=C4 h
      obtain ⟨u,hu,h⟩:=a7 h
      exact .inl ⟨_,_,_,h,fun cl l R' K'=>by unfold z7; simp only [hop,n9,hcal,hargs,htys,ht,hv,hu,Option.bind_some]⟩
     ·cases h
    ·cases h
   ·rename_i hcal
    split at h
    ·rename_i x y hargs
     obtain ⟨v,h,hv⟩:=C4 h
     obtain ⟨u,h,hu⟩:=C4 h
     obtain ⟨m,hm,h⟩:=a7 h
     exact .inl ⟨_,_,_,h,fun cl l R' K'=>by unfold z7; simp only [hop,n9,hcal,hargs,hv,hu,hm,Option.bind_some]⟩
    ·cases h
   ·rename_i hcal
    split at h
    ·rename_i x y t u d hargs htys hdst
     split at h
     ·rename_i ht hu
      split at h
      ·rename_i b hku
       split at h
       ·rename_i hm
        obtain ⟨e,h,he⟩:=abz h
        obtain ⟨v,h,hv⟩:=aeP h
        split at h
        ·obtain ⟨q,hq,h⟩:=a7 h
         exact .inl ⟨_,_,_,h,fun cl l R' K'=>by unfold z7; simp only [hop,n9,hcal,hargs,htys,hdst,ht,hu,hku,he,hv,hm,hq,Option.bind_some]⟩
        ·cases h
       ·rename_i hm
        split at h
        ·rename_i hfl
         obtain ⟨s,h,hs⟩:=aeP h
         obtain ⟨v,h,hv⟩:=aeP h
         obtain ⟨q,hq,h⟩:=a7 h
         rw [hdst] at hfl hq
         exact .inl ⟨_,_,_,h,fun cl l R' K'=>by unfold z7; simp only [hop,n9,hcal,hargs,htys,hdst,ht,hu,hku,hs,hv,hm,hfl,hq,Option.bind_some]⟩
        ·rename_i hfl
         obtain ⟨s,h,hs⟩:=aeP h
         obtain ⟨v,h,hv⟩:=aeP h
         obtain ⟨xs,hxs,h⟩:=a7 h
         obtain ⟨q,hq,h⟩:=a7 h
         rw [hdst] at hfl
         exact .inl ⟨_,_,_,h,fun cl l R' K'=>by unfold z7; simp only [hop,n9,hcal,hargs,htys,hdst,ht,hu,hku,hs,hv,hxs,hm,hfl,hq,Option.bind_some]⟩
      ·cases h
     ·cases h
    ·cases h
   ·rename_i f hcal
    split at h
    ·rename_i hk
     obtain ⟨vs,s2,h,hvs⟩:=akO h
     obtain ⟨q,hq,h⟩:=a7 h
     exact .inr (.inl ⟨_,_,_,_,hq,h,fun cl l R' K'=>by unfold z7; simp only [hop,hcal,asI,hvs,M9,hk,K5]⟩)
    ·rename_i hk
     obtain ⟨vs,h,hvs⟩:=afA h
     split at h
     ·rename_i hfl
      split at h
      ·rename_i hf7
       obtain ⟨q,hq,h⟩:=a7 h
       obtain ⟨az,res,h1,h2⟩:=aqB hq
       exact .inr (.inr ⟨_,_,_,_,_,_,h1,h,fun cl l R' K' h3=>by unfold z7; simp only [hop,hcal,hvs,M9,hk,K5,hfl,hf7,h2 cl h3,Option.bind_some]⟩)
      ·rename_i hf7
       obtain ⟨q,hq,h⟩:=a7 h
       obtain ⟨az,res,h1,h2⟩:=aqH hq
       exact .inr (.inr ⟨_,_,_,_,_,_,h1,h,fun cl l R' K' h3=>by unfold z7; simp only [hop,hcal,hvs,M9,hk,K5,hfl,hf7,h2 cl h3,Option.bind_some]⟩)
     ·rename_i hfl
      obtain ⟨q,hq,h⟩:=a7 h
      obtain ⟨res,h1,h2⟩:=adr hq
      exact .inr (.inr ⟨_,_,_,_,_,_,h1,h,fun cl l R' K' h3=>by unfold z7; simp only [hop,hcal,hvs,M9,hk,K5,hfl,h2 cl h3,Option.bind_some]⟩)
    ·rename_i hk
     obtain ⟨vs,h,hvs⟩:=afA h
     split at h
     ·rename_i hfl
      split at h
      ·rename_i hf6
       obtain ⟨q,hq,h⟩:=a7 h
       obtain ⟨az,res,h1,h2⟩:=arQ hq
       exact .inr (.inr ⟨_,_,_,_,_,_,h1,h,fun cl l R' K' h3=>by unfold z7; simp only [hop,hcal,hvs,M9,hk,K5,hfl,hf6,h2 cl h3,Option.bind_some]⟩)
      rename_i hf6
      obtain ⟨q,hq,h⟩:=a7 h
      obtain ⟨az,res,h1,h2⟩:=asl hq
      split at h
      ·rename_i hf1
       obtain ⟨h,hp⟩:=amQ h
       exact .inr (.inr ⟨_,_,_,_,_,_,h1,h,fun cl l R' K' h3=>by unfold z7; simp only [hop,hcal,hvs,M9,hk,K5,hfl,hf6,hf1,h2 cl h3,Option.bind_some,hp]⟩)
      ·rename_i hf1
       split at h
       ·rename_i hf3
        obtain ⟨h,hp⟩:=amQ h
        exact .inr (.inr ⟨_,_,_,_,_,_,h1,h,fun cl l R' K' h3=>by unfold z7; simp only [hop,hcal,hvs,M9,hk,K5,hfl,hf6,hf1,hf3,h2 cl h3,Option.bind_some,hp]⟩)
       ·rename_i hf3
        exact .inr (.inr ⟨_,_,_,_,_,_,h1,h,fun cl l R' K' h3=>by unfold z7; simp only [hop,hcal,hvs,M9,hk,K5,hfl,hf6,hf1,hf3,h2 cl h3,Option.bind_some]⟩)
     ·rename_i hfl
      obtain ⟨q,hq,h⟩:=a7 h
      obtain ⟨res,h1,h2⟩:=ajr hq
      exact .inr (.inr ⟨_,_,_,_,_,_,h1,h,fun cl l R' K' h3=>by unfold z7; simp only [hop,hcal,hvs,M9,hk,K5,hfl,h2 cl h3,Option.bind_some]⟩)
    ·rename_i n hk
     obtain ⟨vs,h,hvs⟩:=afA h
     obtain ⟨az,has,h⟩:=a7 h
     obtain ⟨q,hq,h⟩:=a7 h
     obtain ⟨u,hu,h⟩:=a7 h
     exact .inl ⟨_,_,_,h,fun cl l R' K'=>by unfold z7; simp only [hop,hcal,hvs,M9,hk,arF,has,hq,hu,Option.bind_some]⟩
   ·rename_i fv hne hcal
    obtain ⟨f,h,hf⟩:=C4 h
    obtain ⟨vs,h,hvs⟩:=afA h
    obtain ⟨p,hp,h⟩:=a7 h
    split at h
    ·rename_i hq'
     obtain ⟨q,hq,h⟩:=a7 h
     obtain ⟨res,h1,h2⟩:=adr hq
     refine .inr (.inr ⟨_,_,_,_,_,_,h1,h,fun cl l R' K' h3=>?_⟩)
     unfold z7
     cases fv with
     | func f=>exact absurd rfl (hne f)
     | _=>simp only [hop,hcal,hf,hvs,hp,hq',K5,h2 cl h3,Option.bind_some]
    ·rename_i hq'
     obtain ⟨q,hq,h⟩:=a7 h
     refine .inr (.inl ⟨_,_,_,_,hq,h,fun cl l R' K'=>?_⟩)
     unfold z7
     cases fv with
     | func f=>exact absurd rfl (hne f)
     | _=>simp only [hop,hcal,hf,hvs,hp,hq',K5,Option.bind_some]
   ·cases h
 | _=>simp only [hop] at h; cases h
end
end Go.AM

/- Calls of the machine of values without a count of steps; they stand for calls of the abstract machine. -/
namespace Go.AM
open Go.RowKit
set_option linter.unusedSimpArgs false
set_option linter.unusedVariables false
theorem asZ {R:Type} {kp:H3} {st:VS} {K:List V->VH->Option R} {r:R} (h:aa3 kp st K=some r):∃ vs,K vs st.H=some r/\∀ (R':Type) (K':List V->VH->Option R'),aa3 kp st K'=K' vs st.H:=by
 have hv:∀ {ss:List Nat} {R:Type} {K:List V->Option R} {r:R},aak st.env ss K=some r->∃ vs,K vs=some r/\∀ (R':Type) (K':List V->Option R'),aak st.env ss K'=K' vs:=by
  intro ss
  induction ss with
  | nil=>intro R K r h; exact ⟨[],h,fun _ _=>rfl⟩
  | cons s ss ih =>
    intro R K r h
    simp only [aak] at h
    split at h
    ·rename_i v hl
     obtain ⟨vs,h1,h2⟩:=ih h
     exact ⟨v::vs,h1,fun R' K'=>by simp only [aak,hl,h2]⟩
    ·rename_i v hl
     obtain ⟨vs,h1,h2⟩:=ih h
     exact ⟨_,h1,fun R' K'=>by simp only [aak,hl,h2]⟩
    ·cases h
 have hc:∀ {ks:List (Nat × Nat)} {R:Type} {K:List V->Option R} {r:R},csV st.loc ks K=some r->∃ vs,K vs=some r/\∀ (R':Type) (K':List V->Option R'),csV st.loc ks K'=K' vs:=by
  intro ks
  induction ks with
  | nil=>intro R K r h; exact ⟨[],h,fun _ _=>rfl⟩
  | cons s ks ih =>
    intro R K r h
    obtain ⟨k,n⟩:=s
    simp only [csV] at h
    split at h
    ·rename_i cs hl
     split at h
     ·rename_i hb
      obtain ⟨vs,h1,h2⟩:=ih h
      exact ⟨cs++vs,h1,fun R' K'=>by simp only [csV,hl,hb,h2]⟩
     ·cases h
    ·cases h
 unfold aa3 at h
 split at h
 ·rename_i hl
  obtain ⟨vs,h,h1⟩:=hv h
  obtain ⟨cs,h,h2⟩:=hc h
  exact ⟨_,h,fun R' K'=>by simp only [aa3,hl,h1,h2]⟩
 ·cases h
theorem aoa {R:Type} {kp:H3} {vs:List V} {H:VH} {K:VS->Option R} {r:R} (h:aci kp vs H K=some r):∃ s,K s=some r/\∀ (R':Type) (K':VS->Option R'),aci kp vs H K'=K' s:=by
 unfold aci at h
 split at h
 ·rename_i hk
  split at h
  ·rename_i hl
   exact ⟨_,h,fun R' K'=>by unfold aci; simp only [hk]; rw [if_pos hl]⟩
  ·cases h
 ·cases h
theorem amF {R:Type} {vs:List V} {H:VH} {K:Exit->VS->Option R} {r:R}:∀ {outs:List (Exit × H3)} {n:Nat},inV outs n vs H K=some r->∃ e st,K e st=some r/\∀ (R':Type) (K':Exit->VS->Option R'),inV outs n vs H K'=K' e st
 | [],_,h=>by cases h
 | (x,kp)::l,0,h=>by
   simp only [inV] at h
   obtain ⟨s,h1,h2⟩:=aoa h
   exact ⟨x,s,h1,fun R' K'=>by simp only [inV,h2]⟩
 | (x,kp)::l,n+1,h=>by
   simp only [inV] at h
   obtain ⟨e,st,h1,h2⟩:=amF h
   exact ⟨e,st,h1,fun R' K'=>by simp only [inV,h2]⟩
theorem ar1 {R:Type} {ops:Array Oper} {o:Oper} {env:List (Nat × VE)} {run pass:List (Nat × VE)->Option R} {r:R} (h:W2 ops o env run pass=some r) :
 ∃ env',(run env'=some r/\∀ (R':Type) (run' pass':List (Nat × VE)->Option R'),W2 ops o env run' pass'=run' env')\/(pass env'=some r/\∀ (R':Type) (run' pass':List (Nat × VE)->Option R'),W2 ops o env run' pass'=pass' env'):=by
 unfold W2 at h
 split at h
 ·rename_i hg
  exact ⟨_,.inl ⟨h,fun R' run' pass'=>by simp only [W2,hg]⟩⟩
 ·rename_i j want hg
  split at h
  ·cases h
  ·rename_i d hd
   split at h
   ·rename_i v hl
    split at h
    ·rcases abW h with ⟨rfl,h⟩ | ⟨rfl,h⟩
     ·exact ⟨_,.inl ⟨h,fun R' run' pass'=>by simp only [W2,hg,hd,hl,l7]⟩⟩
     ·exact ⟨_,.inr ⟨h,fun R' run' pass'=>by simp only [W2,hg,hd,hl,l7]⟩⟩
    ·rcases abW h with ⟨rfl,h⟩ | ⟨rfl,h⟩
     ·exact ⟨_,.inr ⟨h,fun R' run' pass'=>by simp only [W2,hg,hd,hl,l7]⟩⟩
     ·exact ⟨_,.inl ⟨h,fun R' run' pass'=>by simp only [W2,hg,hd,hl,l7]⟩⟩
   ·rename_i hl
    exact ⟨_,.inr ⟨h,fun R' run' pass'=>by simp only [W2,hg,hd,hl]⟩⟩
   ·cases h
structure agq (X:XV) (c:Nat->p9) (l:Nat->T8):Prop where
 call:∀ f vs hp res,X.call f vs hp=some res->C9 fun m=>c m f vs hp=some res
 lp:∀ (B:List V->VH->Option (Option Nat × List V × VH)) (Bm:Nat->List V->VH->Option (Option Nat × List V × VH)),(∀ vs hp res,B vs hp=some res->C9 fun m=>Bm m vs hp=some res) →
  ∀ vs hp res,X.lp B vs hp=some res->C9 fun m=>l m (Bm m) vs hp=some res
section
variable {X:XV} {c:Nat->p9} {l:Nat->T8} {A:S1} {T:List Nat}
theorem avl (hN:agq X c l) {R:Type} {r:R} {o:Oper} {st:VS} {K:VE->VS->B4->Option R} {Km:Nat->VE->VS->B4->Option R}
 (h:z7 X A T o st K=some r) (hK:∀ e s cl,K e s cl=some r->C9 fun m=>Km m e s cl=some r):C9 fun m=>z7 (X.over (c m) (l m)) A T o st (Km m)=some r:=by
 rcases as8 h with ⟨e,s,cl,h1,h2⟩ | ⟨f,vs,s,res,h1,h2,h3⟩ | ⟨f,vs,res,e,s,cl,h1,h2,h3⟩
 ·exact (hK _ _ _ h1).imp fun m hm=>by rw [h2]; exact hm
 ·exact ((hN.call _ _ _ _ h1).and (hK _ _ _ h2)).imp fun m ⟨a,b⟩=>by rw [h3,a]; exact b
 ·exact ((hN.call _ _ _ _ h1).and (hK _ _ _ h2)).imp fun m ⟨a,b⟩=>by rw [h3 _ _ _ _ a]; exact b
theorem af9 (hN:agq X c l) {R:Type} {r:R} {ops:Array Oper}:∀ {os:List Oper} {cl:List B4} {st:VS} {K:List B4->VS->Option R} {Km:Nat->List B4->VS->Option R},
 ae6 X A T ops os cl st K=some r->(∀ cl st,K cl st=some r->C9 fun m=>Km m cl st=some r)->C9 fun m=>ae6 (X.over (c m) (l m)) A T ops os cl st (Km m)=some r
 | [],cl,st,K,Km,h,hK=>hK _ _ h
 | o::os,cl,st,K,Km,h,hK=>by
   simp only [ae6] at h ⊢
   obtain ⟨env',⟨h1,h2⟩ | ⟨h1,h2⟩⟩:=ar1 h
   ·refine (avl hN h1 (Km:=fun m e st c'=>ae6 (X.over (c m) (l m)) A T ops os (c'::cl) { st with env:=anN st.env o.dst e } (Km m)) fun e s cl' h3=>af9 hN h3 hK).imp fun m hm=>?_
    rw [h2]; exact hm
   ·exact (af9 hN h1 hK).imp fun m hm=>by rw [h2]; exact hm
theorem Q3 (hN:agq X c l):∀ (x:Code) {R:Type} {r:R} {st:VS} {K:Exit->VS->Option R} {Km:Nat->Exit->VS->Option R},
 D6 X A T x st K=some r->(∀ e st,K e st=some r->C9 fun m=>Km m e st=some r)->C9 fun m=>D6 (X.over (c m) (l m)) A T x st (Km m)=some r
 | .skip,R,r,st,K,Km,h,hK=>hK _ _ h
 | .exit id,R,r,st,K,Km,h,hK=>hK _ _ h
 | .ret,R,r,st,K,Km,h,hK=>hK _ _ h
 | .region id ops draw,R,r,st,K,Km,h,hK=>by
   cases draw with
   | false =>
     simp only [D6] at h ⊢
     exact af9 hN h fun cl st h=>hK _ _ h
   | true =>
     simp only [D6] at h ⊢
     refine af9 hN h fun cl st h=>?_
     split at h
     ·exact hK _ _ h
     ·cases h
 | .cond y a b,R,r,st,K,Km,h,hK=>by
   simp only [D6] at h ⊢
   obtain ⟨v,h,hv⟩:=C4 h
   rcases al4 h with ⟨rfl,h⟩ | ⟨rfl,h⟩ | ⟨rfl,h,h'⟩
   ·exact (Q3 hN a h hK).imp fun m hm=>by rw [hv]; exact hm
   ·exact (Q3 hN b h hK).imp fun m hm=>by rw [hv]; exact hm
   ·exact ((Q3 hN a h hK).and (Q3 hN b h' hK)).imp fun m hm=>by rw [hv]; show ahW _ _=_; unfold ahW; rw [hm.1,hm.2,if_pos rfl]
 | .block id a,R,r,st,K,Km,h,hK=>by
   simp only [D6] at h ⊢
   refine Q3 hN a h fun e st h=>?_
   cases e with
   | exit i =>
     simp only at h ⊢
     split at h
     ·rename_i hb; exact (hK _ _ h).imp fun m hm=>by first | exact hm | (rw [hb]; exact hm)
     ·rename_i hb; exact (hK _ _ h).imp fun m hm=>by first | exact hm | (rw [hb]; exact hm)
   | _=>exact hK _ _ h
 | .seq a b,R,r,st,K,Km,h,hK=>by
   simp only [D6] at h ⊢
   have behind:∀ (e:Exit) (st:VS),(match e with | .normal=>D6 X A T b st K | e=>K e st)=some r->C9 fun m=>(match e with | .normal=>D6 (X.over (c m) (l m)) A T b st (Km m) | e=>Km m e st)=some r:=by
    intro e st h
    cases e with
    | normal=>exact Q3 hN b h hK
    | _=>exact hK _ _ h
   split at h
   ·rename_i hj
    exact (Q3 hN a h (Km:=fun m e st=>match e with | .normal=>D6 (X.over (c m) (l m)) A T b st (Km m) | e=>Km m e st) behind).imp fun m hm=>hm
   ·rename_i outs hj
    obtain ⟨s,hs,h⟩:=a7 h
    obtain ⟨e,st',h1,h2⟩:=amF h
    refine ((Q3 hN a hs (Km:=fun _ e st=>aff outs e st fun n vs hp=>some (n,vs,hp)) fun e st h=>C9.of fun _=>h).and (behind e st' h1)).imp fun m ⟨g1,g2⟩=>?_
    show (Option.bind _ _)=some r
    rw [g1]
    simp only [Option.bind_some]
    rw [h2]; exact g2
 | .loop a,R,r,st,K,Km,h,hK=>by
   simp only [D6] at h ⊢
   split at h
   ·cases h
   ·rename_i li hli
    obtain ⟨vs,h,h0⟩:=asZ h
    obtain ⟨res,hres,h⟩:=a7 h
    obtain ⟨e,st',h1,h2⟩:=amF h
    have hB:=hN.lp _ (fun m vs hp=>aci li.ks vs hp fun st=>D6 (X.over (c m) (l m)) A T a st fun e st=>match e with
     | .normal=>aa3 li.ks st fun vs hp=>some (none,vs,hp)
     | e=>aff li.outs e st fun n vs hp=>some (some n,vs,hp)) (fun vs hp res hr=>by
     obtain ⟨s,g1,g2⟩:=aoa hr
     exact (Q3 hN a g1 (Km:=fun _ e st=>match e with
      | .normal=>aa3 li.ks st fun vs hp=>some (none,vs,hp)
      | e=>aff li.outs e st fun n vs hp=>some (some n,vs,hp)) fun e st h=>C9.of fun _=>h).imp fun m hm=>by rw [g2]; exact hm) _ _ _ hres
    refine (hB.and (hK e st' h1)).imp fun m ⟨g1,g2⟩=>?_
    rw [h0]
    exact (congrArg (fun (o:Option (Nat × List V × VH))=>o.bind fun q=>inV li.outs q.1 q.2.1 q.2.2 (Km m)) g1).trans ((h2 R (Km m)).trans g2)
 | .rangeFunc ..,R,r,st,K,Km,h,hK=>by cases h
 | .scope ..,R,r,st,K,Km,h,hK=>by cases h
 | .label ..,R,r,st,K,Km,h,hK=>by cases h
 | .goto ..,R,r,st,K,Km,h,hK=>by cases h
 | .refuse ..,R,r,st,K,Km,h,hK=>by cases h
theorem asS {R:Type} (X:XV) (c:p9) (l:T8) (st:VS) (t:Nat) (K:V->VS->Option R):vtV (X.over c l) st (.tmp t) K=vtV X st (.tmp t) K:=rfl
theorem aho {R:Type} (X:XV) (c:p9) (l:T8):∀ (rs:List ResultVar) (st:VS) (K:List V->VS->Option R),ab3 (X.over c l) rs st K=ab3 X rs st K
 | [],st,K=>rfl
 | .tmp t::rs,st,K=>by
   simp only [ab3,asS]
   congr 1; funext v st
   exact aho X c l rs st _
 | .cell a t::rs,st,K=>by
   simp only [ab3,n9,aho X c l rs]
theorem ahh (hN:agq X c l) {f:FuncId} {args:List V} {H:VH} {r:V × VH} (h:acV X f args H=some r):C9 fun m=>acV (X.over (c m) (l m)) f args H=some r:=by
 unfold acV at h ⊢
 have e1:∀ m,(X.over (c m) (l m)).fn f=X.fn f:=fun _=>rfl
 have e2:∀ m,(X.over (c m) (l m)).E2 f=X.E2 f:=fun _=>rfl
 have e3:∀ m,(X.over (c m) (l m)).A0 f=X.A0 f:=fun _=>rfl
 simp only [e1,e2,e3]
 split at h
 ·cases h
 ·rename_i fn hf
  split at h
  ·cases h
  ·rename_i x hx
   split at h
   ·rename_i hd
    try simp only [hf,hx,hd]
    refine (Q3 hN x h (Km:=fun m e st=>match e with
     | .normal | .ret=>ab3 (X.over (c m) (l m)) fn.results.toList st fun vs st=>some (ans vs,st.H)
     | _=>none) fun e st h=>C9.of fun m=>?_).imp fun m hm=>hm
    cases e<;>first | (simp only [aho]; exact h) | exact h
   ·cases h
end
noncomputable def y4 (X:XV) (A:S1) (T:List Nat) (li:akl) (a:Code) (vs:List V) (H:VH):Option (Option Nat × List V × VH) :=
 aci li.ks vs H fun st=>D6 X A T a st fun e st=>match e with
  | .normal=>aa3 li.ks st fun vs hp=>some (none,vs,hp)
  | e=>aff li.outs e st fun n vs hp=>some (some n,vs,hp)
structure U0 where
 b:ab9
 G9:Nat->Option (List V)
 A0:FuncId->List Nat
 mv:FuncId->List Nat
 aap:FuncId->Option (List V->VH->Option (V × VH))
def U0.ctx (b:U0) (call:p9) (lp:T8):XV:=⟨b.b.ng,b.b.tab,b.b.fn,b.b.E2,b.b.kind,b.b.ext,b.G9,b.A0,b.mv,call,lp⟩
def O5:Nat->T8
 | 0,_,_,_=>none
 | n+1,B,vs,hp=>match B vs hp with
   | none=>none
   | some (none,vs,hp)=>O5 n B vs hp
   | some (some m,vs,hp)=>some (m,vs,hp)
noncomputable def O9 (b:U0):Nat->p9
 | 0,_,_,_=>none
 | n+1,f,args,H=>match b.aap f with
   | some g=>g args H
   | none=>acV (b.ctx (O9 b n) (O5 n)) f args H
noncomputable def j4:T8:=fun B vs hp=>akQ fun n=>O5 n B vs hp
noncomputable def O0 (b:U0):p9:=fun f args H=>akQ fun n=>O9 b n f args H
theorem afs {B:List V->VH->Option (Option Nat × List V × VH)}:∀ {n:Nat} {vs:List V} {hp:VH} {res:Nat × List V × VH},O5 n B vs hp=some res->∃ m,ajh B m vs hp res
 | 0,_,_,_,h=>by cases h
 | n+1,vs,hp,res,h=>by
   simp only [O5] at h
   split at h
   ·cases h
   ·rename_i hb
    obtain ⟨m,hm⟩:=afs h
    exact ⟨m+1,.more hb hm⟩
   ·rename_i hb
    cases h
    exact ⟨0,.stop hb⟩
theorem akX {B:List V->VH->Option (Option Nat × List V × VH)} {Bm:Nat->List V->VH->Option (Option Nat × List V × VH)} (hB:∀ vs hp res,B vs hp=some res->C9 fun m=>Bm m vs hp=some res)
 {n:Nat} {vs:List V} {hp:VH} {res:Nat × List V × VH} (h:ajh B n vs hp res):C9 fun m=>∀ k,n<k->O5 k (Bm m) vs hp=some res:=by
 induction h with
 | stop h =>
   refine (hB _ _ _ h).imp fun m hm k hk=>?_
   obtain ⟨k,rfl⟩:∃ j,k=j+1:=⟨k-1,by omega⟩
   simp only [O5,hm]
 | more h _ ih =>
   refine ((hB _ _ _ h).and ih).imp fun m ⟨g1,g2⟩ k hk=>?_
   obtain ⟨k,rfl⟩:∃ j,k=j+1:=⟨k-1,by omega⟩
   simp only [O5,g1]
   exact g2 k (by omega)
theorem avf (n:Nat):ap9 (O5 n):=fun _ _ _ _ h=>afs h
theorem aoA (b:U0):∀ (n:Nat) (f:FuncId) (args:List V) (H:VH) (r:V × VH),O9 b n f args H=some r->∀ m,n<=m->O9 b m f args H=some r:=by
 intro n
 induction n with
 | zero=>intro f args H r h; cases h
 | succ n ih =>
   intro f args H r h m hm
   obtain ⟨m,rfl⟩:∃ j,m=j+1:=⟨m-1,by omega⟩
   simp only [O9] at h ⊢
   split at h
   ·rename_i g hg; first | exact h | (simp only [hg]; exact h)
   ·rename_i hg
    try simp only [hg]
    have hN:agq (b.ctx (O9 b n) (O5 n)) (fun _=>O9 b m) (fun _=>O5 m):=by
     refine ⟨fun f vs hp res h=>C9.of fun _=>ih f vs hp res h m (by omega),fun B Bm hB vs hp res h=>?_⟩
     have h':O5 n B vs hp=some res:=h
     clear h
     have:∀ (n m:Nat) (vs:List V) (hp:VH),n<=m->O5 n B vs hp=some res->C9 fun k=>O5 m (Bm k) vs hp=some res:=by
      intro n
      induction n with
      | zero=>intro m vs hp _ h; cases h
      | succ n ihn =>
        intro m vs hp hm h
        obtain ⟨m,rfl⟩:∃ j,m=j+1:=⟨m-1,by omega⟩
        simp only [O5] at h
        split at h
        ·cases h
        ·rename_i hb
         exact ((hB _ _ _ hb).and (ihn m _ _ (by omega) h)).imp fun k ⟨g1,g2⟩=>by simp only [O5,g1]; exact g2
        ·rename_i hb
         cases h
         exact (hB _ _ _ hb).imp fun k g1=>by simp only [O5,g1]
     exact this n m vs hp (by omega) h'
    exact (ahh hN h).const
theorem amS {b:U0} {n:Nat} {f:FuncId} {args:List V} {H:VH} {r:V × VH} (h:O9 b n f args H=some r):O0 b f args H=some r :=
 D0.2 ⟨n,fun m hm=>aoA b n f args H r h m hm⟩
theorem ahK {n:Nat} {B:List V->VH->Option (Option Nat × List V × VH)} {vs:List V} {hp:VH} {r:Nat × List V × VH} (h:O5 n B vs hp=some r):j4 B vs hp=some r:=by
 obtain ⟨m,hm⟩:=afs h
 obtain ⟨n1,h1⟩:=akX (Bm:=fun _=>B) (fun _ _ _ h=>C9.of fun _=>h) hm
 exact D0.2 ⟨m+1,fun k hk=>h1 n1 (Nat.le_refl _) k (by omega)⟩
theorem g9 (b:U0) (f:FuncId) (args:List V) (H:VH) (hp':b.aap f=none):O0 b f args H=acV (b.ctx (O0 b) j4) f args H:=by
 have to:∀ r,O0 b f args H=some r->acV (b.ctx (O0 b) j4) f args H=some r:=by
  intro r h
  obtain ⟨n,hn⟩:=D0.1 h
  have:=hn (n+1) (by omega)
  simp only [O9,hp'] at this
  have hN:agq (b.ctx (O9 b n) (O5 n)) (fun _=>O0 b) (fun _=>j4):=by
   refine ⟨fun f vs hp res h=>C9.of fun _=>amS h,fun B Bm hB vs hp res h=>?_⟩
   obtain ⟨m,hm⟩:=afs (n:=n) h
   exact (akX hB hm).imp fun k hk=>ahK (hk (m+1) (by omega))
  exact (ahh hN this).const
 have back:∀ r,acV (b.ctx (O0 b) j4) f args H=some r->O0 b f args H=some r:=by
  intro r h
  have hN:agq (b.ctx (O0 b) j4) (O9 b) O5:=by
   refine ⟨fun f vs hp res h=>D0.1 h,fun B Bm hB vs hp res h=>?_⟩
   obtain ⟨n,hn⟩:=D0.1 h
   obtain ⟨m,hm⟩:=afs (hn n (Nat.le_refl _))
   obtain ⟨n1,h1⟩:=akX hB hm
   exact ⟨max n1 (m+1),fun k hk=>h1 k (by omega) k (by omega)⟩
  obtain ⟨n,hn⟩:=ahh hN h
  have h1:O9 b (n+1) f args H=some r:=by
   simp only [O9,hp']
   exact hn n (Nat.le_refl _)
  exact amS h1
 cases h1:O0 b f args H with
 | some r=>exact (to r h1).symm
 | none =>
   cases h2:acV (b.ctx (O0 b) j4) f args H with
   | none=>rfl
   | some r=>rw [back r h2] at h1; cases h1
theorem aoW (B:List V->VH->Option (Option Nat × List V × VH)) (vs:List V) (hp:VH) :
 j4 B vs hp=match B vs hp with | none=>none | some (none,vs,hp)=>j4 B vs hp | some (some m,vs,hp)=>some (m,vs,hp):=by
 cases hb:B vs hp with
 | none =>
   simp only
   cases h:j4 B vs hp with
   | none=>rfl
   | some r =>
     obtain ⟨n,hn⟩:=D0.1 h
     have:=hn (n+1) (by omega)
     simp only [O5,hb] at this; cases this
 | some x =>
   obtain ⟨o,vs1,hp1⟩:=x
   cases o with
   | some m=>exact ahK (n:=1) (by simp only [O5,hb])
   | none =>
     simp only
     cases h:j4 B vs1 hp1 with
     | some r =>
       obtain ⟨n,hn⟩:=D0.1 h
       exact ahK (n:=n+1) (by simp only [O5,hb]; exact hn n (Nat.le_refl _))
     | none =>
       cases h2:j4 B vs hp with
       | none=>rfl
       | some r =>
         obtain ⟨n,hn⟩:=D0.1 h2
         have:=hn (n+1) (by omega)
         simp only [O5,hb] at this
         rw [ahK this] at h; cases h
structure ahO (b:U0):Prop where
 zero:∀ t ti,look b.b.tab t=some ti->∀ u ∈ ti.zero,F9 u=true
 sl:∀ t e b7 eb z ag n zz,look b.b.tab t=some ⟨.slice e b7 eb z,ag,n,zz⟩->(∀ u ∈ z,F9 u=true)/\z.length=b7/\0<b7
 gd:∀ g cs,b.G9 g=some cs->o8 cs=true
 pos:∀ t ti,look b.b.tab t=some ti->0<ti.size
 arV:∀ f,b.aap f=none->b.b.aap f=none
 aap:∀ f g args r H H',b.aap f=some g->g args H=some (r,H')->C5 (b.ctx (O0 b) j4) (N7 b.b) f args H r H'
theorem J3.ctx {b:U0} {c c':p9} {l l':T8} {w:Wd} (h:J3 (b.ctx c l) w):J3 (b.ctx c' l') w:=h
theorem C5.ctx {b:U0} {c c':p9} {l l':T8} {call:I0} {f:FuncId} {args:List V} {H H':VH} {r:V} (h:C5 (b.ctx c l) call f args H r H'):C5 (b.ctx c' l') call f args H r H':=h
theorem akh {b:U0} (hb:ahO b):∀ (n:Nat) (f:FuncId) (args:List V) (H:VH) (r:V) (H':VH),O9 b n f args H=some (r,H')->C5 (b.ctx (O0 b) j4) (N7 b.b) f args H r H'
 | 0,f,args,H,r,H',h=>by cases h
 | n+1,f,args,H,r,H',h=>by
   simp only [O9] at h
   split at h
   ·rename_i g hg
    exact hb.aap f g args _ _ _ hg h
   ·rename_i hg
    have hs:=atN (X:=b.ctx (O9 b n) (O5 n)) (Y:=b.b.ctx (N7 b.b) lpW) ⟨rfl,rfl,rfl,rfl,rfl,rfl⟩ ⟨hb.zero,hb.sl,hb.gd,hb.pos⟩ (fun f args H r H' h=>akh hb n f args H r H' h) (avf n) (fun B vs hp=>awC B vs hp) h
    intro w args' ca ch h1 h2 h3 h4 h5 h6
    obtain ⟨x,w2,cr,ch',q1,q2⟩:=hs w args' ca ch h1 h2 h3 h4 h5 h6
    exact ⟨x,w2,cr,ch',by rw [atw b.b f args' w.hp (hb.arV f hg)]; exact q1,q2⟩
theorem aru {b:U0} (hb:ahO b) {f:FuncId} {args:List V} {H:VH} {r:V} {H':VH} (h:O0 b f args H=some (r,H')):C5 (b.ctx (O0 b) j4) (N7 b.b) f args H r H':=by
 obtain ⟨n,hn⟩:=D0.1 h
 exact akh hb n f args H r H' (hn n (Nat.le_refl _))
theorem aqt {P:Program} {b:U0} (hb:ahO b) (hP:afy P b.b) {f:FuncId} {args:List V} {H':VH} (h:O0 b f args []=some (.bool true,H')) {hp:Heap} {vs:List Value}
 (hw:HW ⟨hp,[],[]⟩) (hg:J3 (b.ctx (O0 b) j4) ⟨hp,[],[]⟩) (hv:c4 ⟨hp,[],[]⟩ args vs (fun _=>0)) {ι:k9} {w:World} {args':Array Value}
 (hR:Rel b.b.ng ι hp w w.heap.size) (ha:C7 ι vs args'.toList) (hro:∀ b k,j9 hp b=some k->k.md ≠ .rw) :
 Calls P f args' w fun e w'=>e = .returned (.bool true)/\Below w.heap.size w w':=by
 obtain ⟨x,w2,cr,ch',q1,q2,q3,q4,q5,q6⟩:=aru hb h ⟨hp,[],[]⟩ vs (fun _=>0) (fun _=>0) hw hg hv (by simp [p5]) (by simp) (by simp)
 simp only [RV] at q5
 rw [q5.1] at q1
 exact ajK hP q1 hR ha hro
end Go.AM

/- Words for printed runs of the machine of values, and what the tables owe. -/
namespace Go.AM
set_option linter.unusedSimpArgs false
set_option linter.unusedVariables false
def l8 {R:Type} (n:Nat) (vs:List V) (K:(Nat->V)->Option R):Option R:=if vs.length=n then K (fun i=>vs.getD i .g8) else none
def asu (l:List (Nat × List Nat)) (f:FuncId):List Nat:=(look l f).getD []
theorem asQ {P:Program} {l:List (Nat × TI)} (h:∀ t ti,look l t=some ti->N4 P t ti):∀ t ti,look l t=some ti->∀ u ∈ ti.zero,F9 u=true:=fun t ti e=>by
 obtain ⟨i,v,_,_,_,_,_,h7⟩:=(h t ti e).info
 exact h7
theorem av6 {P:Program} {l:List (Nat × TI)} (h:∀ t ti,look l t=some ti->N4 P t ti):∀ t e b7 eb z ag n zz,look l t=some ⟨.slice e b7 eb z,ag,n,zz⟩->(∀ u ∈ z,F9 u=true)/\z.length=b7/\0<b7:=fun t e b7 eb z ag n zz hl=>by
 obtain ⟨d,_,_,h3⟩:=(h t _ hl).und
 simp only [aqp] at h3
 obtain ⟨_,i,v,_,_,_,_,_,h4,h5,_,h6⟩:=h3
 exact ⟨h6,h4,h5⟩
def atu:List (Nat × TI)->Bool
 | []=>true
 | (_,x)::l=>Nat.blt 0 x.size&&atu l
theorem apf:∀ {l:List (Nat × TI)},atu l=true->∀ t ti,look l t=some ti->0<ti.size
 | [],_,t,ti,h=>by simp [look] at h
 | (k,x)::l,hp,t,ti,h=>by
   simp only [atu,Bool.and_eq_true] at hp
   simp only [look] at h
   split at h
   ·cases h
    exact Nat.le_of_ble_eq_true hp.1
   ·exact apf hp.2 t ti h
end Go.AM

/- What the words of a printed run come to at values that are known. -/
namespace Go.AM
set_option linter.unusedSimpArgs false
set_option linter.unusedVariables false
theorem aoY (b:Bool):strip (.bool b) = .bool b:=by exact id rfl
theorem asi (k:IntKind) (n:Int):strip (.int k n) = .int k n:=by exact id rfl
theorem arL (s:List UInt8):strip (.str s) = .str s:=by exact id rfl
theorem aoX:strip .g8 = .g8:=by exact id rfl
theorem ar3 (k o:Nat):strip (.ptr k o) = .ptr k o:=by exact id rfl
theorem aqW (c:List V) (o:Nat):strip (.D2 c o) = .D2 c o:=by exact id rfl
theorem auk (f:FuncId) (c:List V):strip (.fn f c) = .fn f c:=by exact id rfl
theorem auH (o:Bool) (xs:List (List V)):strip (.sl o xs) = .sl false (l9 xs):=by exact id rfl
theorem aqO (cs:List V):strip (.agg cs) = .agg (j3 cs):=by exact id rfl
theorem asw (cs:List V):strip (.u6 cs) = .u6 (j3 cs):=by exact id rfl
theorem apr:j3 []=[]:=by exact id rfl
theorem anK (v:V) (l:List V):j3 (v::l)=strip v::j3 l:=by exact id rfl
theorem anr:l9 []=[]:=by exact id rfl
theorem alZ (v:List V) (l:List (List V)):l9 (v::l)=j3 v::l9 l:=by exact id rfl
theorem aoT (H:VH) (b:Bool):l4 H (.bool b) = .bool b:=by exact id rfl
theorem arP (H:VH) (k:IntKind) (n:Int):l4 H (.int k n) = .int k n:=by exact id rfl
theorem asB (H:VH) (s:List UInt8):l4 H (.str s) = .str s:=by exact id rfl
theorem atX (H:VH) (o:Bool) (xs:List (List V)):l4 H (.sl o xs) = .sl false (l9 xs):=by exact id rfl
theorem asr (H:VH) (cs:List V):l4 H (.agg cs) = .agg (j3 cs):=by exact id rfl
theorem auI (H:VH) (f:FuncId) (cs:List V):l4 H (.fn f cs) = .fn f (cs.map (adB H)):=by exact id rfl
theorem ar6 (H:VH) (f:FuncId):l4 H (.fn f []) = .fn f []:=by exact id rfl
theorem ary (H:VH) (k o:Nat):l4 H (.ptr k o)=aey (H.getD k []) k o:=by exact id rfl
theorem am2 (c:V) (cs:List V) (k o:Nat):aey (c::cs) k o = .D2 (j3 (c::cs)) o:=by exact id rfl
theorem arS (H:VH) (c:List V) (o:Nat):l4 H (.D2 c o) = .D2 c o:=by exact id rfl
theorem aoU (H:VH) (k o:Nat):adB H (.ptr k o)=aey (H.getD k []) k o:=by exact id rfl
theorem amH {α β:Type} (f:α->β):([]:List α).map f=[]:=by exact id rfl
theorem alA {α β:Type} (f:α->β) (a:α) (l:List α):(a::l).map f=f a::l.map f:=by exact id rfl
theorem aof {α:Type} (l:List α):[]++l=l:=by exact id rfl
theorem al2 {α:Type} (a:α) (l m:List α):(a::l)++m=a::(l++m):=by exact id rfl
theorem ao1 (b:Bool):A5 (.bool b)=true:=by exact id rfl
theorem ar2 (k:IntKind) (n:Int):A5 (.int k n)=true:=by exact id rfl
theorem arq (s:List UInt8):A5 (.str s)=true:=by exact id rfl
theorem auv (o:Bool) (xs:List (List V)):A5 (.sl o xs)=F2 xs:=by exact id rfl
theorem arB (cs:List V):A5 (.agg cs)=r5 cs:=by exact id rfl
theorem asj (cs:List V) (o:Nat):A5 (.D2 cs o)=r5 cs:=by exact id rfl
theorem at1 (f:FuncId) (cs:List V):A5 (.fn f cs)=r5 cs:=by exact id rfl
theorem ao8:r5 []=true:=by exact id rfl
theorem ant (v:V) (l:List V):r5 (v::l)=(A5 v&&r5 l):=by exact id rfl
theorem anf:F2 []=true:=by exact id rfl
theorem alO (v:List V) (l:List (List V)):F2 (v::l)=(r5 v&&F2 l):=by exact id rfl
theorem aqT (b:Bool):data (.bool b)=true:=by exact id rfl
theorem aug (k:IntKind) (n:Int):data (.int k n)=true:=by exact id rfl
theorem atZ (s:List UInt8):data (.str s)=true:=by exact id rfl
theorem avP (o:Bool) (xs:List (List V)):data (.sl o xs)=z8 xs:=by exact id rfl
theorem atP (cs:List V):data (.agg cs)=o8 cs:=by exact id rfl
theorem at0 (cs:List V):data (.u6 cs)=o8 cs:=by exact id rfl
theorem ari:o8 []=true:=by exact id rfl
theorem apE (v:V) (l:List V):o8 (v::l)=(data v&&o8 l):=by exact id rfl
theorem apB:z8 []=true:=by exact id rfl
theorem aol (v:List V) (l:List (List V)):z8 (v::l)=(o8 v&&z8 l):=by exact id rfl
theorem aoV (b:Bool):ab5 (.bool b)=true:=by exact id rfl
theorem ar0 (k:IntKind) (n:Int):ab5 (.int k n)=true:=by exact id rfl
theorem arx (s:List UInt8):ab5 (.str s)=true:=by exact id rfl
theorem aqR (l:List V):ab5 (.u6 l)=l.all T4:=by exact id rfl
theorem apG (b:Bool):T4 (.bool b)=true:=by exact id rfl
theorem ard (k:IntKind) (n:Int):T4 (.int k n)=true:=by exact id rfl
theorem arR (s:List UInt8):T4 (.str s)=true:=by exact id rfl
theorem arH {α:Type} (p:α->Bool):([]:List α).all p=true:=by exact id rfl
theorem apH {α:Type} (p:α->Bool) (a:α) (l:List α):(a::l).all p=(p a&&l.all p):=by exact id rfl
theorem atV:(true&&true)=true:=by exact id rfl
theorem arC {α β:Type} (a:α) (f:α->Option β):(some a).bind f=f a:=by exact id rfl
theorem avJ {α:Type} (a:α):id a=a:=by exact id rfl
theorem apt {R:Type} (b:Bool) (x y:Option R):j8 (.bool b) x y=if b=true then x else y:=by cases b<;>rfl
theorem auQ {R:Type} (x:Option R):j8 .ub x x=x:=by show ahW x x=x; unfold ahW; rw [if_pos rfl]
theorem apc {R:Type} (b:Bool) (x y:Option R):l7 (.bool b) x y=if b=true then x else y:=by cases b<;>rfl
theorem aws {R:Type} (x y:Option R):l7 (.bool true) x y=x:=by exact id rfl
theorem awe {R:Type} (x y:Option R):l7 (.bool false) x y=y:=by exact id rfl
theorem auA:strip .ub = .ub:=by exact id rfl
theorem awR {R:Type} (x y:Option R):j8 (.bool true) x y=x:=by exact id rfl
theorem av3 {R:Type} (x y:Option R):j8 (.bool false) x y=y:=by exact id rfl
theorem awW {R:Type} (a:Option R) (l:List (Option R)):B5 0 (a::l)=a:=by exact id rfl
theorem in_1 {R:Type} (a b:Option R) (l:List (Option R)):B5 1 (a::b::l)=b:=by exact id rfl
theorem awa {R:Type} (a b c:Option R) (l:List (Option R)):B5 2 (a::b::c::l)=c:=by exact id rfl
theorem awl {R:Type} (a b c d:Option R) (l:List (Option R)):B5 3 (a::b::c::d::l)=d:=by exact id rfl
theorem awU {R:Type} (a b c d e:Option R) (l:List (Option R)):B5 4 (a::b::c::d::e::l)=e:=by exact id rfl
theorem aw4 {R:Type} (K:(Nat->V)->Option R):l8 0 [] K=K fun i=>([]:List V).getD i .g8:=by exact id rfl
theorem awJ {R:Type} (a:V) (K:(Nat->V)->Option R):l8 1 [a] K=K fun i=>[a].getD i .g8:=by exact id rfl
theorem awA {R:Type} (a b:V) (K:(Nat->V)->Option R):l8 2 [a,b] K=K fun i=>[a,b].getD i .g8:=by exact id rfl
theorem av9 {R:Type} (a b c:V) (K:(Nat->V)->Option R):l8 3 [a,b,c] K=K fun i=>[a,b,c].getD i .g8:=by exact id rfl
theorem avL {R:Type} (a b c d:V) (K:(Nat->V)->Option R):l8 4 [a,b,c,d] K=K fun i=>[a,b,c,d].getD i .g8:=by exact id rfl
theorem axf {R:Type} (a b c d e:V) (K:(Nat->V)->Option R):l8 5 [a,b,c,d,e] K=K fun i=>[a,b,c,d,e].getD i .g8:=by exact id rfl
theorem awB {R:Type} (a b c d e f:V) (K:(Nat->V)->Option R):l8 6 [a,b,c,d,e,f] K=K fun i=>[a,b,c,d,e,f].getD i .g8:=by exact id rfl
theorem awM {R:Type} (a b c d e f g:V) (K:(Nat->V)->Option R):l8 7 [a,b,c,d,e,f,g] K=K fun i=>[a,b,c,d,e,f,g].getD i .g8:=by exact id rfl
theorem axa {R:Type} (a b c d e f g h:V) (K:(Nat->V)->Option R):l8 8 [a,b,c,d,e,f,g,h] K=K fun i=>[a,b,c,d,e,f,g,h].getD i .g8:=by exact id rfl
theorem awE {R:Type} (a b c d e f g h j:V) (K:(Nat->V)->Option R):l8 9 [a,b,c,d,e,f,g,h,j] K=K fun i=>[a,b,c,d,e,f,g,h,j].getD i .g8:=by exact id rfl
theorem auE {R:Type} (a b c d e f g h j k:V) (K:(Nat->V)->Option R):l8 10 [a,b,c,d,e,f,g,h,j,k] K=K fun i=>[a,b,c,d,e,f,g,h,j,k].getD i .g8:=by exact id rfl
theorem axi {α:Type} (a d:α) (l:List α):(a::l).getD 0 d=a:=by exact id rfl
theorem awK {α:Type} (a b d:α) (l:List α):(a::b::l).getD 1 d=b:=by exact id rfl
theorem av2 {α:Type} (a b c d:α) (l:List α):(a::b::c::l).getD 2 d=c:=by exact id rfl
theorem aw6 {α:Type} (a b c e d:α) (l:List α):(a::b::c::e::l).getD 3 d=e:=by exact id rfl
theorem awX {α:Type} (a b c e f d:α) (l:List α):(a::b::c::e::f::l).getD 4 d=f:=by exact id rfl
theorem axg {α:Type} (a b c e f g d:α) (l:List α):(a::b::c::e::f::g::l).getD 5 d=g:=by exact id rfl
theorem awO {α:Type} (a b c e f g h d:α) (l:List α):(a::b::c::e::f::g::h::l).getD 6 d=h:=by exact id rfl
theorem avI {α:Type} (a b c e f g h j d:α) (l:List α):(a::b::c::e::f::g::h::j::l).getD 7 d=j:=by exact id rfl
theorem av0 {α:Type} (a b c e f g h j k d:α) (l:List α):(a::b::c::e::f::g::h::j::k::l).getD 8 d=k:=by exact id rfl
theorem awx {α:Type} (a b c e f g h j k m d:α) (l:List α):(a::b::c::e::f::g::h::j::k::m::l).getD 9 d=m:=by exact id rfl
theorem at5 {R:Type} (a b c d e f g h j k m:V) (K:(Nat->V)->Option R):l8 11 [a,b,c,d,e,f,g,h,j,k,m] K=K fun i=>[a,b,c,d,e,f,g,h,j,k,m].getD i .g8:=by exact id rfl
theorem auz {R:Type} (a b c d e f g h j k m n:V) (K:(Nat->V)->Option R):l8 12 [a,b,c,d,e,f,g,h,j,k,m,n] K=K fun i=>[a,b,c,d,e,f,g,h,j,k,m,n].getD i .g8:=by exact id rfl
theorem at6 {R:Type} (a b c d e f g h j k m n o:V) (K:(Nat->V)->Option R):l8 13 [a,b,c,d,e,f,g,h,j,k,m,n,o] K=K fun i=>[a,b,c,d,e,f,g,h,j,k,m,n,o].getD i .g8:=by exact id rfl
theorem atW {R:Type} (a b c d e f g h j k m n o p:V) (K:(Nat->V)->Option R):l8 14 [a,b,c,d,e,f,g,h,j,k,m,n,o,p] K=K fun i=>[a,b,c,d,e,f,g,h,j,k,m,n,o,p].getD i .g8:=by exact id rfl
theorem aue {R:Type} (a b c d e f g h j k m n o p q:V) (K:(Nat->V)->Option R):l8 15 [a,b,c,d,e,f,g,h,j,k,m,n,o,p,q] K=K fun i=>[a,b,c,d,e,f,g,h,j,k,m,n,o,p,q].getD i .g8:=by exact id rfl
theorem aun {α:Type} (x0 x1 x2 x3 x4 x5 x6 x7 x8 x9 x10 d:α) (l:List α):(x0::x1::x2::x3::x4::x5::x6::x7::x8::x9::x10::l).getD 10 d=x10:=by exact id rfl
theorem aub {α:Type} (x0 x1 x2 x3 x4 x5 x6 x7 x8 x9 x10 x11 d:α) (l:List α):(x0::x1::x2::x3::x4::x5::x6::x7::x8::x9::x10::x11::l).getD 11 d=x11:=by exact id rfl
theorem aua {α:Type} (x0 x1 x2 x3 x4 x5 x6 x7 x8 x9 x10 x11 x12 d:α) (l:List α):(x0::x1::x2::x3::x4::x5::x6::x7::x8::x9::x10::x11::x12::l).getD 12 d=x12:=by exact id rfl
theorem aut {α:Type} (x0 x1 x2 x3 x4 x5 x6 x7 x8 x9 x10 x11 x12 x13 d:α) (l:List α):(x0::x1::x2::x3::x4::x5::x6::x7::x8::x9::x10::x11::x12::x13::l).getD 13 d=x13:=by exact id rfl
theorem auM {α:Type} (x0 x1 x2 x3 x4 x5 x6 x7 x8 x9 x10 x11 x12 x13 x14 d:α) (l:List α):(x0::x1::x2::x3::x4::x5::x6::x7::x8::x9::x10::x11::x12::x13::x14::l).getD 14 d=x14:=by exact id rfl
theorem aui {α:Type} (x0 x1 x2 x3 x4 x5 x6 x7 x8 x9 x10 x11 x12 x13 x14 x15 d:α) (l:List α):(x0::x1::x2::x3::x4::x5::x6::x7::x8::x9::x10::x11::x12::x13::x14::x15::l).getD 15 d=x15:=by exact id rfl
section
variable {B:List V->VH->Option (Option Nat × List V × VH)} {vs vs':List V} {hp hp':VH} {n:Nat}
theorem aee (h:B vs hp=some (none,vs',hp')):j4 B vs hp=j4 B vs' hp':=by rw [aoW,h]
theorem aac (h:B vs hp=some (some n,vs',hp')):j4 B vs hp=some (n,vs',hp'):=by rw [aoW,h]
end
section
variable (tk:TK) (a b:Int) (k:IntKind)
theorem auL:a8 tk .lss (.int k a) (.int k b)=some (.bool (decide (a<b))):=by simp [a8,toA,S3,T5,ofA]
theorem at2:a8 tk .leq (.int k a) (.int k b)=some (.bool (decide (a<=b))):=by simp [a8,toA,S3,T5,ofA]
theorem auG:a8 tk .gtr (.int k a) (.int k b)=some (.bool (decide (a>b))):=by simp [a8,toA,S3,T5,ofA]
theorem aur:a8 tk .geq (.int k a) (.int k b)=some (.bool (decide (a>=b))):=by simp [a8,toA,S3,T5,ofA]
theorem aum:a8 tk .eql (.int k a) (.int k b)=some (.bool (decide (a=b))):=by
 simp only [a8,toA,S3,T5,ofA,Option.bind_some,if_true]
 congr 2
theorem auj:a8 tk .neq (.int k a) (.int k b)=some (.bool (!decide (a=b))):=by
 simp only [a8,toA,S3,T5,ofA,Option.bind_some,if_true]
 congr 2
theorem axz (h1 : -9223372036854775808<=a+b) (h2:a+b<=9223372036854775807):a8 tk .add (.int .i64 a) (.int .i64 b)=some (.int .i64 (a+b)):=by simp [a8,toA,S3,T5,ofA,IntWalk.i64_in _ ⟨h1,h2⟩]
theorem amp (h1 : -9223372036854775808<=a-b) (h2:a-b<=9223372036854775807):a8 tk .sub (.int .i64 a) (.int .i64 b)=some (.int .i64 (a-b)):=by simp [a8,toA,S3,T5,ofA,IntWalk.i64_in _ ⟨h1,h2⟩]
theorem axu (h:b ≠ 0):a8 tk .rem (.int k a) (.int k b)=some (.int k (a.tmod b)):=by simp [a8,toA,S3,T5,ofA,h]
theorem axv (h:0<b) (h1:0<=a) (h2:a<=9223372036854775807):a8 tk .quo (.int .i64 a) (.int .i64 b)=some (.int .i64 (a.tdiv b)):=by
 have h3:0<=a.tdiv b:=Int.tdiv_nonneg h1 (by omega)
 have h4:a.tdiv b<=a:=Int.tdiv_le_self b h1
 have h5:=IntWalk.i64_in (a.tdiv b) ⟨by omega,by omega⟩
 simp [a8,toA,ofA,S3,T5,show b ≠ 0 by omega,h5]
theorem auw (b:Bool):I9 .not (.bool b)=some (.bool !b):=by exact id rfl
theorem auF (a b:Bool):a8 .bool .eql (.bool a) (.bool b)=some (.bool (decide (a=b))):=by cases a<;>cases b<;>rfl
theorem auC (a b:Bool):a8 .bool .neq (.bool a) (.bool b)=some (.bool (!decide (a=b))):=by cases a<;>cases b<;>rfl
end
theorem atg (a b:Nat):(a:Int).tmod (b:Int)=((a % b:Nat):Int):=by rw [Int.tmod_eq_emod_of_nonneg (by omega)]; simp
theorem atM (a b:Nat):(a:Int).tdiv (b:Int)=((a / b:Nat):Int):=by simp [Int.ofNat_tdiv]
theorem s9 (tk:TK) (a b:Nat) (h:a+b<=9223372036854775807):a8 tk .add (.int .i64 (a:Int)) (.int .i64 (b:Int))=some (.int .i64 ((a+b:Nat):Int)):=by
 have e:(a:Int)+(b:Int)=((a+b:Nat):Int):=by simp
 rw [axz _ _ _ (by rw [e]; omega) (by rw [e]; omega),e]
theorem amV (tk:TK) (a b:Nat) (h:b<=a) (h2:a<=9223372036854775807):a8 tk .sub (.int .i64 (a:Int)) (.int .i64 (b:Int))=some (.int .i64 ((a-b:Nat):Int)):=by
 have e:(a:Int)-(b:Int)=((a-b:Nat):Int):=by omega
 rw [amp _ _ _ (by rw [e]; omega) (by rw [e]; omega),e]
theorem aw5 (tk:TK) (a b:Nat) (h:0<b):a8 tk .rem (.int .i64 (a:Int)) (.int .i64 (b:Int))=some (.int .i64 ((a % b:Nat):Int)):=by
 rw [axu _ _ _ _ (by omega),atg]
theorem aw8 (tk:TK) (a b:Nat) (h:0<b) (h2:a<=9223372036854775807):a8 tk .quo (.int .i64 (a:Int)) (.int .i64 (b:Int))=some (.int .i64 ((a / b:Nat):Int)):=by
 rw [axv _ _ _ (by omega) (by omega) (by omega),atM]
theorem atT (s t:List UInt8):((ByteArray.mk s.toArray).toList==(ByteArray.mk t.toArray).toList)=decide (s=t):=by
 rw [ByteArray.toList_eq,ByteArray.toList_eq]
 show (s==t)=_
 rw [Bool.eq_iff_iff,beq_iff_eq,decide_eq_true_iff]
theorem auN (tk:TK) (s t:List UInt8):a8 tk .eql (.str s) (.str t)=some (.bool (decide (s=t))):=by
 simp only [a8,toA,S3,afk,ofA,Option.bind_some,atT]
theorem at7 (tk:TK) (s t:List UInt8):a8 tk .neq (.str s) (.str t)=some (.bool (!decide (s=t))):=by
 simp only [a8,toA,S3,afk,ofA,Option.bind_some,atT]
theorem ahZ (tk:TK) (s t:List UInt8) (h:s.length+t.length<=9223372036854775807):a8 tk .add (.str s) (.str t)=some (.str (s++t)):=by
 simp only [a8,toA,S3,afk,ofA,Option.bind_some]
 rw [if_pos (by simpa [ByteArray.size] using h)]
 simp [ofA]
theorem Y3 (s:List UInt8) (k:IntKind) (i:Nat) (h:i<s.length):p8 (.str s) (.int k (i:Int))=some (.int .u8 ((s[i]'h).toNat:Int)):=by
 simp [p8,List.getElem?_eq_getElem h]
theorem auo (s:List UInt8):w6 (.str s)=some (.int .i64 s.length):=by exact id rfl
theorem aud (o:Bool) (xs:List (List V)):s8 (.sl o xs)=some (.int .i64 xs.length):=by exact id rfl
theorem ap4 (s:List UInt8) (k k':IntKind) (l h:Nat) (h1:l<=h) (h2:h<=s.length):E8 (.str s) (some (.int k (l:Int))) (some (.int k' (h:Int)))=some (.str ((s.drop l).take (h-l))):=by
 simp only [E8,ady,Option.bind_some]
 rw [if_pos (by omega)]; simp
theorem aqv (s:List UInt8) (k:IntKind) (h:Nat) (h2:h<=s.length):E8 (.str s) none (some (.int k (h:Int)))=some (.str (s.take h)):=by
 simp only [E8,ady,Option.bind_some]
 rw [if_pos (by omega)]; simp
theorem amn (s:List UInt8) (k:IntKind) (l:Nat) (h2:l<=s.length):E8 (.str s) (some (.int k (l:Int))) none=some (.str (s.drop l)):=by
 simp only [E8,ady,Option.bind_some]
 rw [if_pos (by omega)]
 simp
 rw [List.take_of_length_le (by simp)]
theorem auq (s:List UInt8):amr (.str s)=some (.str s):=by exact id rfl
theorem auS (b7:Nat) (o:Bool) (xs:List (List V)) (k:IntKind) (i:Nat) (c:List V) (h:xs[i]? = some c) (hc:c.length=b7):s6 b7 (.sl o xs) (.int k (i:Int))=some (.D2 (j3 c) 0):=by
 simp [s6,h,hc]
theorem arD (g:Nat->Option (List V)) (t:Bool) (n:Nat) (v:V) (H:VH):y3 g t false n (.D2 [v] 0) H=some (v,H):=by exact id rfl
theorem asa (f:FuncId) (c:List V):akm (.fn f c)=some (.fn f c):=by exact id rfl
theorem asd (k o:Nat):akm (.ptr k o)=some (.ptr k o):=by exact id rfl
theorem arA (c:List V) (o:Nat):akm (.D2 c o)=some (.D2 c o):=by exact id rfl
theorem aq5 (k o n:Nat):K4 (.ptr k o) n=some (.ptr k (o+n)):=by exact id rfl
theorem art (c:List V) (o n:Nat):K4 (.D2 c o) n=some (.D2 c (o+n)):=by exact id rfl
theorem auy (k:IntKind) (n:Int):w5 (.int k n)=some (.int k n):=by exact id rfl
theorem asn (b:Bool):w5 (.bool b)=some (.bool b):=by exact id rfl
theorem auc (s:List UInt8):w5 (.str s)=some (.str s):=by exact id rfl
theorem awz (o:Bool) (xs:List (List V)):w5 (.sl o xs)=some (.sl o xs):=by exact id rfl
theorem atO (k o:Nat):w5 (.ptr k o)=some (.ptr k o):=by exact id rfl
theorem awY (f:FuncId) (c:List V):w5 (.fn f c)=some (.fn f c):=by exact id rfl
theorem axl (xs:List (List V)):aaE (.sl true xs)=some xs:=by exact id rfl
theorem auK (f:FuncId) (c:List V):aec (.fn f c)=some (f,c):=by exact id rfl
theorem awc (a:V) (l:List V):B8 (.u6 (a::l)) 0=some a:=by exact id rfl
theorem avN (a b:V) (l:List V):B8 (.u6 (a::b::l)) 1=some b:=by exact id rfl
theorem awG (a b c:V) (l:List V):B8 (.u6 (a::b::c::l)) 2=some c:=by exact id rfl
theorem awf (a:V) (l:List V):acF 0 (.u6 (a::l)) = .u6 (strip a::l):=by exact id rfl
theorem aww (a b:V) (l:List V):acF 1 (.u6 (a::b::l)) = .u6 (a::strip b::l):=by exact id rfl
theorem awi (a b c:V) (l:List V):acF 2 (.u6 (a::b::c::l)) = .u6 (a::b::strip c::l):=by exact id rfl
theorem adV (b7 bytes:Nat) (xs:List (List V)) (o:Bool) (ys:List (List V)) (h1:A9 b7 xs=true) (h2:A9 b7 ys=true) (h3:(xs.length+ys.length)*bytes<=140737488355328):F1 false b7 bytes xs (.sl o ys)=some (.sl true (xs++ys)):=by
 simp only [F1]; rw [if_pos ⟨h1,h2,h3⟩]
theorem ahI {call:p9} {f:FuncId} {args:List V} {r:V} {H:VH} (h:call f args []=some (r,H)) (h1:r5 args=true) (h2:data r=true):U2 call f args=some r:=by
 simp only [U2,h1,h,Option.bind_some,h2]
theorem s7 {call:p9} {f:FuncId} {args:List V} {r:V} {H:VH} (h:call f args []=some (r,H)) (h1:r5 args=true) (h2:ab5 r=true):I3 call f args=some r:=by
 simp only [I3,h1,h,Option.bind_some,h2]
def vT (l:List (List UInt8)):List (List V):=l.map fun s=>[.str s]
def vI (k:IntKind) (l:List Int):List (List V):=l.map fun n=>[.int k n]
def vB (l:List UInt8):List (List V):=l.map fun b=>[.int .u8 b.toNat]
theorem P3 (l:List (List UInt8)):(vT l).length=l.length:=by simp [vT]
theorem arl (l:List UInt8):(vB l).length=l.length:=by simp [vB]
theorem asx (k:IntKind) (l:List Int):(vI k l).length=l.length:=by simp [vI]
theorem C2 (l:List (List UInt8)):l9 (vT l)=vT l:=by
 induction l with
 | nil=>rfl
 | cons a l ih=>simp only [vT,List.map_cons,l9,j3,strip] at ih ⊢; rw [ih]
theorem amM (l:List UInt8):l9 (vB l)=vB l:=by
 induction l with
 | nil=>rfl
 | cons a l ih=>simp only [vB,List.map_cons,l9,j3,strip] at ih ⊢; rw [ih]
theorem amG (k:IntKind) (l:List Int):l9 (vI k l)=vI k l:=by
 induction l with
 | nil=>rfl
 | cons a l ih=>simp only [vI,List.map_cons,l9,j3,strip] at ih ⊢; rw [ih]
theorem ams (l:List (List UInt8)):F2 (vT l)=true:=by
 induction l with
 | nil=>rfl
 | cons a l ih=>simp only [vT,List.map_cons,F2,r5,A5,Bool.and_self,Bool.true_and] at ih ⊢; exact ih
theorem atY (l:List UInt8):F2 (vB l)=true:=by
 induction l with
 | nil=>rfl
 | cons a l ih=>simp only [vB,List.map_cons,F2,r5,A5,Bool.and_self,Bool.true_and] at ih ⊢; exact ih
theorem atU (k:IntKind) (l:List Int):F2 (vI k l)=true:=by
 induction l with
 | nil=>rfl
 | cons a l ih=>simp only [vI,List.map_cons,F2,r5,A5,Bool.and_self,Bool.true_and] at ih ⊢; exact ih
theorem acM (l:List (List UInt8)):z8 (vT l)=true:=by
 induction l with
 | nil=>rfl
 | cons a l ih=>simp only [vT,List.map_cons,z8,o8,data,Bool.and_self,Bool.true_and] at ih ⊢; exact ih
theorem ao4 (l:List UInt8):z8 (vB l)=true:=by
 induction l with
 | nil=>rfl
 | cons a l ih=>simp only [vB,List.map_cons,z8,o8,data,Bool.and_self,Bool.true_and] at ih ⊢; exact ih
theorem ape (k:IntKind) (l:List Int):z8 (vI k l)=true:=by
 induction l with
 | nil=>rfl
 | cons a l ih=>simp only [vI,List.map_cons,z8,o8,data,Bool.and_self,Bool.true_and] at ih ⊢; exact ih
theorem W6 (l:List (List UInt8)):A9 1 (vT l)=true:=by simp [A9,vT]
theorem ast (l:List UInt8):A9 1 (vB l)=true:=by simp [A9,vB]
theorem aqU (k:IntKind) (l:List Int):A9 1 (vI k l)=true:=by simp [A9,vI]
theorem awt (l:List (List UInt8)) (i:Nat) (h:i<l.length):(vT l)[i]? = some [.str l[i]]:=by simp [vT,List.getElem?_eq_getElem h]
theorem am3 (l m:List (List UInt8)):vT l++vT m=vT (l++m):=by simp [vT]
theorem M0 (o:Bool) (l:List (List UInt8)) (k:IntKind) (i:Nat) (h:i<l.length):s6 1 (.sl o (vT l)) (.int k (i:Int))=some (.D2 [.str l[i]] 0):=by
 rw [auS 1 o (vT l) k i _ (awt l i h) rfl]; rfl
end Go.AM

/- What Go's assembly functions hand back in the machine of values: the place of a byte in a text, the count of a byte in a text. No condition. -/
namespace Go.AM
set_option linter.unusedSimpArgs false
set_option linter.unusedVariables false
def an8:Nat->List Value->Option Value
 | 0,[.string s,.int .u8 c]=>some (.int .i64 (Go.Lib.indexByte s.data.toList c.toNat.toUInt8))
 | 1,[.string s,.int .u8 c]=>some (.int .i64 (Go.Lib.countByte s.data.toList c.toNat.toUInt8))
 | _,_=>none
def aiS {R:Type} (n:Nat) (vs:List V) (K:V->Option R):Option R :=
 (vs.mapM toA).bind fun az=>(an8 n az).bind fun r=>(ofA r).bind fun v=>K v
theorem ako {R:Type} (s:List UInt8) (c:Int) (K:V->Option R):aiS 0 [.str s,.int .u8 c] K=K (.int .i64 (Go.Lib.indexByte s c.toNat.toUInt8)):=by
 simp [aiS,toA,an8,ofA]
theorem ajU {R:Type} (s:List UInt8) (c:Int) (K:V->Option R):aiS 1 [.str s,.int .u8 c] K=K (.int .i64 (Go.Lib.countByte s c.toNat.toUInt8)):=by
 simp [aiS,toA,an8,ofA]
def aqb (l m:List Nat) (e:List (Nat × Nat)) (f:FuncId):Nat:=match look e f with | some n=>n+3 | none=>kindOf l m f
def auD (P:Program) (f n:Nat):Prop:=match n with
 | 0=>∀ args w,(callFunc f args).run P w=((Extern.BytealgIndexByte.indexByte args).run P w).andThen fun v w' => .ok (.value v) w'
 | 1=>∀ args w,(callFunc f args).run P w=((Extern.BytealgCount.count args).run P w).andThen fun v w' => .ok (.value v) w'
 | _=>True
def agL (P:Program):List (Nat × Nat)->Prop
 | []=>True
 | (f,n)::l=>auD P f n/\agL P l
theorem agL.at {P:Program}:∀ {l:List (Nat × Nat)} {f n:Nat},agL P l->look l f=some n->auD P f n
 | [],f,n,_,h=>by cases h
 | (g,m)::l,f,n,h,hl=>by
   unfold look at hl
   split at hl
   ·rename_i e
    have:g=f:=by simpa using e
    cases hl
    subst this
    exact h.1
   ·exact h.2.at hl
theorem arp (l m:List Nat) (f:FuncId):kindOf l m f<=2:=by
 unfold kindOf; split
 ·omega
 ·split<;>omega
theorem awu {P:Program} {l m:List Nat} {e:List (Nat × Nat)} (h:agL P e):apU P (aqb l m e) an8:=by
 intro f n vs v hk hx ι vs' w hv
 have hf:look e f=some n:=by
  unfold aqb at hk
  split at hk
  ·rename_i k hk'; rw [hk']; congr 1; omega
  ·have:=arp l m f; omega
 have hF:=h.at hf
 match n,vs,hx with
 | 0,[.string s,.int .u8 c],hx =>
   cases hx
   obtain ⟨x,y,h1,h2⟩:∃ x y,vs' = #[x,y]/\VR ι (.string s) x/\VR ι (.int .u8 c) y:=by
    rcases vs' with ⟨l⟩
    cases hv with
    | cons a hv=>cases hv with
      | cons b hv=>cases hv; exact ⟨_,_,rfl,a,b⟩
   obtain ⟨h2,h3⟩:=h2
   cases h2; cases h3
   subst h1
   refine ⟨_,?_,.int _ _⟩
   rw [hF,Go.Lib.run_indexByteString]; rfl
 | 1,[.string s,.int .u8 c],hx =>
   cases hx
   obtain ⟨x,y,h1,h2⟩:∃ x y,vs' = #[x,y]/\VR ι (.string s) x/\VR ι (.int .u8 c) y:=by
    rcases vs' with ⟨l⟩
    cases hv with
    | cons a hv=>cases hv with
      | cons b hv=>cases hv; exact ⟨_,_,rfl,a,b⟩
   obtain ⟨h2,h3⟩:=h2
   cases h2; cases h3
   subst h1
   refine ⟨_,?_,.int _ _⟩
   rw [hF,Go.Lib.run_countString]; rfl
end Go.AM

/- slices.Insert and slices.Delete in the machine of values: on rows that lie in objects. -/
namespace Go.AM
set_option linter.unusedSimpArgs false
set_option linter.unusedVariables false
set_option linter.unusedSectionVars false
theorem Ext.trans {a b c:Wd} (h:Ext a b (fun _=>True)) (g:Ext b c (fun _=>True)):Ext a c (fun _=>True) where
 u9:=fun i k hk hn=>by
  obtain ⟨k1,a1,a2,a3,a4,a5,a6⟩:=h.u9 i k hk hn
  obtain ⟨k2,b1,b2,b3,b4,b5,b6⟩:=g.u9 i k1 a1 a2
  exact ⟨k2,b1,b2,fun q=>b3 (a3 q),by rw [b4,a4],by rw [b5,a5],fun _=>⟨by rw [(b6 trivial).1,(a6 trivial).1],by rw [(b6 trivial).2,(a6 trivial).2]⟩⟩
 c5:=fun k i hk=>g.c5 k i (h.c5 k i hk)
 osz:=fun k i kb hk hb=>by
  obtain ⟨k1,a1,a2⟩:=h.osz k i kb hk hb
  obtain ⟨k2,b1,b2⟩:=g.osz k i k1 (h.c5 k i hk) a1
  exact ⟨k2,b1,by rw [b2,a2]⟩
section
variable {w:Wd} {b:Nat} {kb k:j6} (hw:HW w) (hb:b ∈ w.c5) (hk:w.hp[b]? = some kb) (hf:k.c7=w.hp.length)
include hw hb hk hf
end
theorem RV.built {w:Wd} {y:List V} {l:List (List V)} {x:Value} {c:c9} (h:RV w (.sl true (y::l)) x c) {b7:Nat} (hesz:A9 b7 (y::l)=true) :
 ∃ b kv cc d,j9 w.hp b=some kv/\b ∉ w.fb/\x = .slice (some ⟨b,0,none⟩) (l.length+1) cc/\kv.sz=b7/\kv.md = .rw/\kv.pl=true/\0<b7/\kv.cells.length=(l.length+1)*b7/\j7 w (y::l) kv.cells b7 d/\∀ i,d i<=c i:=by
 simp only [RV] at h
 rcases h with ⟨h,_⟩ | ⟨h0,b,o,kb,ws,cc,d,h1,h2,h3,h4,h5,h6,h7,h8⟩
 ·cases h
 ·rcases h8 with ⟨h8,_⟩ | ⟨_,⟨h9,h9'⟩,rfl,h11,h12⟩
  ·cases h8
  ·have hsz:=h7.b7 hesz h0
   have hws:ws=kb.cells:=by
    have:=(E4 h6).2.1
    rw [this,List.drop_zero,List.take_of_length_le (by omega)]
   subst hws
   rw [hsz] at h7 h11 h5
   exact ⟨b,kb,cc,d,h1,h2,h4,hsz,h9,h9',h5,h11.symm,h7,fun i=>by rw [h12]; omega⟩
theorem D1.start {w:Wd} (hw:HW w) {args:List V} {args':List Value} {H:VH} {ca ch:c9} (hv:c4 w args args' ca) (ho:p5 w H w.c5 ch):D1 ⟨w.hp,w.c5,w.fb,fun i=>ca i+ch i⟩ w:=by
 refine ⟨Nat.le_refl _,fun _ _ h _ _=>h,fun b k hk _=>⟨k,hk,rfl,rfl,rfl,.inl rfl⟩,fun c k hc hk=>?_,⟨[],by simp,by simp⟩,⟨[],by simp,by simp⟩,fun b k hb hk=>?_,fun b kb hk=>⟨kb,hk,rfl,rfl⟩,hw.rlt,hw.c7⟩
 ·have:=(List.getElem?_eq_some_iff.1 hk).1; simp only at hc; omega
 ·simp only at hb
  by_cases q:1<=ca b
  ·obtain ⟨_,_,kb,a1,_,a3⟩:=c4.owned _ hv b q
   have a1':=(j5 a1).1
   rw [hk] at a1'; cases a1'; exact a3
  ·obtain ⟨kb,a1,a3⟩:=p5.ahB ho b (by omega)
   rw [hk] at a1; cases a1; exact a3
def ali (P:Program) (ng:Nat):List (Nat × (List Value->Heap->Option (Value × Heap)))->Prop
 | []=>True
 | (f,g)::l=>(∀ args hp r hp',g args hp=some (r,hp')->asX P ng f args hp r hp')/\ali P ng l
theorem an5 {P:Program} {ng:Nat}:∀ {l:List (Nat × (List Value->Heap->Option (Value × Heap)))},ali P ng l->∀ f g args hp r hp',look l f=some g->g args hp=some (r,hp')->asX P ng f args hp r hp'
 | [],_,f,g,args,hp,r,hp',h,_=>by cases h
 | (k,q)::l,⟨h1,h2⟩,f,g,args,hp,r,hp',h,e=>by
   rw [j2] at h
   split at h
   ·rename_i hk; cases h; rw [hk]; exact h1 args hp r hp' e
   ·exact an5 h2 f g args hp r hp' h e
def aiL (b:U0):List (Nat × (List V->VH->Option (V × VH)))->Prop
 | []=>True
 | (f,g)::l=>(∀ args H r H',g args H=some (r,H')->C5 (b.ctx (O0 b) j4) (N7 b.b) f args H r H')/\aiL b l
theorem alM {b:U0}:∀ {l:List (Nat × (List V->VH->Option (V × VH)))},aiL b l->∀ f g args r H H',look l f=some g->g args H=some (r,H')->C5 (b.ctx (O0 b) j4) (N7 b.b) f args H r H'
 | [],_,f,g,args,r,H,H',h,_=>by cases h
 | (k,q)::l,⟨h1,h2⟩,f,g,args,r,H,H',h,e=>by
   rw [j2] at h
   split at h
   ·rename_i hk; cases h; rw [hk]; exact h1 args H r H' e
   ·exact alM h2 f g args r H H' h e
theorem alr {α β:Type}:∀ {l:List (Nat × α)} {l':List (Nat × β)},l.map (·.1)=l'.map (·.1)->∀ {f:Nat},look l f=none->look l' f=none
 | [],[],_,f,_=>rfl
 | [],_::_,h,_,_=>by simp at h
 | _::_,[],h,_,_=>by simp at h
 | (k,a)::l,(k',a')::l',h,f,hn=>by
   simp only [List.map_cons,List.cons.injEq] at h
   obtain ⟨rfl,h⟩:=h
   rw [j2] at hn ⊢
   split at hn
   ·cases hn
   ·rename_i hk; rw [if_neg hk]; exact alr h hn
end Go.AM

/- What comes in: arguments read az data, az values of the machines. -/
namespace Go.AM
set_option linter.unusedSimpArgs false
set_option linter.unusedVariables false
inductive Ty where
 | bool
 | int (k:IntKind)
 | str
 | sl (e:Ty)
 | st (fs:List Ty)
mutual
def O4:Ty->Nat
 | .st fs=>aa8 fs
 | _=>1
termination_by structural t=>t
def aa8:List Ty->Nat
 | []=>0
 | t::ts=>O4 t+aa8 ts
termination_by structural l=>l
end
mutual
def acb (P:Program):Ty->TypeId->Bool
 | .bool,t=>(match P.underlying t with | some .bool=>true | _=>false)
 | .int k,t=>(match P.underlying t with | some (.int k')=>decide (k'=k) | _=>false)
 | .str,t=>(match P.underlying t with | some .string=>true | _=>false)
 | .sl e,t=>(match P.underlying t with | some (.slice e')=>acb P e e'&&decide (P.cellsOf e'=O4 e)&&decide (0<O4 e) | _=>false)
 | .st fs,t=>(match P.underlying t with | some (.struct fields)=>akf P fs fields.toList 0&&decide (P.cellsOf t=aa8 fs) | _=>false)
termination_by structural t=>t
def akf (P:Program):List Ty->List Field->Nat->Bool
 | [],fs,_=>(match fs with | []=>true | _=>false)
 | t::ts,fs,off=>(match fs with | f::fs=>acb P t f.type&&decide (f.offset=off)&&decide (P.cellsOf f.type=O4 t)&&akf P ts fs (off+O4 t) | []=>false)
termination_by structural l=>l
end
mutual
def F5:Ty->List V->Prop
 | .bool,vs=>∃ b,vs=[.bool b]
 | .int k,vs=>∃ n,vs=[.int k n]/\(Lit.int k n).wf=true
 | .str,vs=>∃ s:List UInt8,vs=[.str s]/\s.length<=maxLen
 | .sl e,vs=>∃ xs:List (List V),vs=[.sl false xs]/\xs.length<=maxLen/\∀ x ∈ xs,F5 e x
 | .st fs,vs=>W1 fs vs
termination_by structural t=>t
def W1:List Ty->List V->Prop
 | [],vs=>vs=[]
 | t::ts,vs=>∃ a b,vs=a++b/\F5 t a/\W1 ts b
termination_by structural l=>l
end
structure T6 (ι:k9) (hp:Heap) (w:World):Prop where
 ro:∀ (b:Nat) (k:j6),hp[b]? = some k->(k.md = .ro\/k.md = .gone)/\k.c7=b/\k.pl=true
 C0:∀ b x,ι b=some x->b<hp.length
 ok:∀ b x k,ι b=some x->hp[b]? = some k->(k.md ≠ .gone->Z0 ι x k w w.heap.size)/\k.sz=x.sz
theorem GOk.zero (ι:k9):GOk 0 ι:=fun g hg=>by omega
theorem GOk.mono {n:Nat} {ι ι':k9} (h:GOk n ι) (s:Sub ι ι'):GOk n ι':=fun g hg=>by
 obtain ⟨x,h1,h2⟩:=h g hg
 exact ⟨x,s _ _ h1,h2⟩
theorem T6.rel {ι:k9} {hp:Heap} {w:World} (h:T6 ι hp w) {n:Nat} (hg:GOk n ι):Rel n ι hp w w.heap.size where
 G9:=hg
 S2:=fun b x k hx hk=>(h.ok b x k hx hk).2
 C0:=h.C0
 base:=Nat.le_refl _
 ok:=fun b x k hx hk=>(h.ok b x k hx (j5 hk).1).1 (j5 hk).2.1
 sep:=fun b x k b' x' k' hx hk hm=>by
  rcases (h.ro b k (j5 hk).1).1 with q | q<;>(rw [q] at hm; cases hm)
theorem T6.hw {ι:k9} {hp:Heap} {w:World} (h:T6 ι hp w):HW ⟨hp,[],[]⟩ where
 obj:=fun b hb=>by cases hb
 one:=fun b c kb kc hb hc m1 m2 _=>by rcases (h.ro b kb hb).1 with q | q<;>(rw [q] at m1; cases m1)
 c7:=fun c k hk=>by
  rw [(h.ro c k hk).2.1]; exact (List.getElem?_eq_some_iff.1 hk).1
 W7:=fun b hb=>by cases hb
 sub:=fun b hb=>by cases hb
 nd:=List.nodup_nil
 fbf:=fun _ _ _ _ hb=>by cases hb
 mrk:=fun c k hk e=>by rw [(h.ro c k hk).2.2] at e; cases e
theorem T6.ax1 {ι:k9} {hp:Heap} {w:World} (h:T6 ι hp w):∀ b k,j9 hp b=some k->k.md ≠ .rw:=fun b k hk e=>by
 rcases (h.ro b k (j5 hk).1).1 with q | q<;>(rw [q] at e; cases e)
theorem T6.nil (w:World):T6 (fun _=>none) [] w where
 ro:=fun b k h=>by simp at h
 C0:=fun b x h=>by cases h
 ok:=fun b x k h=>by cases h
theorem Z0.sub {ι ι':k9} (hs:Sub ι ι') {x:Img} {k:j6} {w:World} {B:Nat} (h:Z0 ι x k w B):Z0 ι' x k w B:=by
 obtain ⟨cs,el,fr,h1,h2,h3,h4,h5⟩:=h
 exact ⟨cs,el,fr,h1,h2,h3,h4.mono hs,h5⟩
theorem T6.push {ι:k9} {hp:Heap} {w:World} (h:T6 ι hp w) {x:Img} {cells:List Value} {sz:Nat} (hb:Z0 ι x ⟨cells,sz,.ro,hp.length,true⟩ w w.heap.size) (hsz:sz=x.sz) :
 ∃ ι',T6 ι' (hp++[⟨cells,sz,.ro,hp.length,true⟩]) w/\Sub ι ι'/\ι' hp.length=some x:=by
 have hsub:Sub ι (fun b=>if b=hp.length then some x else ι b):=fun b y hy=>by
  have:=h.C0 b y hy
  show (if b=hp.length then some x else ι b)=some y
  rw [if_neg (by omega)]; exact hy
 refine ⟨fun b=>if b=hp.length then some x else ι b,⟨fun b k hk=>?_,fun b y hy=>?_,fun b y k hy hk=>?_⟩,hsub,by simp⟩
 ·rcases Q7 hk with ⟨_,hk⟩ | ⟨rfl,rfl⟩
  ·exact h.ro b k hk
  ·exact ⟨.inl rfl,rfl,rfl⟩
 ·have hy':(if b=hp.length then some x else ι b)=some y:=hy
  simp only [List.length_append,List.length_cons,List.length_nil]
  split at hy'
  ·omega
  ·have:=h.C0 b y hy'; omega
 ·have hy':(if b=hp.length then some x else ι b)=some y:=hy
  rcases Q7 hk with ⟨hl,hk⟩ | ⟨rfl,rfl⟩
  ·rw [if_neg (by omega)] at hy'
   obtain ⟨a,b'⟩:=h.ok b y k hy' hk
   exact ⟨fun q=>(a q).sub hsub,b'⟩
  ·rw [if_pos rfl] at hy'
   cases hy'
   exact ⟨fun _=>hb.sub hsub,hsz⟩
theorem C7.aw7 {ι:k9} {xs ys:List Value} (h:C7 ι xs ys):xs.length=ys.length:=by
 induction h with
 | nil=>rfl
 | cons _ _ ih=>simp [ih]
theorem C7.get' {ι:k9} {xs ys:List Value} (h:C7 ι xs ys):∀ (i:Nat) (x:Value),xs[i]? = some x->∃ y,ys[i]? = some y/\VR ι x y:=by
 induction h with
 | nil=>intro i x h; simp at h
 | cons h1 _ ih =>
   intro i z hz
   cases i with
   | zero=>simp at hz; subst hz; exact ⟨_,by simp,h1⟩
   | succ i=>simp at hz; simpa using ih i z hz
theorem alj (hp new:Heap):Ext ⟨hp,[],[]⟩ ⟨hp++new,[],[]⟩ (fun _=>True):=by
 refine ⟨fun b kb hb hn=>⟨kb,?_,y0.nil,by simp,rfl,rfl,fun _=>⟨rfl,rfl⟩⟩,fun k b h=>h,fun k b kb h=>by simp at h⟩
 show j9 (hp++new) b=_
 have hb':j9 hp b=some kb:=hb
 rw [w4 _ (j5 hb').2.2]; exact hb'
theorem c4.push {hp new:Heap} {vs:List V} {xs:List Value} (h:c4 ⟨hp,[],[]⟩ vs xs (fun _=>0)):c4 ⟨hp++new,[],[]⟩ vs xs (fun _=>0) :=
 c4.mono (alj hp new) vs h (fun _ _=>trivial)
theorem j7.push {hp new:Heap} {vs:List (List V)} {xs:List Value} {sz:Nat} (h:j7 ⟨hp,[],[]⟩ vs xs sz (fun _=>0)):j7 ⟨hp++new,[],[]⟩ vs xs sz (fun _=>0) :=
 j7.mono (alj hp new) vs h (fun _ _=>trivial)
mutual
theorem F5.len:∀ (τ:Ty) {vs:List V},F5 τ vs->vs.length=O4 τ
 | .bool,vs,h=>by simp only [F5] at h; obtain ⟨_,rfl⟩:=h; rfl
 | .int k,vs,h=>by simp only [F5] at h; obtain ⟨_,rfl,_⟩:=h; rfl
 | .str,vs,h=>by simp only [F5] at h; obtain ⟨_,rfl,_⟩:=h; rfl
 | .sl e,vs,h=>by simp only [F5] at h; obtain ⟨_,rfl,_⟩:=h; rfl
 | .st fs,vs,h=>by simp only [F5] at h; simp only [O4]; exact W1.len fs h
theorem W1.len:∀ (τ:List Ty) {vs:List V},W1 τ vs->vs.length=aa8 τ
 | [],vs,h=>by simp only [W1] at h; rw [h]; rfl
 | t::ts,vs,h=>by
   simp only [W1] at h
   obtain ⟨a,b,rfl,h1,h2⟩:=h
   simp only [List.length_append,aa8,F5.len t h1,W1.len ts h2]
end
section
variable {H:Type} {enc:TypeId × Value->H} {P:Program} {w:World}
theorem aj2 {a:Addr} {v:Value} (h:w.cell? a=some v):∃ cs el fr,w.heap[a.block]? = some (.cells cs el fr)/\a.spot=none/\cs[a.off]? = some v:=by
 unfold World.cell? at h
 split at h
 ·rename_i c el fr hc
  split at h
  ·cases h
  ·rename_i hs
   refine ⟨c,el,fr,hc,?_,h⟩
   cases e:a.spot with
   | none=>rfl
   | some _=>rw [e] at hs; simp at hs
 ·cases h
theorem arh (a:Addr) (n:Nat):(a.add n).block=a.block:=by unfold Addr.add; split<;>rfl
theorem avt (a:Addr) (n:Nat):(a.add n).off=a.off+n:=by
 unfold Addr.add; split
 ·rename_i h; subst h; simp
 ·rfl
theorem add_add (a:Addr) (m n:Nat):(a.add m).add n=a.add (m+n)\/(a.add m).add n=a.add (m+n):=by
 left
 unfold Addr.add
 by_cases hm:m=0
 ·subst hm; simp
 ·by_cases hn:n=0
  ·subst hn; simp
  ·simp only [hm,hn,if_false,Nat.add_eq_zero_iff,and_self,Nat.add_assoc]
mutual
theorem conv:∀ (τ:Ty) {t:TypeId} {n:Nat} {cs:List Value} {x:DataW H × List MemPlace} {hp:Heap} {ι:k9},acb P τ t=true->DataW.trod enc P w 0 (fun _=>true) true n t cs=some x->T6 ι hp w →
 ∃ new ι' xs vs,T6 ι' (hp++new) w/\Sub ι ι'/\C7 ι' xs cs/\(∀ u ∈ xs,u.oneCell'=true)/\c4 ⟨hp++new,[],[]⟩ vs xs (fun _=>0)/\F5 τ vs
 | .bool,t,n,cs,x,hp,ι,ht,h,hi=>by
   simp only [acb] at ht
   split at ht
   ·rename_i hu
    obtain ⟨b,rfl,rfl⟩:=DataW.trod_bool hu h
    exact ⟨[],ι,[.bool b],[.bool b],by simpa using hi,Sub.refl ι,.cons (.bool b) .nil,by simp [Value.oneCell'],c4.one (by simp [RV]),by simp [F5]⟩
   ·cases ht
 | .int k,t,n,cs,x,hp,ι,ht,h,hi=>by
   simp only [acb] at ht
   split at ht
   ·rename_i k' hu
    have:=of_decide_eq_true ht
    subst this
    obtain ⟨b,rfl,rfl,hw⟩:=DataW.trod_int hu h
    exact ⟨[],ι,[.int k' b],[.int k' b],by simpa using hi,Sub.refl ι,.cons (.int k' b) .nil,by simp [Value.oneCell'],c4.one (by simp [RV]),by simp only [F5]; exact ⟨b,rfl,hw⟩⟩
   ·cases ht
 | .str,t,n,cs,x,hp,ι,ht,h,hi=>by
   simp only [acb] at ht
   split at ht
   ·rename_i hu
    obtain ⟨b,rfl,rfl,hw⟩:=DataW.trod_string hu h
    exact ⟨[],ι,[.string b],[.str b.data.toList],by simpa using hi,Sub.refl ι,.cons (.str b) .nil,by simp [Value.oneCell'],c4.one (by simp [RV]),by simp only [F5]; exact ⟨_,rfl,by have e:b.data.toList.length=b.size:=rfl; rw [e]; exact hw⟩⟩
   ·cases ht
 | .sl e,t,n,cs,x,hp,ι,ht,h,hi=>by
   simp only [acb] at ht
   split at ht
   ·rename_i e' hu
    simp only [Bool.and_eq_true,decide_eq_true_eq] at ht
    obtain ⟨⟨hte,hsz⟩,hpos⟩:=ht
    rcases DataW.trod_slice hu h with ⟨rfl,rfl⟩ | ⟨a,len,cap,elems,rest,m,rfl,rfl,rfl,_,hlc,hcap,hel,hget,hsp,_⟩
    ·refine ⟨[],ι,[.slice none 0 0],[.sl false []],by simpa using hi,Sub.refl ι,.cons .adu .nil,by simp [Value.oneCell'],c4.one (by simp only [RV]; exact .inl ⟨trivial,⟨none,0,rfl,by simp⟩,by simp⟩),?_⟩
     simp only [F5]
     exact ⟨[],rfl,by simp,by simp⟩
    ·by_cases h0:len=0
     ·subst h0
      refine ⟨[],ι,[.slice (some ⟨0,0,none⟩) 0 1],[.sl false []],by simpa using hi,Sub.refl ι,.cons (.slz _ _ _ _ (by omega)) .nil,by simp [Value.oneCell'],c4.one (by simp only [RV]; exact .inl ⟨trivial,⟨_,1,rfl,by simp⟩,by simp⟩),?_⟩
      simp only [F5]
      exact ⟨[],rfl,by simp,by simp⟩
     ·-- the elements,one after the other
      have elem:∀ (j:Nat) {hp:Heap} {ι:k9},j<=len->T6 ι hp w->∃ new ι' xs vs,T6 ι' (hp++new) w/\Sub ι ι'/\xs.length=j*O4 e/\(∀ (i:Nat) (v:Value),xs[i]? = some v->v.oneCell'=true/\∃ v',w.cell? (a.add i)=some v'/\VR ι' v v') ∧
       j7 ⟨hp++new,[],[]⟩ vs xs (O4 e) (fun _=>0)/\vs.length=j/\∀ y ∈ vs,F5 e y:=by
       intro j
       induction j with
       | zero=>intro hp ι _ hi; exact ⟨[],ι,[],[],by simpa using hi,Sub.refl ι,by simp,by simp,by simp [j7],rfl,by simp⟩
       | succ j ih =>
         intro hp ι hj hi
         obtain ⟨new1,ι1,xs1,vs1,i1,s1,l1,r1,q1,n1,t1⟩:=ih (by omega) hi
         have hg:=hget j (by omega)
         have hej:∃ y,elems[j]? = some y:=⟨elems[j]'(by omega),List.getElem?_eq_getElem (by omega)⟩
         obtain ⟨y,hy⟩:=hej
         rw [hy,Option.bind_eq_some_iff] at hg
         obtain ⟨ecs,hec,hey⟩:=hg
         obtain ⟨new2,ι2,xs2,vs2,i2,s2,r2,o2,q2,t2⟩:=conv e hte hey i1
         obtain ⟨_,hlen2,hcell⟩:=World.cells?_some hec
         have hx2:xs2.length=O4 e:=by rw [r2.aw7,hlen2,hsz]
         refine ⟨new1++new2,ι2,xs1++xs2,vs1++[vs2],by rw [<-List.append_assoc]; exact i2,s1.trans s2,by simp [l1,hx2,Nat.succ_mul],fun i v hv=>?_,?_,by simp [n1],fun z hz=>?_⟩
         ·by_cases hlt:i<xs1.length
          ·rw [List.getElem?_append_left hlt] at hv
           obtain ⟨g1,v',g2,g3⟩:=r1 i v hv
           exact ⟨g1,v',g2,g3.mono s2⟩
          ·rw [List.getElem?_append_right (by omega)] at hv
           obtain ⟨v',g2,g3⟩:=r2.get' _ _ hv
           refine ⟨o2 v (List.mem_of_getElem? hv),v',?_,g3⟩
           have hi2:i-xs1.length<P.cellsOf e':=by
            have:=(List.getElem?_eq_some_iff.1 g2).1; omega
           have:=hcell (i-xs1.length) hi2
           rw [g2] at this
           rw [<-this]
           have e1:(a.add (j*P.cellsOf e')).add (i-xs1.length)=a.add (j*P.cellsOf e'+(i-xs1.length)):=(add_add a _ _).elim id id
           have e2:j*P.cellsOf e'+(i-xs1.length)=i:=by rw [hsz,<-l1]; omega
           rw [e1,e2]
         ·rw [<-List.append_assoc]
          refine (j7.app (j7.push q1) (b:=fun _=>0) ?_).congr (by simp)
          simp only [j7]
          exact ⟨xs2,[],fun _=>0,fun _=>0,by simp,F5.len e t2,q2,⟨rfl,by simp⟩,by simp⟩
         ·rcases List.mem_append.1 hz with hz | hz
          ·exact t1 z hz
          ·simp at hz; subst hz; exact t2
      obtain ⟨new,ι1,xs,vs,i1,s1,l1,r1,q1,n1,t1⟩:=elem len (Nat.le_refl _) hi
      have hxl:0<xs.length:=by rw [l1]; exact Nat.mul_pos (by omega) hpos
      obtain ⟨_,v0,hv0,_⟩:=r1 0 xs[0] (List.getElem?_eq_getElem hxl)
      have ha0:a.add 0=a:=by simp [Addr.add]
      rw [ha0] at hv0
      obtain ⟨c,el,fr,hc,hspot,_⟩:=aj2 hv0
      have inb:∀ i v,w.cell? (a.add i)=some v->a.off+i<c.size/\c[a.off+i]? = some v:=fun i v hv=>by
       obtain ⟨c',el',fr',hc',_,hx⟩:=aj2 hv
       rw [arh] at hc'
       rw [hc] at hc'
       cases hc'
       rw [avt] at hx
       exact ⟨(Array.getElem?_eq_some_iff.1 hx).1,hx⟩
      have hroom:a.off+cap*O4 e<=c.size:=by
       have hlast:∃ ecs,w.cells? 0 (a.add ((cap-1)*P.cellsOf e')) (P.cellsOf e')=some ecs:=by
        by_cases hcl:cap=len
        ·have hg:=hget (cap-1) (by omega)
         have:∃ y,elems[cap-1]? = some y:=⟨elems[cap-1]'(by omega),List.getElem?_eq_getElem (by omega)⟩
         obtain ⟨y,hy⟩:=this
         rw [hy,Option.bind_eq_some_iff] at hg
         exact ⟨_,hg.choose_spec.1⟩
        ·obtain ⟨hrl,hr⟩:=hsp rfl
         have hg:=hr (cap-1-len) (by omega)
         have:∃ y,rest[cap-1-len]? = some y:=⟨rest[cap-1-len]'(by omega),List.getElem?_eq_getElem (by omega)⟩
         obtain ⟨y,hy⟩:=this
         rw [show len+(cap-1-len)=cap-1 by omega,hy,Option.bind_eq_some_iff] at hg
         exact ⟨_,hg.choose_spec.1⟩
       obtain ⟨ecs,hec⟩:=hlast
       obtain ⟨_,hl2,hcell⟩:=World.cells?_some hec
       rw [hsz] at *
       have hlt:O4 e-1<ecs.length:=by omega
       have:=hcell (O4 e-1) (by omega)
       rw [List.getElem?_eq_getElem hlt,(add_add a _ _).elim id id] at this
       have:=(inb _ _ this).1
       have hm:(cap-1)*O4 e+O4 e=cap*O4 e:=by
        rw [<-Nat.succ_mul]; congr 1; omega
       omega
      have hblk:Z0 ι1 ⟨a.block,a.off,c.size-a.off,O4 e⟩ ⟨xs,O4 e,.ro,(hp++new).length,true⟩ w w.heap.size:=by
       refine ⟨c,el,fr,hc,by simp only; omega,?_,fun i v hv=>?_,fun h=>by cases h⟩
       ·simp only; rw [l1]
        have:=Nat.mul_le_mul_right (O4 e) hlc
        omega
       ·obtain ⟨g1,v',g2,g3⟩:=r1 i v hv
        exact ⟨g1,v',(inb i v' g2).2,g3⟩
      obtain ⟨ι2,i2,s2,hat⟩:=i1.push hblk rfl
      refine ⟨new++[⟨xs,O4 e,.ro,(hp++new).length,true⟩],ι2,[.slice (some ⟨(hp++new).length,0,none⟩) len (len+1)],[.sl false vs],by rw [<-List.append_assoc]; exact i2,s1.trans s2,?_,by simp [Value.oneCell'],?_,?_⟩
      ·refine .cons ?_ .nil
       have:=VR.slc (ι:=ι2) (o:=0) (n:=len) (c:=len+1) (c':=cap) hat (by omega) hlc (by omega) (by simp only; omega)
       have ea:(⟨a.block,a.off+0,none⟩:Addr)=a:=by
        obtain ⟨b,o,s⟩:=a
        simp only at hspot
        subst hspot; rfl
       simp only at this
       rw [ea] at this; exact this
      ·refine c4.one ?_
       rw [<-List.append_assoc]
       have hne:vs ≠ []:=fun e=>by rw [e] at n1; simp at n1; omega
       simp only [RV]
       refine .inr ⟨hne,(hp++new).length,0,⟨xs,O4 e,.ro,(hp++new).length,true⟩,xs,len+1,fun _=>0,apk (by simp),by simp,y0.nil,by rw [n1],hpos,?_,j7.push q1,.inl ⟨trivial,by simp,by simp⟩⟩
       show H7 xs 0 (vs.length*O4 e)=some xs
       rw [J1 (by rw [n1,l1]; omega),List.drop_zero,List.take_of_length_le (by rw [n1,l1]; omega)]
      ·simp only [F5]
       exact ⟨vs,rfl,by rw [n1]; omega,t1⟩
   ·cases ht
 | .st fs,t,n,cs,x,hp,ι,ht,h,hi=>by
   simp only [acb] at ht
   split at ht
   ·rename_i fields hu
    simp only [Bool.and_eq_true,decide_eq_true_eq] at ht
    obtain ⟨ht1,ht2⟩:=ht
    obtain ⟨xs,m,rfl,rfl,hlen,hxl,hget⟩:=DataW.trod_struct hu h
    obtain ⟨new,ι',ys,vs,g1,g2,g3,g4,g5,g6⟩:=aup fs (fields:=fields.toList) (off:=0) (cs:=cs) (m:=m) ht1 (by rw [hlen,ht2]; omega) (fun i f hf=>by
     have:=hget i f (by simpa using hf)
     have hi:i<xs.length:=by rw [hxl]; have:=(List.getElem?_eq_some_iff.1 hf).1; simpa using this
     exact ⟨xs[i],by rw [this,List.getElem?_eq_getElem hi]⟩) hi
    refine ⟨new,ι',ys,vs,g1,g2,?_,g4,g5,by simp only [F5]; exact g6⟩
    have:(cs.drop 0).take (aa8 fs)=cs:=by rw [List.drop_zero,List.take_of_length_le (by omega)]
    rw [this] at g3; exact g3
   ·cases ht
theorem aup:∀ (fs:List Ty) {fields:List Field} {off m:Nat} {cs:List Value} {hp:Heap} {ι:k9},akf P fs fields off=true->off+aa8 fs<=cs.length →
 (∀ (i:Nat) (f:Field),fields[i]? = some f->∃ y,DataW.trod enc P w 0 (fun _=>true) true m f.type ((cs.drop f.offset).take (P.cellsOf f.type))=some y)->T6 ι hp w →
 ∃ new ι' xs vs,T6 ι' (hp++new) w/\Sub ι ι'/\C7 ι' xs ((cs.drop off).take (aa8 fs))/\(∀ u ∈ xs,u.oneCell'=true)/\c4 ⟨hp++new,[],[]⟩ vs xs (fun _=>0)/\W1 fs vs
 | [],fields,off,m,cs,hp,ι,ht,hl,hg,hi=>⟨[],ι,[],[],by simpa using hi,Sub.refl ι,by simp [aa8]; exact .nil,by simp,by simp [c4],by simp [W1]⟩
 | t::ts,fields,off,m,cs,hp,ι,ht,hl,hg,hi=>by
   cases fields with
   | nil=>simp only [akf] at ht; cases ht
   | cons f fields =>
     simp only [akf,Bool.and_eq_true,decide_eq_true_eq] at ht
     obtain ⟨⟨⟨h1,h2⟩,h3⟩,h4⟩:=ht
     simp only [aa8] at hl
     obtain ⟨y,hy⟩:=hg 0 f (by simp)
     rw [h2,h3] at hy
     obtain ⟨new1,ι1,xs1,vs1,i1,s1,r1,o1,q1,t1⟩:=conv t h1 hy hi
     obtain ⟨new2,ι2,xs2,vs2,i2,s2,r2,o2,q2,t2⟩:=aup ts (fields:=fields) (off:=off+O4 t) (cs:=cs) (m:=m) h4 (by omega) (fun i g hgi=>hg (i+1) g (by simpa using hgi)) i1
     refine ⟨new1++new2,ι2,xs1++xs2,vs1++vs2,by rw [<-List.append_assoc]; exact i2,s1.trans s2,?_,fun u hu=>?_,?_,by simp only [W1]; exact ⟨vs1,vs2,rfl,t1,t2⟩⟩
     ·have e:(cs.drop off).take (aa8 (t::ts))=(cs.drop off).take (O4 t)++(cs.drop (off+O4 t)).take (aa8 ts):=by
       simp only [aa8]
       rw [<-List.drop_drop,List.take_add]
      rw [e]
      exact (r1.mono s2).append r2
     ·rcases List.mem_append.1 hu with hu | hu
      ·exact o1 u hu
      ·exact o2 u hu
     ·rw [<-List.append_assoc]
      exact ((c4.push q1).app q2).congr (by simp)
end
end
end Go.AM

/- Package variables that are listed az laid: rows of texts. -/
namespace Go.AM
set_option linter.unusedSimpArgs false
set_option linter.unusedVariables false
def afF (g:Nat) (cells:List Value):Heap:=(List.range g).map (fun b=>⟨[],1,.gone,b,true⟩)++[⟨cells,1,.ro,g,true⟩]
theorem ap1 (g:Nat) (cells:List Value):(afF g cells).length=g+1:=by simp [afF]
theorem asC (g:Nat) (cells:List Value):(afF g cells)[g]? = some ⟨cells,1,.ro,g,true⟩:=by
 unfold afF
 rw [List.getElem?_append_right (by simp)]; simp
def aky (ss:List (List UInt8)):List Value:=ss.map fun s => .string ⟨s.toArray⟩
def auh (g:Nat) (ss:List (List UInt8)):Nat->Option (List V):=fun k=>match Nat.beq k g with | true=>some (ss.map .str) | false=>none
theorem anc {w:Wd}:∀ ss:List (List UInt8),c4 w (ss.map .str) (aky ss) (fun _=>0)
 | []=>by simp [c4,aky]
 | s::ss=>⟨_,_,fun _=>0,fun _=>0,rfl,by simp [RV],anc ss,by simp⟩
theorem J3.start {X:XV} {g:Nat} {ss:List (List UInt8)} (hx:X.G9=auh g ss) (new:Heap):J3 X ⟨afF g (aky ss)++new,[],[]⟩:=fun k cs h=>by
 rw [hx] at h
 unfold auh at h
 split at h
 ·rename_i hk
  cases h
  obtain rfl:=Nat.eq_of_beq_eq_true hk
  refine ⟨⟨aky ss,1,.ro,k,true⟩,?_,y0.nil,anc ss,by simp,rfl⟩
  show j9 (afF k (aky ss)++new) k=_
  unfold j9
  rw [List.getElem?_append_left (by rw [ap1]; omega),asC]
  rfl
 ·cases h
end Go.AM

/- Objects: loading and storing through known pointers; the block that draws. -/
namespace Go.AM
set_option linter.unusedSimpArgs false
set_option linter.unusedVariables false
theorem atb {α:Type} {l:List α} {k:Nat} {a:α} (h:l[k]? = some a):l.set k a=l:=by
 apply List.ext_getElem?
 intro i
 rw [List.getElem?_set]
 split
 ·rename_i e
  subst e
  rw [h,if_pos (List.getElem?_eq_some_iff.1 h).1]
 ·rfl
theorem alg {g:Nat->Option (List V)} {n k off:Nat} {H:VH} {cs:List V} {v u:V} (h:H[k]? = some cs) (hv:cs[off]? = some v) (hu:strip v=u):y3 g false false n (.ptr k off) H=some (u,H):=by
 rw [<-hu]
 simp only [y3,h,abv,hv,Option.bind_some,Option.map_some,atb h]
theorem aeb {k off:Nat} {H:VH} {cs:List V} {v:V} (h:H[k]? = some cs) (ho:off<cs.length):M6 (.ptr k off) [v] H=some (H.set k (cs.set off v)):=by
 have hb:Nat.ble (off+[v].length) cs.length=true:=Nat.ble_eq_true_of_le (by simp; omega)
 simp only [M6,h,hb]
 have:C8 cs off [v]=cs.set off v:=by
  simp only [C8]
  rw [List.set_eq_take_append_cons_drop,if_pos ho]; simp
 rw [this]
theorem R3 {α:Type} (H:List α) (a:α):(H++[a])[H.length]? = some a:=by simp
def rdr (o:Bool) (xs:List UInt8) (p:Nat):List V:=[.sl o (vB xs),.int .i64 (p:Int)]
end Go.AM

/- Arguments: each az a value of the machines. -/
namespace Go.AM
open Go.WideShapes
set_option linter.unusedSimpArgs false
set_option linter.unusedVariables false
def agH:Ty->V->Prop
 | .st fs,u=>∃ vs,u = .agg vs/\W1 fs vs
 | τ,u=>F5 τ [u]
theorem awn {H:Type} {enc:TypeId × Value->H} {P:Program} {w:World} {τ:Ty} {t:TypeId} {v:Value} {d:DataW H} {ps:List MemPlace} {base:Nat} {r:Reach} {hp:Heap} {ι:k9} (ht:acb P τ t=true)
 (h:DataW.Trod enc P w 0 (fun _=>true) true t v d ps) (hv:Value.okWide P w r base t v) (hi:T6 ι hp w) :
 ∃ new ι' x u,T6 ι' (hp++new) w/\Sub ι ι'/\VR ι' x v/\RV ⟨hp++new,[],[]⟩ u x (fun _=>0)/\agH τ u:=by
 obtain ⟨fuel,hf⟩:=h
 obtain ⟨new,ι',xs,vs,h1,h2,h3,h4,h5,h6⟩:=conv τ ht hf hi
 have single:∀ {c:Value},v.cells.toList=[c]->c=v->(∀ u,F5 τ [u]->agH τ u)->∃ new ι' x u,T6 ι' (hp++new) w/\Sub ι ι'/\VR ι' x v/\RV ⟨hp++new,[],[]⟩ u x (fun _=>0)/\agH τ u:=by
  intro c hc hcv hA
  rw [hc] at h3
  cases h3 with
  | cons g1 g2 =>
    cases g2
    rename_i x
    match vs,h5 with
    | [u],h5 =>
      simp only [c4] at h5
      obtain ⟨x',ys,c1,c2,e1,k1,⟨e2,k2⟩,k3⟩:=h5
      cases e1
      exact ⟨new,ι',x,u,h1,h2,by rw [<-hcv]; exact g1,k1.congr (fun i=>by have:=k3 i; omega),hA u h6⟩
    | [],h5=>simp only [c4] at h5; exact absurd h5.1 (by simp)
    | u::u2::l,h5 =>
      simp only [c4] at h5
      obtain ⟨x',ys,c1,c2,e1,k1,⟨x2,ys2,d1,d2,e2,_⟩,k3⟩:=h5
      cases e1; cases e2
 cases τ with
 | bool =>
   simp only [acb] at ht
   split at ht
   ·rename_i hu
    obtain ⟨b,rfl⟩:=okWide_bool hu hv
    exact single rfl rfl (fun _ h=>h)
   ·cases ht
 | int k =>
   simp only [acb] at ht
   split at ht
   ·rename_i hu
    obtain ⟨b,rfl⟩:=okWide_int hu hv
    exact single rfl rfl (fun _ h=>h)
   ·cases ht
 | str =>
   simp only [acb] at ht
   split at ht
   ·rename_i hu
    obtain ⟨b,rfl⟩:=okWide_string hu hv
    exact single rfl rfl (fun _ h=>h)
   ·cases ht
 | sl e =>
   simp only [acb] at ht
   split at ht
   ·rename_i hu
    obtain ⟨a,l,c,rfl⟩:=okWide_slice hu hv
    exact single rfl rfl (fun _ h=>h)
   ·cases ht
 | st fs =>
   simp only [acb] at ht
   split at ht
   ·rename_i hu
    obtain ⟨⟨cs⟩,rfl,hsz⟩:=okWide_struct hu hv
    have h3':C7 ι' xs cs:=h3
    refine ⟨new,ι',.agg ⟨xs⟩,.agg vs,h1,h2,?_,?_,?_⟩
    ·refine .agg (by simp [h3'.aw7]) (fun i a b ha hb=>?_) (fun i a ha=>h4 a (List.mem_of_getElem? (by simpa using ha)))
     obtain ⟨y,g1,g2⟩:=h3'.get' i a (by simpa using ha)
     have:cs[i]? = some b:=by simpa using hb
     rw [this] at g1; cases g1; exact g2
    ·simp only [RV]; exact ⟨xs,rfl,h5⟩
    ·simp only [F5] at h6; exact ⟨vs,rfl,h6⟩
   ·cases ht
theorem RV.more {hp new:Heap} {u:V} {x:Value} (h:RV ⟨hp,[],[]⟩ u x (fun _=>0)):RV ⟨hp++new,[],[]⟩ u x (fun _=>0) :=
 RV.mono (alj hp new) u h (fun _ _=>trivial)
end Go.AM

/- Rows of values of a kind; mails, sessions, mailboxes az values. -/
namespace Go.AM
set_option linter.unusedSimpArgs false
set_option linter.unusedVariables false
abbrev Bs:=List UInt8
structure Ec (α:Type) where
 e:α->List V
 n:Nat
 len:∀ a,(e a).length=n
 st:∀ a,j3 (e a)=e a
 np:∀ a,r5 (e a)=true
 dt:∀ a,o8 (e a)=true
def vR {α:Type} (E:Ec α) (l:List α):List (List V):=l.map E.e
section
variable {α:Type} (E:Ec α) (l m:List α)
theorem ag6:(vR E l).length=l.length:=by simp [vR]
theorem aaB:l9 (vR E l)=vR E l:=by
 induction l with
 | nil=>rfl
 | cons a l ih=>simp only [vR,List.map_cons,l9,E.st] at ih ⊢; rw [ih]
theorem amv:F2 (vR E l)=true:=by
 induction l with
 | nil=>rfl
 | cons a l ih=>simp only [vR,List.map_cons,F2,E.np,Bool.true_and] at ih ⊢; exact ih
theorem acQ:z8 (vR E l)=true:=by
 induction l with
 | nil=>rfl
 | cons a l ih=>simp only [vR,List.map_cons,z8,E.dt,Bool.true_and] at ih ⊢; exact ih
theorem asz:A9 E.n (vR E l)=true:=by simp [A9,vR,E.len]
theorem avW:vR E l++vR E m=vR E (l++m):=by simp [vR]
theorem awv (i:Nat) (h:i<l.length):(vR E l)[i]? = some (E.e l[i]):=by simp [vR,List.getElem?_eq_getElem h]
theorem awN (o:Bool) (k:IntKind) (i:Nat) (h:i<l.length):s6 E.n (.sl o (vR E l)) (.int k (i:Int))=some (.D2 (E.e l[i]) 0):=by
 rw [auS E.n o (vR E l) k i _ (awv E l i h) (E.len _),E.st]
end
def eT:Ec Bs:=⟨fun s=>[.str s],1,fun _=>rfl,fun _=>rfl,fun _=>rfl,fun _=>rfl⟩
structure j0 where
 from_:Bs
 to:List Bs
 lines:List Bs
 deriving DecidableEq
structure N8 where
 state:Int
 host:Bs
 L8:j0
 done:List j0
 deriving DecidableEq
structure u4 where
 path:Bs
 y5:List j0
 deriving DecidableEq
def cM (m:j0):List V:=[.str m.from_,.sl false (vT m.to),.sl false (vT m.lines)]
def eM:Ec j0 where
 e:=cM
 n:=3
 len:=fun _=>rfl
 st:=fun m=>by simp only [cM,j3,strip,C2]
 np:=fun m=>by simp only [cM,r5,A5,ams,Bool.and_self]
 dt:=fun m=>by simp only [cM,o8,data,acM,Bool.and_self]
def cS (s:N8):List V:=[.int .i64 s.state,.str s.host,.str s.L8.from_,.sl false (vT s.L8.to),.sl false (vT s.L8.lines),.sl false (vR eM s.done)]
def eS:Ec N8 where
 e:=cS
 n:=6
 len:=fun _=>rfl
 st:=fun m=>by simp only [cS,j3,strip,C2,aaB]
 np:=fun m=>by simp only [cS,r5,A5,ams,amv,Bool.and_self]
 dt:=fun m=>by simp only [cS,o8,data,acM,acQ,Bool.and_self]
def cX (b:u4):List V:=[.str b.path,.sl false (vR eM b.y5)]
def eX:Ec u4 where
 e:=cX
 n:=2
 len:=fun _=>rfl
 st:=fun m=>by simp only [cX,j3,strip,aaB]
 np:=fun m=>by simp only [cX,r5,A5,amv,Bool.and_self]
 dt:=fun m=>by simp only [cX,o8,data,acQ,Bool.and_self]
theorem axd (a b:V):C1 2 (.agg [a,b])=some [a,b]:=by exact id rfl
theorem axh (a b c:V):C1 3 (.agg [a,b,c])=some [a,b,c]:=by exact id rfl
theorem awk (a b c d e f:V):C1 6 (.agg [a,b,c,d,e,f])=some [a,b,c,d,e,f]:=by exact id rfl
theorem awj (a b c d e f g:V):C1 7 (.agg [a,b,c,d,e,f,g])=some [a,b,c,d,e,f,g]:=by exact id rfl
theorem aw2 (g:Nat->Option (List V)) (t:Bool) (a b:V) (H:VH):y3 g t true 2 (.D2 [a,b] 0) H=some (.agg [a,b],H):=by exact id rfl
theorem awZ (g:Nat->Option (List V)) (t:Bool) (a b c:V) (H:VH):y3 g t true 3 (.D2 [a,b,c] 0) H=some (.agg [a,b,c],H):=by exact id rfl
theorem awb (g:Nat->Option (List V)) (t:Bool) (a b c d e f:V) (H:VH):y3 g t true 6 (.D2 [a,b,c,d,e,f] 0) H=some (.agg [a,b,c,d,e,f],H):=by exact id rfl
theorem arz (g:Nat->Option (List V)) (t:Bool) (n:Nat) (a:V) (l:List V) (H:VH):y3 g t false n (.D2 (a::l) 0) H=some (a,H):=by exact id rfl
theorem asb (g:Nat->Option (List V)) (t:Bool) (n:Nat) (a b:V) (l:List V) (H:VH):y3 g t false n (.D2 (a::b::l) 1) H=some (b,H):=by exact id rfl
theorem arn (g:Nat->Option (List V)) (t:Bool) (n:Nat) (a b c:V) (l:List V) (H:VH):y3 g t false n (.D2 (a::b::c::l) 2) H=some (c,H):=by exact id rfl
theorem awr (m:j0):eM.e m=[.str m.from_,.sl false (vT m.to),.sl false (vT m.lines)]:=by exact id rfl
theorem avM (s:N8):eS.e s=[.int .i64 s.state,.str s.host,.str s.L8.from_,.sl false (vT s.L8.to),.sl false (vT s.L8.lines),.sl false (vR eM s.done)]:=by exact id rfl
theorem avX (b:u4):eX.e b=[.str b.path,.sl false (vR eM b.y5)]:=by exact id rfl
theorem N5 (m:j0):cM m=[.str m.from_,.sl false (vT m.to),.sl false (vT m.lines)]:=by exact id rfl
theorem avQ (s:N8):cS s=[.int .i64 s.state,.str s.host,.str s.L8.from_,.sl false (vT s.L8.to),.sl false (vT s.L8.lines),.sl false (vR eM s.done)]:=by exact id rfl
theorem av7 (b:u4):cX b=[.str b.path,.sl false (vR eM b.y5)]:=by exact id rfl
theorem ao3 (l:List j0):A9 3 (vR eM l)=true:=asz eM l
theorem apK (l:List u4):A9 2 (vR eX l)=true:=asz eX l
theorem ahe (o:Bool) (l:List j0) (k:IntKind) (i:Nat) (h:i<l.length):s6 3 (.sl o (vR eM l)) (.int k (i:Int))=some (.D2 (eM.e l[i]) 0):=awN eM l o k i h
def J6 {α:Type} (E:Ec α) (l:List α) (z:List V) (i:Nat):List V:=(vR E (l.take i)).flatten++W3 (l.length-i) z
theorem af0 {α:Type} (E:Ec α):∀ l:List α,(vR E l).flatten.length=l.length*E.n
 | []=>by simp [vR]
 | a::l=>by
   have:=af0 E l
   simp only [vR,List.map_cons,List.flatten_cons,List.length_append,E.len,List.length_cons,Nat.succ_mul] at this ⊢
   omega
theorem arK {α:Type} (E:Ec α) {l:List α} {z:List V} (hz:z.length=E.n) {i:Nat} (h:i<l.length):C8 (J6 E l z i) (i*E.n) (E.e l[i])=J6 E l z (i+1)/\i*E.n+E.n<=(J6 E l z i).length:=by
 have h1:(vR E (l.take i)).flatten.length=i*E.n:=by rw [af0,List.length_take,Nat.min_eq_left (by omega)]
 obtain ⟨k,hk⟩:∃ k,l.length-i=k+1:=⟨l.length-i-1,by omega⟩
 have hk2:l.length-(i+1)=k:=by omega
 have e1:J6 E l z i=(vR E (l.take i)).flatten++z++W3 k z:=by simp only [J6,hk,W3,List.append_assoc]
 have e2:J6 E l z (i+1)=(vR E (l.take i)).flatten++E.e l[i]++W3 k z:=by
  simp only [J6,hk2]
  rw [List.take_succ_eq_append_getElem h]
  simp only [vR,List.map_append,List.map_cons,List.map_nil,List.flatten_append,List.flatten_cons,List.flatten_nil,List.append_nil]
 constructor
 ·rw [e1,e2,<-h1]
  exact afQ _ _ _ _ (by rw [hz,E.len])
 ·rw [e1]; simp only [List.length_append,h1,hz]; omega
theorem as0 {α:Type} (E:Ec α) (l:List α) (z:List V):J6 E l z l.length=(vR E l).flatten:=by simp [J6,W3]
theorem aj5 {α:Type} (E:Ec α):∀ l:List α,w7 E.n l.length (vR E l).flatten=vR E l
 | []=>rfl
 | a::l=>by
   have:=aj5 E l
   simp only [vR,List.map_cons,List.flatten_cons,List.length_cons,w7] at this ⊢
   have h:=E.len a
   rw [<-h,List.take_left,List.drop_left,h,this]
theorem ap0 {α:Type} (E:Ec α) {H:VH} {k:Nat} {l:List α} (h:H[k]? = some (vR E l).flatten):ajY H (.m8 k 0 l.length E.n)=some (.sl false (vR E l)):=by
 simp only [ajY,afm,h,Option.bind_some]
 rw [J1 (by rw [af0]; omega),List.drop_zero,List.take_of_length_le (by rw [af0]; omega)]
 simp only [Option.map_some,aj5,aaB]
theorem aq1 (k o n e:Nat):s8 (.m8 k o n e)=some (.int .i64 n):=by exact id rfl
theorem ane (k off n e:Nat) (q:IntKind) (i:Nat) (h:i<n):s6 e (.m8 k off n e) (.int q (i:Int))=some (.ptr k (off+i*e)):=by
 have hc:(0:Int)<=(i:Int)/\(i:Int)<(n:Int)/\e=e:=⟨by omega,by omega,rfl⟩
 simp only [s6]
 rw [if_pos (by simpa using hc)]; simp
theorem arX (k o n e:Nat):strip (.m8 k o n e) = .m8 k o n e:=by exact id rfl
theorem asy (k o n e:Nat):A5 (.m8 k o n e)=false:=by exact id rfl
theorem aqV (b:Nat) (n:Nat) (h:n*b<=140737488355328) (h2:n<=9223372036854775807):afi b (.int .i64 (n:Int)) (.int .i64 (n:Int))=some (n,n):=by
 simp only [afi]
 rw [if_pos ⟨by omega,by omega,by simpa using h,by omega⟩]; simp
theorem akw {k off:Nat} {H:VH} {cs c:List V} (h:H[k]? = some cs) (ho:off+c.length<=cs.length):M6 (.ptr k off) c H=some (H.set k (C8 cs off c)):=by
 have hb:Nat.ble (off+c.length) cs.length=true:=Nat.ble_eq_true_of_le ho
 simp only [M6,h,hb]
theorem ajH {α:Type} (E:Ec α) {H:VH} {k:Nat} {l:List α} {z:List V} (hz:z.length=E.n) {i:Nat} (hi:i<l.length) (h:H[k]? = some (J6 E l z i)):M6 (.ptr k (0+i*E.n)) (E.e l[i]) H=some (H.set k (J6 E l z (i+1))):=by
 obtain ⟨h1,h2⟩:=arK E hz hi
 rw [Nat.zero_add,akw h (by rw [E.len]; exact h2),h1]
theorem aw1 {α:Type} (E:Ec α) {call:p9} {f:FuncId} {args:List V} {H:VH} {k:Nat} {l:List α} (h:call f args []=some (.m8 k 0 l.length E.n,H)) (h1:r5 args=true) (hk:H[k]? = some (vR E l).flatten):U2 call f args=some (.sl false (vR E l)):=by
 simp only [U2,h1,h,Option.bind_some,data,ap0 E hk,acQ]
end Go.AM

/- Loops of common kinds. -/
namespace Go.AM
set_option linter.unusedSimpArgs false
set_option linter.unusedVariables false
abbrev LB:=List V->VH->Option (Option Nat × List V × VH)
section
variable {B:LB} {S:Nat->List V} {H:VH}
theorem auR {α:Type} [DecidableEq α] {m0 m1:Nat} {vs0 vs1:List V} (xs ys:List α) (hl:xs.length=ys.length) (hr:∀ (i:Nat) (h:i<xs.length),B (S i) H=if xs[i]=ys[i]'(by omega) then some (none,S (i+1),H) else some (some m1,vs1,H))
 (he:B (S xs.length) H=some (some m0,vs0,H)):j4 B (S 0) H=if xs=ys then some (m0,vs0,H) else some (m1,vs1,H):=by
 have key:∀ (n i:Nat),xs.length-i=n->i<=xs.length->j4 B (S i) H=if xs.drop i=ys.drop i then some (m0,vs0,H) else some (m1,vs1,H):=by
  intro n
  induction n with
  | zero =>
    intro i hn hi
    have:i=xs.length:=by omega
    subst this
    rw [aac he,if_pos (by rw [List.drop_eq_nil_of_le (Nat.le_refl _),List.drop_eq_nil_of_le (by omega)])]
  | succ n ih =>
    intro i hn hi
    have h1:i<xs.length:=by omega
    have h2:i<ys.length:=by omega
    have hb:=hr i h1
    have key:(xs.drop i=ys.drop i)=(xs[i]=ys[i]/\xs.drop (i+1)=ys.drop (i+1)):=by
     rw [List.drop_eq_getElem_cons h1,List.drop_eq_getElem_cons h2,List.cons.injEq]
    by_cases e:xs[i]=ys[i]
    ·rw [if_pos e] at hb
     rw [aee hb,ih (i+1) (by omega) (by omega)]
     simp only [key,e,true_and]
    ·rw [if_neg e] at hb
     rw [aac hb,if_neg (by rw [key]; exact fun h=>e h.1)]
 have:=key xs.length 0 (by omega) (by omega)
 simpa using this
theorem aat {α:Type} {m0 m1:Nat} {vs0 vs1:List V} (xs:List α) (p:α->Bool) (hr:∀ (i:Nat) (h:i<xs.length),B (S i) H=if p xs[i]=true then some (some m1,vs1,H) else some (none,S (i+1),H))
 (he:B (S xs.length) H=some (some m0,vs0,H)):j4 B (S 0) H=if xs.any p=true then some (m1,vs1,H) else some (m0,vs0,H):=by
 have key:∀ (n i:Nat),xs.length-i=n->i<=xs.length->j4 B (S i) H=if (xs.drop i).any p=true then some (m1,vs1,H) else some (m0,vs0,H):=by
  intro n
  induction n with
  | zero =>
    intro i hn hi
    have:i=xs.length:=by omega
    subst this
    rw [aac he,List.drop_eq_nil_of_le (Nat.le_refl _)]; rfl
  | succ n ih =>
    intro i hn hi
    have h1:i<xs.length:=by omega
    have hb:=hr i h1
    rw [List.drop_eq_getElem_cons h1,List.any_cons]
    by_cases e:p xs[i]=true
    ·rw [if_pos e] at hb
     rw [aac hb,e]; rfl
    ·rw [if_neg e] at hb
     rw [aee hb,ih (i+1) (by omega) (by omega)]
     have:p xs[i]=false:=by simpa using e
     rw [this,Bool.false_or]
 have:=key xs.length 0 (by omega) (by omega)
 simpa using this
def aef {α:Type} (f:α->Int->Int):List α->Int->Int
 | [],n=>n
 | a::l,n=>if f a n<0 then -1 else aef f l (f a n)
theorem axy {α:Type} {f:α->Int->Int} {m0 m1:Nat} (S:Int->Nat->List V) (l:List α) (hf:∀ a ∈ l,∀ n,0<=n->f a n<=n)
 (hr:∀ (i:Nat) (h:i<l.length) (n:Int),0<=n->n<=1048576->B (S n i) H=if f l[i] n<0 then some (some m1,[.int .i64 (-1)],H) else some (none,S (f l[i] n) (i+1),H))
 (he:∀ n,B (S n l.length) H=some (some m0,[.int .i64 n],H)) (n:Int) (hn:0<=n) (hn2:n<=1048576):∃ m,j4 B (S n 0) H=some (m,[.int .i64 (aef f l n)],H)/\(m=m0\/m=m1):=by
 have key:∀ (k i:Nat) (n:Int),l.length-i=k->i<=l.length->0<=n->n<=1048576->∃ m,j4 B (S n i) H=some (m,[.int .i64 (aef f (l.drop i) n)],H)/\(m=m0\/m=m1):=by
  intro k
  induction k with
  | zero =>
    intro i n hk hi h1 h2
    have:i=l.length:=by omega
    subst this
    rw [List.drop_eq_nil_of_le (Nat.le_refl _)]
    exact ⟨m0,aac (he n),.inl rfl⟩
  | succ k ih =>
    intro i n hk hi h1 h2
    have hi':i<l.length:=by omega
    have hb:=hr i hi' n h1 h2
    rw [List.drop_eq_getElem_cons hi']
    simp only [aef]
    by_cases e:f l[i] n<0
    ·rw [if_pos e] at hb ⊢
     exact ⟨m1,aac hb,.inr rfl⟩
    ·rw [if_neg e] at hb ⊢
     rw [aee hb]
     have:=hf l[i] (List.getElem_mem hi') n h1
     exact ih (i+1) _ (by omega) (by omega) (by omega) (by omega)
 have:=key l.length 0 n (by omega) (by omega) hn hn2
 simpa using this
theorem apv {α:Type} {f:α->Int->Int} {l:List α} (hf:∀ a ∈ l,∀ n,0<=n->f a n<=n):∀ {n:Int},0<=n->aef f l n<=n:=by
 induction l with
 | nil=>intro n _; exact Int.le_refl _
 | cons a l ih =>
   intro n hn
   simp only [aef]
   have:=hf a (by simp) n hn
   split
   ·omega
   ·have:=ih (fun b hb=>hf b (by simp [hb])) (n:=f a n) (by omega)
    omega
theorem aiI {α:Type} {f:α->Int->Int} {l:List α} (hf:∀ a ∈ l,∀ n,0<=n->f a n<=n):∀ {n:Int},0<=n->0<=aef f l n->∀ a ∈ l,∃ k,0<=k/\k<=n/\0<=f a k:=by
 induction l with
 | nil=>intro n _ _ a ha; cases ha
 | cons b l ih =>
   intro n hn h a ha
   simp only [aef] at h
   split at h
   ·omega
   ·rename_i hb
    rcases List.mem_cons.1 ha with rfl | ha
    ·exact ⟨n,hn,Int.le_refl _,by omega⟩
    ·have:=hf b (by simp) n hn
     obtain ⟨k,h1,h2,h3⟩:=ih (fun b hb=>hf b (by simp [hb])) (n:=f b n) (by omega) h a ha
     exact ⟨k,h1,by omega,h3⟩
end
end Go.AM

/- More loops of common kinds, texts cut at a byte, and runs of which a part is known. -/
namespace Go.AM
set_option linter.unusedSimpArgs false
set_option linter.unusedVariables false
set_option maxRecDepth 10000
theorem ai3 {α:Type} {c:Prop} [Decidable c] {x y z:α} (h1:c->x=z) (h2:¬ c->y=z):(if c then x else y)=z:=by
 by_cases h:c
 ·rw [if_pos h]; exact h1 h
 ·rw [if_neg h]; exact h2 h
section
variable {B:LB} {S:Nat->List V} {H:VH}
theorem ajj {α:Type} {m0 m1:Nat} {vs0:List V} (xs:List α) (p:α->Bool) (hr:∀ (i:Nat) (h:i<xs.length),B (S i) H=if p xs[i]=true then some (some m1,[.int .i64 (i:Nat)],H) else some (none,S (i+1),H))
 (he:B (S xs.length) H=some (some m0,vs0,H)):j4 B (S 0) H=if xs.any p=true then some (m1,[.int .i64 (xs.findIdx p:Nat)],H) else some (m0,vs0,H):=by
 have key:∀ (n i:Nat),xs.length-i=n->i<=xs.length->j4 B (S i) H=if (xs.drop i).any p=true then some (m1,[.int .i64 (i+(xs.drop i).findIdx p:Nat)],H) else some (m0,vs0,H):=by
  intro n
  induction n with
  | zero =>
    intro i hn hi
    have:i=xs.length:=by omega
    subst this
    rw [aac he,List.drop_eq_nil_of_le (Nat.le_refl _)]; rfl
  | succ n ih =>
    intro i hn hi
    have h1:i<xs.length:=by omega
    have hb:=hr i h1
    rw [List.drop_eq_getElem_cons h1,List.any_cons,List.findIdx_cons]
    by_cases e:p xs[i]=true
    ·rw [if_pos e] at hb
     rw [aac hb,e]; rfl
    ·rw [if_neg e] at hb
     rw [aee hb,ih (i+1) (by omega) (by omega)]
     have:p xs[i]=false:=by simpa using e
     rw [this,Bool.false_or]
     simp only [cond_false,Nat.add_assoc,Nat.add_comm 1]
 have:=key xs.length 0 (by omega) (by omega)
 simpa using this
theorem arG {α:Type} (E:Ec α) {l:List α} {k t:Nat} {z:List V} {H0:VH} {m:Nat} {vs:List V} (ht:t<=l.length) (h0:H0[k]? = some (J6 E l z 0)) (hr:∀ (i:Nat) (h:i<t) (H:VH),H[k]? = some (J6 E l z i)->B (S i) H=some (none,S (i+1),H.set k (J6 E l z (i+1))))
 (he:∀ H,H[k]? = some (J6 E l z t)->B (S t) H=some (some m,vs,H)):∃ H1,j4 B (S 0) H0=some (m,vs,H1)/\H1[k]? = some (J6 E l z t):=by
 have key:∀ (n i:Nat) (H:VH),t-i=n->i<=t->H[k]? = some (J6 E l z i)->∃ H1,j4 B (S i) H=some (m,vs,H1)/\H1[k]? = some (J6 E l z t):=by
  intro n
  induction n with
  | zero =>
    intro i H hn hi hk
    have:i=t:=by omega
    subst this
    exact ⟨H,aac (he H hk),hk⟩
  | succ n ih =>
    intro i H hn hi hk
    have h1:i<t:=by omega
    rw [aee (hr i h1 H hk)]
    exact ih (i+1) _ (by omega) (by omega) (by rw [List.getElem?_set,if_pos rfl,if_pos (List.getElem?_eq_some_iff.1 hk).1])
 exact key t 0 H0 (by omega) (by omega) h0
end
theorem aw9 (b7 k o n h:Nat) (q:IntKind) (hh:h<=n):acT b7 (.m8 k o n b7) none (some (.int q (h:Int)))=some (.m8 k o h b7):=by
 simp only [acT,ady,Option.bind_some]
 rw [if_pos ⟨trivial,by omega,by omega,by omega⟩]
 simp
theorem axr (k:IntKind) (a b:Int) (h:a<=b):ahJ (.int k a) (.int k b)=some (.int k a):=by
 simp only [ahJ,if_true]
 rw [if_neg (by omega)]
def cB (s:Bs):List V:=s.map fun b => .int .u8 (b.toNat:Int)
theorem axw (s:Bs):aqq (.str s)=some (cB s):=rfl
theorem ajV (s:Bs):(cB s).length=s.length:=by simp [cB]
theorem aph:∀ s:Bs,ack (vB s)=some s
 | []=>rfl
 | b::l=>by
   have ih:=aph l
   show (ack (vB l)).map _=_
   rw [ih]; simp
theorem anq:∀ s:Bs,w7 1 s.length (cB s)=vB s
 | []=>rfl
 | b::l=>by
   have ih:=anq l
   show [V.int .u8 (b.toNat:Int)]::w7 1 l.length (cB l)=_
   rw [ih]; rfl
theorem axx {H:VH} {k:Nat} {t:Bs} (h:H[k]? = some (cB t)):ag7 (.m8 k 0 t.length 1) H=some (.str t):=by
 simp only [ag7,if_true,h,Option.bind_some]
 rw [J1 (by rw [ajV]; omega),List.drop_zero,List.take_of_length_le (by rw [ajV]; omega)]
 simp only [Option.bind_some,anq,aph,Option.map_some]
theorem axR {g:Nat->Option (List V)} {H:VH} {k i:Nat} {t:Bs} (h:H[k]? = some (cB t)) (hi:i<t.length):y3 g false false 1 (.ptr k i) H=some (.int .u8 (t[i].toNat:Int),H) :=
 alg (v := .int .u8 (t[i].toNat:Int)) h (by simp [cB,List.getElem?_eq_getElem hi]) rfl
theorem axQ {H:VH} {k i:Nat} {t:Bs} (b:UInt8) (h:H[k]? = some (cB t)) (hi:i<t.length):M6 (.ptr k i) [.int .u8 (b.toNat:Int)] H=some (H.set k (cB (t.set i b))):=by
 rw [aeb h (by rw [ajV]; exact hi)]
 simp [cB,List.map_set]
theorem avY (tk:TK) (a b:Int) (h1:0<=a+b) (h2:a+b<=255):a8 tk .add (.int .u8 a) (.int .u8 b)=some (.int .u8 (a+b)):=by
 simp [a8,toA,S3,T5,ofA,IntWalk.u8_in _ ⟨h1,h2⟩]
def o9 {R:Type} (e:Option R) (Q:R->Prop):Prop:=∃ r,e=some r/\Q r
theorem o9.here {R:Type} {Q:R->Prop} {r:R} (h:Q r):o9 (some r) Q:=⟨r,rfl,h⟩
theorem o9.bind {R T:Type} {e:Option R} {P:R->Prop} {K:R->Option T} {Q:T->Prop} (h:o9 e P) (k:∀ r,P r->o9 (K r) Q):o9 (e.bind K) Q:=by
 obtain ⟨r,rfl,hr⟩:=h
 exact k r hr
theorem o9.mono {R:Type} {e:Option R} {P Q:R->Prop} (h:o9 e P) (k:∀ r,P r->Q r):o9 e Q:=by
 obtain ⟨r,e,hr⟩:=h
 exact ⟨r,e,k r hr⟩
theorem o9.ite {R:Type} {c:Prop} [Decidable c] {x y:Option R} {Q:R->Prop} (h1:c->o9 x Q) (h2:¬ c->o9 y Q):o9 (if c then x else y) Q:=by
 split
 ·exact h1 ‹_›
 ·exact h2 ‹_›
theorem o9.loop {B:LB} {I:Nat->List V->VH->Prop} {Q:Nat × List V × VH->Prop}
 (hr:∀ n s H,I n s H->o9 (B s H) fun r=>match r.1 with | some m=>Q (m,r.2) | none=>∃ n',n'<n/\I n' r.2.1 r.2.2) :
 ∀ (n:Nat) (s:List V) (H:VH),I n s H->o9 (j4 B s H) Q:=by
 intro n
 induction n using Nat.strongRecOn with
 | _ n ih =>
   intro s H hI
   obtain ⟨⟨m,vs,H'⟩,e,hq⟩:=hr n s H hI
   cases m with
   | some m=>exact ⟨_,aac e,hq⟩
   | none =>
     obtain ⟨n',hn,hI'⟩:=hq
     rw [aee e]
     exact ih n' hn _ _ hI'
def L7 (e:Option (V × VH)) (P:V->VH->Prop):Prop:=∃ v H,e=some (v,H)/\P v H
theorem L7.bind {T:Type} {e:Option (V × VH)} {P:V->VH->Prop} {K:V × VH->Option T} {Q:T->Prop} (h:L7 e P) (k:∀ v H,P v H->o9 (K (v,H)) Q):o9 (e.bind K) Q:=by
 obtain ⟨v,H,rfl,hr⟩:=h
 exact k v H hr
theorem L7.of {e:Option (V × VH)} {P:V->VH->Prop} (h:o9 e fun r=>P r.1 r.2):L7 e P:=by
 obtain ⟨⟨v,H⟩,h1,h2⟩:=h
 exact ⟨v,H,h1,h2⟩
theorem o9.P8 {B:LB} {T:Type} {I:Nat->List V->VH->Prop} {P:Nat->List V->VH->Prop} {n:Nat} {s:List V} {H:VH} {K:Nat × List V × VH->Option T} {Q:T->Prop}
 (hr:∀ n s H,I n s H->o9 (B s H) fun r=>(∃ m,r.1=some m/\P m r.2.1 r.2.2)\/(r.1=none/\∃ n',n'<n/\I n' r.2.1 r.2.2))
 (h0:I n s H) (k:∀ m vs H',P m vs H'->o9 (K (m,vs,H')) Q):o9 ((j4 B s H).bind K) Q:=by
 refine (o9.loop (I:=I) (Q:=fun r=>P r.1 r.2.1 r.2.2) (fun n s H hI=>(hr n s H hI).mono fun r h=>?_) n s H h0).bind fun r h=>k r.1 r.2.1 r.2.2 h
 obtain ⟨r1,r2⟩:=r
 rcases h with ⟨m,h1,h2⟩ | ⟨h1,h2⟩
 ·cases h1; exact h2
 ·cases h1; exact h2
def Rd (k b:Nat) (H:VH):Prop:=∃ o xs p,H[k]? = some (rdr o xs p)/\p<=b/\xs.length<=2000
theorem Rd.le {k b b':Nat} {H:VH} (h:Rd k b H) (hb:b<=b'):Rd k b' H:=by
 obtain ⟨o,xs,p,h1,h2,h3⟩:=h
 exact ⟨o,xs,p,h1,by omega,h3⟩
theorem axB (s:Bs) (c:UInt8):Go.Lib.indexByte s c=if c ∈ s then ((s.idxOf c:Nat):Int) else -1:=by
 induction s with
 | nil=>rfl
 | cons b l ih =>
   unfold Go.Lib.indexByte
   rw [ih,List.idxOf_cons]
   by_cases h:b=c
   ·subst h; simp
   ·have h':¬ c=b:=fun e=>h e.symm
    by_cases hm:c ∈ l
    ·have:(b==c)=false:=by simpa using h
     simp only [this,hm,if_true,List.mem_cons,or_true,cond_false]
     have hn:((l.idxOf c:Nat):Int) ≠ -1:=by omega
     simp [hn]
    ·have:(b==c)=false:=by simpa using h
     simp [this,hm,h',h]
def P7 (c:UInt8) (s:Bs):Bs:=if c ∈ s then s.take (s.idxOf c) else s
def R1 (c:UInt8) (s:Bs):Bs:=if c ∈ s then s.drop (s.idxOf c+1) else []
def c6 (c:UInt8):Bs->List Bs
 | []=>[[]]
 | b::l=>if b=c then []::c6 c l else match c6 c l with | []=>[[b]] | x::r=>(b::x)::r
theorem abU (c:UInt8) (s:Bs):c6 c s ≠ []:=by
 cases s with
 | nil=>simp [c6]
 | cons b l =>
   unfold c6
   split
   ·simp
   ·split<;>simp
theorem aaY (c:UInt8) (s:Bs):(c6 c s).length=s.count c+1:=by
 induction s with
 | nil=>rfl
 | cons b l ih =>
   unfold c6
   rw [List.count_cons]
   by_cases h:b=c
   ·simp [h,ih]
   ·have:(b==c)=false:=by simpa using h
    rw [if_neg h,this]
    split
    ·rename_i e; exact absurd e (abU c l)
    ·rename_i x r e; rw [e] at ih; simpa using ih
theorem ae3 (c:UInt8) (s:Bs) (h:c ∉ s):c6 c s=[s]:=by
 induction s with
 | nil=>rfl
 | cons b l ih =>
   unfold c6
   have h1:¬ b=c:=fun e=>h (by simp [e])
   rw [if_neg h1,ih (fun e=>h (by simp [e]))]
theorem ago (c:UInt8) (s:Bs) (h:c ∈ s):c6 c s=s.take (s.idxOf c)::c6 c (s.drop (s.idxOf c+1)):=by
 induction s with
 | nil=>cases h
 | cons b l ih =>
   rw [List.idxOf_cons]
   conv=>lhs; unfold c6
   by_cases h1:b=c
   ·subst h1; simp
   ·have h2:c ∈ l:=by rcases List.mem_cons.1 h with e | e; exact absurd e.symm h1; exact e
    have:(b==c)=false:=by simpa using h1
    rw [if_neg h1,ih h2,this]
    simp
theorem ab8 (c:UInt8) (s:Bs):∀ t ∈ c6 c s,t.length<=s.length:=by
 induction s with
 | nil=>intro t ht; simp [c6] at ht; subst ht; simp
 | cons b l ih =>
   intro t ht
   unfold c6 at ht
   split at ht
   ·rcases List.mem_cons.1 ht with rfl | ht
    ·simp
    ·have:=ih t ht; simp; omega
   ·split at ht
    ·simp at ht; subst ht; simp
    ·rename_i x r e
     rcases List.mem_cons.1 ht with rfl | ht
     ·have:=ih x (by rw [e]; simp); simp; omega
     ·have:=ih t (by rw [e]; simp [ht]); simp; omega
def F0 (c:UInt8) (s:Bs):Nat->Bs
 | 0=>s
 | i+1=>(F0 c s i).drop ((F0 c s i).idxOf c+1)
theorem afc (c:UInt8) (s:Bs):∀ i,i<(c6 c s).length->c6 c (F0 c s i)=(c6 c s).drop i
 | 0,_=>rfl
 | i+1,h=>by
   have ih:=afc c s i (by omega)
   have hm:c ∈ F0 c s i:=by
    by_cases hm:c ∈ F0 c s i
    ·exact hm
    ·rw [ae3 c _ hm] at ih
     have:=congrArg List.length ih
     simp at this; omega
   rw [ago c _ hm] at ih
   have:=congrArg List.tail ih
   simpa [F0] using this
theorem alS (c:UInt8) (s:Bs):∀ i,(F0 c s i).length<=s.length
 | 0=>Nat.le_refl _
 | i+1=>by have:=alS c s i; simp only [F0,List.length_drop]; omega
theorem b9:type_of% (And.intro @Nat.zero_add (And.intro @if_true.{1} (And.intro @if_false.{1} (And.intro @decide_true (And.intro @decide_false (And.intro @Bool.false_eq_true (And.intro @Bool.not_true (And.intro @Bool.not_false (And.intro @auQ (And.intro @apc (And.intro @aws (And.intro @awe (And.intro @auA (And.intro @aoY (And.intro @asi (And.intro @arL (And.intro @aoX (And.intro @ar3 (And.intro @aqW (And.intro @auk (And.intro @auH (And.intro @aqO (And.intro @asw (And.intro @apr (And.intro @anK (And.intro @anr (And.intro @alZ (And.intro @M7 (And.intro @L4 (And.intro @aal (And.intro @aoT (And.intro @arP (And.intro @asB (And.intro @atX (And.intro @asr (And.intro @ar6 (And.intro @auI (And.intro @ary (And.intro @arS (And.intro @aoU (And.intro @am2 (And.intro @amH (And.intro @alA (And.intro @aof (And.intro @al2 (And.intro @ao1 (And.intro @ar2 (And.intro @arq (And.intro @auv (And.intro @arB (And.intro @asj (And.intro @at1 (And.intro @ao8 (And.intro @ant (And.intro @anf (And.intro @alO (And.intro @aqT (And.intro @aug (And.intro @atZ (And.intro @avP (And.intro @atP (And.intro @at0 (And.intro @ari (And.intro @apE (And.intro @apB (And.intro @aol (And.intro @aoV (And.intro @ar0 (And.intro @arx (And.intro @aqR (And.intro @apG (And.intro @ard (And.intro @arR (And.intro @arH (And.intro @apH (And.intro @atV (And.intro @arC (And.intro @avJ (And.intro @apt (And.intro @awR (And.intro @av3 (And.intro @awW (And.intro @in_1 (And.intro @awa (And.intro @awl (And.intro @awU (And.intro @aw4 (And.intro @awJ (And.intro @awA (And.intro @av9 (And.intro @avL (And.intro @axf (And.intro @awB (And.intro @awM (And.intro @axa (And.intro @awE (And.intro @auE (And.intro @axi (And.intro @awK (And.intro @av2 (And.intro @aw6 (And.intro @awX (And.intro @axg (And.intro @awO (And.intro @avI (And.intro @av0 (And.intro @awx (And.intro @at5 (And.intro @auz (And.intro @at6 (And.intro @atW (And.intro @aue (And.intro @aun (And.intro @aub (And.intro @aua (And.intro @aut (And.intro @auM (And.intro @aui (And.intro @auL (And.intro @at2 (And.intro @auG (And.intro @aur (And.intro @aum (And.intro @auj (And.intro @auw (And.intro @auF (And.intro @auC (And.intro @auN (And.intro @at7 (And.intro @auo (And.intro @aud (And.intro @auq (And.intro @arD (And.intro @ako (And.intro @ajU (And.intro @asa (And.intro @asd (And.intro @arA (And.intro @aq5 (And.intro @art (And.intro @auy (And.intro @asn (And.intro @auc (And.intro @awz (And.intro @atO (And.intro @awY (And.intro @axl (And.intro @auK (And.intro @awc (And.intro @avN (And.intro @awG (And.intro @awf (And.intro @aww (And.intro @awi (And.intro @P3 (And.intro @arl (And.intro @asx (And.intro @C2 (And.intro @amM (And.intro @amG (And.intro @ams (And.intro @atY (And.intro @atU (And.intro @acM (And.intro @ao4 (And.intro @ape (And.intro @W6 (And.intro @ast (And.intro @aqU (And.intro @axd (And.intro @axh (And.intro @awk (And.intro @awj (And.intro @aw2 (And.intro @awZ (And.intro @awb (And.intro @arz (And.intro @asb (And.intro @arn (And.intro @awr (And.intro @avM (And.intro @avX (And.intro @N5 (And.intro @avQ (And.intro @av7 (And.intro @ag6 (And.intro @aaB (And.intro @amv (And.intro @acQ (And.intro @ao3 (And.intro @apK (And.intro @aq1 (And.intro @arX @asy))))))))))))))))))))))))))))))))))))))))))))))))))))))))))))))))))))))))))))))))))))))))))))))))))))))))))))))))))))))))))))))))))))))))))))))))))))))))))))))))))))))))))))))))))))))))))))))))):=And.intro @Nat.zero_add (And.intro @if_true.{1} (And.intro @if_false.{1} (And.intro @decide_true (And.intro @decide_false (And.intro @Bool.false_eq_true (And.intro @Bool.not_true (And.intro @Bool.not_false (And.intro @auQ (And.intro @apc (And.intro @aws (And.intro @awe (And.intro @auA (And.intro @aoY (And.intro @asi (And.intro @arL (And.intro @aoX (And.intro @ar3 (And.intro @aqW (And.intro @auk (And.intro @auH (And.intro @aqO (And.intro @asw (And.intro @apr (And.intro @anK (And.intro @anr (And.intro @alZ (And.intro @M7 (And.intro @L4 (And.intro @aal (And.intro @aoT (And.intro @arP (And.intro @asB (And.intro @atX (And.intro @asr (And.intro @ar6 (And.intro @auI (And.intro @ary (And.intro @arS (And.intro @aoU (And.intro @am2 (And.intro @amH (And.intro @alA (And.intro @aof (And.intro @al2 (And.intro @ao1 (And.intro @ar2 (And.intro @arq (And.intro @auv (And.intro @arB (And.intro @asj (And.intro @at1 (And.intro @ao8 (And.intro @ant (And.intro @anf (And.intro @alO (And.intro @aqT (And.intro @aug (And.intro @atZ (And.intro @avP (And.intro @atP (And.intro @at0 (And.intro @ari (And.intro @apE (And.intro @apB (And.intro @aol (And.intro @aoV (And.intro @ar0 (And.intro @arx (And.intro @aqR (And.intro @apG (And.intro @ard (And.intro @arR (And.intro @arH (And.intro @apH (And.intro @atV (And.intro @arC (And.intro @avJ (And.intro @apt (And.intro @awR (And.intro @av3 (And.intro @awW (And.intro @in_1 (And.intro @awa (And.intro @awl (And.intro @awU (And.intro @aw4 (And.intro @awJ (And.intro @awA (And.intro @av9 (And.intro @avL (And.intro @axf (And.intro @awB (And.intro @awM (And.intro @axa (And.intro @awE (And.intro @auE (And.intro @axi (And.intro @awK (And.intro @av2 (And.intro @aw6 (And.intro @awX (And.intro @axg (And.intro @awO (And.intro @avI (And.intro @av0 (And.intro @awx (And.intro @at5 (And.intro @auz (And.intro @at6 (And.intro @atW (And.intro @aue (And.intro @aun (And.intro @aub (And.intro @aua (And.intro @aut (And.intro @auM (And.intro @aui (And.intro @auL (And.intro @at2 (And.intro @auG (And.intro @aur (And.intro @aum (And.intro @auj (And.intro @auw (And.intro @auF (And.intro @auC (And.intro @auN (And.intro @at7 (And.intro @auo (And.intro @aud (And.intro @auq (And.intro @arD (And.intro @ako (And.intro @ajU (And.intro @asa (And.intro @asd (And.intro @arA (And.intro @aq5 (And.intro @art (And.intro @auy (And.intro @asn (And.intro @auc (And.intro @awz (And.intro @atO (And.intro @awY (And.intro @axl (And.intro @auK (And.intro @awc (And.intro @avN (And.intro @awG (And.intro @awf (And.intro @aww (And.intro @awi (And.intro @P3 (And.intro @arl (And.intro @asx (And.intro @C2 (And.intro @amM (And.intro @amG (And.intro @ams (And.intro @atY (And.intro @atU (And.intro @acM (And.intro @ao4 (And.intro @ape (And.intro @W6 (And.intro @ast (And.intro @aqU (And.intro @axd (And.intro @axh (And.intro @awk (And.intro @awj (And.intro @aw2 (And.intro @awZ (And.intro @awb (And.intro @arz (And.intro @asb (And.intro @arn (And.intro @awr (And.intro @avM (And.intro @avX (And.intro @N5 (And.intro @avQ (And.intro @av7 (And.intro @ag6 (And.intro @aaB (And.intro @amv (And.intro @acQ (And.intro @ao3 (And.intro @apK (And.intro @aq1 (And.intro @arX @asy))))))))))))))))))))))))))))))))))))))))))))))))))))))))))))))))))))))))))))))))))))))))))))))))))))))))))))))))))))))))))))))))))))))))))))))))))))))))))))))))))))))))))))))))))))))))))))))))
end Go.AM

/- Rows in objects: what calls see of them, what becomes of rows that calls give. -/
namespace Go.AM
set_option linter.unusedSimpArgs false
set_option linter.unusedVariables false
mutual
theorem ai6 (G:VH):∀ v:V,data v=true->K3 G v=strip v
 | .bool b,_=>rfl
 | .int k n,_=>rfl
 | .str s,_=>rfl
 | .g8,_=>rfl
 | .W0,_=>rfl
 | .ub,_=>rfl
 | .gp g off,h=>by simp only [data] at h; cases h
 | .D2 cs off,h=>by simp only [data] at h; cases h
 | .ptr k off,h=>by simp only [data] at h; cases h
 | .m8 k off n e,h=>by simp only [data] at h; cases h
 | .fn f cs,h=>by simp only [data] at h; cases h
 | .sl ow xs,h=>by simp only [data] at h; simp only [K3,strip,akF G xs h]
 | .agg cs,h=>by simp only [data] at h; simp only [K3,strip,ae1 G cs h]
 | .u6 cs,h=>by simp only [data] at h; simp only [K3,strip,ae1 G cs h]
theorem ae1 (G:VH):∀ l:List V,o8 l=true->aah G l=j3 l
 | [],_=>rfl
 | v::l,h=>by
   simp only [o8,Bool.and_eq_true] at h
   simp only [aah,j3,ai6 G v h.1,ae1 G l h.2]
theorem akF (G:VH):∀ l:List (List V),z8 l=true->aaO G l=l9 l
 | [],_=>rfl
 | v::l,h=>by
   simp only [z8,Bool.and_eq_true] at h
   simp only [aaO,l9,ae1 G v h.1,akF G l h.2]
end
theorem Y1 (d:Nat) (H:VH) (v:V) (h:data v=true):A1 d H v=strip v:=by
 cases d with
 | zero=>exact ai6 _ v h
 | succ d=>exact ai6 _ v h
mutual
theorem apN:∀ v:V,data v=true->abw v=true
 | .bool b,_=>rfl
 | .int k n,_=>rfl
 | .str s,_=>rfl
 | .g8,_=>rfl
 | .W0,_=>rfl
 | .ub,_=>rfl
 | .gp g off,h=>by simp only [data] at h; cases h
 | .D2 cs off,h=>by simp only [data] at h; cases h
 | .ptr k off,h=>by simp only [data] at h; cases h
 | .m8 k off n e,h=>by simp only [data] at h; cases h
 | .fn f cs,h=>by simp only [data] at h; cases h
 | .sl ow xs,h=>by simp only [data] at h; simp only [abw,ag4 xs h]
 | .agg cs,h=>by simp only [data] at h; simp only [abw,aab cs h]
 | .u6 cs,h=>by simp only [data] at h; simp only [abw,aab cs h]
theorem aab:∀ l:List V,o8 l=true->G7 l=true
 | [],_=>rfl
 | v::l,h=>by
   simp only [o8,Bool.and_eq_true] at h
   simp only [G7,apN v h.1,aab l h.2,Bool.and_self]
theorem ag4:∀ l:List (List V),z8 l=true->ahP l=true
 | [],_=>rfl
 | v::l,h=>by
   simp only [z8,Bool.and_eq_true] at h
   simp only [ahP,aab v h.1,ag4 l h.2,Bool.and_self]
end
theorem alw:∀ {a b:List V},o8 a=true->o8 b=true->o8 (a++b)=true
 | [],b,_,h=>h
 | v::a,b,h,g=>by
   simp only [List.cons_append,o8,Bool.and_eq_true] at h ⊢
   exact ⟨h.1,alw h.2 g⟩
theorem aks:∀ {r:List (List V)},z8 r=true->o8 r.flatten=true
 | [],_=>rfl
 | x::r,h=>by
   simp only [z8,Bool.and_eq_true] at h
   rw [List.flatten_cons]
   exact alw h.1 (aks h.2)
theorem aqi (a b:List V):j3 (a++b)=j3 a++j3 b:=by rw [D4,D4,D4,List.map_append]
theorem air:∀ r:List (List V),j3 r.flatten=(l9 r).flatten
 | []=>rfl
 | x::r=>by rw [List.flatten_cons,aqi,air r]; rfl
def Rows (e:Nat) (r:List (List V)):Prop:=∀ x ∈ r,x.length=e
theorem Rows.flat {e:Nat}:∀ {r:List (List V)},Rows e r->r.flatten.length=r.length*e
 | [],_=>by simp
 | x::r,h=>by
   have h1:=h x (by simp)
   have h2:=Rows.flat (r:=r) (fun y hy=>h y (by simp [hy]))
   rw [List.flatten_cons,List.length_append,h1,h2,List.length_cons,Nat.succ_mul,Nat.add_comm]
theorem Rows.chunk {e:Nat}:∀ {r:List (List V)},Rows e r->w7 e r.length r.flatten=r
 | [],_=>rfl
 | x::r,h=>by
   have h1:=h x (by simp)
   have h2:=Rows.chunk (r:=r) (fun y hy=>h y (by simp [hy]))
   simp only [List.length_cons,w7,List.flatten_cons]
   rw [<-h1,List.take_left,List.drop_left,h1,h2]
theorem Rows.strip {e:Nat} {r:List (List V)} (h:Rows e r):Rows e (l9 r):=fun x hx=>by
 rw [abt] at hx
 obtain ⟨y,hy,rfl⟩:=List.mem_map.1 hx
 rw [List.length_map]; exact h y hy
theorem Rows.get {e:Nat} {j:Nat} (hj:j<e):∀ {r:List (List V)} {i:Nat} {x:List V},Rows e r->r[i]? = some x->r.flatten[i*e+j]? = x[j]?
 | [],i,x,_,h=>by simp at h
 | y::r,0,x,hr,h=>by
   simp at h; subst h
   have h1:=hr y (by simp)
   rw [List.flatten_cons,Nat.zero_mul,Nat.zero_add,List.getElem?_append_left (by omega)]
 | y::r,i+1,x,hr,h=>by
   have h1:=hr y (by simp)
   simp at h
   rw [List.flatten_cons,List.getElem?_append_right (by rw [h1,Nat.succ_mul]; omega),h1]
   have:(i+1)*e+j-e=i*e+j:=by rw [Nat.succ_mul]; omega
   rw [this]
   exact Rows.get hj (fun z hz=>hr z (by simp [hz])) h
theorem Rows.set {e:Nat} {j:Nat} (hj:j<e) {v:V}:∀ {r:List (List V)} {i:Nat} {x:List V},Rows e r->r[i]? = some x->C8 r.flatten (i*e+j) [v]=(r.set i (x.set j v)).flatten
 | [],i,x,_,h=>by simp at h
 | y::r,0,x,hr,h=>by
   simp at h; subst h
   have h1:=hr y (by simp)
   simp only [List.flatten_cons,Nat.zero_mul,Nat.zero_add,List.set_cons_zero,C8,List.length_singleton]
   rw [List.take_append_of_le_length (by omega),List.drop_append_of_le_length (by omega),<-List.append_assoc]
   congr 1
   rw [List.set_eq_take_append_cons_drop,if_pos (by omega)]; simp
 | y::r,i+1,x,hr,h=>by
   have h1:=hr y (by simp)
   simp at h
   have ih:=Rows.set hj (v:=v) (r:=r) (i:=i) (fun z hz=>hr z (by simp [hz])) h
   simp only [C8,List.length_singleton] at ih
   simp only [List.flatten_cons,List.set_cons_succ,C8,List.length_singleton]
   have e1:(i+1)*e+j=y.length+(i*e+j):=by rw [Nat.succ_mul]; omega
   rw [e1,List.take_length_add_append,Nat.add_assoc,List.drop_length_add_append,List.append_assoc,List.append_assoc,<-ih,List.append_assoc]
theorem apx (d:Nat) {H:VH} {k e:Nat} {r:List (List V)} (hk:H[k]? = some r.flatten) (hr:Rows e r) (hd:z8 r=true):A1 d H (.m8 k 0 r.length e) = .sl false (l9 r):=by
 have fin:∀ G:VH,G[k]? = some (j3 r.flatten)->K3 G (.m8 k 0 r.length e) = .sl false (l9 r):=fun G hG=>by
  have h1:G.getD k []=(l9 r).flatten:=by rw [List.getD_eq_getElem?_getD,hG,air]; rfl
  have h2:=hr.strip.flat
  rw [Q2] at h2
  simp only [K3,h1]
  rw [J1 (by omega)]
  simp only [List.drop_zero]
  rw [List.take_of_length_le (by omega)]
  have h3:=hr.strip.chunk
  rw [Q2] at h3
  rw [h3]
 cases d with
 | zero =>
   refine fin _ ?_
   rw [List.getElem?_map,hk]; rfl
 | succ d =>
   refine fin _ ?_
   rw [List.getElem?_map,hk]
   simp only [Option.map_some]
   rw [D4]
   congr 1
   have:∀ {l:List V},o8 l=true->l.map (A1 d H)=l.map strip:=by
    intro l
    induction l with
    | nil=>intro _; rfl
    | cons v l ih =>
      intro h
      simp only [o8,Bool.and_eq_true] at h
      simp only [List.map_cons,Y1 d H v h.1,ih h.2]
   exact this (aks hd)
theorem alu {call:p9} {f:FuncId} {H:VH} {vs:List V} (h:G7 vs=true):G8 call f H vs=I3 call f (vs.map (l4 H)):=by unfold G8; rw [h]
theorem al5 {call:p9} {f:FuncId} {H:VH} {vs:List V} (h:G7 vs=false):G8 call f H vs=I3 call f (vs.map (A1 3 H)):=by unfold G8; rw [h]
theorem asO {call:p9} {f:FuncId} {H:VH} {vs:List V} (h:G7 vs=true):S6 call f H vs=U2 call f (vs.map (l4 H)):=by unfold S6; rw [h]
theorem auV (fl st:Bool) (b7 bytes:Nat) (o:Bool) (xs:List (List V)) (x:V) (H:VH) (h:fl=false\/xs ≠ []):ads fl st b7 bytes (.sl o xs) x H=(aaE (.sl o xs)).bind fun xs=>(F1 st b7 bytes xs x).bind fun r=>some (r,H):=by
 simp only [ads]
 cases o with
 | false=>rfl
 | true =>
   simp only [aaE,Option.bind_some]
   have:(fl&&xs.isEmpty)=false:=by
    rcases h with rfl | h
    ·rfl
    ·cases xs with
     | nil=>exact absurd rfl h
     | cons a l=>cases fl<;>rfl
   rw [this]
theorem atB {H:VH} {v:V} (h:data v=true):l4 H v=strip v:=by
 cases v<;>first | rfl | (simp only [data] at h; cases h)
theorem ak2 {H:VH}:∀ {vs:List V},o8 vs=true->vs.map (l4 H)=vs.map strip
 | [],_=>rfl
 | v::vs,h=>by
   simp only [o8,Bool.and_eq_true] at h
   simp only [List.map_cons,atB h.1,ak2 h.2]
theorem afC {d:Nat} {H:VH}:∀ {vs:List V},o8 vs=true->vs.map (A1 d H)=vs.map strip
 | [],_=>rfl
 | v::vs,h=>by
   simp only [o8,Bool.and_eq_true] at h
   simp only [List.map_cons,Y1 d H v h.1,afC h.2]
theorem alX {call:p9} {f:FuncId} {H:VH} {vs:List V} (h:o8 vs=true):G8 call f H vs=I3 call f (vs.map strip):=by rw [alu (aab vs h),ak2 h]
theorem anX {call:p9} {f:FuncId} {H:VH} {vs:List V} (h:o8 vs=true):S6 call f H vs=U2 call f (vs.map strip):=by rw [asO (aab vs h),ak2 h]
theorem arf {H:VH} {k:Nat} {cs:List V} (h:H[k]? = some cs):H.set k cs=H:=by
 apply List.ext_getElem?
 intro i
 rw [List.getElem?_set]
 split
 ·rename_i e
  subst e
  split
  ·exact h.symm
  ·rename_i hlt
   rw [List.getElem?_eq_none (by omega)]
 ·rfl
theorem ahR {g:Nat->Option (List V)} {k off:Nat} {H:VH} {cs:List V} {v:V} (h:H[k]? = some cs) (hv:cs[off]? = some v):y3 g false false 1 (.ptr k off) H=some (strip v,H):=by
 simp only [y3,h,abv,hv,Option.bind_some,Option.map_some,arf h]
theorem ajA {k n e i:Nat} {kk:IntKind} (h:i<n):s6 e (.m8 k 0 n e) (.int kk (i:Int))=some (.ptr k (i*e)):=by
 simp only [s6]
 rw [if_pos ⟨by omega,by omega,trivial⟩]
 simp
theorem afO {cs:List V} {o:Nat} {v:V} (h:o<cs.length):C8 cs o [v]=cs.set o v:=by
 unfold C8
 rw [List.set_eq_take_append_cons_drop,if_pos h]; simp
theorem aqN {cs:List V} {o:Nat} {v w:V} (h:o<cs.length):C8 (C8 cs o [w]) o [v]=C8 cs o [v]:=by
 rw [afO h,afO (by simpa using h),afO h,List.set_set]
end Go.AM

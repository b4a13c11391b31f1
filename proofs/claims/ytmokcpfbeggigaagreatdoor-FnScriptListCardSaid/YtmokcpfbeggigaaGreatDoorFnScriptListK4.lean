/- Part 4 of the machines: what is proved is told at each theorem; no condition. -/
import Derived.Test.YtmokcpfbeggigaaGreatDoorFnScriptListK3
import Derived.Test.YtmokcpfbeggigaaGreatDoorFnScriptListK2
import Derived.IntWalk
import Derived.Laws.Strings
import Derived.Lib.Bytealg
import Derived.ChangeArms
import Derived.DataReads
import Derived.LaidSub
import Derived.OpenShut
import Derived.WideShapes
/- One operation: the machine of values and the abstract machine side by side. -/
namespace Go.AM
set_option linter.unusedSimpArgs false
set_option linter.unusedVariables false
structure aa9 (X:XV):Prop where
 zero:∀ t ti,look X.tab t=some ti->∀ u ∈ ti.zero,I1 u=true
 sl:∀ t e b9 eb z ag n zz,look X.tab t=some ⟨.slice e b9 eb z,ag,n,zz⟩->(∀ u ∈ z,I1 u=true)/\z.length=b9/\0<b9
 gd:akk X
 pos:∀ t ti,look X.tab t=some ti->0<ti.size
theorem auV {n:Nat} {l:List V}:(aaQ n l).length=n*l.length:=by
 induction n with
 | zero=>simp [aaQ]
 | succ n ih=>simp only [aaQ,List.length_append,ih,Nat.succ_mul]; omega
theorem amm {w:Wd} {l:List V} {xs:List Value} (h:c9 w l xs (fun _=>0)):∀ n,c9 w (aaQ n l) (rep n xs) (fun _=>0)
 | 0=>by simp [aaQ,rep,c9]
 | n+1=>by
   simp only [aaQ,rep]
   exact h.app (amm h n)
theorem asO {w:Wd} {r:V} {x:Value} {c:j6} (h:RV w r x c) (hs:abJ r=true):afF x=true/\∀ i,c i=0:=by
 have one:∀ {r:V} {x:Value} {c:j6},RV w r x c->T7 r=true->acM x=true/\∀ i,c i=0:=by
  intro r x c h hs
  cases r<;>simp only [T7] at hs<;>try (cases hs; done)
  all_goals simp only [RV] at h; rw [h.1]; exact ⟨rfl,h.2⟩
 by_cases ht:∃ vs,r = .w5 vs
 rotate_left
 ·have hs1:T7 r=true:=by cases r<;>first | exact hs | exact absurd ⟨_,rfl⟩ ht
  obtain ⟨h1,h2⟩:=one h hs1
  refine ⟨?_,h2⟩
  cases x<;>first | exact h1 | cases h1
 obtain ⟨vs,rfl⟩:=ht
 simp only [abJ] at hs
 simp only [RV] at h
 obtain ⟨ws,rfl,hw⟩:=h
 have:∀ {vs:List V} {ws:List Value} {c:j6},c9 w vs ws c->vs.all T7=true->ws.all acM=true/\∀ i,c i=0:=by
  intro vs
  induction vs with
  | nil=>intro ws c h _; simp only [c9] at h; rw [h.1]; exact ⟨rfl,h.2⟩
  | cons v vs ih =>
    intro ws c h hs
    simp only [c9] at h
    obtain ⟨x,ys,c1,c2,rfl,h2,h3,h4⟩:=h
    simp only [List.all_cons,Bool.and_eq_true] at hs ⊢
    obtain ⟨a1,a2⟩:=one h2 hs.1
    obtain ⟨b1,b2⟩:=ih h3 hs.2
    exact ⟨⟨a1,b1⟩,fun i=>by rw [h4,a2,b2]⟩
 obtain ⟨a,b⟩:=this hw hs
 refine ⟨?_,b⟩
 simp only [afF]
 simpa using a
theorem aou {take agg:Bool} {size off:Nat} {cs:List V} {r:V × List V} (h:ac9 take agg size cs off=some r) (hp:0<size):cs ≠ []:=by
 intro e
 subst e
 cases agg with
 | true =>
   simp only [ac9] at h
   obtain ⟨c,h1,_⟩:=a7 h
   have:=(E5 h1).1
   simp at this; omega
 | false =>
   simp [ac9] at h
theorem ar9 {X:XV} {E:En} {w:Wd} {s:VS} {s':St} {ce cl ch cx c:j6} (g:StC X E w s s' ce cl ch cx) {k off:Nat} {w6 cs:List V} {p:Value} {xs:List Value} {cp:j6}
 (hp:RV w (.ptr k off) p cp) (hk:s.H[k]? = some w6) (hcs:c9 w cs xs c) (hc:∀ i,c i<=cx i) (hb:off+cs.length<=w6.length) (hne:cs ≠ []) :
 ∃ w2,afU w.hp p xs=some w2.hp/\F5 X E w2 { s with H:=s.H.set k (Q1 w6 off cs) } { s' with hp:=w2.hp } (fun _=>0):=by
 simp only [RV] at hp
 obtain ⟨⟨b,h1,rfl⟩,_⟩:=hp
 obtain ⟨kb,c1,c2,g2,g3,g4,o2,g5⟩:=g.obj.store g.hw.nd hk (fun e=>by subst e; cases cs with | nil=>exact hne rfl | cons a l=>simp at hb) h1
 have hbm:=List.mem_of_getElem? h1
 obtain ⟨c',k1,k2⟩:=g3.seg hcs hb
 have hl:=g3.len
 have hst:afU w.hp (.pointer (some ⟨b,off,none⟩)) xs=some (setW w b { kb with cells:=F6 kb.cells off xs }).hp:=by
  simp only [afU,y9 g2 (by rw [o2]; simp),Option.bind_some]
  rw [if_pos ⟨o2,by rw [<-hcs.len,<-hl]; exact hb⟩]
  rfl
 have hx:Ext w (setW w b { kb with cells:=F6 kb.cells off xs }) (fun _=>True):=awE (k:={ kb with cells:=F6 kb.cells off xs }) g.hw hbm g2 rfl rfl _
 have hset:(setW w b { kb with cells:=F6 kb.cells off xs }).hp[b]? = some { kb with cells:=F6 kb.cells off xs }:=by
  exact alR (List.getElem?_eq_some_iff.1 g2).1
 have hobj:=g5 _ (Q1 w6 off cs) _ c' hx (fun e he hne ke hke=>by
  obtain ⟨q',a1,_⟩:=ae6 (b:=b) (k:={ kb with cells:=F6 kb.cells off xs }) g2 rfl rfl hke
  refine ⟨q',a1,fun hm=>?_⟩
  have:=aiR (k:={ kb with cells:=F6 kb.cells off xs }) hke (show ke.j5 ≠ kb.j5 from g.hw.azf hke g2 hm o2 hne) hne
  rw [this] at a1; cases a1; rfl) hset (.inr ⟨o2,c9.mono hx _ k1 (fun _ _=>trivial)⟩)
 have hlen:(setW w b { kb with cells:=F6 kb.cells off xs }).hp.length=w.hp.length:=agG
 refine ⟨_,hst,ce,cl,_,rfl,g.hw.set hbm g2 rfl rfl rfl,g.gl.mono hx,g.fr.set g.hw hbm g2 rfl rfl,g.env.mono hx (fun _ _=>trivial),g.loc.mono hx (fun _ _=>trivial),g.aaW,hobj,fun i=>?_,fun i hi=>?_,fun i hi=>?_⟩
 ·have:=g.N2 i; have:=k2 i; have:=hc i; have:=g4 i; omega
 ·have:=g.R6 i hi; have:=k2 i; have:=hc i; have:=g4 i; omega
 ·rw [hlen] at hi; have:=g.O3 i hi; have:=k2 i; have:=hc i; have:=g4 i; omega
theorem ads {X:XV} {E:En} {w:Wd} {s:VS} {s':St} {ce cl ch cx c:j6} (g:StC X E w s s' ce cl ch cx) {cs:List V} {xs:List Value} (hcs:c9 w cs xs c) (hc:∀ i,c i<=cx i) (n:Nat) (p:Bool) (hpl:p=false->n=1) :
 ∃ w2,w2.hp=w.hp++[⟨xs,n,.rw,w.hp.length,p⟩]/\F5 X E w2 { s with H:=s.H++[cs] } { s' with hp:=w2.hp } (fun _=>0)/\RV w2 (.ptr s.H.length 0) (.pointer (some ⟨w.hp.length,0,none⟩)) (fun _=>0):=by
 have hx:=apS (k:=⟨xs,n,.rw,w.hp.length,p⟩) g.hw rfl (fun _=>True)
 refine ⟨{ hp:=w.hp++[⟨xs,n,.rw,w.hp.length,p⟩],j0:=w.j0++[w.hp.length],fb:=w.hp.length::w.fb },rfl,⟨ce,cl,fun i=>ch i+c i,rfl,g.hw.af1 rfl hpl,g.gl.mono hx,g.fr.af1 g.hw rfl,g.env.mono hx (fun _ _=>trivial),g.loc.mono hx (fun _ _=>trivial),g.aaW,?_,fun i=>?_,fun i hi=>?_,fun i hi=>?_⟩,?_⟩
 ·refine w7.snoc (kb:=⟨xs,n,.rw,w.hp.length,p⟩) (by simp) rfl (c9.mono hx _ hcs (fun _ _=>trivial)) (g.obj.mono hx (fun b hb => .eq ?_) (fun _ _=>trivial))
  show (w.hp++_)[b]? = _
  rw [List.getElem?_append_left (g.hw.Y0 _ (g.hw.sub _ hb))]
 ·have:=g.N2 i; have:=hc i; omega
 ·have:=g.R6 i hi; have:=hc i; omega
 ·simp at hi; have:=g.O3 i (by omega); have:=hc i; omega
 ·simp only [RV]
  exact ⟨⟨w.hp.length,by rw [<-g.obj.len]; simp,rfl⟩,by simp⟩
theorem al2 {w w2:Wd} {p:Bool} {k m b9 cc:Nat} {xs:List Value} (h1:w2.hp=w.hp++[⟨xs,b9,.rw,w.hp.length,p⟩]) (h2:RV w2 (.ptr k 0) (.pointer (some ⟨w.hp.length,0,none⟩)) (fun _=>0)) (h0:0<b9) :
 RV w2 (.A0 k 0 m b9) (O7 w.hp m cc) (fun _=>0):=by
 simp only [RV] at h2 ⊢
 obtain ⟨⟨b,g1,g2⟩,g3⟩:=h2
 cases g2
 exact ⟨⟨w.hp.length,cc,⟨xs,b9,.rw,w.hp.length,p⟩,g1,by rw [h1]; simp,rfl,h0,rfl⟩,by simp⟩
theorem auY {X:XV} {E:En} {w:Wd} {s:VS} {s':St} {ce cl ch cx c1 c2:j6} {fl b:Bool} {b9 bytes:Nat} {sv yv r:V} {x z:Value} {H':VH}
 (g:StC X E w s s' ce cl ch cx) (hx:RV w sv x c1) (hy:RV w yv z c2) (hc:∀ i,c1 i+c2 i<=cx i) (h:ajI fl b b9 bytes sv yv s.H=some (r,H')) (h0:0<b9) :
 ∃ w2 x' c',U0 false w.hp b9 bytes x z=some (x',w2.hp)/\adL b z=some z/\F5 X E w2 { s with H:=H' } { s' with hp:=w2.hp } c'/\RV w2 r x' c':=by
 unfold ajI at h
 split at h
 ·-- the row lies in an object
  rename_i k off n e
  split at h
  ·rename_i ow ys
   obtain ⟨cs,hk,hq⟩:=a7 h
   clear h
   have h:=hq
   clear hq
   split at h
   ·rename_i hcond
    obtain ⟨rfl,rfl,hn,hcl,hesz,hbt⟩:=hcond
    obtain ⟨new,d,hnew,hys,hd,hlen,_,a2,cc2,rfl⟩:=hy.read hesz
    have hvs:adL false (Value.slice a2 ys.length cc2)=some (Value.slice a2 ys.length cc2):=rfl
    simp only [RV] at hx
    obtain ⟨⟨bk,cc,kb,hr,hkb,hsz,_,rfl⟩,hx0⟩:=hx
    have hne:cs ≠ []:=fun e=>by subst e; simp only [List.length_nil] at hcl; have:=Nat.mul_pos hn h0; omega
    obtain ⟨kb',d1,d2,g2,g3,g4,hrw,g5⟩:=g.obj.store g.hw.nd hk hne hr
    rw [hkb] at g2; cases g2
    have hbm:=List.mem_of_getElem? hr
    have aeo:n*e=kb.cells.length:=by rw [<-g3.len]; exact hcl.symm
    have hw:=g.hw
    have hbl:=(List.getElem?_eq_some_iff.1 hkb).1
    have hcut:cut kb.cells 0 (n*e)=some kb.cells:=by
     show L4 kb.cells 0 (n*e)=some kb.cells
     rw [N0 (by omega),aeo]; simp
    have hold:E2 w.hp e (.slice (some ⟨bk,0,none⟩) n cc)=some kb.cells:=by
     simp only [E2]
     rw [if_neg (by omega),y9 hkb (by rw [hrw]; simp)]
     simp only [Option.bind_some,hsz,if_true,hcut]
    cases ys with
    | nil =>
      cases h
      simp only [List.length_nil] at hlen hnew ⊢
      refine ⟨w,.slice (some ⟨bk,0,none⟩) n cc,fun _=>0,?_,hvs,⟨ce,cl,ch,{ g with hp:=rfl,N2:=fun i=>by have:=g.N2 i; omega,R6:=fun i hi=>by have:=g.R6 i hi; omega,O3:=fun i hi=>by have:=g.O3 i hi; omega }⟩,?_⟩
      rotate_left
      ·simp only [RV]
       exact ⟨⟨bk,cc,kb,hr,hkb,hsz,h0,rfl⟩,by simp⟩
      ·simp only [U0,adJ]
       split
       ·simp only [M3,hnew,Option.bind_some,hlen,if_true,List.length_nil]
       ·simp only [hnew,Option.bind_some,hlen,if_true,List.length_nil]
    | cons y l =>
      cases h
      have hll:C7 (Value.slice a2 (y::l).length cc2)=l.length+1:=hlen
      have hfl:=g.fr.len
      have fin:∀ (w2:Wd) (f:Nat) (p:Bool),w2.hp[w.hp.length]? = some ⟨kb.cells++new,e,.rw,f,p⟩->w2.j0=w.j0++[w.hp.length]->w2.hp.length=w.hp.length+1->Ext w w2 (fun _=>True)->HW w2->E4 E w2 →
       (∀ c ∈ w.j0,c ≠ bk->aec w w2 c)->(∃ kb':l5,w2.hp[bk]? = some kb') →
       F5 X E w2 { s with H:=s.H.set k []++[cs++(y::l).flatten] } { s' with hp:=w2.hp } (fun _=>0)/\RV w2 (.A0 s.H.length 0 (n+(l.length+1)) e) (O7 w.hp (n+(l.length+1)) (n+(l.length+1)+1)) (fun _=>0):=by
       intro w2 f p hat hrho hlen2 hE hw2 hfr hkeep ⟨kb2,hkb2⟩
       refine ⟨⟨ce,cl,fun i=>(0+d2 i)+(d1 i+d i),rfl,hw2,g.gl.mono hE,hfr,g.env.mono hE (fun _ _=>trivial),g.loc.mono hE (fun _ _=>trivial),g.aaW,?_,fun i=>?_,fun i hi=>?_,fun i hi=>?_⟩,?_⟩
       ·rw [hrho]
        exact w7.snoc (kb:=⟨kb.cells++new,e,.rw,f,p⟩) hat rfl ((c9.mono hE _ g3 (fun _ _=>trivial)).app (c9.mono hE _ hys.flat (fun _ _=>trivial))) (g5 w2 [] kb2 (fun _=>0) hE hkeep hkb2 (.inl ⟨rfl,by simp⟩))
       ·have:=g.N2 i; have:=g4 i; have:=hd i; have:=hc i; omega
       ·have:=g.R6 i hi; have:=g4 i; have:=hd i; have:=hc i; omega
       ·have:=g.O3 i (by omega); have:=g4 i; have:=hd i; have:=hc i; omega
       ·simp only [RV,O7]
        refine ⟨⟨w.hp.length,_,_,?_,hat,rfl,h0,rfl⟩,by simp⟩
        rw [hrho,<-g.obj.len]; simp
      by_cases hcc:cc=n
      ·obtain ⟨f1,f2⟩:=fin ⟨w.hp++[⟨kb.cells++new,e,.rw,w.hp.length,true⟩],w.j0++[w.hp.length],w.hp.length::w.fb⟩ w.hp.length true (by simp) rfl (by simp) (apS hw rfl _) (hw.af1 rfl (fun h=>by cases h)) (g.fr.af1 hw rfl)
        (fun c hc _ => .eq (by show (w.hp++_)[c]? = _; rw [List.getElem?_append_left (hw.rlt c hc)])) ⟨kb,by show (w.hp++_)[bk]? = _; rw [List.getElem?_append_left hbl]; exact hkb⟩
       refine ⟨_,_,_,?_,hvs,f1,f2⟩
       simp only [U0,adJ]
       rw [if_pos hcc]
       simp only [M3,hnew,Option.bind_some,hll]
       rw [if_neg (by omega),if_pos ⟨hcc,by simpa using hbt⟩,hold]; rfl
      ·obtain ⟨f1,f2⟩:=fin (aex w bk kb ⟨kb.cells++new,e,.rw,kb.j5,kb.pl⟩) kb.j5 kb.pl (by simp [aex,J6]) rfl (by simp [aex,J6]) (aug (k:=⟨kb.cells++new,e,.rw,kb.j5,kb.pl⟩) hw hkb hbm rfl _) (hw.aex (k:=⟨kb.cells++new,e,.rw,kb.j5,kb.pl⟩) hkb hrw hbm rfl (fun h=>by show e=1; rw [<-hsz]; exact hw.mrk bk kb hkb h)) (g.fr.aex (k:=⟨kb.cells++new,e,.rw,kb.j5,kb.pl⟩) hw hkb hbm rfl hsz.symm)
        (fun c hc hne => .eq (N1 (hw.rlt c hc) hne)) ⟨_,aeS hbl⟩
       have huse:aa3 w.hp bk kb (0+n*e)=w.hp.set bk { kb with md := .ro }:=by unfold aa3; rw [if_pos (by omega)]
       refine ⟨_,_,_,?_,hvs,f1,f2⟩
       simp only [U0,adJ]
       rw [if_neg hcc]
       simp only [hnew,Option.bind_some,hll]
       rw [if_neg (by omega),if_pos ⟨hn,by simpa using hbt⟩,hold]
       simp only [Option.bind_some,y9 hkb (by rw [hrw]; simp),hrw,if_true,huse]
       rfl
   ·cases h
  ·cases h
 ·-- an own row
  obtain ⟨xs,hxs,hq⟩:=a7 h
  clear h
  obtain ⟨rv,ha,h⟩:=a7 hq
  clear hq
  have hsv:sv = .sl true xs:=by
   unfold Z9 at hxs
   split at hxs
   ·cases hxs; rfl
   ·cases hxs
  subst hsv
  have plain:r=rv->H'=s.H->∃ w2 x' c',U0 false w.hp b9 bytes x z=some (x',w2.hp)/\adL b z=some z/\F5 X E w2 { s with H:=H' } { s' with hp:=w2.hp } c'/\RV w2 r x' c':=by
   rintro rfl rfl
   obtain ⟨w2,x',c',k1,k2,k3,k4⟩:=aqq (full:=false) g hx (fun q=>by cases q) hy hc ha h0
   exact ⟨w2,x',c',k1,k2,⟨ce,cl,ch,k3⟩,k4⟩
  split at h
  ·rename_i hfl
   split at h
   ·rename_i y l
    cases h
    obtain ⟨ys,new,d,hrv,hnew,hys,hd,hlen,hesz,hb,hst⟩:=anO ha hy
    have hxe:xs=[]:=by simp at hfl; exact hfl.2
    subst hxe
    injection hrv with _ hrv
    simp only [List.nil_append] at hrv
    subst hrv
    simp only [RV] at hx
    rcases hx with ⟨_,⟨a,cc,rfl,hcc⟩,hx0⟩ | ⟨h',_⟩
    ·have hcc:=hcc trivial
     subst hcc
     obtain ⟨w2,k1,k2,k3⟩:=ads g (cs:=(y::l).flatten) hys.flat (fun i=>by have:=hd i; have:=hc i; omega) b9 true (fun h=>by cases h)
     refine ⟨w2,O7 w.hp (l.length+1) (l.length+1+1),fun _=>0,?_,hst,k2,al2 k1 k3 h0⟩
     have hlen':C7 z=l.length+1:=hlen
     simp only [U0,adJ,List.length_nil,if_true]
     simp only [M3,hnew,Option.bind_some,hlen']
     rw [if_neg (by omega),if_pos ⟨trivial,by simpa using hb⟩]
     have hold:E2 w.hp b9 (.slice a 0 0)=some []:=by
      cases a with
      | none=>rfl
      | some a =>
        obtain ⟨b0,o0,s0⟩:=a
        cases s0<;>simp [E2]
     rw [hold,k1]
     simp [O7]
    ·exact absurd rfl h'
   ·cases h; exact plain rfl rfl
  ·cases h; exact plain rfl rfl
theorem arZ {X:XV} {w:Wd} {n b9:Nat} {a v:V} {x:Value} {c:j6} (hg:J9 X w) (h:akn X.H4 n b9 a=some v) (ha:RV w a x c):∃ z,af0 w.hp n b9 x=some z/\RV w v z (fun _=>0):=by
 unfold akn at h
 split at h
 ·rename_i g
  obtain ⟨cs,hcs,hq⟩:=a7 h
  split at hq
  ·rename_i hc
   obtain ⟨hn,rfl,hl⟩:=hc
   cases hq
   obtain ⟨kb,b1,b2,b3,b4,b5⟩:=hg.1 g cs hcs
   simp only [RV] at ha
   obtain ⟨rfl,_⟩:=ha
   have hlen:kb.cells.length=n:=by rw [<-b3.len,hl]
   refine ⟨.slice (some ⟨g,0,none⟩) n n,?_,?_⟩
   ·simp only [af0,b1,Option.bind_some]
    rw [if_pos ⟨hn,trivial,b5,by omega⟩]
   ·have hch:=aaC (sz:=1) (n:=n) b3 (by omega)
    have hcl:(A3 1 n cs).length=n:=by have:=hch.len; omega
    simp only [RV]
    refine .inr ⟨fun q=>by rw [q] at hcl; simp at hcl; omega,g,0,kb,kb.cells,n,fun _=>0,b1,b4,b2,by rw [hcl],by omega,?_,by rw [b5]; exact hch,.inl ⟨trivial,by simp,by simp⟩⟩
    rw [hcl,b5,N0 (by omega)]
    rw [List.drop_zero,List.take_of_length_le (by omega)]
  ·cases hq
 ·cases h
theorem atH {w:Wd} (l:List UInt8):c9 w (l.map fun b=>V.int .u8 b.toNat) (l.map fun b=>Value.int .u8 b.toNat) (fun _=>0):=by
 induction l with
 | nil=>simp [c9]
 | cons b l ih =>
   simp only [List.map_cons,c9]
   exact ⟨_,_,fun _=>0,fun _=>0,rfl,by simp [RV],ih,by simp⟩
section
variable {X:XV} {Y:Ctx} {A:S5} {T:List Nat} {E:En} {w:Wd} {s:VS} {s':St} {R R':Type} {r:R} {o:Oper}
 {K:VE->VS->D0->Option R} {K':EV->List (Nat × List Value)->Heap->D0->Option R'} {Q:R'->Prop}
def aki (X:XV) (E:En) (env:List (Nat × EV)) (K:VE->VS->D0->Option R) (K':EV->List (Nat × List Value)->Heap->D0->Option R') (r:R) (Q:R'->Prop):Prop :=
 ∀ (w2:Wd) (e:VE) (e':EV) (s2:VS) (loc:List (Nat × List Value)) (c:D0) (ce:j6),K e s2 c=some r->RE w2 e e' ce->F5 X E w2 s2 ⟨env,loc,w2.hp⟩ ce->∃ r',K' e' loc w2.hp c=some r'/\Q r'
theorem F5.hp {cx:j6} (hs:F5 X E w s s' cx):s'.hp=w.hp:=by
 obtain ⟨_,_,_,g⟩:=hs; exact g.hp
theorem F5.self {cx:j6} (hs:F5 X E w s s' cx):F5 X E w s ⟨s'.env,s'.loc,w.hp⟩ cx:=by
 have:=hs.hp
 obtain ⟨env,loc,hp⟩:=s'
 simp only at this
 subst this
 exact hs
theorem aki.pure (hK:aki X E s'.env K K' r Q) {v:V} {x:Value} {s2:VS} {c:D0} {cx:j6} (h:K (.val v) s2 c=some r) (hr:RV w v x (fun _=>0)) (hs:F5 X E w s2 s' cx):∃ r',K' (.val x) s'.loc s'.hp c=some r'/\Q r':=by
 rw [hs.hp]
 exact hK w (.val v) (.val x) s2 s'.loc c (fun _=>0) h hr (hs.less (by simp)).self
theorem aqD {hp:Heap} {k:l5} (h:k.md ≠ .gone):n7 (hp++[k]) hp.length=some k:=by
 unfold n7
 rw [List.getElem?_append_right (Nat.le_refl _)]
 simp [h]
def axo (full:Bool):D0:=match full with | true => .A | false => .W
theorem StC.atb {ce cl ch cx c:j6} (g:StC X E w s s' ce cl ch cx) {d:Nat} (hl:look s.loc d=none) {cs:List V} {xs:List Value} (hcs:c9 w cs xs c) (hc:∀ i,c i<=cx i) :
 F5 X E w { s with loc:=(d,cs)::s.loc } ⟨s'.env,(d,xs)::s'.loc,w.hp⟩ (fun _=>0):=by
 refine ⟨ce,fun i=>c i+cl i,ch,rfl,g.hw,g.gl,g.fr,g.env,?_,fun k hk=>?_,g.obj,fun i=>?_,fun i hi=>?_,fun i hi=>?_⟩
 ·simp only [M0]
  refine ⟨xs,c,cl,by rw [k9,if_pos rfl],hcs,hl,?_,by simp⟩
  have:∀ {l:List (Nat × List V)} {c:j6},M0 w l s'.loc c->look l d=none->M0 w l ((d,xs)::s'.loc) c:=by
   intro l
   induction l with
   | nil=>intro c h _; simpa [M0] using h
   | cons p l ih =>
     intro c h hn
     obtain ⟨q,v⟩:=p
     simp only [M0] at h ⊢
     obtain ⟨ws,d1,d2,h1,h2,h0,h3,h4⟩:=h
     rw [k9] at hn
     split at hn
     ·cases hn
     ·rename_i hq
      exact ⟨ws,d1,d2,by rw [k9,if_neg (Ne.symm hq)]; exact h1,h2,h0,ih h3 hn,h4⟩
  exact this g.loc hl
 ·rw [k9] at hk ⊢
  split at hk
  ·cases hk
  ·rename_i hq; rw [if_neg hq]; exact g.aaW k hk
 ·have:=g.N2 i; have:=hc i; omega
 ·have:=g.R6 i hi; have:=hc i; omega
 ·have:=g.O3 i hi; have:=hc i; omega
theorem c9.one {w:Wd} {v:V} {x:Value} {c:j6} (h:RV w v x c):c9 w [v] [x] c:=⟨x,[],c,fun _=>0,rfl,h,by simp [c9],by simp⟩
theorem amQ (hcall:∀ f args H r H',X.call f args H=some (r,H')->D4 X Y.call f args H r H') {cx:j6} (hs:F5 X E w s s' cx) {f:FuncId} {vs:List V} {xs:List Value} {c1:j6} (h2:c9 w vs xs c1) (hc:∀ i,c1 i<=cx i) {rv:V} {H':VH} (hr:X.call f vs s.H=some (rv,H')) :
 ∃ x w2 cr,Y.call f xs w.hp=some (x,w2.hp)/\RV w2 rv x cr/\F5 X E w2 { s with H:=H' } ⟨s'.env,s'.loc,w2.hp⟩ cr:=by
 obtain ⟨ce,cl,ch,g⟩:=hs
 obtain ⟨x,w2,cr,ch',q1,q2,q3,q4,q5,q6,q7,q8,q9⟩:=hcall f vs s.H rv H' hr w xs c1 ch g.hw g.gl h2 g.obj (fun i=>by have:=g.N2 i; have:=hc i; omega) (fun i hi=>by have:=g.O3 i hi; have:=hc i; omega)
 have hx:=q4.ext
 refine ⟨x,w2,cr,q1,q5,ce,cl,ch',rfl,q2,q3,?_,g.env.mono hx (fun b hb=>by have:=g.N2 b; have:=hc b; show c1 b+ch b=0; omega),g.loc.mono hx (fun b hb=>by have:=g.N2 b; have:=hc b; show c1 b+ch b=0; omega),g.aaW,q6,fun i=>?_,fun i hi=>?_,fun i hi=>?_⟩
 ·refine g.fr.trans q4 g.hw q2 (fun b hb=>hb) (fun i hi=>by have:=g.R6 i hi; have:=hc i; omega) rfl ?_ ?_
  ·obtain ⟨r1,a1,a2⟩:=g.fr.j0
   obtain ⟨r2,b1,b2⟩:=q4.j0
   simp only at b1 b2
   refine ⟨r1++r2,by rw [b1,a1,List.append_assoc],fun b hb=>?_⟩
   have hl:=g.fr.len
   rcases List.mem_append.1 hb with hb | hb
   ·have hbw:b<w.hp.length:=g.hw.rlt b (by rw [a1]; exact List.mem_append.2 (.inr hb))
    refine ⟨(a2 b hb).1,fun k hk=>?_⟩
    rw [q4.keep b _ k (List.getElem?_eq_getElem hbw) hk]
    exact (a2 b hb).2 _ (List.getElem?_eq_getElem hbw)
   ·have:=(b2 b hb).1
    refine ⟨by omega,fun k hk=>?_⟩
    rcases (b2 b hb).2 k hk with q | ⟨b0,q1,k0,q2,q3⟩
    ·left; simp only at q; omega
    ·rw [<-q3]; exact g.fr.aeC q1 q2
  ·obtain ⟨r1,a1,a2⟩:=g.fr.fb
   obtain ⟨r2,b1,b2⟩:=q4.fb
   simp only at b1 b2
   refine ⟨r2++r1,by rw [b1,a1,List.append_assoc],fun b hb=>?_⟩
   rcases List.mem_append.1 hb with hb | hb
   ·have:=b2 b hb; have:=g.fr.len; omega
   ·exact a2 b hb
 ·by_cases hi:i<w.hp.length
  ·have:=q8 i hi; have:=g.N2 i; have:=hc i; omega
  ·have:=g.O3 i (by omega); have:=q7 i; omega
 ·have:=q8 i (by have:=g.fr.len; omega); have:=g.R6 i hi; have:=hc i; omega
 ·have:=q9 i hi
  have hl:=q4.len
  simp only at hl
  have:=g.O3 i (by omega); omega
theorem ah8 (hT:aa9 X) (hcall:∀ f args H r H',X.call f args H=some (r,H')->D4 X Y.call f args H r H') {cx:j6} (hs:F5 X E w s s' cx) {f:FuncId} {vs:List V} {xs:List Value} (fb:List Nat) (hfb:∀ b ∈ fb,b ∈ w.fb) (h2:w9 vs=true->c9 ⟨w.hp,[],fb⟩ vs xs (fun _=>0)) {rv:V} (hr:P3 X.call f vs=some rv) :
 ∃ x,X4 Y.call f xs s'.hp=some x/\RV w rv x (fun _=>0):=by
 have hhp:=hs.hp
 obtain ⟨ce,cl,ch,g⟩:=hs
 unfold P3 at hr
 split at hr
 ·rename_i hn
  obtain ⟨⟨rv',H'⟩,hr1,hr2⟩:=a7 hr
  simp only at hr2
  split at hr2
  ·rename_i hsc
   cases hr2
   obtain ⟨x,hp2,fb2,rho2,cr,q1,q2,q3,q4,q5,q6,q7,q8,q9,q10,_⟩:=acQ g.hw g.gl hT.gd fb hfb (h2 hn) (hcall _ _ _ _ _ hr1)
   obtain ⟨t1,t2⟩:=asO q3 hsc
   have hq:X4 Y.call f xs s'.hp=some x:=by
    unfold X4
    rw [hhp,q1]
    simp only [Option.bind_some]
    rw [if_pos ⟨q2,t1⟩]
   have hdat:data rv=true:=by
    cases rv<;>first | rfl | (simp only [abJ,T7] at hsc; cases hsc; done) | skip
    rename_i l
    simp only [abJ] at hsc
    simp only [data]
    have:∀ {l:List V},l.all T7=true->B5 l=true:=by
     intro l
     induction l with
     | nil=>intro _; rfl
     | cons a l ih =>
       intro h
       simp only [List.all_cons,Bool.and_eq_true] at h
       simp only [B5,Bool.and_eq_true]
       refine ⟨?_,ih h.2⟩
       cases a<;>first | rfl | (simp only [T7] at h; exact absurd h.1 (by simp))
    exact this hsc
   have hxw:RV w rv x (fun _=>0):=by
    have:∀ {v:V} {x:Value} {c:j6},RV ⟨hp2,rho2,fb2⟩ v x c->T7 v=true->RV w v x (fun _=>0):=by
     intro v x c h hs
     cases v<;>simp only [T7] at hs<;>first | (cases hs; done) | skip
     all_goals simp only [RV] at h ⊢; exact ⟨h.1,by simp⟩
    by_cases ht2:∃ l,rv = .w5 l
    ·obtain ⟨l,rfl⟩:=ht2
     simp only [abJ] at hsc
     simp only [RV] at q3 ⊢
     obtain ⟨ws,rfl,q3⟩:=q3
     refine ⟨ws,rfl,?_⟩
     have all:∀ {l:List V} {ws:List Value} {c:j6},c9 ⟨hp2,rho2,fb2⟩ l ws c->l.all T7=true->c9 w l ws (fun _=>0):=by
      intro l
      induction l with
      | nil=>intro ws c h _; simp only [c9] at h ⊢; exact ⟨h.1,by simp⟩
      | cons a l ih =>
        intro ws c h hs
        simp only [c9] at h ⊢
        obtain ⟨x,ys,c1,c2,rfl,h2,h3,h4⟩:=h
        simp only [List.all_cons,Bool.and_eq_true] at hs
        exact ⟨x,ys,_,_,rfl,this h2 hs.1,ih h3 hs.2,by simp⟩
     exact all q3 hsc
    ·have hs1:T7 rv=true:=by cases rv<;>first | exact hsc | exact absurd ⟨_,rfl⟩ ht2
     exact this q3 hs1
   exact ⟨x,hq,hxw⟩
  ·cases hr2
 ·cases hr
theorem agZ (hT:aa9 X) (hcall:∀ f args H r H',X.call f args H=some (r,H')->D4 X Y.call f args H r H') {cx:j6} (hs:F5 X E w s s' cx) {f:FuncId} {vs:List V} {xs:List Value} {c1:j6} (h2:c9 w vs xs c1) {rv:V} (hr:P3 X.call f (vs.map (j8 s.H))=some rv) :
 ∃ x,X4 Y.call f xs s'.hp=some x/\RV w rv x (fun _=>0):=by
 have hs':=hs
 obtain ⟨ce,cl,ch,g⟩:=hs'
 exact ah8 hT hcall hs w.fb (fun _ h=>h) (fun hn=>akb (wc:=⟨w.hp,[],w.fb⟩) g.hw g.obj rfl rfl rfl h2 hn) hr
theorem apD (hT:aa9 X) (hcall:∀ f args H r H',X.call f args H=some (r,H')->D4 X Y.call f args H r H') {cx:j6} (hs:F5 X E w s s' cx) {f:FuncId} {vs:List V} {xs:List Value} {c1:j6} (h2:c9 w vs xs c1) {rv:V} (hr:Q7 X.call f s.H vs=some rv) :
 ∃ x,X4 Y.call f xs s'.hp=some x/\RV w rv x (fun _=>0):=by
 unfold Q7 at hr
 split at hr
 ·exact agZ hT hcall hs h2 hr
 ·have hs':=hs
  obtain ⟨ce,cl,ch,g⟩:=hs'
  exact ah8 hT hcall hs [] (by simp) (fun hn=>abS (w:=w) (wc:=⟨w.hp,[],[]⟩) rfl rfl rfl g.hw g.obj 3 h2 hn) hr
theorem apq (hT:aa9 X) (hcall:∀ f args H r H',X.call f args H=some (r,H')->D4 X Y.call f args H r H') {cx:j6} (hs:F5 X E w s s' cx) {f:FuncId} {vs:List V} {xs:List Value} {c1:j6} (h2:c9 w vs xs c1) {rv:V} (hr:acP X.call f s.H vs=some rv) :
 ∃ x,X4 Y.call f xs s'.hp=some x/\RV w rv x (fun _=>0):=by
 unfold acP at hr
 have hs':=hs
 obtain ⟨ce,cl,ch,g⟩:=hs'
 exact ah8 hT hcall hs [] (by simp) (fun hn=>abS (w:=w) (wc:=⟨w.hp,[],[]⟩) rfl rfl rfl g.hw g.obj 3 h2 hn) hr
def aoE (Y:Ctx) (w:Wd) (f:FuncId) (xs:List Value) (rv:V):Prop :=
 ∃ (x:Value) (hp2:Heap) (fb fb2 rho2:List Nat) (cr:j6),Y.call f xs w.hp=some (x,hp2)/\hp2.take w.hp.length=w.hp/\RV ⟨hp2,w.j0,w.fb⟩ rv x cr/\(∀ i,cr i<=1)/\(∀ i,i<w.hp.length->cr i=0)/\(∀ i,hp2.length<=i->cr i=0) ∧
   HW ⟨hp2,w.j0,w.fb⟩/\E4 ⟨w.hp,[],fb,fun _=>0⟩ ⟨hp2,rho2,fb2⟩/\HW ⟨hp2,rho2,fb2⟩
theorem amu {w:Wd} {f:FuncId} {xs:List Value} {rv rv':V} {x:Value} {hp2:Heap} {fb fb2 rho2:List Nat} {cr ch':j6} {H':VH} (q1:Y.call f xs w.hp=some (x,hp2)) (q2:hp2.take w.hp.length=w.hp) (q3:RV ⟨hp2,rho2,fb2⟩ rv' x cr)
 (q7:HW ⟨hp2,w.j0,w.fb⟩) (q9:E4 ⟨w.hp,[],fb,fun _=>0⟩ ⟨hp2,rho2,fb2⟩) (q10:HW ⟨hp2,rho2,fb2⟩) (hq:∀ (b:Nat) (k:l5),w.hp.length<=b->hp2[b]? = some k->b ∉ w.fb/\y8 hp2 w.j0 k.j5)
 (ho:w7 ⟨hp2,rho2,fb2⟩ H' rho2 ch') (c1:∀ i,cr i+ch' i<=1) (c2:∀ i,i<w.hp.length->cr i+ch' i=0) (c3:∀ i,hp2.length<=i->cr i+ch' i=0) (hr:ouR H' rv'=some rv):aoE Y w f xs rv:=by
 unfold ouR at hr
 obtain ⟨⟨v,H2⟩,e1,e2⟩:=a7 hr
 simp only at e2
 split at e2
 ·cases e2
  have hge:∀ b ∈ rho2,w.hp.length<=b:=fun b hb=>q9.akA (w:=⟨hp2,rho2,fb2⟩) hb (by simp)
  obtain ⟨c',ch2,p1,p2,p3⟩:=anp (w:=⟨hp2,rho2,fb2⟩) (w':=⟨hp2,w.j0,w.fb⟩) (n0:=w.hp.length) rfl hq q10 hge 6 ho q3 c2 e1
  have hlo:=fun i=>arD (H:=H') i q10.nd
  have hin:∀ i,1<=LO H' rho2 i->cr i=0/\ch' i=0/\w.hp.length<=i/\i<hp2.length:=fun i hi=>by
   have hm:i ∈ rho2:=by
    by_cases q:i ∈ rho2
    ·exact q
    ·rw [aer q] at hi; omega
   refine ⟨?_,?_,hge i hm,q10.rlt i hm⟩
   ·by_cases q:1<=cr i
    ·exact absurd hm (RV.owned _ q3 i q).2.1
    ·omega
   ·by_cases q:1<=ch' i
    ·obtain ⟨kb,a1,a2⟩:=w7.ahW ho i q
     exact absurd hm (a2.nin a1)
    ·omega
  refine ⟨x,hp2,fb,fb2,rho2,c',q1,q2,p1,fun i=>?_,fun i hi=>?_,fun i hi=>?_,q7,q9,q10⟩
  ·have:=p3 i; have:=c1 i; have:=hlo i
   by_cases q:1<=LO H' rho2 i
   ·have:=hin i q; simp only at *; omega
   ·simp only at *; omega
  ·have:=p3 i; have:=c2 i hi
   by_cases q:1<=LO H' rho2 i
   ·have:=hin i q; omega
   ·simp only at *; omega
  ·have:=p3 i; have:=c3 i hi
   by_cases q:1<=LO H' rho2 i
   ·have:=hin i q; omega
   ·simp only at *; omega
 ·cases e2
theorem akN (hT:aa9 X) (hcall:∀ f args H r H',X.call f args H=some (r,H')->D4 X Y.call f args H r H') {cx:j6} (hs:F5 X E w s s' cx) {f:FuncId} {vs:List V} {xs:List Value} {c1:j6} (h2:c9 w vs xs c1) {rv:V} (hr:aar X.call f (vs.map (j8 s.H))=some rv):aoE Y w f xs rv:=by
 obtain ⟨ce,cl,ch,g⟩:=hs
 unfold aar at hr
 split at hr
 ·rename_i hn
  obtain ⟨⟨rv',H'⟩,hr1,hr2⟩:=a7 hr
  simp only at hr2
  split at hr2
  ·rename_i hdat
   cases hr2
   obtain ⟨x,hp2,fb2,rho2,cr,q1,q2,q3,q4,q5,q6,q7,q8,q9,q10,q11,q12,_⟩:=ag0 g.hw g.obj g.gl hT.gd h2 hn (hcall _ _ _ _ _ hr1)
   exact ⟨x,hp2,_,fb2,rho2,cr,q1,q2,RV.data (w:=⟨hp2,rho2,fb2⟩) (w':=⟨hp2,w.j0,w.fb⟩) rfl q8 rv hdat q3,q4,q5,q6,q7,q9,q10⟩
  ·obtain ⟨v2,hv2,hr3⟩:=a7 hr2
   split at hr3
   ·rename_i hdat
    cases hr3
    obtain ⟨x,hp2,fb2,rho2,cr,q1,q2,q3,q4,q5,q6,q7,q8,q9,q10,q11,_,ch',q12,_⟩:=ag0 g.hw g.obj g.gl hT.gd h2 hn (hcall _ _ _ _ _ hr1)
    obtain ⟨c',p1,p2⟩:=amP (w:=⟨hp2,rho2,fb2⟩) (w':=⟨hp2,w.j0,w.fb⟩) rfl q8 q11 q10 q12 q3 hv2 hdat
    exact ⟨x,hp2,_,fb2,rho2,c',q1,q2,p1,fun i=>Nat.le_trans (p2 i) (q4 i),fun i hi=>by have:=p2 i; have:=q5 i hi; omega,fun i hi=>by have:=p2 i; have:=q6 i hi; omega,q7,q9,q10⟩
   ·unfold ouD at hr3
    split at hr3
    ·rename_i u hu
     cases hr3
     obtain ⟨x,hp2,fb2,rho2,cr,q1,q2,q3,q4,q5,q6,q7,q8,q9,q10,q11,q12,ch',q13,q14,q15,q16⟩:=ag0 g.hw g.obj g.gl hT.gd h2 hn (hcall _ _ _ _ _ hr1)
     exact amu q1 q2 q3 q7 q9 q10 q12 q13 q14 q15 q16 hu
    ·obtain ⟨v3,hv3,hr4⟩:=a7 hr3
     split at hr4
     ·rename_i hdat
      cases hr4
      obtain ⟨x,hp2,fb2,rho2,cr,q1,q2,q3,q4,q5,q6,q7,q8,q9,q10,q11,_,ch',q12,_⟩:=ag0 g.hw g.obj g.gl hT.gd h2 hn (hcall _ _ _ _ _ hr1)
      obtain ⟨c',p1,p2⟩:=ak4 (w:=⟨hp2,rho2,fb2⟩) (w':=⟨hp2,w.j0,w.fb⟩) rfl q8 q11 q10 q12 q3 hv3 hdat
      exact ⟨x,hp2,_,fb2,rho2,c',q1,q2,p1,fun i=>Nat.le_trans (p2 i) (q4 i),fun i hi=>by have:=p2 i; have:=q5 i hi; omega,fun i hi=>by have:=p2 i; have:=q6 i hi; omega,q7,q9,q10⟩
     ·cases hr4
 ·cases hr
theorem apt (hT:aa9 X) (hcall:∀ f args H r H',X.call f args H=some (r,H')->D4 X Y.call f args H r H') {cx:j6} (hs:F5 X E w s s' cx) {f:FuncId} {vs:List V} {xs:List Value} {c1:j6} (h2:c9 w vs xs c1) {rv:V} (hr:alD X.call f s.H vs=some rv):aoE Y w f xs rv:=by
 obtain ⟨ce,cl,ch,g⟩:=hs
 unfold alD at hr
 split at hr
 ·rename_i hn
  obtain ⟨⟨rv',H'⟩,hr1,hr2⟩:=a7 hr
  simp only at hr2
  obtain ⟨x,hp2,fb2,rho2,cr,q1,q2,q3,q4,q5,q6,q7,q8,q9,q10,ch',q13,q14,q15,q16⟩:=acQ g.hw g.gl hT.gd [] (by simp) (abS (w:=w) (wc:=⟨w.hp,[],[]⟩) rfl rfl rfl g.hw g.obj 3 h2 hn) (hcall _ _ _ _ _ hr1)
  exact amu q1 q2 q3 q7 q8 q9 q10 q13 q14 q15 q16 hr2
 ·cases hr
theorem aps (hT:aa9 X) (hcall:∀ f args H r H',X.call f args H=some (r,H')->D4 X Y.call f args H r H') {cx:j6} (hs:F5 X E w s s' cx) {f:FuncId} {vs:List V} {xs:List Value} {c1:j6} (h2:c9 w vs xs c1) {rv:V} (hr:adA X.call f s.H vs=some rv):aoE Y w f xs rv:=by
 unfold adA at hr
 split at hr
 ·exact akN hT hcall hs h2 hr
 ·obtain ⟨v,hr,hown⟩:=a7 hr
  split at hown
  ·rename_i ho
   cases hown
   obtain ⟨ce,cl,ch,g⟩:=hs
   unfold aar at hr
   split at hr
   ·rename_i hn
    obtain ⟨⟨rv',H'⟩,hr1,hr2⟩:=a7 hr
    simp only at hr2
    obtain ⟨x,hp2,fb2,rho2,cr,q1,q2,q3,q4,q5,q6,q7,q8,q9,q10,ch',q12,q13⟩:=acQ g.hw g.gl hT.gd [] (by simp) (abS (w:=w) (wc:=⟨w.hp,[],[]⟩) rfl rfl rfl g.hw g.obj 3 h2 hn) (hcall _ _ _ _ _ hr1)
    have fin:∀ {v:V} {c:j6},RV ⟨hp2,rho2,fb2⟩ v x c->(∀ i,c i<=cr i)->L3 v=true->RV ⟨hp2,w.j0,w.fb⟩ v x c:=fun h hc ho=>RV.own (w:=⟨hp2,rho2,fb2⟩) (w':=⟨hp2,w.j0,w.fb⟩) rfl _ ho h (fun b k hb hk=>q10 b k (by
     have:=hc b
     by_cases hlt:b<w.hp.length
     ·have:=q5 b hlt; omega
     ·omega) hk)
    split at hr2
    ·cases hr2
     exact ⟨x,hp2,_,fb2,rho2,cr,q1,q2,fin q3 (fun _=>Nat.le_refl _) ho,q4,q5,q6,q7,q8,q9⟩
    ·obtain ⟨v2,hv2,hr3⟩:=a7 hr2
     split at hr3
     ·rename_i hdat
      cases hr3
      obtain ⟨c',p1,p2⟩:=amP (w:=⟨hp2,rho2,fb2⟩) (w':=⟨hp2,[],[]⟩) rfl (fun b k _ _=>⟨by simp,y8.nil⟩) (fun b _ k _=>⟨by simp,y8.nil⟩) q9 q12 q3 hv2 hdat
      have:=RV.own (w:=⟨hp2,[],[]⟩) (w':=⟨hp2,w.j0,w.fb⟩) rfl _ ho p1 (fun b k hb hk=>q10 b k (by
       have:=p2 b
       by_cases hlt:b<w.hp.length
       ·have:=q5 b hlt; omega
       ·omega) hk)
      exact ⟨x,hp2,_,fb2,rho2,c',q1,q2,this,fun i=>Nat.le_trans (p2 i) (q4 i),fun i hi=>by have:=p2 i; have:=q5 i hi; omega,fun i hi=>by have:=p2 i; have:=q6 i hi; omega,q7,q8,q9⟩
     ·unfold ouD at hr3
      split at hr3
      ·rename_i u hu
       cases hr3
       exact amu q1 q2 q3 q7 q8 q9 q10 q12 q13.1 q13.2.1 q13.2.2 hu
      ·obtain ⟨v3,hv3,hr4⟩:=a7 hr3
       split at hr4
       ·rename_i hdat
        cases hr4
        obtain ⟨c',p1,p2⟩:=ak4 (w:=⟨hp2,rho2,fb2⟩) (w':=⟨hp2,[],[]⟩) rfl (fun b k _ _=>⟨by simp,y8.nil⟩) (fun b _ k _=>⟨by simp,y8.nil⟩) q9 q12 q3 hv3 hdat
        have:=RV.own (w:=⟨hp2,[],[]⟩) (w':=⟨hp2,w.j0,w.fb⟩) rfl _ ho p1 (fun b k hb hk=>q10 b k (by
         have:=p2 b
         by_cases hlt:b<w.hp.length
         ·have:=q5 b hlt; omega
         ·omega) hk)
        exact ⟨x,hp2,_,fb2,rho2,c',q1,q2,this,fun i=>Nat.le_trans (p2 i) (q4 i),fun i hi=>by have:=p2 i; have:=q5 i hi; omega,fun i hi=>by have:=p2 i; have:=q6 i hi; omega,q7,q8,q9⟩
       ·cases hr4
   ·cases hr
  ·cases hown
theorem apa {cx:j6} (hK:aki X E s'.env K K' r Q) (hs:F5 X E w s s' cx) {f:FuncId} {xs:List Value} {x:Value} {hp2:Heap} {fb fb2 rho2:List Nat} {rv:V} {cr:j6} (h1:K (.val rv) s .A=some r) (q1:Y.call f xs w.hp=some (x,hp2)) (q2:hp2.take w.hp.length=w.hp)
 (q3:RV ⟨hp2,w.j0,w.fb⟩ rv x cr) (q4:∀ i,cr i<=1) (q5:∀ i,i<w.hp.length->cr i=0) (q6:∀ i,hp2.length<=i->cr i=0) (q7:HW ⟨hp2,w.j0,w.fb⟩) (q9:E4 ⟨w.hp,[],fb,fun _=>0⟩ ⟨hp2,rho2,fb2⟩) (q10:HW ⟨hp2,rho2,fb2⟩) :
 ∃ r',((X0 Y.call f xs s'.hp).bind fun r=>K' (.val r.1) s'.loc r.2 .A)=some r'/\Q r':=by
 have hhp:=hs.hp
 obtain ⟨ce,cl,ch,g⟩:=hs
 have hq:X0 Y.call f xs s'.hp=some (x,hp2):=by
  unfold X0
  rw [hhp,q1]
  simp only [Option.bind_some]
  rw [if_pos q2]
 rw [hq]
 simp only [Option.bind_some]
 have hlen:=q9.len
 simp only at hlen
 have same:∀ b,b<w.hp.length->hp2[b]? = w.hp[b]?:=fun b hb=>by
  rw [List.getElem?_eq_getElem hb]
  exact q9.same b _ (List.getElem?_eq_getElem hb) y8.nil rfl
 have hx:Ext w ⟨hp2,w.j0,w.fb⟩ (fun _=>True):=by
  refine ⟨fun b kb hb hn=>?_,fun k b h=>h,fun j b kb _ hb=>⟨kb,by show hp2[b]? = _; rw [same b (List.getElem?_eq_some_iff.1 hb).1]; exact hb,rfl⟩⟩
  obtain ⟨a1,a2,a3⟩:=l6 hb
  exact ⟨kb,y9 (by show hp2[b]? = _; rw [same b a3]; exact a1) a2,fun c hc q hq=>hn c hc q (by rw [<-same c (g.hw.rlt c hc)]; exact hq),fun h=>h,rfl,rfl,fun _=>⟨rfl,rfl⟩⟩
 have hfr:E4 E ⟨hp2,w.j0,w.fb⟩:=g.fr.trans q9 g.hw q10 (by simp) (by simp) rfl (by
  obtain ⟨r0,a1,a2⟩:=g.fr.j0
  refine ⟨r0,a1,fun b hb=>⟨(a2 b hb).1,fun k hk=>?_⟩⟩
  have hk':hp2[b]? = some k:=hk
  rw [same b (g.hw.rlt b (by rw [a1]; exact List.mem_append.2 (.inr hb)))] at hk'
  exact (a2 b hb).2 k hk') g.fr.fb
 have g':=g.move hx (fun _ _=>trivial) q7 hfr (fun b hb => .eq (same b (g.hw.Y0 _ (g.hw.sub _ hb)))) rfl hlen
 refine hK ⟨hp2,w.j0,w.fb⟩ (.val rv) (.val x) _ _ _ cr h1 (by simp only [RE]; exact q3) ⟨ce,cl,ch,{ g' with N2:=fun i=>?_,R6:=fun i hi=>?_,O3:=fun i hi=>?_ }⟩
 ·by_cases hi:i<w.hp.length
  ·have:=q5 i hi; have:=g.N2 i; omega
  ·have:=g.O3 i (by omega); have:=q4 i; omega
 ·have:=q5 i (by have:=g.fr.len; omega); have:=g.R6 i hi; omega
 ·have:=q6 i hi; have:=g.O3 i (by simp only at hi; omega); omega
open Classical in
theorem ahU {cx:j6} (hK:aki X E s'.env K K' r Q) (hs:F5 X E w s s' cx) {f:FuncId} {xs:List Value} {x:Value} {hp2:Heap} {fb fb2 rho2:List Nat} {ov:V} {oH:VH} {cr:j6} (own:∀ b,1<=cr b->b ∉ w.fb/\b ∉ w.j0/\∃ kb:l5,n7 hp2 b=some kb/\kb.md = .rw/\y8 hp2 w.j0 kb.j5)
 (hP:Prm ⟨hp2,w.j0,w.fb⟩ s.H oH cr (fun W c'=>RV W ov x c')) (h1:K (.val ov) { s with H:=oH } .A=some r) (q1:Y.call f xs w.hp=some (x,hp2)) (q2:hp2.take w.hp.length=w.hp)
 (q4:∀ i,cr i<=1) (q5:∀ i,i<w.hp.length->cr i=0) (q6:∀ i,hp2.length<=i->cr i=0) (q7:HW ⟨hp2,w.j0,w.fb⟩) (q9:E4 ⟨w.hp,[],fb,fun _=>0⟩ ⟨hp2,rho2,fb2⟩) (q10:HW ⟨hp2,rho2,fb2⟩) :
 ∃ r',((X0 Y.call f xs s'.hp).bind fun r=>K' (.val r.1) s'.loc r.2 .A)=some r'/\Q r':=by
 have hhp:=hs.hp
 obtain ⟨ce,cl,ch,g⟩:=hs
 have hq:X0 Y.call f xs s'.hp=some (x,hp2):=by
  unfold X0
  rw [hhp,q1]
  simp only [Option.bind_some]
  rw [if_pos q2]
 rw [hq]
 simp only [Option.bind_some]
 have hlen:=q9.len
 simp only at hlen
 have same:∀ b,b<w.hp.length->hp2[b]? = w.hp[b]?:=fun b hb=>by
  rw [List.getElem?_eq_getElem hb]
  exact q9.same b _ (List.getElem?_eq_getElem hb) y8.nil rfl
 have newf:∀ (b:Nat) (k:l5),w.hp.length<=b->hp2[b]? = some k->w.hp.length<=k.j5:=fun b k hb hk=>by
  rcases q9.j5 b k hb hk with (q | ⟨_,q,_⟩) | ⟨_,_,_,q,_⟩
  ·exact q
  ·cases q
  ·simp at q
 obtain ⟨ps,Hs,c',ch',e1,e2,e3,e4,e5,e6⟩:=hP.ex
 let FB:List Nat:=(List.range hp2.length).filter fun b=>decide (∃ p ∈ ps,∃ kp kb:l5,hp2[p]? = some kp/\hp2[b]? = some kb/\kb.j5=kp.j5)
 have hFB:∀ b,b ∈ FB<->b<hp2.length/\∃ p ∈ ps,∃ kp kb:l5,hp2[p]? = some kp/\hp2[b]? = some kb/\kb.j5=kp.j5:=fun b=>by
  simp only [FB,List.mem_filter,List.mem_range,decide_eq_true_eq]
 have pnew:∀ p ∈ ps,w.hp.length<=p:=fun p hp=>by
  have:=e4 p hp
  by_cases hlt:p<w.hp.length
  ·have:=q5 p hlt; omega
  ·omega
 have pown:∀ p ∈ ps,∃ kp:l5,hp2[p]? = some kp/\kp.md = .rw/\w.hp.length<=kp.j5/\p<hp2.length:=fun p hp=>by
  obtain ⟨_,_,kp,a1,a2,_⟩:=own p (e4 p hp)
  obtain ⟨b1,b2,b3⟩:=l6 a1
  exact ⟨kp,b1,a2,newf p kp (pnew p hp) b1,b3⟩
 have FBnew:∀ b ∈ FB,w.hp.length<=b:=fun b hb=>by
  obtain ⟨_,p,hp,kp,kb,a1,a2,a3⟩:=(hFB b).1 hb
  obtain ⟨kp',b1,_,b3,_⟩:=pown p hp
  rw [a1] at b1; cases b1
  by_cases hlt:b<w.hp.length
  ·rw [same b hlt] at a2
   have:=g.hw.j5 b kb a2; omega
  ·omega
 have hW:HW ⟨hp2,w.j0++ps,FB++w.fb⟩:=by
  refine ⟨fun b hb=>?_,q7.one,q7.j5,fun b hb=>?_,fun b hb=>?_,?_,fun b c kb kc hb hk hk' hff=>?_,q7.mrk⟩
  ·rcases List.mem_append.1 hb with hb | hb
   ·exact q7.obj b hb
   ·obtain ⟨kp,a1,a2,_⟩:=pown b hb
    exact ⟨kp,a1⟩
  ·rcases List.mem_append.1 hb with hb | hb
   ·exact ((hFB b).1 hb).1
   ·exact q7.Y0 b hb
  ·rcases List.mem_append.1 hb with hb | hb
   ·exact List.mem_append.2 (.inr (q7.sub b hb))
   ·obtain ⟨kp,a1,a2,_,a4⟩:=pown b hb
    exact List.mem_append.2 (.inl ((hFB b).2 ⟨a4,b,hb,kp,kp,a1,a1,rfl⟩))
  ·rw [List.nodup_append]
   exact ⟨q7.nd,e3,fun a ha b hb e=>by subst e; have:=g.hw.rlt a ha; have:=pnew a hb; omega⟩
  ·rcases List.mem_append.1 hb with hb | hb
   ·exact List.mem_append.2 (.inr (q7.fbf b c kb kc hb hk hk' hff))
   ·exact List.mem_append.2 (.inl ((hFB c).2 ⟨(List.getElem?_eq_some_iff.1 hk').1,b,hb,kb,kc,hk,hk',hff⟩))
 have hx:Ext w ⟨hp2,w.j0++ps,FB++w.fb⟩ (fun _=>True):=by
  refine ⟨fun b kb hb hn=>?_,fun k b h=>?_,fun j b kb _ hb=>⟨kb,by show hp2[b]? = _; rw [same b (List.getElem?_eq_some_iff.1 hb).1]; exact hb,rfl⟩⟩
  ·obtain ⟨a1,a2,a3⟩:=l6 hb
   refine ⟨kb,y9 (by show hp2[b]? = _; rw [same b a3]; exact a1) a2,fun c hc q hq=>?_,fun h h'=>?_,rfl,rfl,fun _=>⟨rfl,rfl⟩⟩
   ·have hq':hp2[c]? = some q:=hq
    rcases List.mem_append.1 hc with hc | hc
    ·exact hn c hc q (by rw [<-same c (g.hw.rlt c hc)]; exact hq')
    ·have:=newf c q (pnew c hc) hq'
     have:=g.hw.j5 b kb a1
     omega
   ·rcases List.mem_append.1 h' with h' | h'
    ·have:=FBnew b h'; omega
    ·exact h h'
  ·show (w.j0++ps)[k]? = _
   rw [List.getElem?_append_left (List.getElem?_eq_some_iff.1 h).1]; exact h
 have hfr:E4 E ⟨hp2,w.j0++ps,FB++w.fb⟩:=g.fr.trans q9 g.hw q10 (by simp) (by simp) rfl (by
  obtain ⟨r0,a1,a2⟩:=g.fr.j0
  have hl:=g.fr.len
  refine ⟨r0++ps,by show w.j0++ps=_; rw [a1,List.append_assoc],fun b hb=>?_⟩
  rcases List.mem_append.1 hb with hb | hb
  ·refine ⟨(a2 b hb).1,fun k hk=>?_⟩
   have hk':hp2[b]? = some k:=hk
   rw [same b (g.hw.rlt b (by rw [a1]; exact List.mem_append.2 (.inr hb)))] at hk'
   exact (a2 b hb).2 k hk'
  ·have:=pnew b hb
   refine ⟨by omega,fun k hk=>?_⟩
   have:=newf b k this hk; left; omega) (by
  obtain ⟨r0,a1,a2⟩:=g.fr.fb
  have hl:=g.fr.len
  refine ⟨FB++r0,by show FB++w.fb=_; rw [a1,List.append_assoc],fun b hb=>?_⟩
  rcases List.mem_append.1 hb with hb | hb
  ·have:=FBnew b hb; omega
  ·exact a2 b hb)
 obtain ⟨p1,o1⟩:=e6 ⟨hp2,w.j0++ps,FB++w.fb⟩ rfl (fun j hj=>by
  show (w.j0++ps)[_]? = _
  rw [<-g.obj.len,List.getElem?_append_right (by omega)]
  congr 1; omega) (fun b k hb hk=>by
  have hcb:=e5 b
  have hnb:b ∉ ps:=fun hp=>by rw [if_pos hp] at hcb; have:=q4 b; omega
  rw [if_neg hnb] at hcb
  obtain ⟨a1,_,kb,a3,a4,a5⟩:=own b (by omega)
  have hkb:=(l6 a3).1
  have hk':hp2[b]? = some k:=hk
  have hkb':hp2[b]? = some kb:=hkb
  rw [hk'] at hkb'; cases hkb'
  have ne:∀ p ∈ ps,∀ kp:l5,hp2[p]? = some kp->kp.j5 ≠ k.j5:=fun p hp kp hkp e=>by
   obtain ⟨kp',b1,b2,_⟩:=pown p hp
   rw [hkp] at b1; cases b1
   exact hnb (q7.one p b kp k hkp hk' b2 a4 e ▸ hp)
  refine ⟨fun h=>?_,fun c hc q hq=>?_⟩
  ·rcases List.mem_append.1 h with h | h
   ·obtain ⟨_,p,hp,kp,kb,b1,b2,b3⟩:=(hFB b).1 h
    rw [hk'] at b2; cases b2
    exact ne p hp kp b1 b3.symm
   ·exact a1 h
  ·rcases List.mem_append.1 hc with hc | hc
   ·exact a5 c hc q hq
   ·exact ne c hc q hq)
 have hobj:w7 ⟨hp2,w.j0++ps,FB++w.fb⟩ oH (w.j0++ps) (fun i=>ch i+ch' i):=by
  rw [e1]
  exact (g.obj.mono hx (fun b hb => .eq (same b (g.hw.rlt b hb))) (fun _ _=>trivial)).app o1
 have cnt:∀ i,c' i+ch' i<=cr i:=fun i=>by have:=e5 i; omega
 refine hK ⟨hp2,w.j0++ps,FB++w.fb⟩ (.val ov) (.val x) _ _ _ c' h1 (by simp only [RE]; exact p1) ⟨ce,cl,_,rfl,hW,g.gl.mono hx,hfr,g.env.mono hx (fun _ _=>trivial),g.loc.mono hx (fun _ _=>trivial),g.aaW,hobj,fun i=>?_,fun i hi=>?_,fun i hi=>?_⟩
 ·have:=cnt i
  by_cases hi:i<w.hp.length
  ·have:=q5 i hi; have:=g.N2 i; omega
  ·have:=g.O3 i (by omega); have:=q4 i; omega
 ·have:=cnt i; have:=q5 i (by have:=g.fr.len; omega); have:=g.R6 i hi; omega
 ·have:=cnt i; have:=q6 i hi; have:=g.O3 i (by simp only at hi; omega); omega
theorem aox {cx:j6} (hK:aki X E s'.env K K' r Q) (hs:F5 X E w s s' cx) {f:FuncId} {xs:List Value} {x:Value} {hp2:Heap} {fb fb2 rho2:List Nat} {rv:V} {cr:j6} {d:Nat} (ho:L3 rv=true) (h1:K (.val (prom d s.H rv).1) { s with H:=(prom d s.H rv).2 } .A=some r) (q1:Y.call f xs w.hp=some (x,hp2)) (q2:hp2.take w.hp.length=w.hp)
 (q3:RV ⟨hp2,w.j0,w.fb⟩ rv x cr) (q4:∀ i,cr i<=1) (q5:∀ i,i<w.hp.length->cr i=0) (q6:∀ i,hp2.length<=i->cr i=0) (q7:HW ⟨hp2,w.j0,w.fb⟩) (q9:E4 ⟨w.hp,[],fb,fun _=>0⟩ ⟨hp2,rho2,fb2⟩) (q10:HW ⟨hp2,rho2,fb2⟩) :
 ∃ r',((X0 Y.call f xs s'.hp).bind fun r=>K' (.val r.1) s'.loc r.2 .A)=some r'/\Q r' :=
 ahU hK hs (fun b hb=>RV.owned rv q3 b hb) (aj3 rv d s.H ho q3 q4) h1 q1 q2 q4 q5 q6 q7 q9 q10
theorem c9.text {w w':Wd}:∀ {cs:List V} {xs:List Value} {c:j6},agt cs=true->c9 w cs xs c->c9 w' cs xs (fun _=>0)
 | [],xs,c,ht,h=>by simp only [c9] at *; exact ⟨h.1,by simp⟩
 | v::cs,xs,c,ht,h=>by
   cases v with
   | str s =>
     simp only [c9,RV] at h ⊢
     obtain ⟨x,ys,c1,c2,h1,⟨h2,_⟩,h3,_⟩:=h
     exact ⟨x,ys,fun _=>0,fun _=>0,h1,⟨h2,by simp⟩,c9.text (cs:=cs) ht h3,by simp⟩
   | _=>simp [agt] at ht
theorem auB (hT:aa9 X) (hcall:∀ f args H r H',X.call f args H=some (r,H')->D4 X Y.call f args H r H') {cx:j6} (hK:aki X E s'.env K K' r Q) (hs:F5 X E w s s' cx) {f:FuncId} {vs:List V} {xs:List Value} {c1:j6} (h2:c9 w vs xs c1) {rv:V × VH} (hr:acx X.call f s.H vs=some rv) (h1:K (.val rv.1) { s with H:=rv.2 } .A=some r) :
 ∃ r',((X0 Y.call f xs s'.hp).bind fun r=>K' (.val r.1) s'.loc r.2 .A)=some r'/\Q r':=by
 have hs':=hs
 obtain ⟨ce,cl,ch,g⟩:=hs'
 unfold acx at hr
 split at hr
 ·rename_i hn
  obtain ⟨⟨rv',H'⟩,hr1,hr2⟩:=a7 hr
  simp only at hr2
  split at hr2
  ·rename_i k off n e
   obtain ⟨cs,hcs,hr3⟩:=a7 hr2
   split at hr3
   ·rename_i htx
    cases hr3
    simp only [Bool.and_eq_true] at htx
    obtain ⟨x,hp2,fb2,rho2,cr,q1,q2,q3,q4,q5,q6,q7,q8,q9,q10,ch',q13,q14,q15,q16⟩:=acQ g.hw g.gl hT.gd [] (by simp) (abS (w:=w) (wc:=⟨w.hp,[],[]⟩) rfl rfl rfl g.hw g.obj 3 h2 hn) (hcall _ _ _ _ _ hr1)
    simp only [RV] at q3
    obtain ⟨⟨b,cc,kb,b1,b2,b3,b4,rfl⟩,_⟩:=q3
    have hne:cs ≠ []:=fun e=>by subst e; simp at htx
    obtain ⟨b',kb',d1,d2,a1,a2,a3,a4,a5,a6⟩:=q13.get hcs hne
    rw [b1] at a1; cases a1
    have b2':hp2[b]? = some kb:=b2
    have a2':hp2[b]? = some kb':=a2
    rw [b2'] at a2'; cases a2'
    have hbm:=List.mem_of_getElem? b1
    have hge:w.hp.length<=b:=q8.akA (w:=⟨hp2,rho2,fb2⟩) hbm (by simp)
    have hlt:=(List.getElem?_eq_some_iff.1 b2').1
    obtain ⟨n1,n2⟩:=q10 b kb hge b2'
    refine ahU hK hs (cr:=fun i=>if i=b then 1 else 0) (fun i hi=>?_) ⟨[b],[cs],fun _=>0,fun _=>0,rfl,rfl,by simp,fun p hp=>by simp at hp; subst hp; simp,fun i=>by by_cases q:i=b<;>simp [q],fun W hW hr hb=>⟨?_,?_⟩⟩ h1 q1 q2 (fun i=>by show (if i=b then 1 else 0)<=1; split<;>omega) (fun i hi=>by show (if i=b then 1 else 0)=0; rw [if_neg (by omega)]) (fun i hi=>by show (if i=b then 1 else 0)=0; rw [if_neg (by omega)]) q7 q8 q9
    ·have:i=b:=by
      by_cases q:i=b
      ·exact q
      ·simp only [if_neg q] at hi; omega
     subst this
     exact ⟨n1,fun h=>by have:=g.hw.rlt _ h; omega,kb,y9 b2' (by rw [a6]; simp),a6,n2⟩
    ·have:=hr 0 (by simp)
     simp only [Nat.add_zero,List.getElem?_cons_zero] at this
     simp only [RV]
     exact ⟨⟨b,cc,kb,this,by rw [hW]; exact b2',b3,b4,rfl⟩,by simp⟩
    ·simp only [w7]
     exact ⟨b,[],kb,fun _=>0,fun _=>0,rfl,by rw [hW]; exact b2',.inr ⟨a6,c9.text htx.1 a3⟩,⟨rfl,by simp⟩,by simp⟩
   ·cases hr3
  ·obtain ⟨⟨v',G',H2⟩,hr3,rfl⟩:=Option.map_eq_some_iff.1 hr2
   obtain ⟨x,hp2,fb2,rho2,cr,q1,q2,q3,q4,q5,q6,q7,q8,q9,q10,ch',q13,q14,q15,q16⟩:=acQ g.hw g.gl hT.gd [] (by simp) (abS (w:=w) (wc:=⟨w.hp,[],[]⟩) rfl rfl rfl g.hw g.obj 3 h2 hn) (hcall _ _ _ _ _ hr1)
   have hge:∀ b ∈ rho2,w.hp.length<=b:=fun b hb=>q8.akA (w:=⟨hp2,rho2,fb2⟩) hb (by simp)
   have hlo:∀ i,cr i+ch' i+LO H' rho2 i<=1:=fun i=>ax7 (w:=⟨hp2,rho2,fb2⟩) q9 q13 q3 q14 i
   obtain ⟨c',ch2,p1,p2,p3,p4⟩:=alA (w:=⟨hp2,rho2,fb2⟩) q9 5 (H:=s.H) q13 q3 hlo hr3
   have z5:∀ i,i<w.hp.length->c' i=0:=fun i hi=>by
    have:=p3 i; have:=q15 i hi
    have:LO H' rho2 i=0:=aer (fun hm=>by have:=hge i hm; omega)
    simp only at *
    omega
   have z6:∀ i,hp2.length<=i->c' i=0:=fun i hi=>by
    have:=p3 i; have:=q16 i hi
    have:LO H' rho2 i=0:=aer (fun hm=>by
     obtain ⟨kb,o1⟩:=q9.obj i hm
     have:=(List.getElem?_eq_some_iff.1 o1).1
     simp only at this
     omega)
    simp only at *
    omega
   refine ahU hK hs (cr:=c') (fun i hi=>?_) ⟨p2.ex⟩ h1 q1 q2 (fun i=>by have:=p3 i; have:=hlo i; simp only at *; omega) z5 z6 q7 q8 q9
   obtain ⟨kb,k1,k2⟩:=p4 i hi
   have hge2:w.hp.length<=i:=by
    by_cases q:i<w.hp.length
    ·have:=z5 i q; omega
    ·omega
   obtain ⟨n1,n2⟩:=q10 i kb hge2 k1
   exact ⟨n1,fun h=>by have:=g.hw.rlt _ h; omega,kb,y9 k1 (by rw [k2]; simp),k2,n2⟩
 ·cases hr
set_option maxHeartbeats 4000000 in
theorem ayy (ht:Twin X Y) (hT:aa9 X) (hcall:∀ f args H r H',X.call f args H=some (r,H')->D4 X Y.call f args H r H')
 (hs:F5 X E w s s' (fun _=>0)) (h:A7 X A T o s K=some r) (hK:aki X E s'.env K K' r Q):∃ r',C1 Y A o s' K'=some r'/\Q r':=by
 have hhp:=hs.hp
 unfold A7 at h
 unfold C1
 cases hop:o.op with
 | move x =>
   simp only [hop] at h ⊢
   split at h
   ·obtain ⟨e,e',c,h1,h2,h3,h4⟩:=aam ht hs h
    rw [h4,hhp]
    exact hK w e e' _ _ _ c h1 h2 (h3.less (by simp)).self
   ·obtain ⟨e,e',c,h1,h2,h3,h4⟩:=aam ht hs h
    rw [h4,hhp]
    exact hK w (aao e) e' _ _ _ (fun _=>0) h1 h2.aao (hs.less (by simp)).self
 | assign x =>
   simp only [hop] at h ⊢
   split at h
   ·obtain ⟨e,e',c,h1,h2,h3,h4⟩:=aam ht hs h
    rw [h4,hhp]
    exact hK w e e' _ _ _ c h1 h2 (h3.less (by simp)).self
   ·obtain ⟨e,e',c,h1,h2,h3,h4⟩:=aam ht hs h
    rw [h4,hhp]
    exact hK w (aao e) e' _ _ _ (fun _=>0) h1 h2.aao (hs.less (by simp)).self
 | pick cc x y =>
   simp only [hop] at h ⊢
   obtain ⟨vc,xc,c0,h1,h2,_,h4⟩:=B3 ht hs h
   obtain ⟨ea,ea',ca,g1,g2,g3,g4⟩:=aam ht hs h1
   obtain ⟨eb,eb',cb,k1,k2,k3,k4⟩:=aam ht g3 g1
   rw [h4,g4,k4]
   have hb:∀ {S:Type} {p q:Option S} {a:S},l7 vc p q=some a->(vc = .bool true/\p=some a)\/(vc = .bool false/\q=some a):=by
    intro S p q a hh
    unfold l7 at hh
    split at hh
    ·exact .inl ⟨rfl,hh⟩
    ·exact .inr ⟨rfl,hh⟩
    ·cases hh
   split at k1
   ·-- D7,val
    cases ea'<;>simp only [RE] at g2
    cases eb'<;>simp only [RE] at k2
    rcases hb k1 with ⟨rfl,hh⟩ | ⟨rfl,hh⟩
    ·cases hh
    ·simp only [RV] at h2
     simp only [h2.1,U1,hhp]
     exact hK w _ _ _ _ _ cb hh (by simpa only [RE] using k2) (k3.less (by simp)).self
   ·-- val,D7
    cases ea'<;>simp only [RE] at g2
    cases eb'<;>simp only [RE] at k2
    rcases hb k1 with ⟨rfl,hh⟩ | ⟨rfl,hh⟩
    ·simp only [RV] at h2
     simp only [h2.1,U1,hhp]
     exact hK w _ _ _ _ _ ca hh (by simpa only [RE] using g2) (k3.less (by simp)).self
    ·cases hh
   ·-- val,val
    cases ea'<;>simp only [RE] at g2
    cases eb'<;>simp only [RE] at k2
    obtain ⟨v,hv,k1⟩:=a7 k1
    unfold ati at hv
    split at hv
    ·cases hv
     simp only [RV] at h2
     simp only [h2.1,ant,Option.bind_some,hhp]
     exact hK w _ _ _ _ _ ca k1 (by simpa only [RE] using g2) (k3.less (by simp)).self
    ·cases hv
     simp only [RV] at h2
     simp only [h2.1,ant,Option.bind_some,hhp]
     exact hK w _ _ _ _ _ cb k1 (by simpa only [RE] using k2) (k3.less (by simp)).self
    ·cases hv
   ·cases k1
 | alloc elem =>
   simp only [hop] at h ⊢
   rw [ht.tab]
   split at h
   ·rename_i ti d hti hd
    simp only [hti,hd]
    have hz:=aae (w:=w) (hT.zero _ _ hti)
    split at h
    ·rename_i hm
     simp only [hm]
     split at h
     ·rename_i hl
      obtain ⟨ce,cl,ch,g⟩:=hs
      simp only [g.aaW d hl,hhp]
      exact hK w _ (.loc d 0) _ _ _ (fun _=>0) h (by simp [RE]) (g.atb hl hz (by simp))
     ·cases h
    ·rename_i hm
     simp only [hm]
     obtain ⟨ce,cl,ch,g⟩:=hs
     obtain ⟨w2,h1,h2,h3⟩:=ads g hz (by simp) ti.size true (fun h=>by cases h)
     rw [hhp,<-h1]
     exact hK w2 _ _ _ _ _ (fun _=>0) h h3 h2.self
   ·cases h
 | box elem x =>
   simp only [hop] at h ⊢
   rw [ht.tab]
   split at h
   ·rename_i ti d hti hd
    simp only [hti,hd]
    obtain ⟨v,x',c,h1,h2,h3,h4⟩:=acd ht hs h
    obtain ⟨cs,xs,g1,g2,g3,_⟩:=ah2 h1 h2
    rw [h4,g3]
    obtain ⟨ce,cl,ch,g⟩:=h3
    split at g1
    ·rename_i hm
     simp only [hm]
     split at g1
     ·rename_i hl
      have hl':look (used s x).loc d=none:=hl
      simp only [g.aaW d hl',hhp]
      exact hK w _ (.loc d 0) _ _ _ (fun _=>0) g1 (by simp [RE]) (g.atb hl' g2 (by simp))
     ·cases g1
    ·rename_i hm
     simp only [hm]
     obtain ⟨w2,k1,k2,k3⟩:=ads g g2 (by simp) ti.size true (fun h=>by cases h)
     rw [hhp,<-k1]
     exact hK w2 _ _ _ _ _ (fun _=>0) g1 k3 k2.self
   ·cases h
 | build t parts =>
   simp only [hop] at h ⊢
   rw [ht.tab]
   split at h
   ·rename_i fs z ag n hti
    simp only [hti]
    have hz:=aae (w:=w) (hT.zero _ _ hti)
    obtain ⟨cs,s2,ys,c,h1,h2,h3,h4,h5⟩:=aft ht hs hz h
    rw [h5,hhp]
    exact hK w (.val (.agg cs)) (.val (.agg ys.toArray)) _ _ _ c h1 (by simp only [RE,RV]; exact ⟨ys,rfl,h2⟩) h3.self
   ·rename_i na b9 z ag n hti
    simp only [hti]
    have hz:=aae (w:=w) (hT.zero _ _ hti)
    obtain ⟨cs,s2,ys,c,h1,h2,h3,h4,h5⟩:=aft ht hs hz h
    rw [h5,hhp]
    exact hK w (.val (.agg cs)) (.val (.agg ys.toArray)) _ _ _ c h1 (by simp only [RE,RV]; exact ⟨ys,rfl,h2⟩) h3.self
   ·cases h
 | buildSlice t len parts =>
   simp only [hop] at h ⊢
   rw [ht.tab]
   split at h
   ·rename_i e b9 eb z ag n zz hti
    simp only [hti]
    split at h
    ·rename_i te hte
     simp only [hte]
     split at h
     ·rename_i hb
      simp only [hb]
      obtain ⟨q1,q2,q3⟩:=hT.sl _ _ _ _ _ _ _ _ hti
      have hz:=amm (aae (w:=w) q1) len
      obtain ⟨cs,s2,ys,c,h1,h2,h3,h4,h5⟩:=aft ht hs hz h
      rw [h5,hhp]
      have hlen:cs.length=len*b9:=by rw [h4,auV,List.length_map,q2]
      have hch:=aaC h2 hlen
      obtain ⟨ce,cl,ch,g⟩:=h3
      have hx:=aoX g.hw ⟨ys,b9,.rw,w.hp.length,true⟩ (fun _=>True)
      have g':=g.move hx (fun _ _=>trivial) (g.hw.push rfl (fun h=>by cases h)) (g.fr.push g.hw rfl) (fun b hb => .eq (by show (w.hp++_)[b]? = _; rw [List.getElem?_append_left (g.hw.Y0 _ (g.hw.sub _ hb))])) rfl (by simp)
      have hcl:(A3 b9 len cs).length=len:=by
       have:∀ (n:Nat) (l:List V),(A3 b9 n l).length=n:=by
        intro n; induction n with
        | zero=>intro l; rfl
        | succ n ih=>intro l; simp only [A3,List.length_cons,ih]
       exact this _ _
      by_cases h0:A3 b9 len cs=[]
      ·refine hK { w with hp:=w.hp++[⟨ys,b9,.rw,w.hp.length,true⟩] } (.fl (A3 b9 len cs)) _ _ _ _ c h1 ?_ ⟨ce,cl,ch,g'⟩
       simp only [RE,RV,O7]
       refine ⟨?_,_,by rw [hcl]⟩
       left
       have hl0:len=0:=by rw [h0] at hcl; simpa using hcl.symm
       refine ⟨h0,⟨_,_,by rw [hl0],fun _=>rfl⟩,?_⟩
       rw [h0] at hch
       simp only [l8] at hch; exact hch.2
      ·have hfl:=g.fr.len
       refine hK { w with hp:=w.hp++[⟨ys,b9,.rw,w.hp.length,true⟩] } (.fl (A3 b9 len cs)) _ _ _ _ (fun i=>c i+if i=w.hp.length then 1 else 0) h1 ?_ ⟨ce,cl,ch,{ g' with N2:=fun i=>?_,R6:=fun i hi=>?_,O3:=fun i hi=>?_ }⟩
       rotate_left
       ·have:=g.N2 i
        by_cases e:i=w.hp.length
        ·have:=g.O3 i (by omega); rw [if_pos e]; omega
        ·rw [if_neg e]; omega
       ·have:=g.R6 i hi
        rw [if_neg (by omega)]; omega
       ·have hi':(w.hp++[(⟨ys,b9,.rw,w.hp.length,true⟩:l5)]).length<=i:=hi
        simp at hi'
        have:=g.O3 i (by omega)
        rw [if_neg (by omega)]; omega
       simp only [RE,RV,O7]
       refine ⟨?_,_,by rw [hcl]⟩
       right
       have hyl:=hch.len
       refine ⟨h0,w.hp.length,0,⟨ys,b9,.rw,w.hp.length,true⟩,ys,len,c,aqD (by simp),?_,?_,by rw [hcl],q3,?_,l8.mono hx _ hch (fun _ _=>trivial),.inr ⟨trivial,⟨rfl,rfl⟩,rfl,hyl.symm,fun i=>rfl⟩⟩
       ·intro hb; have:=g.hw.Y0 _ hb; omega
       ·exact (show y8 w.hp w.j0 w.hp.length from fun b hb q hq=>by have:=g.hw.j5 b q hq; omega).push g.hw.rlt
       ·have hyl':ys.length=(A3 b9 len cs).length*b9:=hyl
        show L4 ys 0 ((A3 b9 len cs).length*b9)=some ys
        rw [N0 (by omega)]
        simp only [List.drop_zero]
        rw [List.take_of_length_le (by omega)]
     ·cases h
    ·cases h
   ·cases h
 | load t x =>
   simp only [hop] at h ⊢
   rw [ht.tab]
   split at h
   ·rename_i ti hti
    simp only [hti]
    obtain ⟨e,e',c,h1,h2,h3,h4⟩:=aam ht hs h
    rw [h4]
    split at h1
    ·-- a local
     rename_i k off
     cases e'<;>simp only [RE] at h2
     obtain ⟨rfl,rfl,_⟩:=h2
     split at h1
     ·rename_i cs hl
      obtain ⟨⟨v,cs2⟩,hld,h1⟩:=a7 h1
      obtain ⟨ce,cl,ch,g⟩:=hs
      obtain ⟨ws,c1,c2,g1,g2,g3,g4⟩:=g.loc.look hl
      obtain ⟨z,d1,d2,k1,k2,k3,k4⟩:=ajU hld g2
      have hset:=g4 cs2 ws d2 k3
      have hsame:Z0 s'.loc k ws=s'.loc:=by
       have:∀ {l:List (Nat × List Value)},look l k=some ws->Z0 l k ws=l:=by
        intro l
        induction l with
        | nil=>intro h; rfl
        | cons p l ih =>
          intro h
          obtain ⟨q,v⟩:=p
          by_cases e:q=k
          ·subst e
           have hb:Nat.beq q q=true:=Nat.beq_refl q
           simp only [look,hb] at h
           cases h; simp only [Z0,hb]
          ·simp only [look,X9 e] at h
           simp only [Z0,X9 e,ih h]
       exact this g1
      rw [hsame] at hset
      have hst:F5 X E w { s with loc:=Q6 s.loc k cs2 } s' d1:=by
       refine ⟨ce,fun i=>d2 i+c2 i,ch,g.hp,g.hw,g.gl,g.fr,g.env,hset,fun j hj=>g.aaW j (ad2 hj),g.obj,fun i=>?_,fun i hi=>?_,fun i hi=>?_⟩
       ·have:=g.N2 i; have:=g3 i; have:=k4 i; omega
       ·have:=g.R6 i hi; have:=g3 i; have:=k4 i; omega
       ·have:=g.O3 i hi; have:=g3 i; have:=k4 i; omega
      simp only [g1,hhp]
      cases hag:ti.agg with
      | true =>
        rw [hag] at k1
        simp only at k1
        cases hcut:cut ws off ti.size with
        | none=>rw [hcut] at k1; cases k1
        | some m =>
          rw [hcut] at k1; cases k1
          simp only [Option.bind_some]
          exact hK w _ _ _ _ _ d1 h1 (by simp only [RE]; exact k2) hst.self
      | false =>
        rw [hag] at k1
        simp only at k1
        simp only [k1,Option.bind_some]
        exact hK w _ _ _ _ _ d1 h1 (by simp only [RE]; exact k2) hst.self
     ·cases h1
    ·rename_i p
     obtain ⟨⟨v,H2⟩,hld,h1⟩:=a7 h1
     cases e'<;>simp only [RE] at h2
     rename_i x'
     unfold G7 at hld
     split at hld
     ·-- an object
      rename_i k off
      simp only [RV] at h2
      obtain ⟨⟨b,hb1,rfl⟩,_⟩:=h2
      split at hld
      ·rename_i cs hl
       obtain ⟨⟨v',cs2⟩,hlc,heq⟩:=Option.map_eq_some_iff.1 hld
       cases heq
       obtain ⟨ce,cl,ch,g⟩:=hs
       obtain ⟨b',kb,c1,c2,g1,g2,g3,g4,g5,o2⟩:=g.obj.get hl (aou hlc (hT.pos _ _ hti))
       rw [hb1] at g1; cases g1
       obtain ⟨z,d1,d2,k1,k2,k3,k4⟩:=ajU hlc g3
       have hst:F5 X E w { s with H:=s.H.set k cs2 } s' d1:=by
        refine ⟨ce,cl,fun i=>d2 i+c2 i,g.hp,g.hw,g.gl,g.fr,g.env,g.loc,g.aaW,g5 cs2 d2 k3,fun i=>?_,fun i hi=>?_,fun i hi=>?_⟩
        ·have:=g.N2 i; have:=g4 i; have:=k4 i; omega
        ·have:=g.R6 i hi; have:=g4 i; have:=k4 i; omega
        ·have:=g.O3 i hi; have:=g4 i; have:=k4 i; omega
       have hload:abd s'.hp ti.agg ti.size (.pointer (some ⟨b,off,none⟩))=some z:=by
        simp only [abd,hhp,y9 g2 (by rw [o2]; simp),Option.bind_some]; exact k1
       simp only [hload,Option.bind_some]
       rw [hhp]
       exact hK w _ _ _ _ _ d1 h1 (by simp only [RE]; exact k2) hst.self
      ·cases hld
     ·-- an element
      rename_i cs off
      simp only [RV] at h2
      obtain ⟨⟨b,o',kb,ws,b1,b2,rfl,b3,b4⟩,_⟩:=h2
      cases hv:aiM ti.agg ti.size cs off with
      | none=>rw [hv] at hld; cases hld
      | some v' =>
        rw [hv] at hld
        cases hld
        obtain ⟨z,k1,k2⟩:=am0 hv b4
        have hload:abd s'.hp ti.agg ti.size (.pointer (some ⟨b,o'+off,none⟩))=some z:=by
         simp only [abd,hhp,b1,Option.bind_some]
         cases hag:ti.agg with
         | true =>
           rw [hag] at k1
           simp only at k1 ⊢
           cases hcut:cut ws off ti.size with
           | none=>rw [hcut] at k1; cases k1
           | some m =>
             rw [hcut] at k1; cases k1
             have:cut kb.cells (o'+off) ti.size=some m:=aff b3 hcut
             rw [this]; rfl
         | false =>
           rw [hag] at k1
           simp only at k1 ⊢
           exact acN (aff b3 (acS k1))
        simp only [hload,Option.bind_some]
        exact hK.pure h1 k2 hs
     ·-- a package variable
      rename_i g0 off
      simp only [RV] at h2
      obtain ⟨rfl,_⟩:=h2
      split at hld
      ·rename_i cs hg
       cases hv:aiM ti.agg ti.size cs off with
       | none=>rw [hv] at hld; cases hld
       | some v' =>
         rw [hv] at hld
         cases hld
         have hgl:J9 X w:=by obtain ⟨_,_,_,g⟩:=hs; exact g.gl
         obtain ⟨kb,b1,b2,b3,_⟩:=hgl.1 g0 cs hg
         obtain ⟨z,k1,k2⟩:=am0 hv b3
         have hload:abd s'.hp ti.agg ti.size (.pointer (some ⟨g0,off,none⟩))=some z:=by
          simp only [abd,hhp,b1,Option.bind_some]; exact k1
         simp only [hload,Option.bind_some]
         exact hK.pure h1 k2 hs
      ·cases hld
     ·cases hld
    ·cases h1
   ·cases h
 | store t x y =>
   simp only [hop] at h ⊢
   rw [ht.tab]
   split at h
   ·rename_i ti hti
    simp only [hti]
    obtain ⟨e,e',c,h1,h2,_,h4⟩:=aam ht hs h
    obtain ⟨v,x',cv,g1,g2,g3,g4⟩:=acd ht hs h1
    obtain ⟨cs,xs,k1,k2,k3,k5⟩:=ah2 g1 g2
    rw [h4,g4,k3]
    obtain ⟨ce,cl,ch,g⟩:=g3
    split at k1
    ·rename_i k off
     cases e'<;>simp only [RE] at h2
     obtain ⟨rfl,rfl,_⟩:=h2
     split at k1
     ·rename_i w6 hl
      split at k1
      ·rename_i hb
       have hle:=Nat.le_of_ble_eq_true hb
       obtain ⟨ws,c1,c2,m1,m2,m3,m4⟩:=g.loc.look hl
       obtain ⟨c',n1,n2⟩:=m2.seg k2 hle
       have hb':Nat.ble (off+xs.length) ws.length=true:=by rw [<-k2.len,<-m2.len]; exact hb
       simp only [m1,hb',hhp]
       refine hK w .D7 .D7 _ _ _ (fun _=>0) k1 (by simp [RE]) ⟨ce,fun i=>c' i+c2 i,ch,rfl,g.hw,g.gl,g.fr,g.env,m4 _ _ c' n1,fun j hj=>asJ (g.aaW j (ad2 hj)),g.obj,fun i=>?_,fun i hi=>?_,fun i hi=>?_⟩
       ·have:=g.N2 i; have:=m3 i; have:=n2 i; omega
       ·have:=g.R6 i hi; have:=m3 i; have:=n2 i; omega
       ·have:=g.O3 i hi; have:=m3 i; have:=n2 i; omega
      ·cases k1
     ·cases k1
    ·rename_i p0
     cases e'<;>simp only [RE] at h2
     rename_i p
     obtain ⟨H2,hst,k1⟩:=a7 k1
     unfold stO at hst
     split at hst
     ·rename_i k off
      split at hst
      ·rename_i w6 hl
       split at hst
       ·rename_i hb
        cases hst
        have hle:=Nat.le_of_ble_eq_true hb
        obtain ⟨w2,n1,n2⟩:=ar9 g h2 hl k2 (by simp) hle (k5 (hT.pos _ _ hti))
        simp only [hhp,n1,Option.bind_some]
        exact hK w2 .D7 .D7 _ _ _ (fun _=>0) k1 (by simp [RE]) n2.self
       ·cases hst
      ·cases hst
     ·cases hst
    ·cases k1
   ·cases h
 | nilCheck x =>
   simp only [hop] at h ⊢
   obtain ⟨e,e',c,h1,h2,_,h4⟩:=aam ht hs h
   rw [h4]
   split at h1
   ·cases e'<;>simp only [RE] at h2
    obtain ⟨rfl,rfl,_⟩:=h2
    rw [hhp]
    exact hK w _ _ _ _ _ (fun _=>0) h1 (by simp [RE]) hs.self
   ·rename_i p0
    cases e'<;>simp only [RE] at h2
    obtain ⟨v,hv,h1⟩:=a7 h1
    have h2':=h2
    unfold R8 at hv
    split at hv
    ·cases hv
     simp only [RV] at h2
     obtain ⟨⟨b,hb1,rfl⟩,h0⟩:=h2
     simp only [alM,Option.bind_some]
     exact hK.pure h1 (h2'.congr (fun i=>(h0 i).symm)) hs
    ·cases hv
     simp only [RV] at h2
     obtain ⟨rfl,h0⟩:=h2
     simp only [alM,Option.bind_some]
     exact hK.pure h1 (h2'.congr (fun i=>(h0 i).symm)) hs
    ·cases hv
     simp only [RV] at h2
     obtain ⟨⟨b,o',kb,ws,b1,b2,rfl,b3,b4⟩,h0⟩:=h2
     simp only [alM,Option.bind_some]
     exact hK.pure h1 (h2'.congr (fun i=>(h0 i).symm)) hs
    ·cases hv
     simp only [RV] at h2
     obtain ⟨⟨ws,rfl,b1⟩,h0⟩:=h2
     simp only [alM,Option.bind_some]
     exact hK.pure h1 (h2'.congr (fun i=>(h0 i).symm)) hs
    ·cases hv
   ·cases h1
 | binOp op t x y yt =>
   simp only [hop] at h ⊢
   rw [ht.tab]
   split at h
   ·rename_i ti hti
    simp only [hti]
    split at h
    ·rename_i hn
     rw [Bool.and_eq_true,Bool.not_eq_true'] at hn
     obtain ⟨hn,he⟩:=hn
     have e2:∀ a b,agw ti op a b=T4 ti.k op a b:=fun a b=>by unfold agw; rw [he]
     obtain ⟨hk,rfl⟩:=apE hn
     obtain ⟨a,x',c,h1,h2,_,h4⟩:=B3 ht hs h
     obtain ⟨v,hv,h1⟩:=a7 h1
     obtain ⟨z,k1,k2⟩:=awK hk hv h2
     rw [h4]
     have e:∀ (K2:Value->Option R'),F9 Y s' (.const (.slice none 0 0)) K2=K2 (.slice none 0 0):=fun K2=>rfl
     rw [e,e2,k1]
     exact hK.pure h1 k2 hs
    ·obtain ⟨a,x',c,h1,h2,_,h4⟩:=B3 ht hs h
     obtain ⟨b,y',d,g1,g2,_,g4⟩:=B3 ht hs h1
     obtain ⟨v,hv,g1⟩:=a7 g1
     obtain ⟨z,k1,k2⟩:=at6 hv h2 g2
     rw [h4,g4,k1]
     exact hK.pure g1 k2 hs
   ·cases h
 | unOp op t x =>
   simp only [hop] at h ⊢
   obtain ⟨a,x',c,h1,h2,_,h4⟩:=B3 ht hs h
   obtain ⟨v,hv,h1⟩:=a7 h1
   obtain ⟨z,k1,k2⟩:=awX hv h2
   rw [h4,k1]
   exact hK.pure h1 k2 hs
 | convert src dst x =>
   simp only [hop] at h ⊢
   rw [ht.tab]
   split at h
   ·rename_i ts td hts htd
    simp only [hts,htd]
    obtain ⟨a,x',c,h1,h2,_,h4⟩:=B3 ht hs h
    rw [h4]
    split at h1
    ·rename_i k k' hk hk'
     obtain ⟨v,hv,h1⟩:=a7 h1
     obtain ⟨z,k1,k2⟩:=au7 hv h2
     simp only [hk,hk',k1,Option.bind_some]
     exact hK.pure h1 k2 hs
    ·rename_i hk hk'
     obtain ⟨v,hv,h1⟩:=a7 h1
     obtain ⟨z,k1,k2⟩:=auq hv h2
     simp only [hk,hk',k1,Option.bind_some]
     exact hK.pure h1 k2 hs
    ·rename_i e b9 eb zz hk hk'
     split at h1
     ·rename_i ti4 hti4
      obtain ⟨v,hv,h1⟩:=a7 h1
      unfold arX at hv
      split at hv
      ·rename_i l
       cases hv
       simp only [RV] at h2
       obtain ⟨rfl,_⟩:=h2
       simp only [hk,hk',hti4,hhp]
       have hsz:(ByteArray.mk l.toArray).size=l.length:=by simp [ByteArray.size]
       obtain ⟨ce,cl,ch,g⟩:=hs
       obtain ⟨w2,q1,q2,q3⟩:=ads g (atH l) (by simp) 1 false (fun _=>rfl)
       have hb:aaG ⟨l.toArray⟩=l.map fun b=>Value.int .u8 b.toNat:=rfl
       rw [hb,<-q1,hsz]
       refine hK w2 _ _ _ _ _ (fun _=>0) h1 ?_ q2.self
       have e:(l.map fun b=>V.int .u8 (b.toNat:Int)).length=l.length:=by simp
       simp only [RE]
       have:=al2 (m:=l.length) (cc:=l.length+1) q1 q3 (by omega)
       rw [<-e] at this ⊢
       simpa using this
      ·cases hv
     ·cases h1
    ·rename_i e b9 eb zz hk hk'
     split at h1
     ·rename_i ti4 hti4
      obtain ⟨v,hv,h1⟩:=a7 h1
      have hs0:=hs
      obtain ⟨ce,cl,ch,g⟩:=hs0
      obtain ⟨z,k1,k2⟩:=awH g.hw g.obj hv h2
      simp only [hk,hk',hti4,hhp,k1,Option.bind_some]
      rw [<-hhp]
      exact hK.pure h1 k2 hs
     ·cases h1
    ·cases h1
   ·cases h
 | makeFunc fn first captured =>
   simp only [hop] at h ⊢
   cases hz:first.size with
   | zero =>
     simp only [hz] at h ⊢
     split at h
     ·rename_i f
      obtain ⟨vs,xs,c,h1,h2,h4⟩:=aef ht hs h
      simp only [h4]
      exact hK.pure h1 (by simp only [RV]; exact ⟨⟨xs,rfl,c9.strip _ h2⟩,by simp⟩) hs
     ·cases h
   | succ n=>simp only [hz] at h; cases h
 | slice t x lo hi mx =>
   simp only [hop] at h ⊢
   rw [ht.tab]
   split at h
   ·rename_i hti
    simp only [hti]
    obtain ⟨a,x',c,h1,h2,_,h4⟩:=B3 ht hs h
    obtain ⟨l,l',g1,g2,g3⟩:=alG ht hs h1
    obtain ⟨k,k',m1,m2,m3⟩:=alG ht hs g1
    rw [h4,g3,m3]
    split at m1
    ·obtain ⟨v,hv,m1⟩:=a7 m1
     obtain ⟨z,k1,k2⟩:=arA hv h2 g2 m2
     simp only [k1,Option.bind_some]
     exact hK.pure m1 k2 hs
    ·cases m1
   ·rename_i e b9 eb zz ag n z2 hti
    simp only [hti]
    obtain ⟨a,x',c,h1,h2,_,h4⟩:=B3 ht hs h
    rw [h4]
    split at h1
    ·obtain ⟨l,l',g1,g2,g3⟩:=alG ht hs h1
     obtain ⟨k,k',m1,m2,m3⟩:=alG ht hs g1
     obtain ⟨v,hv,m1⟩:=a7 m1
     obtain ⟨z,k1,k2⟩:=aro hv h2 g2 m2
     rw [g3,m3]
     simp only [voK,hhp,k1,Option.bind_some]
     rw [<-hhp]
     exact hK.pure m1 k2 hs
    ·obtain ⟨l,l',cl',g1,g2,_,g3⟩:=B3 ht hs h1
     obtain ⟨k,k',ck',m1,m2,_,m3⟩:=B3 ht hs g1
     obtain ⟨u,u',cu',n1,n2,_,n3⟩:=B3 ht hs m1
     obtain ⟨xs,hv,n1⟩:=a7 n1
     obtain ⟨z,k1,k2⟩:=arR hv h2 g2 m2 n2
     simp only [voK,g3,m3,n3,hhp,k1,Option.bind_some]
     exact hK w _ _ _ _ _ (fun _=>0) n1 k2 hs.self
    ·cases h1
   ·rename_i na ag n2 z2 hti
    simp only [hti]
    split at h
    ·obtain ⟨a,x',c,h1,h2,_,h4⟩:=B3 ht hs h
     obtain ⟨v,hv,h1⟩:=a7 h1
     have hgl:J9 X w:=by obtain ⟨_,_,_,g⟩:=hs; exact g.gl
     obtain ⟨z,k1,k2⟩:=arZ hgl hv h2
     rw [h4]
     simp only [hhp,k1,Option.bind_some]
     rw [<-hhp]
     exact hK.pure h1 k2 hs
    ·cases h
   ·cases h
 | fieldAddr t x f =>
   simp only [hop] at h ⊢
   rw [ht.tab]
   split at h
   ·rename_i fs ag n zz hti
    simp only [hti]
    split at h
    ·rename_i off m ag2 hf
     simp only [hf]
     obtain ⟨e,e',c,h1,h2,_,h4⟩:=aam ht hs h
     rw [h4]
     split at h1
     ·cases e'<;>simp only [RE] at h2
      obtain ⟨rfl,rfl,_⟩:=h2
      rw [hhp]
      exact hK w _ _ _ _ _ (fun _=>0) h1 (by simp [RE]) hs.self
     ·cases e'<;>simp only [RE] at h2
      obtain ⟨v,hv,h1⟩:=a7 h1
      obtain ⟨z,k1,k2⟩:=apZ hv h2
      simp only [k1,Option.bind_some]
      exact hK.pure h1 k2 hs
     ·cases h1
    ·cases h
   ·cases h
 | field t x f =>
   simp only [hop] at h ⊢
   rw [ht.tab]
   split at h
   ·rename_i fs ag n zz hti
    simp only [hti]
    split at h
    ·rename_i off m ag2 hf
     simp only [hf]
     obtain ⟨a,x',c,h1,h2,_,h4⟩:=B3 ht hs h
     obtain ⟨cs,hcs,h7⟩:=a7 h1
     clear h1
     rw [h4]
     unfold F8 at hcs
     split at hcs
     ·split at hcs
      ·rename_i hn
       cases hcs
       simp only [RV] at h2
       obtain ⟨ws,rfl,h2⟩:=h2
       have hl:=h2.len
       have hag:ahu n (.agg ⟨ws⟩)=some ws:=by simp only [ahu]; rw [if_pos (by simp; omega)]
       simp only [hag,Option.bind_some]
       split at h7
       ·obtain ⟨m',hm,h8⟩:=a7 h7
        obtain ⟨ys,p,q,k1,k2,_,_⟩:=h2.cut hm
        have k1':cut ws off m=some ys:=k1
        simp only [k1',Option.bind_some]
        exact hK.pure h8 (by simp only [RV]; exact ⟨ys,rfl,c9.strip _ k2⟩) hs
       ·obtain ⟨m',hm,h8⟩:=a7 h7
        obtain ⟨ys,p,q,k1,k2,_,_⟩:=h2.cut (acS hm)
        simp only [c9] at k2
        obtain ⟨z,zs,p1,p2,rfl,h5,⟨rfl,h6⟩,h9⟩:=k2
        simp only [acN k1,Option.bind_some]
        exact hK.pure h8 (RV.strip _ h5) hs
      ·cases hcs
     ·cases hcs
    ·cases h
   ·cases h
 | indexAddr t x i =>
   simp only [hop] at h ⊢
   rw [ht.tab]
   split at h
   ·rename_i e b9 eb zz ag n z2 hti
    simp only [hti]
    obtain ⟨a,x',c,h1,h2,_,h4⟩:=B3 ht hs h
    obtain ⟨b,y',d,g1,g2,_,g4⟩:=B3 ht hs h1
    obtain ⟨v,hv,g1⟩:=a7 g1
    obtain ⟨z,k1,k2⟩:=awB hv h2 g2
    rw [h4,g4,k1]
    exact hK.pure g1 k2 hs
   ·rename_i n b9 ag n2 z2 hti
    simp only [hti]
    obtain ⟨a,x',c,h1,h2,_,h4⟩:=B3 ht hs h
    obtain ⟨b,y',d,g1,g2,_,g4⟩:=B3 ht hs h1
    obtain ⟨v,hv,g1⟩:=a7 g1
    obtain ⟨z,k1,k2⟩:=atX hv h2 g2
    rw [h4,g4,k1]
    exact hK.pure g1 k2 hs
   ·cases h
 | index t x i =>
   simp only [hop] at h ⊢
   rw [ht.tab]
   split at h
   ·rename_i hti
    simp only [hti]
    obtain ⟨a,x',c,h1,h2,_,h4⟩:=B3 ht hs h
    obtain ⟨b,y',d,g1,g2,_,g4⟩:=B3 ht hs h1
    obtain ⟨v,hv,g1⟩:=a7 g1
    obtain ⟨z,k1,k2⟩:=ars hv h2 g2
    rw [h4,g4,k1]
    exact hK.pure g1 k2 hs
   ·rename_i n b9 ag n2 z2 hti
    simp only [hti]
    obtain ⟨a,x',c,h1,h2,_,h4⟩:=B3 ht hs h
    obtain ⟨b,y',d,g1,g2,_,g4⟩:=B3 ht hs h1
    obtain ⟨v,hv,g1⟩:=a7 g1
    obtain ⟨z,k1,k2⟩:=arf hv h2 g2
    rw [h4,g4,k1]
    exact hK.pure g1 k2 hs
   ·cases h
 | extract x i =>
   simp only [hop] at h ⊢
   split at h
   ·rename_i t
    obtain ⟨a,x',c,h1,h2,h3,h4⟩:=B3 ht hs h
    obtain ⟨u,hu,h1⟩:=a7 h1
    obtain ⟨z,c1,c2,k1,k2,k3,k4⟩:=awz hu h2
    rw [h4,k1]
    split at h1
    ·obtain ⟨ce,cl,ch,g⟩:=h3
     have hlook:∃ xx,look s'.env t=some (.val xx)/\xx=x':=by
      have:=h4 (EV) (fun v=>some (.val v))
      simp only [F9,X8] at this
      cases e:look s'.env t with
      | none=>rw [e] at this; cases this
      | some q =>
        rw [e] at this
        cases q<;>simp only at this<;>first | (cases this; done) | skip
        cases this; exact ⟨_,rfl,rfl⟩
     obtain ⟨xx,hl,rfl⟩:=hlook
     obtain ⟨c3,m1,m2⟩:=g.env.axK (d:=t)
     have hdel:∀ {l:List (Nat × VE)},U3 (X6 l t) t=U3 l t:=by
      intro l
      induction l with
      | nil=>rfl
      | cons p l ih =>
        obtain ⟨q,v⟩:=p
        by_cases e:q=t
        ·subst e
         have hb:Nat.beq q q=true:=Nat.beq_refl q
         simp only [X6,U3,hb]
        ·simp only [X6,U3,X9 e,ih]
     simp only [Option.bind_some]
     rw [hhp]
     refine hK w (.val u) (.val z) _ _ _ c1 h1 (by simpa only [RE] using k2) ?_
     have m1':D3 w (U3 s.env t) s'.env c3:=by rw [<-hdel]; exact m1
     refine ⟨fun i=>c2 i+c3 i,cl,ch,rfl,g.hw,g.gl,g.fr,?_,g.loc,g.aaW,g.obj,fun i=>?_,fun i hi=>?_,fun i hi=>?_⟩
     ·simp only [D3]
      exact ⟨_,c2,c3,hl,by simpa only [RE] using k3,m1',by simp⟩
     ·have:=g.N2 i; have:=k4 i; have:=m2 i; omega
     ·have:=g.R6 i hi; have:=k4 i; have:=m2 i; omega
     ·have:=g.O3 i hi; have:=k4 i; have:=m2 i; omega
    ·exact hK.pure h1 (RV.strip _ k2) hs
   ·cases h
 | call c =>
   simp only [hop] at h ⊢
   rw [ht.tab,ht.kind,ht.ext]
   split at h
   ·-- len
    rename_i hcal
    simp only [hcal]
    split at h
    ·rename_i x t hargs htys
     simp only [hargs,htys]
     split at h
     ·rename_i hti
      simp only [hti]
      obtain ⟨a,x',c',h1,h2,_,h4⟩:=B3 ht hs h
      obtain ⟨v,hv,h1⟩:=a7 h1
      obtain ⟨z,k1,k2⟩:=auy hv h2
      rw [h4,k1]
      exact hK.pure h1 k2 hs
     ·rename_i hti
      simp only [hti]
      obtain ⟨a,x',c',h1,h2,_,h4⟩:=B3 ht hs h
      obtain ⟨v,hv,h1⟩:=a7 h1
      obtain ⟨z,k1,k2⟩:=aus hv h2
      rw [h4,k1]
      exact hK.pure h1 k2 hs
     ·cases h
    ·cases h
   ·-- min
    rename_i hcal
    simp only [hcal]
    split at h
    ·rename_i x y hargs
     simp only [hargs]
     obtain ⟨a,x',c',h1,h2,_,h4⟩:=B3 ht hs h
     obtain ⟨b,y',d,g1,g2,_,g4⟩:=B3 ht hs h1
     obtain ⟨v,hv,g1⟩:=a7 g1
     obtain ⟨z,k1,k2⟩:=awv hv h2 g2
     rw [h4,g4,k1]
     exact hK.pure g1 k2 hs
    ·cases h
   ·-- append
    rename_i hcal
    simp only [hcal]
    split at h
    ·rename_i x y t u d hargs htys hd
     simp only [hargs,htys,hd]
     split at h
     ·rename_i e b9 eb z ag n zz ku ag2 n2 zz2 hti hui
      obtain ⟨_,_,h0⟩:=hT.sl _ _ _ _ _ _ _ _ hti
      simp only [hti,hui]
      split at h
      ·rename_i b hku
       have fin:∀ {c1 c2 cx:j6} {s2:VS} {xs:List (List V)} {x' y':Value} {yv rv:V} {ce cl ch:j6} {full:Bool},StC X E w s2 s' ce cl ch cx->RV w (.sl true xs) x' c1->(full=true->∃ a,x' = .slice a xs.length xs.length)->RV w yv y' c2->(∀ i,c1 i+c2 i<=cx i) →
        I6 b b9 eb xs yv=some rv->K (.val rv) s2 (axo full)=some r →
        ∃ w2 x2,U0 full s'.hp b9 eb x' y'=some (x2,w2)/\adL b y'=some y'/\∃ r',K' (.val x2) s'.loc w2 (axo full)=some r'/\Q r':=by
        intro c1 c2 cx s2 xs x' y' yv rv ce cl ch full g hx hf hy hc ha hk
        obtain ⟨w2,x2,c',k1,k2,k3,k4⟩:=aqq g hx hf hy hc ha h0
        rw [hhp]
        exact ⟨w2.hp,x2,k1,k2,hK w2 (.val rv) (.val x2) s2 s'.loc _ c' hk (by simpa only [RE] using k4) ⟨ce,cl,ch,k3⟩⟩
       split at h
       ·rename_i hm
        simp only [hm]
        obtain ⟨e1,e1',c1,h1,h2,h3,h4⟩:=aam ht hs h
        obtain ⟨yv,y',c2,g1,g2,g3,g4⟩:=acd ht h3 h1
        split at g1
        ·rename_i xs
         cases e1'<;>simp only [RE] at h2
         rename_i x'
         obtain ⟨rv,ha,g1⟩:=a7 g1
         obtain ⟨ce,cl,ch,g⟩:=g3
         obtain ⟨w2,x2,k1,k2,r',k3,k4⟩:=fin (full:=true) g h2.1 (fun _=>h2.2) g2 (by simp) ha g1
         have g4':∀ (R':Type) (K':Value->Option R'),F9 Y s' y K'=K' y':=g4
         have h4':∀ (K':Value->Option R'),F9 Y s' x K'=K' x':=fun K'=>by unfold F9; rw [h4]
         cases ku<;>simp only at hku<;>first | (cases hku; done) | skip
         ·cases hku
          dsimp only
          rw [h4',g4']
          simp only [adL] at k2
          simp only [U0] at k1
          simp only [k2,Option.bind_some,k1]
          exact ⟨r',k3,k4⟩
         ·cases hku
          dsimp only
          rw [h4',g4']
          simp only [adL] at k2
          simp only [U0] at k1
          simp only [k2,Option.bind_some,k1]
          exact ⟨r',k3,k4⟩
        ·cases g1
       ·rename_i hm
        simp only [hm]
        split at h
        ·obtain ⟨sv,x',c1,h1,h2,h3,h4⟩:=acd ht hs h
         obtain ⟨yv,y',c2,g1,g2,g3,g4⟩:=acd ht h3 h1
         obtain ⟨⟨rv,H2⟩,ha,g6⟩:=a7 g1
         obtain ⟨ce,cl,ch,g⟩:=g3
         obtain ⟨w2,x2,c',k1,k2,k3,k4⟩:=auY g h2 g2 (by simp) ha h0
         have hfin:=hK w2 (.val rv) (.val x2) _ s'.loc _ c' g6 (by simpa only [RE] using k4) k3
         obtain ⟨r',q3,q4⟩:=hfin
         cases ku<;>simp only at hku<;>first | (cases hku; done) | skip
         ·cases hku
          dsimp only
          rw [h4,g4]
          simp only [adL] at k2
          simp only [U0] at k1
          simp only [k2,Option.bind_some,hhp,k1]
          exact ⟨r',q3,q4⟩
         ·cases hku
          dsimp only
          rw [h4,g4]
          simp only [adL] at k2
          simp only [U0] at k1
          simp only [k2,Option.bind_some,hhp,k1]
          exact ⟨r',q3,q4⟩
        obtain ⟨sv,x',c1,h1,h2,h3,h4⟩:=acd ht hs h
        obtain ⟨yv,y',c2,g1,g2,g3,g4⟩:=acd ht h3 h1
        obtain ⟨xs,hxs,g5⟩:=a7 g1
        obtain ⟨rv,ha,g6⟩:=a7 g5
        clear g5 g1
        have hsv:sv = .sl true xs:=by
         unfold Z9 at hxs
         split at hxs
         ·cases hxs; rfl
         ·cases hxs
        subst hsv
        obtain ⟨ce,cl,ch,g⟩:=g3
        obtain ⟨w2,x2,k1,k2,r',k3,k4⟩:=fin (full:=false) g h2 (fun q=>by cases q) g2 (by simp) ha g6
        cases ku<;>simp only at hku<;>first | (cases hku; done) | skip
        ·cases hku
         dsimp only
         rw [h4,g4]
         simp only [adL] at k2
         simp only [U0] at k1
         simp only [k2,Option.bind_some,k1]
         exact ⟨r',k3,k4⟩
        ·cases hku
         dsimp only
         rw [h4,g4]
         simp only [adL] at k2
         simp only [U0] at k1
         simp only [k2,Option.bind_some,k1]
         exact ⟨r',k3,k4⟩
      ·cases h
     ·cases h
    ·cases h
   ·-- a known function
    rename_i f hcal
    simp only [hcal]
    split at h
    ·rename_i hk
     simp only [hk]
     obtain ⟨vs,s2,xs,c1,h1,h2,h3,h4⟩:=akl ht hs h
     obtain ⟨⟨rv,H'⟩,hr,h1⟩:=a7 h1
     obtain ⟨x,w2,cr,q1,q2,q3⟩:=amQ hcall h3 h2 (by simp) hr
     rw [h4,hhp,q1]
     exact hK w2 _ _ _ _ _ cr h1 (by simp only [RE]; exact q2) q3
    ·rename_i hk
     simp only [hk]
     obtain ⟨vs,xs,c1,h1,h2,h4⟩:=aef ht hs h
     split at h1
     ·split at h1
      ·obtain ⟨rv,hr,h1⟩:=a7 h1
       obtain ⟨x,q1,q2⟩:=apq hT hcall hs h2 hr
       rw [h4,q1]
       exact hK.pure h1 q2 hs
      ·obtain ⟨rv,hr,h1⟩:=a7 h1
       obtain ⟨x,q1,q2⟩:=apD hT hcall hs h2 hr
       rw [h4,q1]
       exact hK.pure h1 q2 hs
     ·obtain ⟨rv,hr,h1⟩:=a7 h1
      obtain ⟨x,q1,q2⟩:=agZ hT hcall hs h2 hr
      rw [h4,q1]
      exact hK.pure h1 q2 hs
    ·rename_i hk
     simp only [hk]
     obtain ⟨vs,xs,c1,h1,h2,h4⟩:=aef ht hs h
     rw [h4]
     split at h1
     ·split at h1
      ·obtain ⟨rv,hr,h1⟩:=a7 h1
       exact auB hT hcall hK hs h2 hr h1
      obtain ⟨rv,hr,h1⟩:=a7 h1
      have came:aoE Y w f xs rv:=by
       unfold aio at hr
       split at hr
       ·exact apt hT hcall hs h2 hr
       ·exact aps hT hcall hs h2 hr
      obtain ⟨x,hp2,fb,fb2,rho2,cr,q1,q2,q3,q4,q5,q6,q7,q9,q10⟩:=came
      split at h1
      ·unfold agS at h1
       split at h1
       ·rename_i hown
        exact aox hK hs hown h1 q1 q2 q3 q4 q5 q6 q7 q9 q10
       ·cases h1
      ·split at h1
       ·unfold agS at h1
        split at h1
        ·rename_i hown
         exact aox hK hs hown h1 q1 q2 q3 q4 q5 q6 q7 q9 q10
        ·cases h1
       ·exact apa hK hs h1 q1 q2 q3 q4 q5 q6 q7 q9 q10
     ·obtain ⟨rv,hr,h1⟩:=a7 h1
      obtain ⟨x,hp2,fb,fb2,rho2,cr,q1,q2,q3,q4,q5,q6,q7,q9,q10⟩:=akN hT hcall hs h2 hr
      exact apa hK hs h1 q1 q2 q3 q4 q5 q6 q7 q9 q10
    ·rename_i n hk
     simp only [hk]
     obtain ⟨vs,xs,c1,h1,h2,h4⟩:=aef ht hs h
     obtain ⟨az,has,h5⟩:=a7 h1
     obtain ⟨y,hy,h6⟩:=a7 h5
     obtain ⟨v,hv,h7⟩:=a7 h6
     clear h1 h5 h6
     rw [h4]
     have:xs=az:=by
      have:∀ {vs:List V} {xs az:List Value} {c:j6},c9 w vs xs c->vs.mapM toA=some az->xs=az:=by
       intro vs
       induction vs with
       | nil=>intro xs az c h h2; simp only [c9] at h; simp at h2; rw [h.1,h2]
       | cons a vs ih =>
         intro xs az c h h2
         simp only [c9] at h
         obtain ⟨x,ys,c1,c2,rfl,k1,k2,k3⟩:=h
         rw [List.mapM_cons] at h2
         obtain ⟨p,p1,h2⟩:=a7 h2
         obtain ⟨q,q1,h2⟩:=a7 h2
         cases h2
         rw [akB k1 p1,ih k2 q1]
      exact this h2 has
     subst this
     rw [hy]
     exact hK.pure h7 (ao6 hv) hs
   ·-- a function value
    rename_i x hne hcal
    obtain ⟨fv,fv',cf,h1,h2,_,h4⟩:=B3 ht hs h
    obtain ⟨vs,xs,c1,g1,g2,g4⟩:=aef ht hs h1
    obtain ⟨⟨f,caps⟩,hf,g5⟩:=a7 g1
    have hfv:fv = .fn f caps:=by
     unfold aee at hf
     split at hf
     ·cases hf; rfl
     ·cases hf
    clear g1 h1 h
    subst hfv
    simp only [RV] at h2
    obtain ⟨⟨ws,rfl,hcap⟩,_⟩:=h2
    have hcal':callee (.func (.func f) #[] ⟨ws⟩)=some (f,ws):=rfl
    have key:∃ r',(F9 Y s' x fun fv=>ack Y s' c.args.toList fun vs=>(callee fv).bind fun p=>match A.p6 with
     | true=>(X4 Y.call p.1 (vs++p.2) s'.hp).bind fun v=>K' (.val v) s'.loc s'.hp .H
     | false=>(Y.call p.1 (vs++p.2) s'.hp).bind fun r=>K' (.val r.1) s'.loc r.2 .W)=some r'/\Q r':=by
     rw [h4,g4]
     simp only [hcal',Option.bind_some]
     have hall:=g2.app hcap
     split at g5
     ·rename_i hq
      obtain ⟨rv,hr,g6⟩:=a7 g5
      obtain ⟨x2,q1,q2⟩:=agZ hT hcall hs hall hr
      simp only [hq,q1,Option.bind_some]
      exact hK.pure g6 q2 hs
     ·rename_i hq
      obtain ⟨⟨rv,H'⟩,hr,g6⟩:=a7 g5
      obtain ⟨x2,w2,cr,q1,q2,q3⟩:=amQ hcall hs (c9.strip _ hall) (by simp) hr
      try simp only [hq]
      rw [hhp,q1]
      exact hK w2 _ _ _ _ _ cr g6 (by simp only [RE]; exact q2) q3
    cases x with
    | func f=>exact absurd rfl (hne f)
    | _=>simp only [hcal]; exact key
   ·cases h
 | makeSlice t l c =>
   simp only [hop] at h ⊢
   rw [ht.tab]
   split at h
   ·rename_i e b9 eb z ag n zz hti
    simp only [hti]
    obtain ⟨q1,q2,q3⟩:=hT.sl _ _ _ _ _ _ _ _ hti
    obtain ⟨vl,xl,cl',h1,h2,_,h4⟩:=B3 ht hs h
    obtain ⟨vc,xc,cc',g1,g2,_,g4⟩:=B3 ht hs h1
    obtain ⟨m,hm,g5⟩:=a7 g1
    clear g1 h1 h
    rw [h4,g4]
    have hm':anm eb xl xc=some m:=by
     unfold ahp at hm
     split at hm
     ·simp only [RV] at h2 g2
      rw [h2.1,g2.1]
      exact hm
     ·cases hm
    simp only [hm',Option.bind_some]
    obtain ⟨ce,cl,ch,g⟩:=hs
    obtain ⟨w2,k1,k2,k3⟩:=ads g (amm (aae (w:=w) q1) m.2) (by simp) b9 true (fun h=>by cases h)
    rw [hhp,<-k1]
    exact hK w2 _ _ _ _ _ (fun _=>0) g5 (by simp only [RE]; exact al2 k1 k3 q3) k2.self
   ·cases h
 | _=>simp only [hop] at h; cases h
end
end Go.AM

/- Code: the machine of values and the abstract machine side by side. -/
namespace Go.AM
set_option linter.unusedSimpArgs false
set_option linter.unusedVariables false
def St0 (X:XV) (E:En) (s:VS) (s':St):Prop:=∃ w,F5 X E w s s' (fun _=>0)
def adZ (X:XV) (E:En) (vs:List V) (H:VH) (xs:List Value) (hp:Heap):Prop :=
 ∃ (w:Wd) (cv ch:j6),hp=w.hp/\HW w/\J9 X w/\E4 E w/\c9 w vs xs cv/\w7 w H w.j0 ch/\(∀ i,cv i+ch i<=1)/\(∀ i,i<E.hp.length->cv i+ch i<=E.c0 i)/\(∀ i,w.hp.length<=i->cv i+ch i=0)
theorem amg {X:XV} {E:En} {w:Wd} {s:VS} {env:List (Nat × EV)} {loc:List (Nat × List Value)} {ce:j6} {e:VE} {e':EV} (hs:F5 X E w s ⟨env,loc,w.hp⟩ ce) (hr:RE w e e' ce) (d:Option Nat) :
 F5 X E w { s with env:=ao2 s.env d e } ⟨adI env d e',loc,w.hp⟩ (fun _=>0):=by
 cases d with
 | none=>exact hs.less (by simp)
 | some d =>
   obtain ⟨c1,cl,ch,g⟩:=hs
   obtain ⟨c2,h1,h2⟩:=g.env.del (d:=d) (x:=e')
   refine ⟨fun i=>ce i+c2 i,cl,ch,rfl,g.hw,g.gl,g.fr,?_,g.loc,g.aaW,g.obj,fun i=>?_,fun i hi=>?_,fun i hi=>?_⟩
   ·simp only [ao2,adI,D3]
    exact ⟨e',ce,c2,by rw [k9,if_pos rfl],hr,h1,by simp⟩
   ·have:=g.N2 i; have:=h2 i; omega
   ·have:=g.R6 i hi; have:=h2 i; omega
   ·have:=g.O3 i hi; have:=h2 i; omega
theorem amG {S:Type} {v:V} {p q:Option S} {a:S} (hh:j9 v p q=some a):(v = .bool true/\p=some a)\/(v = .bool false/\q=some a)\/(v = .ub/\p=some a/\q=some a):=by
 unfold j9 at hh
 split at hh
 ·exact .inl ⟨rfl,hh⟩
 ·exact .inr (.inl ⟨rfl,hh⟩)
 ·unfold aiH at hh
  split at hh
  ·rename_i e; exact .inr (.inr ⟨rfl,hh,by rw [<-e]; exact hh⟩)
  ·cases hh
 ·cases hh
theorem abW {S:Type} {v:V} {p q:Option S} {a:S} (hh:l7 v p q=some a):(v = .bool true/\p=some a)\/(v = .bool false/\q=some a):=by
 unfold l7 at hh
 split at hh
 ·exact .inl ⟨rfl,hh⟩
 ·exact .inr ⟨rfl,hh⟩
 ·cases hh
section
variable {X:XV} {Y:Ctx} {A:S5} {T:List Nat} {E:En}
theorem St0.bool {s:VS} {s':St} (hs:St0 X E s s') (d:Nat) (b:Bool):St0 X E { s with env:=(d,.val (.bool b))::U3 s.env d } { s' with env:=(d,.val (.bool b))::s'.env }:=by
 obtain ⟨w,h⟩:=hs
 have:=amg (e := .val (.bool b)) (e' := .val (.bool b)) h.self (by simp [RE,RV]) (some d)
 refine ⟨w,?_⟩
 have hh:=h.hp
 obtain ⟨env,loc,hp⟩:=s'
 simp only at hh
 subst hh
 exact this
theorem atA {R R':Type} {r:R} {Q:R'->Prop} {ops:Array Oper} {o:Oper} {s:VS} {s':St} (hs:St0 X E s s') {run pass:List (Nat × VE)->Option R} {run' pass':List (Nat × EV)->Option R'}
 (h:Y4 ops o s.env run pass=some r) (h1:∀ e e',run e=some r->St0 X E { s with env:=e } { s' with env:=e' }->∃ r',run' e'=some r'/\Q r') (h2:∀ e e',pass e=some r->St0 X E { s with env:=e } { s' with env:=e' }->∃ r',pass' e'=some r'/\Q r') :
 ∃ r',P0 ops o s'.env run' pass'=some r'/\Q r':=by
 unfold Y4 at h
 unfold P0
 split at h
 ·rename_i hg
  simp only [hg]
  exact h1 _ _ h hs
 ·rename_i j want hg
  simp only [hg]
  split at h
  ·cases h
  ·rename_i d hd
   simp only [hd]
   split at h
   ·rename_i v hl
    obtain ⟨w,ce,cl,ch,g⟩:=hs
    obtain ⟨x,c1,c2,k1,k2,_,_⟩:=g.env.look hl
    cases x<;>simp only [RE] at k2
    rename_i x
    have hs':St0 X E s s':=⟨w,ce,cl,ch,g⟩
    rw [k1]
    split at h
    ·rcases abW h with ⟨rfl,h⟩ | ⟨rfl,h⟩
     ·simp only [RV] at k2
      simp only [k2.1,U1]
      exact h1 _ _ h (hs'.bool d true)
     ·simp only [RV] at k2
      simp only [k2.1,U1]
      exact h2 _ _ h (hs'.bool d false)
    ·rcases abW h with ⟨rfl,h⟩ | ⟨rfl,h⟩
     ·simp only [RV] at k2
      simp only [k2.1,U1]
      exact h2 _ _ h (hs'.bool d true)
     ·simp only [RV] at k2
      simp only [k2.1,U1]
      exact h1 _ _ h (hs'.bool d false)
   ·rename_i hl
    obtain ⟨w,ce,cl,ch,g⟩:=hs
    obtain ⟨x,c1,c2,k1,k2,_,_⟩:=g.env.look hl
    cases x<;>simp only [RE] at k2
    rw [k1]
    exact h2 _ _ h ⟨w,ce,cl,ch,g⟩
   ·cases h
theorem aiz (ht:Twin X Y) (hT:aa9 X) (hcall:∀ f args H r H',X.call f args H=some (r,H')->D4 X Y.call f args H r H') {R R':Type} {r:R} {Q:R'->Prop} {ops:Array Oper} :
 ∀ {os:List Oper} {cl:List D0} {s:VS} {s':St} {K:List D0->VS->Option R} {K':List D0->St->Option R'},St0 X E s s'->afu X A T ops os cl s K=some r →
   (∀ cl s s',K cl s=some r->St0 X E s s'->∃ r',K' cl s'=some r'/\Q r')->∃ r',aaJ Y A ops os cl s' K'=some r'/\Q r'
 | [],cl,s,s',K,K',hs,h,hK=>hK _ _ _ h hs
 | o::os,cl,s,s',K,K',hs,h,hK=>by
   simp only [afu] at h
   simp only [aaJ]
   refine atA hs h (fun e e' hr hs2=>?_) (fun e e' hp hs2=>?_)
   ·obtain ⟨w,hs2⟩:=hs2
    refine ayy ht hT hcall hs2 hr ?_
    intro w2 ev ev' s2 loc c ce hk hre hst
    exact aiz ht hT hcall ⟨w2,amg hst hre o.dst⟩ hk hK
   ·refine aiz ht hT hcall ?_ hp hK
    obtain ⟨w,hs2⟩:=hs2
    have hh:=hs2.hp
    simp only at hh
    have:=amg (e := .D7) (e' := .D7) hs2.self (by simp [RE]) o.dst
    refine ⟨w,?_⟩
    rw [<-hh] at this
    exact this
theorem akO {t u:Nat} (h:u ≠ t):∀ {l:List (Nat × VE)},look (X6 l t) u=look l u
 | []=>rfl
 | (k,v)::l=>by
   by_cases e:k=t
   ·subst e
    have hb:Nat.beq k k=true:=Nat.beq_refl k
    simp only [X6,hb]
    rw [k9,k9,if_neg h,if_neg h]
   ·simp only [X6,X9 e]
    rw [k9,k9]
    split
    ·rfl
    ·exact akO h
theorem ahb {R:Type} {t:Nat} {l:List (Nat × VE)}:∀ {ss:List Nat} {K:List V->Option R},t ∉ ss->aat (X6 l t) ss K=aat l ss K
 | [],K,h=>rfl
 | s::ss,K,h=>by
   simp only [aat]
   rw [akO (fun e=>h (by simp [e]))]
   split
   ·exact ahb (fun hm=>h (by simp [hm]))
   ·exact ahb (fun hm=>h (by simp [hm]))
   ·rfl
theorem an4 {w:Wd} {ae:List (Nat × EV)} {R:Type} {r:R}:∀ {ss:List Nat} {l:List (Nat × VE)} {ce:j6} {K:List V->Option R},ss.Nodup->D3 w l ae ce->aat l ss K=some r →
 ∃ vs xs c,K vs=some r/\c9 w vs xs c/\(∀ i,c i<=ce i)/\vs.length=ss.length/\∀ (R':Type) (K':List Value->Option R'),ab5 ae ss K'=K' xs
 | [],l,ce,K,nd,he,h=>⟨[],[],fun _=>0,h,by simp [c9],by simp,rfl,fun _ _=>rfl⟩
 | s::ss,l,ce,K,nd,he,h=>by
   simp only [aat] at h
   simp at nd
   have key:∀ {v:V} {x:Value} {e:VE} {c1 c2:j6} {K2:List V->Option R},look ae s=some (.val x)->RV w v x c1->D3 w (X6 l s) ae c2->(∀ i,ce i=c1 i+c2 i)->aat l ss (fun vs=>K (v::vs))=some r →
    ∃ vs xs c,K vs=some r/\c9 w vs xs c/\(∀ i,c i<=ce i)/\vs.length=(s::ss).length/\∀ (R':Type) (K':List Value->Option R'),ab5 ae (s::ss) K'=K' xs:=by
    intro v x e c1 c2 K2 h1 h2 h3 h4 h5
    rw [<-ahb (t:=s) nd.1] at h5
    obtain ⟨vs,xs,c,g1,g2,g3,g4,g5⟩:=an4 nd.2 h3 h5
    refine ⟨v::vs,x::xs,fun i=>c1 i+c i,g1,⟨x,xs,c1,c,rfl,h2,g2,by simp⟩,fun i=>by have:=g3 i; have:=h4 i; show c1 i+c i<=ce i; omega,by simp [g4],fun R' K'=>by simp only [ab5,h1,g5]⟩
   split at h
   ·rename_i v hl
    obtain ⟨x,c1,c2,h1,h2,h3,h4⟩:=he.look hl
    cases x<;>simp only [RE] at h2
    exact key (e := .D7) (K2:=K) h1 h2 h3 h4 h
   ·rename_i ys hl
    obtain ⟨x,c1,c2,h1,h2,h3,h4⟩:=he.look hl
    cases x<;>simp only [RE] at h2
    exact key (e := .D7) (K2:=K) h1 h2.1 h3 h4 h
   ·cases h
theorem asZ {w:Wd} {ae:List (Nat × EV)}:∀ {ls:List (Nat × Nat × Nat)} {l:List (Nat × VE)} {ce:j6},D3 w l ae ce->anu l ls=true->ame ae ls=true
 | [],l,ce,he,h=>rfl
 | (s,k,o)::ls,l,ce,he,h=>by
   simp only [anu] at h
   split at h
   ·rename_i k' o' hl
    obtain ⟨x,c1,c2,h1,h2,h3,h4⟩:=he.look hl
    cases x<;>simp only [RE] at h2
    obtain ⟨rfl,rfl,_⟩:=h2
    simp only [Bool.and_eq_true] at h
    simp only [ame,h1,Bool.and_eq_true]
    exact ⟨h.1,asZ he h.2⟩
   ·cases h
theorem ala {k j:Nat} (h:j ≠ k) {cs:List V}:∀ {l:List (Nat × List V)},look (Q6 l k cs) j=look l j
 | []=>rfl
 | (q,v)::l=>by
   by_cases e:q=k
   ·subst e
    have hb:Nat.beq q q=true:=Nat.beq_refl q
    simp only [Q6,hb]
    rw [k9,k9,if_neg h,if_neg h]
   ·simp only [Q6,X9 e]
    rw [k9,k9]
    split
    ·rfl
    ·exact ala h
theorem asM {R:Type} {k:Nat} {d:List V} {l:List (Nat × List V)}:∀ {ks:List (Nat × Nat)} {K:List V->Option R},k ∉ ks.map (·.1)->csV (Q6 l k d) ks K=csV l ks K
 | [],K,h=>rfl
 | (j,n)::ks,K,h=>by
   simp only [csV]
   rw [ala (fun e=>h (by simp [e]))]
   split
   ·split
    ·exact asM (fun hm=>h (by simp at hm ⊢; exact .inr hm))
    ·rfl
   ·rfl
theorem ahM {k:Nat} {ws:List Value}:∀ {l:List (Nat × List Value)},look l k=some ws->Z0 l k ws=l
 | [],h=>rfl
 | (q,v)::l,h=>by
   by_cases e:q=k
   ·subst e
    have hb:Nat.beq q q=true:=Nat.beq_refl q
    simp only [look,hb] at h
    cases h; simp only [Z0,hb]
   ·simp only [look,X9 e] at h
    simp only [Z0,X9 e,ahM h]
theorem asK {w:Wd} {al:List (Nat × List Value)} {R:Type} {r:R}:∀ {ks:List (Nat × Nat)} {l:List (Nat × List V)} {cl:j6} {K:List V->Option R},(ks.map (·.1)).Nodup->M0 w l al cl->csV l ks K=some r →
 ∃ vs xs c,K vs=some r/\c9 w vs xs c/\(∀ i,c i<=cl i)/\vs.length=total ks/\∀ (R':Type) (K':List Value->Option R'),csK al ks K'=K' xs
 | [],l,cl,K,nd,he,h=>⟨[],[],fun _=>0,h,by simp [c9],by simp,rfl,fun _ _=>rfl⟩
 | (k,n)::ks,l,cl,K,nd,he,h=>by
   simp only [csV] at h
   simp only [List.map_cons,List.nodup_cons] at nd
   split at h
   ·rename_i cs hl
    split at h
    ·rename_i hb
     obtain ⟨ws,c1,c2,h1,h2,h3,h4⟩:=he.look hl
     have h5:=h4 _ _ _ (c9.strip _ h2)
     rw [ahM h1] at h5
     rw [<-asM (k:=k) (d:=o8 cs) nd.1] at h
     obtain ⟨vs,xs,c,g1,g2,g3,g4,g5⟩:=asK nd.2 h5 h
     have hn:=Nat.eq_of_beq_eq_true hb
     have hb':Nat.beq ws.length n=true:=by rw [<-h2.len]; exact hb
     exact ⟨cs++vs,ws++xs,_,g1,h2.app g2,fun i=>by have:=g3 i; have:=h3 i; omega,by simp only [List.length_append,total,g4]; omega,fun R' K'=>by simp only [csK,h1,hb',g5]⟩
    ·cases h
   ·cases h
theorem ajs {kp:I5} (h:aiK kp=true):adq kp=true/\(kp.cs.map (·.1)).Nodup/\kp.vs.Nodup/\(kp.ls.map (·.1)).Nodup/\∀ x ∈ kp.ls,mem kp.vs x.1=false:=by
 unfold aiK at h
 simp only [Bool.and_eq_true,decide_eq_true_eq,List.all_eq_true] at h
 obtain ⟨⟨⟨⟨h1,h2⟩,h3⟩,h4⟩,h5⟩:=h
 refine ⟨?_,h2,h3,h4,fun x hx=>by have:=h5 x hx; simpa using this⟩
 unfold adq
 simp only [Bool.and_eq_true]
 exact ⟨h1,by simpa using h2⟩
theorem agP {R:Type} {r:R} {kp:I5} {s:VS} {s':St} (hs:St0 X E s s') {K:List V->VH->Option R} (h:abc kp s K=some r) :
 ∃ vs xs,K vs s.H=some r/\adZ X E vs s.H xs s'.hp/\∀ (R':Type) (K':List Value->Heap->Option R'),Q4 kp s' K'=K' xs s'.hp:=by
 unfold abc at h
 split at h
 ·rename_i hk
  simp only [Bool.and_eq_true] at hk
  obtain ⟨k1,k2,k3,k4,k5⟩:=ajs hk.1
  obtain ⟨w,ce,cl,ch,g⟩:=hs
  obtain ⟨vs,xs,c,h1,h2,h3,h4,h5⟩:=an4 k3 g.env h
  obtain ⟨us,ys,d,g1,g2,g3,g4,g5⟩:=asK k2 g.loc h1
  refine ⟨vs++us,xs++ys,g1,⟨w,_,ch,g.hp,g.hw,g.gl,g.fr,h2.app g2,g.obj,fun i=>?_,fun i hi=>?_,fun i hi=>?_⟩,fun R' K'=>?_⟩
  ·have:=g.N2 i; have:=h3 i; have:=g3 i; omega
  ·have:=g.R6 i hi; have:=h3 i; have:=g3 i; omega
  ·have:=g.O3 i hi; have:=h3 i; have:=g3 i; omega
  ·simp only [Q4,asZ g.env hk.2,h5,g5]
 ·cases h
theorem amV {a:Nat}:∀ {l:List Nat},mem l a=false->a ∉ l
 | [],_=>by simp
 | b::l,h=>by
   simp only [mem] at h
   split at h
   ·cases h
   ·rename_i hb
    intro hm
    rcases List.mem_cons.1 hm with e | hm
    ·rw [e,Nat.beq_refl] at hb; cases hb
    ·exact amV h hm
theorem c9.head {w:Wd} {vs:List V} {xs:List Value} {d:j6} {i:Nat} (hi:i<vs.length) (h:c9 w (vs.drop i) (xs.drop i) d):∃ a b,RV w (vs.getD i .b7) (xs.getD i undef) a/\c9 w (vs.drop (i+1)) (xs.drop (i+1)) b/\∀ j,d j=a j+b j:=by
 rw [List.drop_eq_getElem_cons hi] at h
 simp only [c9] at h
 obtain ⟨x,ys,a,b,h1,h2,h3,h4⟩:=h
 have hx:xs[i]? = some x:=by
  have:(xs.drop i)[0]? = some x:=by rw [h1]; rfl
  simpa using this
 have hy:xs.drop (i+1)=ys:=by rw [<-List.drop_drop,h1]; rfl
 refine ⟨a,b,?_,by rw [hy]; exact h3,h4⟩
 rw [List.getD_eq_getElem?_getD,List.getD_eq_getElem?_getD,hx,List.getElem?_eq_getElem hi]; exact h2
theorem anQ {w:Wd} {vs:List V} {xs:List Value} {ae:List (Nat × EV)}:∀ {ss:List Nat} {i:Nat} {d:j6},c9 w (vs.drop i) (xs.drop i) d->i+ss.length<=vs.length->(∀ (j s:Nat),ss[j]? = some s->look ae s=some (.val (xs.getD (i+j) undef))) →
 ∃ c1 c2,D3 w (ah0 i ss vs) ae c1/\c9 w (vs.drop (i+ss.length)) (xs.drop (i+ss.length)) c2/\∀ j,c1 j+c2 j=d j
 | [],i,d,hd,hl,ha=>⟨fun _=>0,d,by simp [ah0,D3],by simpa using hd,by simp⟩
 | s::ss,i,d,hd,hl,ha=>by
   simp at hl
   obtain ⟨a,b,h1,h2,h3⟩:=hd.head (i:=i) (by omega)
   obtain ⟨c1,c2,g1,g2,g3⟩:=anQ (ss:=ss) (i:=i+1) h2 (by omega) (fun j t ht=>by have:=ha (j+1) t (by simpa using ht); rw [this]; congr 3; omega)
   refine ⟨fun j=>a j+c1 j,c2,?_,by rw [List.length_cons,show i+(ss.length+1)=i+1+ss.length by omega]; exact g2,fun j=>by have:=g3 j; have:=h3 j; show a j+c1 j+c2 j=d j; omega⟩
   simp only [ah0,D3]
   exact ⟨_,a,c1,ha 0 s (by simp),by simp only [RE]; exact h1,g1,by simp⟩
theorem anF {w:Wd} {vs:List V} {xs:List Value}:∀ {ks:List (Nat × Nat)} {i:Nat} {d:j6} {al:List (Nat × List Value)},(ks.map (·.1)).Nodup->c9 w (vs.drop i) (xs.drop i) d->i+total ks<=vs.length->i+total ks<=xs.length->(∀ k n,look (O0 i ks xs) k=some n->look al k=some n)->(∀ p ∈ ks,(look (O0 i ks xs) p.1).isSome=true) →
 ∃ c1,M0 w (ab1 i ks vs) al c1/\∀ j,c1 j<=d j
 | [],i,d,al,nd,hd,hl,hl2,ha,hm=>⟨fun _=>0,by simp [ab1,M0],by simp⟩
 | (k,n)::ks,i,d,al,nd,hd,hl,hl2,ha,hm=>by
   simp only [List.map_cons,List.nodup_cons] at nd
   simp only [total] at hl hl2
   have e1:vs.drop i=(vs.drop i).take n++vs.drop (i+n):=by rw [<-List.drop_drop,List.take_append_drop]
   rw [e1] at hd
   obtain ⟨ys,zs,a,b,h1,h2,h3,h4⟩:=hd.split
   have hyl:=h2.len
   rw [List.length_take,List.length_drop,Nat.min_eq_left (by omega)] at hyl
   have hys:ys=(xs.drop i).take n:=by rw [h1,hyl,List.take_left]
   have hzs:zs=xs.drop (i+n):=by rw [<-List.drop_drop,h1,hyl,List.drop_left]
   subst hzs
   have hne:∀ k' v,look (O0 (i+n) ks xs) k'=some v->k' ≠ k:=fun k' v h e=>by
    subst e
    have:∀ {ks:List (Nat × Nat)} {i:Nat},k' ∉ ks.map (·.1)->look (O0 i ks xs) k'=none:=by
     intro ks
     induction ks with
     | nil=>intro i _; rfl
     | cons p ks ih =>
       intro i hn
       obtain ⟨q,m⟩:=p
       simp only [List.map_cons,List.mem_cons,not_or] at hn
       simp only [O0]
       rw [k9,if_neg hn.1]; exact ih hn.2
    rw [this nd.1] at h; cases h
   have memv:∀ {ks:List (Nat × Nat)} {i:Nat},k ∉ ks.map (·.1)->look (ab1 i ks vs) k=none:=by
    intro ks
    induction ks with
    | nil=>intro i _; rfl
    | cons p ks ih =>
      intro i hn
      obtain ⟨q,m⟩:=p
      simp only [List.map_cons,List.mem_cons,not_or] at hn
      simp only [ab1]
      rw [k9,if_neg hn.1]; exact ih hn.2
   have somev:∀ {ks:List (Nat × Nat)} {i:Nat},∀ p ∈ ks,(look (O0 i ks xs) p.1).isSome=true:=by
    intro ks
    induction ks with
    | nil=>intro i p hp; cases hp
    | cons q ks ih =>
      intro i p hp
      obtain ⟨q,m⟩:=q
      simp only [O0]
      rw [k9]
      split
      ·rfl
      ·rename_i hq
       rcases List.mem_cons.1 hp with rfl | hp
       ·exact absurd rfl hq
       ·exact ih p hp
   obtain ⟨c1,g1,g2⟩:=anF (ks:=ks) (i:=i+n) (al:=al) nd.2 h3 (by omega) (by omega) (fun k' v h=>ha k' v (by simp only [O0]; rw [k9,if_neg (hne k' v h)]; exact h)) somev
   refine ⟨fun j=>a j+c1 j,?_,fun j=>by have:=g2 j; have:=h4 j; show a j+c1 j<=d j; omega⟩
   simp only [ab1,M0]
   refine ⟨abV i n xs,a,c1,ha k _ (by simp only [O0]; rw [k9,if_pos rfl]),?_,memv nd.1,g1,by simp⟩
   rw [ako (by omega),ahs (by omega),<-hys]; exact h2
theorem ahV {R:Type} {r:R} {kp:I5} {vs:List V} {H:VH} {xs:List Value} {hp:Heap} (hs:adZ X E vs H xs hp) {K:VS->Option R} (h:acs kp vs H K=some r) :
 ∃ s s',K s=some r/\St0 X E s s'/\∀ (R':Type) (K':St->Option R'),aa6 kp xs hp K'=K' s':=by
 unfold acs at h
 split at h
 ·rename_i hk
  obtain ⟨k1,k2,k3,k4,k5⟩:=ajs hk
  split at h
  ·rename_i hl
   obtain ⟨w,cv,ch,rfl,hw,hg,hf,hv,ho,l1,l0,lb⟩:=hs
   have hlen:=hv.len
   have hlook:∀ (j s:Nat),kp.vs[j]? = some s->look (Y8 kp.ls++aax 0 kp.vs xs) s=some (.val (xs.getD (0+j) undef)):=by
    intro j s hj
    have hnl:∀ {ls:List (Nat × Nat × Nat)} {m:List (Nat × EV)},(∀ x ∈ ls,x.1 ≠ s)->look (Y8 ls++m) s=look m s:=by
     intro ls
     induction ls with
     | nil=>intro m _; rfl
     | cons p ls ih =>
       intro m hn
       obtain ⟨q,k,o⟩:=p
       simp only [Y8,List.cons_append]
       rw [k9,if_neg (fun e=>hn (q,k,o) (by simp) e.symm)]
       exact ih (fun x hx=>hn x (by simp [hx]))
    rw [hnl (fun x hx e=>amV (k5 x hx) (by rw [e]; exact List.mem_of_getElem? hj))]
    have hev:∀ {ss:List Nat} {i j:Nat},ss.Nodup->ss[j]? = some s->look (aax i ss xs) s=some (.val (xs.getD (i+j) undef)):=by
     intro ss
     induction ss with
     | nil=>intro i j _ h; simp at h
     | cons t ss ih =>
       intro i j nd h
       simp at nd
       simp only [aax]
       rw [k9]
       cases j with
       | zero=>simp at h; subst h; rw [if_pos rfl]; rfl
       | succ j =>
         simp at h
         rw [if_neg (fun e=>nd.1 (by subst e; exact List.mem_of_getElem? h)),ih nd.2 h]
         congr 3; omega
    exact hev k3 hj
   obtain ⟨c1,c2,e1,e2,e3⟩:=anQ (ss:=kp.vs) (i:=0) (ae:=Y8 kp.ls++aax 0 kp.vs xs) (by simpa using hv) (by omega) hlook
   have hls:∀ {ls:List (Nat × Nat × Nat)} {pre:List (Nat × EV)} {rest:List (Nat × VE)} {c:j6},(ls.map (·.1)).Nodup->D3 w rest (pre++(Y8 ls++aax 0 kp.vs xs)) c->(∀ x ∈ ls,look pre x.1=none)->D3 w (ans ls++rest) (pre++(Y8 ls++aax 0 kp.vs xs)) c:=by
    intro ls
    induction ls with
    | nil=>intro pre rest c _ h _; exact h
    | cons p ls ih =>
      intro pre rest c nd h hn
      obtain ⟨q,k,o⟩:=p
      simp only [List.map_cons,List.nodup_cons] at nd
      simp only [ans,List.cons_append,D3]
      have hpre:∀ {m:List (Nat × EV)} {t:Nat},look pre t=none->look (pre++m) t=look m t:=by
       intro m t
       have:∀ {pre:List (Nat × EV)},look pre t=none->look (pre++m) t=look m t:=by
        intro pre
        induction pre with
        | nil=>intro _; rfl
        | cons a pre ih2 =>
          intro hh
          obtain ⟨a1,a2⟩:=a
          rw [k9] at hh
          split at hh
          ·cases hh
          ·rename_i hq
           simp only [List.cons_append]
           rw [k9,if_neg hq]; exact ih2 hh
       exact this
      refine ⟨.loc k o,fun _=>0,c,?_,by simp [RE],?_,by simp⟩
      ·have hq:look pre q=none:=hn (q,k,o) (by simp)
       rw [hpre hq]
       simp only [Y8,List.cons_append]
       rw [k9,if_pos rfl]
      ·have e:pre++(Y8 ((q,k,o)::ls)++aax 0 kp.vs xs)=(pre++[(q,EV.loc k o)])++(Y8 ls++aax 0 kp.vs xs):=by simp [Y8]
       rw [e] at h ⊢
       refine ih nd.2 h (fun x hx=>?_)
       have:look pre x.1=none:=hn x (by simp [hx])
       rw [hpre this,k9,if_neg (fun e=>nd.1 (by rw [<-e]; exact List.mem_map_of_mem hx))]
       rfl
   have henv:=hls (pre:=[]) k4 e1 (fun _ _=>rfl)
   simp only [List.nil_append] at henv
   obtain ⟨c3,f1,f2⟩:=anF (ks:=kp.cs) (i:=kp.vs.length) (al:=O0 kp.vs.length kp.cs xs) k2 (by simpa using e2) (by omega) (by omega) (fun k n h=>h) (by
    intro p hp
    have somev:∀ {ks:List (Nat × Nat)} {i:Nat},∀ p ∈ ks,(look (O0 i ks xs) p.1).isSome=true:=by
     intro ks
     induction ks with
     | nil=>intro i p hp; cases hp
     | cons q ks ih =>
       intro i p hp
       obtain ⟨q,m⟩:=q
       simp only [O0]
       rw [k9]
       split
       ·rfl
       ·rename_i hq
        rcases List.mem_cons.1 hp with rfl | hp
        ·exact absurd rfl hq
        ·exact ih p hp
    exact somev p hp)
   refine ⟨_,aaO kp xs w.hp,h,⟨w,c1,c3,ch,rfl,hw,hg,hf,henv,f1,fun k hk=>?_,ho,fun i=>?_,fun i hi=>?_,fun i hi=>?_⟩,fun R' K'=>?_⟩
   ·have:∀ {ks:List (Nat × Nat)} {i:Nat},look (ab1 i ks vs) k=none->look (O0 i ks xs) k=none:=by
     intro ks
     induction ks with
     | nil=>intro i _; rfl
     | cons p ks ih =>
       intro i hh
       obtain ⟨q,m⟩:=p
       simp only [ab1] at hh
       simp only [O0]
       rw [k9] at hh ⊢
       split at hh
       ·cases hh
       ·rename_i hq; rw [if_neg hq]; exact ih hh
    exact this hk
   ·have:=l1 i; have:=e3 i; have:=f2 i; omega
   ·have:=l0 i hi; have:=e3 i; have:=f2 i; omega
   ·have:=lb i hi; have:=e3 i; have:=f2 i; omega
   ·unfold aa6
    rw [k1]
    simp only
    rw [if_pos (by omega)]; rfl
  ·cases h
 ·cases h
theorem aiQ {R:Type} {r:R} {e:Exit} {s:VS} {s':St} (hs:St0 X E s s'):∀ {outs:List (Exit × I5)} {K:Nat->List V->VH->Option R},afv outs e s K=some r →
 ∃ n vs xs,K n vs s.H=some r/\adZ X E vs s.H xs s'.hp/\∀ (R':Type) (K':Nat->List Value->Heap->Option R'),aaq outs e s' K'=K' n xs s'.hp
 | [],K,h=>by cases h
 | (x,kp)::l,K,h=>by
   simp only [afv] at h
   split at h
   ·rename_i hx
    obtain ⟨vs,xs,h1,h2,h3⟩:=agP hs h
    exact ⟨0,vs,xs,h1,h2,fun R' K'=>by simp only [aaq,hx,h3]⟩
   ·rename_i hx
    obtain ⟨n,vs,xs,h1,h2,h3⟩:=aiQ hs h
    exact ⟨n+1,vs,xs,h1,h2,fun R' K'=>by simp only [aaq,hx,h3]⟩
theorem ao9 {R:Type} {r:R} {vs:List V} {H:VH} {xs:List Value} {hp:Heap} (hs:adZ X E vs H xs hp) {K:Exit->VS->Option R}:∀ {outs:List (Exit × I5)} {n:Nat},inV outs n vs H K=some r →
 ∃ e s s',K e s=some r/\St0 X E s s'/\∀ (R':Type) (K':Exit->St->Option R'),inK outs n xs hp K'=K' e s'
 | [],n,h=>by cases h
 | (x,kp)::l,0,h=>by
   simp only [inV] at h
   obtain ⟨s,s',h1,h2,h3⟩:=ahV hs h
   exact ⟨x,s,s',h1,h2,fun R' K'=>by simp only [inK,h3]⟩
 | (x,kp)::l,n+1,h=>by
   simp only [inV] at h
   obtain ⟨e,s,s',h1,h2,h3⟩:=ao9 hs h
   exact ⟨e,s,s',h1,h2,fun R' K'=>by simp only [inK,h3]⟩
inductive aj6 (B:List V->VH->Option (Option Nat × List V × VH)):Nat->List V->VH->(Nat × List V × VH)->Prop
 | stop {vs:List V} {hp:VH} {m:Nat} {vs':List V} {hp':VH}:B vs hp=some (some m,vs',hp')->aj6 B 0 vs hp (m,vs',hp')
 | more {n:Nat} {vs:List V} {hp:VH} {vs1:List V} {hp1:VH} {res:Nat × List V × VH}:B vs hp=some (none,vs1,hp1)->aj6 B n vs1 hp1 res->aj6 B (n+1) vs hp res
def art (lp:V0):Prop:=∀ B vs hp res,lp B vs hp=some res->∃ n,aj6 B n vs hp res
def ax8 (lp:LpT):Prop:=∀ B vs hp,lp B vs hp=match B vs hp with | none=>none | some (none,vs,hp)=>lp B vs hp | some (some m,vs,hp)=>some (m,vs,hp)
theorem T0 (ht:Twin X Y) (hT:aa9 X) (hcall:∀ f args H r H',X.call f args H=some (r,H')->D4 X Y.call f args H r H') (hlp:art X.lp) (hlq:ax8 Y.lp) :
 ∀ (x:Code) {R R':Type} {r:R} {Q:R'->Prop} {s:VS} {s':St} {K:Exit->VS->Option R} {K':Exit->St->Option R'},St0 X E s s'->F0 X A T x s K=some r →
   (∀ e s s',K e s=some r->St0 X E s s'->∃ r',K' e s'=some r'/\Q r')->∃ r',y3 Y A x s' K'=some r'/\Q r'
 | .skip,R,R',r,Q,s,s',K,K',hs,h,hK=>hK _ _ _ h hs
 | .exit id,R,R',r,Q,s,s',K,K',hs,h,hK=>hK _ _ _ h hs
 | .ret,R,R',r,Q,s,s',K,K',hs,h,hK=>hK _ _ _ h hs
 | .region id ops draw,R,R',r,Q,s,s',K,K',hs,h,hK=>by
   cases draw with
   | false =>
     simp only [F0] at h
     simp only [y3]
     exact aiz ht hT hcall hs h fun cl s s' h hs=>hK _ _ _ h hs
   | true =>
     simp only [F0] at h
     simp only [y3]
     refine aiz ht hT hcall hs h fun cl s s' h hs=>?_
     split at h
     ·rename_i ho; simp only [ho]; exact hK _ _ _ h hs
     ·cases h
 | .cond y a b,R,R',r,Q,s,s',K,K',hs,h,hK=>by
   simp only [F0] at h
   simp only [y3]
   obtain ⟨w,hs⟩:=hs
   obtain ⟨v,x',c,h1,h2,_,h4⟩:=B3 ht hs h
   rw [h4]
   rcases amG h1 with ⟨rfl,h⟩ | ⟨rfl,h⟩ | ⟨rfl,h,h'⟩
   ·simp only [RV] at h2
    simp only [h2.1,U1]
    exact T0 ht hT hcall hlp hlq a ⟨w,hs⟩ h hK
   ·simp only [RV] at h2
    simp only [h2.1,U1]
    exact T0 ht hT hcall hlp hlq b ⟨w,hs⟩ h hK
   ·simp only [RV] at h2
    obtain ⟨⟨bb,hb⟩,_⟩:=h2
    subst hb
    cases bb with
    | true=>exact T0 ht hT hcall hlp hlq a ⟨w,hs⟩ h hK
    | false=>exact T0 ht hT hcall hlp hlq b ⟨w,hs⟩ h' hK
 | .block id a,R,R',r,Q,s,s',K,K',hs,h,hK=>by
   simp only [F0] at h
   simp only [y3]
   refine T0 ht hT hcall hlp hlq a hs h fun e s s' h hs=>?_
   cases e with
   | exit i =>
     simp only at h ⊢
     split at h
     ·rename_i hb; simp only [hb]; exact hK _ _ _ h hs
     ·rename_i hb; simp only [hb]; exact hK _ _ _ h hs
   | _=>exact hK _ _ _ h hs
 | .seq a b,R,R',r,Q,s,s',K,K',hs,h,hK=>by
   simp only [F0] at h
   simp only [y3]
   have behind:∀ (e:Exit) (s:VS) (s':St),(match e with | .normal=>F0 X A T b s K | e=>K e s)=some r->St0 X E s s'->∃ r',(fun (e:Exit) (st:St)=>match e with | .normal=>y3 Y A b st K' | e=>K' e st) e s'=some r'/\Q r':=by
    intro e s s' h hs
    cases e with
    | normal=>exact T0 ht hT hcall hlp hlq b hs h hK
    | _=>exact hK _ _ _ h hs
   split at h
   ·rename_i hj
    split
    ·exact T0 ht hT hcall hlp hlq a (K':=fun e st=>match e with | .normal=>y3 Y A b st K' | e=>K' e st) hs h behind
    ·rename_i hj2
     have:=hj.symm.trans hj2
     cases this
   ·rename_i outs hj
    split
    ·rename_i hj2
     have:=hj.symm.trans hj2
     cases this
    rename_i outs' hj2
    have:=hj.symm.trans hj2
    cases this
    obtain ⟨⟨n,vs,H⟩,h1,h2⟩:=a7 h
    obtain ⟨⟨n',xs,hp⟩,g1,g2⟩:=T0 ht hT hcall hlp hlq a (K':=fun e st=>aaq outs e st fun n vs hp=>some (n,vs,hp)) (Q:=fun q=>q.1=n/\adZ X E vs H q.2.1 q.2.2) hs h1 (fun e s s' h hs=>by
     obtain ⟨m,us,xs,k1,k2,k3⟩:=aiQ hs h
     cases k1
     exact ⟨_,k3 _ _,rfl,k2⟩)
    simp only at g2
    obtain ⟨rfl,g2⟩:=g2
    rw [g1]
    simp only [Option.bind_some]
    obtain ⟨e,s2,s2',k1,k2,k3⟩:=ao9 g2 h2
    rw [k3]
    exact behind e s2 s2' k1 k2
 | .loop a,R,R',r,Q,s,s',K,K',hs,h,hK=>by
   simp only [F0] at h
   simp only [y3]
   split at h
   ·cases h
   ·rename_i li hli
    obtain ⟨vs,xs,h1,h2,h3⟩:=agP hs h
    obtain ⟨⟨n,us,H⟩,h4,h5⟩:=a7 h1
    simp only [hli]
    rw [h3]
    obtain ⟨m,hm⟩:=hlp _ _ _ _ h4
    have loop:∀ {m:Nat} {vs:List V} {H:VH} {res:Nat × List V × VH} {xs:List Value} {hp:Heap},aj6 (fun vs hp=>acs li.ks vs hp fun st=>F0 X A T a st fun e st=>match e with
     | .normal=>abc li.ks st fun vs hp=>some (none,vs,hp)
     | e=>afv li.outs e st fun n vs hp=>some (some n,vs,hp)) m vs H res->adZ X E vs H xs hp →
     ∃ ys hp',Y.lp (fun vs hp=>aa6 li.ks vs hp fun st=>y3 Y A a st fun e st=>match e with
       | .normal=>Q4 li.ks st fun vs hp=>some (none,vs,hp)
       | e=>aaq li.outs e st fun n vs hp=>some (some n,vs,hp)) xs hp=some (res.1,ys,hp')/\adZ X E res.2.1 res.2.2 ys hp':=by
     intro m vs H res xs hp hl
     induction hl generalizing xs hp with
     | @stop vs0 H0 m0 vs1 H1 hB =>
       intro hsv
       obtain ⟨s,s',k1,k2,k3⟩:=ahV hsv hB
       obtain ⟨⟨o,ys,hp'⟩,k4,k5⟩:=T0 ht hT hcall hlp hlq a (K':=fun e st=>match e with
        | .normal=>Q4 li.ks st fun vs hp=>some (none,vs,hp)
        | e=>aaq li.outs e st fun n vs hp=>some (some n,vs,hp)) (Q:=fun q=>q.1=some m0/\adZ X E vs1 H1 q.2.1 q.2.2) k2 k1 (fun e s s' h hs=>by
          cases e with
          | normal =>
            obtain ⟨us,xs,a1,a2,a3⟩:=agP hs h
            cases a1
          | _ =>
            obtain ⟨m,us,xs,a1,a2,a3⟩:=aiQ hs h
            cases a1
            exact ⟨_,a3 _ _,rfl,a2⟩)
       simp only at k5
       obtain ⟨rfl,k5⟩:=k5
       refine ⟨ys,hp',?_,k5⟩
       rw [hlq,k3,k4]
     | @more n0 vs0 H0 vs1 H1 res0 hB _ ih =>
       intro hsv
       obtain ⟨s,s',k1,k2,k3⟩:=ahV hsv hB
       obtain ⟨⟨o,ys,hp'⟩,k4,k5⟩:=T0 ht hT hcall hlp hlq a (K':=fun e st=>match e with
        | .normal=>Q4 li.ks st fun vs hp=>some (none,vs,hp)
        | e=>aaq li.outs e st fun n vs hp=>some (some n,vs,hp)) (Q:=fun q=>q.1=none/\adZ X E vs1 H1 q.2.1 q.2.2) k2 k1 (fun e s s' h hs=>by
          cases e with
          | normal =>
            obtain ⟨us,xs,a1,a2,a3⟩:=agP hs h
            cases a1
            exact ⟨_,a3 _ _,rfl,a2⟩
          | _ =>
            obtain ⟨m,us,xs,a1,a2,a3⟩:=aiQ hs h
            cases a1)
       simp only at k5
       obtain ⟨rfl,k5⟩:=k5
       obtain ⟨zs,hp2,k6,k7⟩:=ih k5
       refine ⟨zs,hp2,?_,k7⟩
       rw [hlq,k3,k4]
       exact k6
    obtain ⟨ys,hp',k1,k2⟩:=loop hm h2
    obtain ⟨e,s2,s2',k3,k4,k5⟩:=ao9 k2 h5
    obtain ⟨r',q1,q2⟩:=hK _ _ _ k3 k4
    exact ⟨r',(congrArg (fun (o:Option (Nat × List Value × Heap))=>o.bind fun q=>inK li.outs q.1 q.2.1 q.2.2 K') k1).trans ((k5 R' K').trans q1),q2⟩
 | .rangeFunc ..,R,R',r,Q,s,s',K,K',hs,h,hK=>by cases h
 | .scope ..,R,R',r,Q,s,s',K,K',hs,h,hK=>by cases h
 | .label ..,R,R',r,Q,s,s',K,K',hs,h,hK=>by cases h
 | .goto ..,R,R',r,Q,s,s',K,K',hs,h,hK=>by cases h
 | .refuse ..,R,R',r,Q,s,s',K,K',hs,h,hK=>by cases h
theorem agb (ht:Twin X Y) (hT:aa9 X) {w:Wd} {R R':Type} {r:R} {Q:R'->Prop} {s':St}:∀ {rs:List ResultVar} {s:VS} {cx:j6} {K:List V->VS->Option R} {K':List Value->Option R'},F5 X E w s s' cx->ach X rs s K=some r →
 (∀ vs s2 xs c,K vs s2=some r->c9 w vs xs c->F5 X E w s2 s' (fun i=>cx i+c i)->∃ r',K' xs=some r'/\Q r')->∃ r',M6 Y rs s' K'=some r'/\Q r'
 | [],s,cx,K,K',hs,h,hK=>hK [] s [] (fun _=>0) h (by simp [c9]) (hs.less (by simp))
 | .tmp t::l,s,cx,K,K',hs,h,hK=>by
   simp only [ach] at h
   simp only [M6]
   obtain ⟨v,x,c,h1,h2,h3,h4⟩:=acd ht hs h
   have hl:look s'.env t=some (.val x):=by
    have:=h4 Value (fun v=>some v)
    simp only [F9,X8] at this
    cases e:look s'.env t with
    | none=>rw [e] at this; cases this
    | some q =>
      rw [e] at this
      cases q<;>simp only at this<;>first | (cases this; done) | skip
      cases this; rfl
   simp only [hl]
   exact agb ht hT h3 h1 fun vs s2 xs d k1 k2 k3=>hK (v::vs) s2 (x::xs) (fun i=>c i+d i) k1 ⟨x,xs,c,d,rfl,h2,k2,by simp⟩ (k3.less (fun i=>by omega))
 | .cell a t::l,s,cx,K,K',hs,h,hK=>by
   simp only [ach] at h
   simp only [M6]
   rw [ht.tab]
   split at h
   ·rename_i ti hti
    simp only [hti]
    obtain ⟨ce,cl,ch,g⟩:=hs
    split at h
    ·rename_i k hl
     obtain ⟨x,c1,c2,h1,h2,_,_⟩:=g.env.look hl
     cases x<;>simp only [RE] at h2
     obtain ⟨rfl,rfl,_⟩:=h2
     simp only [h1]
     split at h
     ·rename_i cs hcs
      obtain ⟨ws,d1,d2,k1,k2,k3,k4⟩:=g.loc.look hcs
      simp only [k1]
      split at h
      ·rename_i hb
       have hb':Nat.beq ws.length ti.size=true:=by rw [<-k2.len]; exact hb
       simp only [hb']
       have hset:=k4 _ _ _ (c9.strip _ k2)
       rw [ahM k1] at hset
       have hst:F5 X E w { s with loc:=Q6 s.loc k (o8 cs) } s' (fun i=>cx i+d1 i):=by
        refine ⟨ce,fun i=>0+d2 i,ch,g.hp,g.hw,g.gl,g.fr,g.env,hset,fun j hj=>g.aaW j (ad2 hj),g.obj,fun i=>?_,fun i hi=>?_,fun i hi=>?_⟩
        ·have:=g.N2 i; have:=k3 i; omega
        ·have:=g.R6 i hi; have:=k3 i; omega
        ·have:=g.O3 i hi; have:=k3 i; omega
       split at h
       ·rename_i hag
        simp only [hag]
        exact agb ht hT hst h fun vs s2 xs d q1 q2 q3=>hK (.agg cs::vs) s2 (.agg ws.toArray::xs) (fun i=>d1 i+d i) q1 ⟨_,xs,d1,d,rfl,by simp only [RV]; exact ⟨ws,rfl,k2⟩,q2,by simp⟩ (q3.less (fun i=>by omega))
       ·rename_i hag
        simp only [hag]
        split at h
        ·rename_i v
         simp only [c9] at k2
         obtain ⟨x,ys,e1,e2,rfl,m1,⟨rfl,m2⟩,m3⟩:=k2
         simp only
         exact agb ht hT hst h fun vs s2 xs d q1 q2 q3=>hK (v::vs) s2 (x::xs) (fun i=>d1 i+d i) q1 ⟨x,xs,d1,d,rfl,m1.congr (fun i=>by rw [m3,m2]; rfl),q2,by simp⟩ (q3.less (fun i=>by omega))
        ·cases h
      ·cases h
     ·cases h
    ·rename_i k off hl
     obtain ⟨x,c1,c2,h1,h2,_,_⟩:=g.env.look hl
     cases x<;>simp only [RE] at h2
     simp only [RV] at h2
     obtain ⟨⟨b,hb1,rfl⟩,_⟩:=h2
     simp only [h1]
     split at h
     ·rename_i cs hcs
      obtain ⟨⟨v,cs2⟩,hld,h⟩:=a7 h
      obtain ⟨b',kb,d1,d2,g1,g2,g3,g4,g5,o2⟩:=g.obj.get hcs (aou hld (hT.pos _ _ hti))
      rw [hb1] at g1; cases g1
      obtain ⟨z,e1,e2,k1,k2,k3,k4⟩:=ajU hld g3
      have hload:abd s'.hp ti.agg ti.size (.pointer (some ⟨b,off,none⟩))=some z:=by
       simp only [abd,g.hp,y9 g2 (by rw [o2]; simp),Option.bind_some]; exact k1
      simp only [hload,Option.bind_some]
      have hst:F5 X E w { s with H:=s.H.set k cs2 } s' (fun i=>cx i+e1 i):=by
       refine ⟨ce,cl,fun i=>e2 i+d2 i,g.hp,g.hw,g.gl,g.fr,g.env,g.loc,g.aaW,g5 cs2 e2 k3,fun i=>?_,fun i hi=>?_,fun i hi=>?_⟩
       ·have:=g.N2 i; have:=g4 i; have:=k4 i; omega
       ·have:=g.R6 i hi; have:=g4 i; have:=k4 i; omega
       ·have:=g.O3 i hi; have:=g4 i; have:=k4 i; omega
      exact agb ht hT hst h fun vs s2 xs d q1 q2 q3=>hK (v::vs) s2 (z::xs) (fun i=>e1 i+d i) q1 ⟨z,xs,e1,d,rfl,k2,q2,by simp⟩ (q3.less (fun i=>by omega))
     ·cases h
    ·cases h
   ·cases h
theorem apo {w:Wd}:∀ {args:List V} {xs:List Value} {i:Nat} {pre:List (Nat × EV)} {c:j6},c9 w args xs c->(∀ j,i<=j->look pre j=none)->D3 w (aeI i args) (pre++abe i xs) c
 | [],xs,i,pre,c,h,hp=>by simp only [c9] at h; simp only [aeI,D3]; exact h.2
 | v::args,xs,i,pre,c,h,hp=>by
   simp only [c9] at h
   obtain ⟨x,ys,c1,c2,rfl,h1,h2,h3⟩:=h
   have hpre:∀ {m:List (Nat × EV)} {t:Nat} {pre:List (Nat × EV)},look pre t=none->look (pre++m) t=look m t:=by
    intro m t pre
    induction pre with
    | nil=>intro _; rfl
    | cons a pre ih2 =>
      intro hh
      obtain ⟨a1,a2⟩:=a
      rw [k9] at hh
      split at hh
      ·cases hh
      ·rename_i hq
       simp only [List.cons_append]
       rw [k9,if_neg hq]; exact ih2 hh
   simp only [aeI,D3]
   refine ⟨.val x,c1,c2,?_,by simp only [RE]; exact h1,?_,h3⟩
   ·rw [hpre (hp i (Nat.le_refl _))]
    simp only [abe]
    rw [k9,if_pos rfl]
   ·have e:pre++abe i (x::ys)=(pre++[(i,EV.val x)])++abe (i+1) ys:=by simp [abe]
    rw [e]
    refine apo h2 fun j hj=>?_
    rw [hpre (hp j (by omega)),k9,if_neg (by omega)]; rfl
def asn (X:XV) (E:En) (r:V) (H':VH) (q:Value × Heap):Prop :=
 ∃ (w2:Wd) (cr ch':j6),q.2=w2.hp/\HW w2/\J9 X w2/\E4 E w2/\RV w2 r q.1 cr/\w7 w2 H' w2.j0 ch'/\(∀ i,cr i+ch' i<=1)/\(∀ i,i<E.hp.length->cr i+ch' i<=E.c0 i)/\(∀ i,w2.hp.length<=i->cr i+ch' i=0)
theorem auD (ht:Twin X Y) (hT:aa9 X) (hcall:∀ f args H r H',X.call f args H=some (r,H')->D4 X Y.call f args H r H') (hlp:art X.lp) (hlq:ax8 Y.lp)
 {f:FuncId} {args:List V} {H H':VH} {r:V} (h:ac3 X f args H=some (r,H')):D4 X (abL Y) f args H r H':=by
 intro w args' ca ch hw hg hv ho hle hbig
 unfold ac3 at h
 unfold abL
 rw [ht.fn,ht.I0]
 split at h
 ·cases h
 ·rename_i fn hfn
  simp only [hfn]
  split at h
  ·cases h
  ·rename_i c hc
   simp only [hc]
   split at h
   ·rename_i hd
    simp only [hd]
    have hfr:E4 ⟨w.hp,w.j0,w.fb,fun i=>ca i+ch i⟩ w:=by
     refine ⟨Nat.le_refl _,fun _ _ h _ _=>h,fun b k hk _=>⟨k,hk,rfl,rfl,rfl,.inl rfl⟩,fun c k hc hk=>?_,⟨[],by simp,by simp⟩,⟨[],by simp,by simp⟩,fun b k hb hk=>?_,fun b kb hk=>⟨kb,hk,rfl,rfl⟩,hw.rlt,hw.j5⟩
     ·have:=(List.getElem?_eq_some_iff.1 hk).1; simp only at hc; omega
     ·simp only at hb
      by_cases q:1<=ca b
      ·obtain ⟨_,_,kb,a1,_,a3⟩:=c9.owned _ hv b q
       have a1':=(l6 a1).1
       rw [hk] at a1'; cases a1'; exact a3
      ·obtain ⟨kb,a1,a3⟩:=w7.ahW ho b (by omega)
       rw [hk] at a1; cases a1; exact a3
    have henv:D3 w (aeI 0 args) (abe 0 args') ca:=by
     have:=apo (pre:=[]) (i:=0) hv (fun _ _=>rfl)
     simpa using this
    have hst:St0 X ⟨w.hp,w.j0,w.fb,fun i=>ca i+ch i⟩ ⟨aeI 0 args,[],H⟩ ⟨abe 0 args',[],w.hp⟩ :=
     ⟨w,ca,fun _=>0,ch,rfl,hw,hg,hfr,henv,by simp [M0],fun _ _=>rfl,ho,fun i=>by have:=hle i; omega,fun i hi=>by simp,fun i hi=>by have:=hbig i hi; omega⟩
    obtain ⟨⟨x,hp2⟩,h1,w2,cr,ch',q2,p2,q3,q4,q5,q6,q7,q8,q9⟩:=T0 ht hT hcall hlp hlq c (Y:=Y) (K':=fun e st=>match e with
     | .normal | .ret=>M6 Y fn.results.toList st fun vs=>some (one vs,st.hp)
     | _=>none) (Q:=asn X ⟨w.hp,w.j0,w.fb,fun i=>ca i+ch i⟩ r H') hst h (fun e s s' h hs=>by
       have fin:ach X fn.results.toList s (fun vs st=>some (aoj vs,st.H))=some (r,H')->∃ r',(M6 Y fn.results.toList s' fun vs=>some (one vs,s'.hp))=some r'/\asn X ⟨w.hp,w.j0,w.fb,fun i=>ca i+ch i⟩ r H' r':=by
        intro h
        obtain ⟨w2,hs⟩:=hs
        refine agb ht hT hs h fun vs s2 xs c k1 k2 k3=>?_
        cases k1
        obtain ⟨ce,cl,ch2,g⟩:=k3
        refine ⟨_,rfl,w2,c,ch2,g.hp,g.hw,g.gl,g.fr,?_,g.obj,fun i=>by have:=g.N2 i; omega,fun i hi=>by have:=g.R6 i hi; show c i+ch2 i<=ca i+ch i; simp only at this; omega,fun i hi=>by have:=g.O3 i hi; omega⟩
        have hl:=k2.len
        match vs,xs,k2,hl with
        | [],[],k2,_=>simp only [aoj,one,RV]; exact ⟨[],rfl,k2⟩
        | [v],[x],k2,_ =>
          simp only [c9] at k2
          obtain ⟨x',ys,e1,e2,h1,m1,⟨rfl,m2⟩,m3⟩:=k2
          cases h1
          exact m1.congr (fun i=>by rw [m3,m2]; rfl)
        | a::b::l,x::y::m,k2,_=>simp only [aoj,one,RV]; exact ⟨_,rfl,k2⟩
       cases e<;>simp only at h ⊢<;>first | exact fin h | cases h)
    simp only at q2
    subst q2
    exact ⟨x,w2,cr,ch',h1,p2,q3,q4,q5,q6,q7,q8,q9⟩
   ·cases h
end
end Go.AM

/- What an operation of the machine of values asks of the calls behind it. -/
namespace Go.AM
set_option linter.unusedSimpArgs false
set_option linter.unusedVariables false
def XV.over (X:XV) (call:y0) (lp:V0):XV:={ X with call:=call,lp:=lp }
section
variable {R:Type} {X:XV} {st:VS} {r:R}
theorem abK {x:Operand} {K:VE->Option R} (h:evV X st x K=some r):∃ e,K e=some r/\∀ (c:y0) (l:V0) (R':Type) (K':VE->Option R'),evV (X.over c l) st x K'=K' e:=by
 cases x with
 | tmp t =>
   simp only [evV] at h
   cases e:look st.env t with
   | none=>rw [e] at h; cases h
   | some e'=>rw [e] at h; exact ⟨e',h,fun c l R' K'=>by simp only [evV,e]⟩
 | const v =>
   simp only [evV] at h
   split at h
   ·exact ⟨_,h,fun c l R' K'=>rfl⟩
   ·rename_i hv
    split at h
    ·rename_i hp
     refine ⟨_,h,fun c l R' K'=>?_⟩
     simp only [evV,hp]
    ·cases h
 | global g =>
   simp only [evV] at h
   cases e:Nat.blt g X.ng with
   | true=>rw [e] at h; exact ⟨_,h,fun c l R' K'=>by show evV _ _ _ _=_; simp only [evV,XV.over,e]⟩
   | false=>rw [e] at h; cases h
 | func f=>exact ⟨_,h,fun c l R' K'=>rfl⟩
theorem D9 {x:Operand} {K:V->Option R} (h:M9 X st x K=some r):∃ v,K v=some r/\∀ (c:y0) (l:V0) (R':Type) (K':V->Option R'),M9 (X.over c l) st x K'=K' v:=by
 obtain ⟨e,hk,he⟩:=abK h
 cases e with
 | val v=>exact ⟨v,hk,fun c l R' K'=>by unfold M9; rw [he]⟩
 | fl xs=>exact ⟨_,hk,fun c l R' K'=>by unfold M9; rw [he]⟩
 | loc k o=>cases hk
 | D7=>cases hk
theorem ae3 {x:Operand} {K:V->VS->Option R} (h:vtV X st x K=some r):∃ v,K v (used st x)=some r/\∀ (c:y0) (l:V0) (R':Type) (K':V->VS->Option R'),vtV (X.over c l) st x K'=K' v (used st x):=by
 obtain ⟨v,h1,h2⟩:=D9 (K:=fun v=>K v (used st x)) h
 exact ⟨v,h1,fun c l R' K'=>h2 c l R' fun v=>K' v (used st x)⟩
theorem af4:∀ {xs:List Operand} {K:List V->Option R},afw X st xs K=some r->∃ vs,K vs=some r/\∀ (c:y0) (l:V0) (R':Type) (K':List V->Option R'),afw (X.over c l) st xs K'=K' vs
 | [],K,h=>⟨[],h,fun _ _ _ _=>rfl⟩
 | x::xs,K,h=>by
   obtain ⟨v,h,hv⟩:=D9 h
   obtain ⟨vs,h,hvs⟩:=af4 h
   exact ⟨v::vs,h,fun c l R' K'=>by simp only [afw,hv,hvs]⟩
theorem anx {x:Option Operand} {K:Option V->Option R} (h:voV X st x K=some r):∃ v,K v=some r/\∀ (c:y0) (l:V0) (R':Type) (K':Option V->Option R'),voV (X.over c l) st x K'=K' v:=by
 cases x with
 | none=>exact ⟨none,h,fun _ _ _ _=>rfl⟩
 | some x =>
   obtain ⟨v,h,hv⟩:=D9 h
   exact ⟨some v,h,fun c l R' K'=>by simp only [voV,hv]⟩
theorem al1 {mv:List Nat}:∀ {xs:List Operand} {i:Nat} {st:VS} {K:List V->VS->Option R},adb X mv i xs st K=some r->∃ vs s2,K vs s2=some r/\∀ (c:y0) (l:V0) (R':Type) (K':List V->VS->Option R'),adb (X.over c l) mv i xs st K'=K' vs s2
 | [],i,st,K,h=>⟨[],st,h,fun _ _ _ _=>rfl⟩
 | x::xs,i,st,K,h=>by
   simp only [adb] at h
   obtain ⟨v,h,hv⟩:=D9 h
   split at h
   ·rename_i hm
    obtain ⟨vs,s2,h,hvs⟩:=al1 h
    exact ⟨v::vs,s2,h,fun c l R' K'=>by simp only [adb,hv,hm,hvs]⟩
   ·rename_i hm
    obtain ⟨vs,s2,h,hvs⟩:=al1 h
    exact ⟨strip v::vs,s2,h,fun c l R' K'=>by simp only [adb,hv,hm,hvs]⟩
theorem ahy {agg:Bool} {n:Nat} {v:V} {K:List V->Option R} (h:aah agg n v K=some r):∃ cs,K cs=some r/\∀ (R':Type) (K':List V->Option R'),aah agg n v K'=K' cs:=by
 cases agg with
 | true =>
   simp only [aah] at h
   obtain ⟨cs,h1,h⟩:=a7 h
   exact ⟨_,h,fun R' K'=>by simp only [aah,h1,Option.bind_some]⟩
 | false =>
   simp only [aah] at h
   obtain ⟨u,h1,h⟩:=a7 h
   exact ⟨_,h,fun R' K'=>by simp only [aah,h1,Option.bind_some]⟩
theorem afp {place:Nat->Option (Nat × Nat × Bool)}:∀ {ps:List (Nat × Operand)} {cells:List V} {st:VS} {K:List V->VS->Option R},abF X place ps cells st K=some r →
 ∃ cs s2,K cs s2=some r/\∀ (c:y0) (l:V0) (R':Type) (K':List V->VS->Option R'),abF (X.over c l) place ps cells st K'=K' cs s2
 | [],cells,st,K,h=>⟨cells,st,h,fun _ _ _ _=>rfl⟩
 | (i,x)::rest,cells,st,K,h=>by
   simp only [abF] at h
   cases e:place i with
   | none=>rw [e] at h; cases h
   | some p =>
     obtain ⟨off,n,agg⟩:=p
     rw [e] at h
     simp only at h
     cases hb:Nat.ble (off+n) cells.length with
     | false=>rw [hb] at h; cases h
     | true =>
       rw [hb] at h
       obtain ⟨v,h,hv⟩:=ae3 h
       obtain ⟨cs,h,hcs⟩:=ahy h
       cases hb2:Nat.ble (off+cs.length) cells.length with
       | false=>rw [hb2] at h; cases h
       | true =>
         rw [hb2] at h
         obtain ⟨cells',s2,h,hp⟩:=afp h
         exact ⟨cells',s2,h,fun c l R' K'=>by simp only [abF,e,hb,hv,hcs,hb2,hp]⟩
end
def awF (X:XV) (A:S5) (T:List Nat) (o:Oper) (st:VS) {R:Type} (K:VE->VS->D0->Option R) (r:R):Prop :=
 (∃ e s2 c,K e s2 c=some r/\∀ (cl:y0) (l:V0) (R':Type) (K':VE->VS->D0->Option R'),A7 (X.over cl l) A T o st K'=K' e s2 c) ∨
 (∃ (f:FuncId) (vs:List V) (s2:VS) (res:V × VH),X.call f vs s2.H=some res/\K (.val res.1) { s2 with H:=res.2 } .W=some r/\∀ (cl:y0) (l:V0) (R':Type) (K':VE->VS->D0->Option R'),A7 (X.over cl l) A T o st K'=(cl f vs s2.H).bind fun r=>K' (.val r.1) { s2 with H:=r.2 } .W) ∨
 (∃ (f:FuncId) (vs:List V) (res:V × VH) (e:VE) (s2:VS) (c:D0),X.call f vs []=some res/\K e s2 c=some r/\∀ (cl:y0) (l:V0) (R':Type) (K':VE->VS->D0->Option R'),cl f vs []=some res->A7 (X.over cl l) A T o st K'=K' e s2 c)
theorem adD {c:y0} {f:FuncId} {vs:List V} {v:V} (h:P3 c f vs=some v):∃ res,c f vs []=some res/\∀ c':y0,c' f vs []=some res->P3 c' f vs=some v:=by
 unfold P3 at h ⊢
 split at h
 ·rename_i hn
  obtain ⟨res,h1,h2⟩:=a7 h
  exact ⟨res,h1,fun c' h3=>by rw [h3]; exact h2⟩
 ·cases h
theorem aks {c:y0} {f:FuncId} {vs:List V} {v:V} (h:aar c f vs=some v):∃ res,c f vs []=some res/\∀ c':y0,c' f vs []=some res->aar c' f vs=some v:=by
 unfold aar at h ⊢
 split at h
 ·rename_i hn
  obtain ⟨res,h1,h2⟩:=a7 h
  exact ⟨res,h1,fun c' h3=>by rw [h3]; exact h2⟩
 ·cases h
theorem arl {c:y0} {f:FuncId} {H:VH} {vs:List V} {v:V} (h:Q7 c f H vs=some v):∃ az res,c f az []=some res/\∀ c':y0,c' f az []=some res->Q7 c' f H vs=some v:=by
 unfold Q7 at h
 split at h
 ·rename_i hn
  obtain ⟨res,h1,h2⟩:=adD h
  exact ⟨_,res,h1,fun c' h3=>by unfold Q7; rw [hn]; exact h2 c' h3⟩
 ·rename_i hn
  obtain ⟨res,h1,h2⟩:=adD h
  exact ⟨_,res,h1,fun c' h3=>by unfold Q7; rw [hn]; exact h2 c' h3⟩
theorem arP {c:y0} {f:FuncId} {H:VH} {vs:List V} {v:V} (h:acP c f H vs=some v):∃ az res,c f az []=some res/\∀ c':y0,c' f az []=some res->acP c' f H vs=some v:=by
 unfold acP at h
 obtain ⟨res,h1,h2⟩:=adD h
 exact ⟨_,res,h1,fun c' h3=>by unfold acP; exact h2 c' h3⟩
theorem atK {c:y0} {f:FuncId} {H:VH} {vs:List V} {v:V} (h:adA c f H vs=some v):∃ az res,c f az []=some res/\∀ c':y0,c' f az []=some res->adA c' f H vs=some v:=by
 unfold adA at h
 split at h
 ·rename_i hn
  obtain ⟨res,h1,h2⟩:=aks h
  exact ⟨_,res,h1,fun c' h3=>by unfold adA; rw [hn]; exact h2 c' h3⟩
 ·rename_i hn
  obtain ⟨u,hu,h⟩:=a7 h
  obtain ⟨res,h1,h2⟩:=aks hu
  exact ⟨_,res,h1,fun c' h3=>by unfold adA; rw [hn]; simp only [h2 c' h3,Option.bind_some]; exact h⟩
theorem ar8 {u:Bool} {c:y0} {f:FuncId} {H:VH} {vs:List V} {v:V} (h:aio u c f H vs=some v):∃ az res,c f az []=some res/\∀ c':y0,c' f az []=some res->aio u c' f H vs=some v:=by
 cases u with
 | false=>exact atK h
 | true =>
   simp only [aio,alD] at h ⊢
   split at h
   ·rename_i hn
    obtain ⟨res,h1,h2⟩:=a7 h
    exact ⟨_,res,h1,fun c' h3=>by rw [h3]; exact h2⟩
   ·cases h
theorem atd {c:y0} {f:FuncId} {H:VH} {vs:List V} {v:V × VH} (h:acx c f H vs=some v):∃ az res,c f az []=some res/\∀ c':y0,c' f az []=some res->acx c' f H vs=some v:=by
 unfold acx at h ⊢
 split at h
 ·obtain ⟨res,h1,h2⟩:=a7 h
  exact ⟨_,res,h1,fun c' h3=>by rw [h3]; exact h2⟩
 ·cases h
theorem anY {R:Type} {d:Nat} {v:V} {H:VH} {K:V->VH->Option R} {r:R} (h:agS d v H K=some r):K (prom d H v).1 (prom d H v).2=some r/\∀ (R':Type) (K':V->VH->Option R'),agS d v H K'=K' (prom d H v).1 (prom d H v).2:=by
 unfold agS at h ⊢
 split at h
 ·rename_i ho
  exact ⟨h,fun R' K'=>rfl⟩
 ·cases h
section
variable {X:XV} {A:S5} {T:List Nat} {R:Type} {K:VE->VS->D0->Option R} {r:R} {o:Oper} {st:VS}
theorem p9 (X:XV) (c:y0) (l:V0):(X.over c l).tab=X.tab:=rfl
theorem O8 (X:XV) (c:y0) (l:V0):(X.over c l).kind=X.kind:=rfl
theorem atJ (X:XV) (c:y0) (l:V0):(X.over c l).ext=X.ext:=rfl
theorem aur (X:XV) (c:y0) (l:V0):(X.over c l).mv=X.mv:=rfl
theorem akR (X:XV) (c:y0) (l:V0):(X.over c l).H4=X.H4:=rfl
theorem M1 (X:XV) (c:y0) (l:V0):(X.over c l).call=c:=rfl
set_option maxHeartbeats 4000000 in
theorem au2 (h:A7 X A T o st K=some r):awF X A T o st K r:=by
 unfold A7 at h
 cases hop:o.op with
 | move x =>
   simp only [hop] at h
   split at h
   ·rename_i ht
    obtain ⟨e,h,he⟩:=abK h
    exact .inl ⟨_,_,_,h,fun cl l R' K'=>by unfold A7; simp only [hop,ht,he]⟩
   ·rename_i ht
    obtain ⟨e,h,he⟩:=abK h
    exact .inl ⟨_,_,_,h,fun cl l R' K'=>by unfold A7; simp only [hop,ht,he]⟩
 | assign x =>
   simp only [hop] at h
   split at h
   ·rename_i ht
    obtain ⟨e,h,he⟩:=abK h
    exact .inl ⟨_,_,_,h,fun cl l R' K'=>by unfold A7; simp only [hop,ht,he]⟩
   ·rename_i ht
    obtain ⟨e,h,he⟩:=abK h
    exact .inl ⟨_,_,_,h,fun cl l R' K'=>by unfold A7; simp only [hop,ht,he]⟩
 | pick c x y =>
   simp only [hop] at h
   obtain ⟨vc,h,hc⟩:=D9 h
   obtain ⟨ex,h,hx⟩:=abK h
   obtain ⟨ey,h,hy⟩:=abK h
   split at h
   ·rcases abW h with ⟨rfl,h⟩ | ⟨rfl,h⟩
    ·cases h
    ·exact .inl ⟨_,_,_,h,fun cl l R' K'=>by unfold A7; simp only [hop,hc,hx,hy,l7]⟩
   ·rcases abW h with ⟨rfl,h⟩ | ⟨rfl,h⟩
    ·exact .inl ⟨_,_,_,h,fun cl l R' K'=>by unfold A7; simp only [hop,hc,hx,hy,l7]⟩
    ·cases h
   ·obtain ⟨v,hv,h⟩:=a7 h
    exact .inl ⟨_,_,_,h,fun cl l R' K'=>by unfold A7; simp only [hop,hc,hx,hy,hv,Option.bind_some]⟩
   ·cases h
 | alloc elem =>
   simp only [hop] at h
   split at h
   ·rename_i ti d ht hd
    split at h
    ·rename_i hm
     split at h
     ·rename_i hl
      exact .inl ⟨_,_,_,h,fun cl l R' K'=>by unfold A7; simp only [hop,p9,ht,hd,hm,hl]⟩
     ·cases h
    ·rename_i hm
     exact .inl ⟨_,_,_,h,fun cl l R' K'=>by unfold A7; simp only [hop,p9,ht,hd,hm]⟩
   ·cases h
 | box elem x =>
   simp only [hop] at h
   split at h
   ·rename_i ti d ht hd
    obtain ⟨v,h,hv⟩:=ae3 h
    obtain ⟨cs,h,hcs⟩:=ahy h
    split at h
    ·rename_i hm
     split at h
     ·rename_i hl
      exact .inl ⟨_,_,_,h,fun cl l R' K'=>by unfold A7; simp only [hop,p9,ht,hd,hm,hl,hv,hcs]⟩
     ·cases h
    ·rename_i hm
     exact .inl ⟨_,_,_,h,fun cl l R' K'=>by unfold A7; simp only [hop,p9,ht,hd,hm,hv,hcs]⟩
   ·cases h
 | build t parts =>
   simp only [hop] at h
   split at h
   ·rename_i ht
    obtain ⟨cells',s2,h,hp⟩:=afp h
    exact .inl ⟨_,_,_,h,fun cl l R' K'=>by unfold A7; simp only [hop,p9,ht,hp]⟩
   ·rename_i ht
    obtain ⟨cells',s2,h,hp⟩:=afp h
    exact .inl ⟨_,_,_,h,fun cl l R' K'=>by unfold A7; simp only [hop,p9,ht,hp]⟩
   ·cases h
 | buildSlice t len parts =>
   simp only [hop] at h
   split at h
   ·rename_i ht
    split at h
    ·rename_i te hte
     split at h
     ·rename_i hb
      obtain ⟨cells',s2,h,hp⟩:=afp h
      exact .inl ⟨_,_,_,h,fun cl l R' K'=>by unfold A7; simp only [hop,p9,ht,hte,hb,hp]⟩
     ·cases h
    ·cases h
   ·cases h
 | load t x =>
   simp only [hop] at h
   split at h
   ·rename_i ti ht
    obtain ⟨e,h,he⟩:=abK h
    split at h
    ·split at h
     ·rename_i cs hk
      obtain ⟨c,hc,h⟩:=a7 h
      exact .inl ⟨_,_,_,h,fun cl l R' K'=>by unfold A7; simp only [hop,p9,ht,he,hk,hc,Option.bind_some]⟩
     ·cases h
    ·obtain ⟨c,hc,h⟩:=a7 h
     exact .inl ⟨_,_,_,h,fun cl l R' K'=>by unfold A7; simp only [hop,p9,akR,ht,he,hc,Option.bind_some]⟩
    ·cases h
   ·cases h
 | store t x y =>
   simp only [hop] at h
   split at h
   ·rename_i ti ht
    obtain ⟨e,h,he⟩:=abK h
    obtain ⟨v,h,hv⟩:=ae3 h
    obtain ⟨cs,h,hcs⟩:=ahy h
    split at h
    ·split at h
     ·rename_i w6 hk
      split at h
      ·rename_i hb
       exact .inl ⟨_,_,_,h,fun cl l R' K'=>by unfold A7; simp only [hop,p9,ht,he,hv,hcs,hk,hb]⟩
      ·cases h
     ·cases h
    ·obtain ⟨H2,hh,h⟩:=a7 h
     exact .inl ⟨_,_,_,h,fun cl l R' K'=>by unfold A7; simp only [hop,p9,ht,he,hv,hcs,hh,Option.bind_some]⟩
    ·cases h
   ·cases h
 | nilCheck x =>
   simp only [hop] at h
   obtain ⟨e,h,he⟩:=abK h
   split at h
   ·exact .inl ⟨_,_,_,h,fun cl l R' K'=>by unfold A7; simp only [hop,he]⟩
   ·obtain ⟨v,hv,h⟩:=a7 h
    exact .inl ⟨_,_,_,h,fun cl l R' K'=>by unfold A7; simp only [hop,he,hv,Option.bind_some]⟩
   ·cases h
 | binOp op t x y yt =>
   simp only [hop] at h
   split at h
   ·rename_i ti ht
    split at h
    ·rename_i hn
     obtain ⟨a,h,ha⟩:=D9 h
     obtain ⟨v,hv,h⟩:=a7 h
     exact .inl ⟨_,_,_,h,fun cl l R' K'=>by unfold A7; simp only [hop,p9,ht,hn,ha,hv,Option.bind_some]⟩
    ·rename_i hn
     obtain ⟨a,h,ha⟩:=D9 h
     obtain ⟨b,h,hb⟩:=D9 h
     obtain ⟨v,hv,h⟩:=a7 h
     exact .inl ⟨_,_,_,h,fun cl l R' K'=>by unfold A7; simp only [hop,p9,ht,hn,ha,hb,hv,Option.bind_some]⟩
   ·cases h
 | unOp op t x =>
   simp only [hop] at h
   obtain ⟨a,h,ha⟩:=D9 h
   obtain ⟨v,hv,h⟩:=a7 h
   exact .inl ⟨_,_,_,h,fun cl l R' K'=>by unfold A7; simp only [hop,ha,hv,Option.bind_some]⟩
 | convert src dst x =>
   simp only [hop] at h
   split at h
   ·rename_i ts td hts htd
    obtain ⟨va,h,ha⟩:=D9 h
    split at h
    ·rename_i k k' hk hk'
     obtain ⟨v,hv,h⟩:=a7 h
     exact .inl ⟨_,_,_,h,fun cl l R' K'=>by unfold A7; simp only [hop,p9,hts,htd,ha,hk,hk',hv,Option.bind_some]⟩
    ·rename_i hk hk'
     obtain ⟨v,hv,h⟩:=a7 h
     exact .inl ⟨_,_,_,h,fun cl l R' K'=>by unfold A7; simp only [hop,p9,hts,htd,ha,hk,hk',hv,Option.bind_some]⟩
    ·rename_i hk hk'
     split at h
     ·rename_i hte
      obtain ⟨v,hv,h⟩:=a7 h
      exact .inl ⟨_,_,_,h,fun cl l R' K'=>by unfold A7; simp only [hop,p9,hts,htd,ha,hk,hk',hte,hv,Option.bind_some]⟩
     ·cases h
    ·rename_i hk hk'
     split at h
     ·rename_i hte
      obtain ⟨v,hv,h⟩:=a7 h
      exact .inl ⟨_,_,_,h,fun cl l R' K'=>by unfold A7; simp only [hop,p9,hts,htd,ha,hk,hk',hte,hv,Option.bind_some]⟩
     ·cases h
    ·cases h
   ·cases h
 | makeFunc fn first captured =>
   simp only [hop] at h
   cases hz:first.size with
   | zero =>
     simp only [hz] at h
     split at h
     ·obtain ⟨vs,h,hvs⟩:=af4 h
      exact .inl ⟨_,_,_,h,fun cl l R' K'=>by unfold A7; simp only [hop,hz,hvs]⟩
     ·cases h
   | succ n=>simp only [hz] at h; cases h
 | makeSlice t l c =>
   simp only [hop] at h
   split at h
   ·rename_i ht
    obtain ⟨vl,h,hl⟩:=D9 h
    obtain ⟨vc,h,hc⟩:=D9 h
    obtain ⟨n,hn,h⟩:=a7 h
    exact .inl ⟨_,_,_,h,fun cl l R' K'=>by unfold A7; simp only [hop,p9,ht,hl,hc,hn,Option.bind_some]⟩
   ·cases h
 | slice t x lo hi mx =>
   simp only [hop] at h
   split at h
   ·rename_i ht
    obtain ⟨v,h,hv⟩:=D9 h
    obtain ⟨l,h,hl⟩:=anx h
    obtain ⟨k,h,hk⟩:=anx h
    split at h
    ·obtain ⟨u,hu,h⟩:=a7 h
     exact .inl ⟨_,_,_,h,fun cl l R' K'=>by unfold A7; simp only [hop,p9,ht,hv,hl,hk,hu,Option.bind_some]⟩
    ·cases h
   ·rename_i ht
    obtain ⟨v,h,hv⟩:=D9 h
    split at h
    ·obtain ⟨l,h,hl⟩:=anx h
     obtain ⟨k,h,hk⟩:=anx h
     obtain ⟨u,hu,h⟩:=a7 h
     exact .inl ⟨_,_,_,h,fun cl l R' K'=>by unfold A7; simp only [hop,p9,ht,hv,hl,hk,hu,Option.bind_some]⟩
    ·obtain ⟨l,h,hl⟩:=D9 h
     obtain ⟨k,h,hk⟩:=D9 h
     obtain ⟨m,h,hm⟩:=D9 h
     obtain ⟨u,hu,h⟩:=a7 h
     exact .inl ⟨_,_,_,h,fun cl l R' K'=>by unfold A7; simp only [hop,p9,ht,hv,hl,hk,hm,hu,Option.bind_some]⟩
    ·cases h
   ·rename_i ht
    split at h
    ·obtain ⟨v,h,hv⟩:=D9 h
     obtain ⟨u,hu,h⟩:=a7 h
     exact .inl ⟨_,_,_,h,fun cl l R' K'=>by unfold A7; simp only [hop,p9,akR,ht,hv,hu,Option.bind_some]⟩
    ·cases h
   ·cases h
 | fieldAddr t x f =>
   simp only [hop] at h
   split at h
   ·rename_i ht
    split at h
    ·rename_i off n agg hf
     obtain ⟨e,h,he⟩:=abK h
     split at h
     ·exact .inl ⟨_,_,_,h,fun cl l R' K'=>by unfold A7; simp only [hop,p9,ht,hf,he]⟩
     ·obtain ⟨v,hv,h⟩:=a7 h
      exact .inl ⟨_,_,_,h,fun cl l R' K'=>by unfold A7; simp only [hop,p9,ht,hf,he,hv,Option.bind_some]⟩
     ·cases h
    ·cases h
   ·cases h
 | field t x f =>
   simp only [hop] at h
   split at h
   ·rename_i ht
    split at h
    ·rename_i off m agg hf
     obtain ⟨v,h,hv⟩:=D9 h
     obtain ⟨cs,hcs,h⟩:=a7 h
     split at h
     ·obtain ⟨c,hc,h⟩:=a7 h
      exact .inl ⟨_,_,_,h,fun cl l R' K'=>by unfold A7; simp only [hop,p9,ht,hf,hv,hcs,hc,Option.bind_some]⟩
     ·obtain ⟨c,hc,h⟩:=a7 h
      exact .inl ⟨_,_,_,h,fun cl l R' K'=>by unfold A7; simp only [hop,p9,ht,hf,hv,hcs,hc,Option.bind_some]⟩
    ·cases h
   ·cases h
 | indexAddr t x i =>
   simp only [hop] at h
   split at h
   ·rename_i ht
    obtain ⟨v,h,hv⟩:=D9 h
    obtain ⟨j,h,hj⟩:=D9 h
    obtain ⟨u,hu,h⟩:=a7 h
    exact .inl ⟨_,_,_,h,fun cl l R' K'=>by unfold A7; simp only [hop,p9,ht,hv,hj,hu,Option.bind_some]⟩
   ·rename_i ht
    obtain ⟨v,h,hv⟩:=D9 h
    obtain ⟨j,h,hj⟩:=D9 h
    obtain ⟨u,hu,h⟩:=a7 h
    exact .inl ⟨_,_,_,h,fun cl l R' K'=>by unfold A7; simp only [hop,p9,ht,hv,hj,hu,Option.bind_some]⟩
   ·cases h
 | index t x i =>
   simp only [hop] at h
   split at h
   ·rename_i ht
    obtain ⟨v,h,hv⟩:=D9 h
    obtain ⟨j,h,hj⟩:=D9 h
    obtain ⟨u,hu,h⟩:=a7 h
    exact .inl ⟨_,_,_,h,fun cl l R' K'=>by unfold A7; simp only [hop,p9,ht,hv,hj,hu,Option.bind_some]⟩
   ·rename_i ht
    obtain ⟨v,h,hv⟩:=D9 h
    obtain ⟨j,h,hj⟩:=D9 h
    obtain ⟨u,hu,h⟩:=a7 h
    exact .inl ⟨_,_,_,h,fun cl l R' K'=>by unfold A7; simp only [hop,p9,ht,hv,hj,hu,Option.bind_some]⟩
   ·cases h
 | extract x i =>
   simp only [hop] at h
   split at h
   ·rename_i t
    obtain ⟨v,h,hv⟩:=D9 h
    obtain ⟨u,hu,h⟩:=a7 h
    split at h
    ·rename_i hm
     exact .inl ⟨_,_,_,h,fun cl l R' K'=>by unfold A7; simp only [hop,hv,hu,hm,Option.bind_some]⟩
    ·rename_i hm
     exact .inl ⟨_,_,_,h,fun cl l R' K'=>by unfold A7; simp only [hop,hv,hu,hm,Option.bind_some]⟩
   ·cases h
 | call c =>
   simp only [hop] at h
   split at h
   ·rename_i hcal
    split at h
    ·rename_i x t hargs htys
     split at h
     ·rename_i ht
      obtain ⟨v,h,hv⟩:=D9 h
      obtain ⟨u,hu,h⟩:=a7 h
      exact .inl ⟨_,_,_,h,fun cl l R' K'=>by unfold A7; simp only [hop,p9,hcal,hargs,htys,ht,hv,hu,Option.bind_some]⟩
     ·rename_i ht
      obtain ⟨v,h,hv⟩:=D9 h
      obtain ⟨u,hu,h⟩:=a7 h
      exact .inl ⟨_,_,_,h,fun cl l R' K'=>by unfold A7; simp only [hop,p9,hcal,hargs,htys,ht,hv,hu,Option.bind_some]⟩
     ·cases h
    ·cases h
   ·rename_i hcal
    split at h
    ·rename_i x y hargs
     obtain ⟨v,h,hv⟩:=D9 h
     obtain ⟨u,h,hu⟩:=D9 h
     obtain ⟨m,hm,h⟩:=a7 h
     exact .inl ⟨_,_,_,h,fun cl l R' K'=>by unfold A7; simp only [hop,p9,hcal,hargs,hv,hu,hm,Option.bind_some]⟩
    ·cases h
   ·rename_i hcal
    split at h
    ·rename_i x y t u d hargs htys hdst
     split at h
     ·rename_i ht hu
      split at h
      ·rename_i b hku
       split at h
       ·rename_i hm
        obtain ⟨e,h,he⟩:=abK h
        obtain ⟨v,h,hv⟩:=ae3 h
        split at h
        ·obtain ⟨q,hq,h⟩:=a7 h
         exact .inl ⟨_,_,_,h,fun cl l R' K'=>by unfold A7; simp only [hop,p9,hcal,hargs,htys,hdst,ht,hu,hku,he,hv,hm,hq,Option.bind_some]⟩
        ·cases h
       ·rename_i hm
        split at h
        ·rename_i hfl
         obtain ⟨s,h,hs⟩:=ae3 h
         obtain ⟨v,h,hv⟩:=ae3 h
         obtain ⟨q,hq,h⟩:=a7 h
         rw [hdst] at hfl hq
         exact .inl ⟨_,_,_,h,fun cl l R' K'=>by unfold A7; simp only [hop,p9,hcal,hargs,htys,hdst,ht,hu,hku,hs,hv,hm,hfl,hq,Option.bind_some]⟩
        ·rename_i hfl
         obtain ⟨s,h,hs⟩:=ae3 h
         obtain ⟨v,h,hv⟩:=ae3 h
         obtain ⟨xs,hxs,h⟩:=a7 h
         obtain ⟨q,hq,h⟩:=a7 h
         rw [hdst] at hfl
         exact .inl ⟨_,_,_,h,fun cl l R' K'=>by unfold A7; simp only [hop,p9,hcal,hargs,htys,hdst,ht,hu,hku,hs,hv,hxs,hm,hfl,hq,Option.bind_some]⟩
      ·cases h
     ·cases h
    ·cases h
   ·rename_i f hcal
    split at h
    ·rename_i hk
     obtain ⟨vs,s2,h,hvs⟩:=al1 h
     obtain ⟨q,hq,h⟩:=a7 h
     exact .inr (.inl ⟨_,_,_,_,hq,h,fun cl l R' K'=>by unfold A7; simp only [hop,hcal,aur,hvs,O8,hk,M1]⟩)
    ·rename_i hk
     obtain ⟨vs,h,hvs⟩:=af4 h
     split at h
     ·rename_i hfl
      split at h
      ·rename_i hf7
       obtain ⟨q,hq,h⟩:=a7 h
       obtain ⟨az,res,h1,h2⟩:=arP hq
       exact .inr (.inr ⟨_,_,_,_,_,_,h1,h,fun cl l R' K' h3=>by unfold A7; simp only [hop,hcal,hvs,O8,hk,M1,hfl,hf7,h2 cl h3,Option.bind_some]⟩)
      ·rename_i hf7
       obtain ⟨q,hq,h⟩:=a7 h
       obtain ⟨az,res,h1,h2⟩:=arl hq
       exact .inr (.inr ⟨_,_,_,_,_,_,h1,h,fun cl l R' K' h3=>by unfold A7; simp only [hop,hcal,hvs,O8,hk,M1,hfl,hf7,h2 cl h3,Option.bind_some]⟩)
     ·rename_i hfl
      obtain ⟨q,hq,h⟩:=a7 h
      obtain ⟨res,h1,h2⟩:=adD hq
      exact .inr (.inr ⟨_,_,_,_,_,_,h1,h,fun cl l R' K' h3=>by unfold A7; simp only [hop,hcal,hvs,O8,hk,M1,hfl,h2 cl h3,Option.bind_some]⟩)
    ·rename_i hk
     obtain ⟨vs,h,hvs⟩:=af4 h
     split at h
     ·rename_i hfl
      split at h
      ·rename_i hf6
       obtain ⟨q,hq,h⟩:=a7 h
       obtain ⟨az,res,h1,h2⟩:=atd hq
       exact .inr (.inr ⟨_,_,_,_,_,_,h1,h,fun cl l R' K' h3=>by unfold A7; simp only [hop,hcal,hvs,O8,hk,M1,hfl,hf6,h2 cl h3,Option.bind_some]⟩)
      rename_i hf6
      obtain ⟨q,hq,h⟩:=a7 h
      obtain ⟨az,res,h1,h2⟩:=ar8 hq
      split at h
      ·rename_i hf1
       obtain ⟨h,hp⟩:=anY h
       exact .inr (.inr ⟨_,_,_,_,_,_,h1,h,fun cl l R' K' h3=>by unfold A7; simp only [hop,hcal,hvs,O8,hk,M1,hfl,hf6,hf1,h2 cl h3,Option.bind_some,hp]⟩)
      ·rename_i hf1
       split at h
       ·rename_i hf3
        obtain ⟨h,hp⟩:=anY h
        exact .inr (.inr ⟨_,_,_,_,_,_,h1,h,fun cl l R' K' h3=>by unfold A7; simp only [hop,hcal,hvs,O8,hk,M1,hfl,hf6,hf1,hf3,h2 cl h3,Option.bind_some,hp]⟩)
       ·rename_i hf3
        exact .inr (.inr ⟨_,_,_,_,_,_,h1,h,fun cl l R' K' h3=>by unfold A7; simp only [hop,hcal,hvs,O8,hk,M1,hfl,hf6,hf1,hf3,h2 cl h3,Option.bind_some]⟩)
     ·rename_i hfl
      obtain ⟨q,hq,h⟩:=a7 h
      obtain ⟨res,h1,h2⟩:=aks hq
      exact .inr (.inr ⟨_,_,_,_,_,_,h1,h,fun cl l R' K' h3=>by unfold A7; simp only [hop,hcal,hvs,O8,hk,M1,hfl,h2 cl h3,Option.bind_some]⟩)
    ·rename_i n hk
     obtain ⟨vs,h,hvs⟩:=af4 h
     obtain ⟨az,has,h⟩:=a7 h
     obtain ⟨q,hq,h⟩:=a7 h
     obtain ⟨u,hu,h⟩:=a7 h
     exact .inl ⟨_,_,_,h,fun cl l R' K'=>by unfold A7; simp only [hop,hcal,hvs,O8,hk,atJ,has,hq,hu,Option.bind_some]⟩
   ·rename_i fv hne hcal
    obtain ⟨f,h,hf⟩:=D9 h
    obtain ⟨vs,h,hvs⟩:=af4 h
    obtain ⟨p,hp,h⟩:=a7 h
    split at h
    ·rename_i hq'
     obtain ⟨q,hq,h⟩:=a7 h
     obtain ⟨res,h1,h2⟩:=adD hq
     refine .inr (.inr ⟨_,_,_,_,_,_,h1,h,fun cl l R' K' h3=>?_⟩)
     unfold A7
     cases fv with
     | func f=>exact absurd rfl (hne f)
     | _=>simp only [hop,hcal,hf,hvs,hp,hq',M1,h2 cl h3,Option.bind_some]
    ·rename_i hq'
     obtain ⟨q,hq,h⟩:=a7 h
     refine .inr (.inl ⟨_,_,_,_,hq,h,fun cl l R' K'=>?_⟩)
     unfold A7
     cases fv with
     | func f=>exact absurd rfl (hne f)
     | _=>simp only [hop,hcal,hf,hvs,hp,hq',M1,Option.bind_some]
   ·cases h
 | _=>simp only [hop] at h; cases h
end
end Go.AM

/- Calls of the machine of values without a count of steps; they stand for calls of the abstract machine. -/
namespace Go.AM
open Go.RowKit
set_option linter.unusedSimpArgs false
set_option linter.unusedVariables false
theorem avb {R:Type} {kp:I5} {st:VS} {K:List V->VH->Option R} {r:R} (h:abc kp st K=some r):∃ vs,K vs st.H=some r/\∀ (R':Type) (K':List V->VH->Option R'),abc kp st K'=K' vs st.H:=by
 have hv:∀ {ss:List Nat} {R:Type} {K:List V->Option R} {r:R},aat st.env ss K=some r->∃ vs,K vs=some r/\∀ (R':Type) (K':List V->Option R'),aat st.env ss K'=K' vs:=by
  intro ss
  induction ss with
  | nil=>intro R K r h; exact ⟨[],h,fun _ _=>rfl⟩
  | cons s ss ih =>
    intro R K r h
    simp only [aat] at h
    split at h
    ·rename_i v hl
     obtain ⟨vs,h1,h2⟩:=ih h
     exact ⟨v::vs,h1,fun R' K'=>by simp only [aat,hl,h2]⟩
    ·rename_i v hl
     obtain ⟨vs,h1,h2⟩:=ih h
     exact ⟨_,h1,fun R' K'=>by simp only [aat,hl,h2]⟩
    ·cases h
 have hc:∀ {ks:List (Nat × Nat)} {R:Type} {K:List V->Option R} {r:R},csV st.loc ks K=some r->∃ vs,K vs=some r/\∀ (R':Type) (K':List V->Option R'),csV st.loc ks K'=K' vs:=by
  intro ks
  induction ks with
  | nil=>intro R K r h; exact ⟨[],h,fun _ _=>rfl⟩
  | cons s ks ih =>
    intro R K r h
    obtain ⟨k,n⟩:=s
    simp only [csV] at h
    split at h
    ·rename_i cs hl
     split at h
     ·rename_i hb
      obtain ⟨vs,h1,h2⟩:=ih h
      exact ⟨cs++vs,h1,fun R' K'=>by simp only [csV,hl,hb,h2]⟩
     ·cases h
    ·cases h
 unfold abc at h
 split at h
 ·rename_i hl
  obtain ⟨vs,h,h1⟩:=hv h
  obtain ⟨cs,h,h2⟩:=hc h
  exact ⟨_,h,fun R' K'=>by simp only [abc,hl,h1,h2]⟩
 ·cases h
theorem apd {R:Type} {kp:I5} {vs:List V} {H:VH} {K:VS->Option R} {r:R} (h:acs kp vs H K=some r):∃ s,K s=some r/\∀ (R':Type) (K':VS->Option R'),acs kp vs H K'=K' s:=by
 unfold acs at h
 split at h
 ·rename_i hk
  split at h
  ·rename_i hl
   exact ⟨_,h,fun R' K'=>by unfold acs; simp only [hk]; rw [if_pos hl]⟩
  ·cases h
 ·cases h
theorem anS {R:Type} {vs:List V} {H:VH} {K:Exit->VS->Option R} {r:R}:∀ {outs:List (Exit × I5)} {n:Nat},inV outs n vs H K=some r->∃ e st,K e st=some r/\∀ (R':Type) (K':Exit->VS->Option R'),inV outs n vs H K'=K' e st
 | [],_,h=>by cases h
 | (x,kp)::l,0,h=>by
   simp only [inV] at h
   obtain ⟨s,h1,h2⟩:=apd h
   exact ⟨x,s,h1,fun R' K'=>by simp only [inV,h2]⟩
 | (x,kp)::l,n+1,h=>by
   simp only [inV] at h
   obtain ⟨e,st,h1,h2⟩:=anS h
   exact ⟨e,st,h1,fun R' K'=>by simp only [inV,h2]⟩
theorem asD {R:Type} {ops:Array Oper} {o:Oper} {env:List (Nat × VE)} {run pass:List (Nat × VE)->Option R} {r:R} (h:Y4 ops o env run pass=some r) :
 ∃ env',(run env'=some r/\∀ (R':Type) (run' pass':List (Nat × VE)->Option R'),Y4 ops o env run' pass'=run' env')\/(pass env'=some r/\∀ (R':Type) (run' pass':List (Nat × VE)->Option R'),Y4 ops o env run' pass'=pass' env'):=by
 unfold Y4 at h
 split at h
 ·rename_i hg
  exact ⟨_,.inl ⟨h,fun R' run' pass'=>by simp only [Y4,hg]⟩⟩
 ·rename_i j want hg
  split at h
  ·cases h
  ·rename_i d hd
   split at h
   ·rename_i v hl
    split at h
    ·rcases abW h with ⟨rfl,h⟩ | ⟨rfl,h⟩
     ·exact ⟨_,.inl ⟨h,fun R' run' pass'=>by simp only [Y4,hg,hd,hl,l7]⟩⟩
     ·exact ⟨_,.inr ⟨h,fun R' run' pass'=>by simp only [Y4,hg,hd,hl,l7]⟩⟩
    ·rcases abW h with ⟨rfl,h⟩ | ⟨rfl,h⟩
     ·exact ⟨_,.inr ⟨h,fun R' run' pass'=>by simp only [Y4,hg,hd,hl,l7]⟩⟩
     ·exact ⟨_,.inl ⟨h,fun R' run' pass'=>by simp only [Y4,hg,hd,hl,l7]⟩⟩
   ·rename_i hl
    exact ⟨_,.inr ⟨h,fun R' run' pass'=>by simp only [Y4,hg,hd,hl]⟩⟩
   ·cases h
structure agL (X:XV) (c:Nat->y0) (l:Nat->V0):Prop where
 call:∀ f vs hp res,X.call f vs hp=some res->E3 fun m=>c m f vs hp=some res
 lp:∀ (B:List V->VH->Option (Option Nat × List V × VH)) (Bm:Nat->List V->VH->Option (Option Nat × List V × VH)),(∀ vs hp res,B vs hp=some res->E3 fun m=>Bm m vs hp=some res) →
  ∀ vs hp res,X.lp B vs hp=some res->E3 fun m=>l m (Bm m) vs hp=some res
section
variable {X:XV} {c:Nat->y0} {l:Nat->V0} {A:S5} {T:List Nat}
theorem awI (hN:agL X c l) {R:Type} {r:R} {o:Oper} {st:VS} {K:VE->VS->D0->Option R} {Km:Nat->VE->VS->D0->Option R}
 (h:A7 X A T o st K=some r) (hK:∀ e s cl,K e s cl=some r->E3 fun m=>Km m e s cl=some r):E3 fun m=>A7 (X.over (c m) (l m)) A T o st (Km m)=some r:=by
 rcases au2 h with ⟨e,s,cl,h1,h2⟩ | ⟨f,vs,s,res,h1,h2,h3⟩ | ⟨f,vs,res,e,s,cl,h1,h2,h3⟩
 ·exact (hK _ _ _ h1).imp fun m hm=>by rw [h2]; exact hm
 ·exact ((hN.call _ _ _ _ h1).and (hK _ _ _ h2)).imp fun m ⟨a,b⟩=>by rw [h3,a]; exact b
 ·exact ((hN.call _ _ _ _ h1).and (hK _ _ _ h2)).imp fun m ⟨a,b⟩=>by rw [h3 _ _ _ _ a]; exact b
theorem agn (hN:agL X c l) {R:Type} {r:R} {ops:Array Oper}:∀ {os:List Oper} {cl:List D0} {st:VS} {K:List D0->VS->Option R} {Km:Nat->List D0->VS->Option R},
 afu X A T ops os cl st K=some r->(∀ cl st,K cl st=some r->E3 fun m=>Km m cl st=some r)->E3 fun m=>afu (X.over (c m) (l m)) A T ops os cl st (Km m)=some r
 | [],cl,st,K,Km,h,hK=>hK _ _ h
 | o::os,cl,st,K,Km,h,hK=>by
   simp only [afu] at h ⊢
   obtain ⟨env',⟨h1,h2⟩ | ⟨h1,h2⟩⟩:=asD h
   ·refine (awI hN h1 (Km:=fun m e st c'=>afu (X.over (c m) (l m)) A T ops os (c'::cl) { st with env:=ao2 st.env o.dst e } (Km m)) fun e s cl' h3=>agn hN h3 hK).imp fun m hm=>?_
    rw [h2]; exact hm
   ·exact (agn hN h1 hK).imp fun m hm=>by rw [h2]; exact hm
theorem S2 (hN:agL X c l):∀ (x:Code) {R:Type} {r:R} {st:VS} {K:Exit->VS->Option R} {Km:Nat->Exit->VS->Option R},
 F0 X A T x st K=some r->(∀ e st,K e st=some r->E3 fun m=>Km m e st=some r)->E3 fun m=>F0 (X.over (c m) (l m)) A T x st (Km m)=some r
 | .skip,R,r,st,K,Km,h,hK=>hK _ _ h
 | .exit id,R,r,st,K,Km,h,hK=>hK _ _ h
 | .ret,R,r,st,K,Km,h,hK=>hK _ _ h
 | .region id ops draw,R,r,st,K,Km,h,hK=>by
   cases draw with
   | false =>
     simp only [F0] at h ⊢
     exact agn hN h fun cl st h=>hK _ _ h
   | true =>
     simp only [F0] at h ⊢
     refine agn hN h fun cl st h=>?_
     split at h
     ·exact hK _ _ h
     ·cases h
 | .cond y a b,R,r,st,K,Km,h,hK=>by
   simp only [F0] at h ⊢
   obtain ⟨v,h,hv⟩:=D9 h
   rcases amG h with ⟨rfl,h⟩ | ⟨rfl,h⟩ | ⟨rfl,h,h'⟩
   ·exact (S2 hN a h hK).imp fun m hm=>by rw [hv]; exact hm
   ·exact (S2 hN b h hK).imp fun m hm=>by rw [hv]; exact hm
   ·exact ((S2 hN a h hK).and (S2 hN b h' hK)).imp fun m hm=>by rw [hv]; show aiH _ _=_; unfold aiH; rw [hm.1,hm.2,if_pos rfl]
 | .block id a,R,r,st,K,Km,h,hK=>by
   simp only [F0] at h ⊢
   refine S2 hN a h fun e st h=>?_
   cases e with
   | exit i =>
     simp only at h ⊢
     split at h
     ·rename_i hb; exact (hK _ _ h).imp fun m hm=>by first | exact hm | (rw [hb]; exact hm)
     ·rename_i hb; exact (hK _ _ h).imp fun m hm=>by first | exact hm | (rw [hb]; exact hm)
   | _=>exact hK _ _ h
 | .seq a b,R,r,st,K,Km,h,hK=>by
   simp only [F0] at h ⊢
   have behind:∀ (e:Exit) (st:VS),(match e with | .normal=>F0 X A T b st K | e=>K e st)=some r->E3 fun m=>(match e with | .normal=>F0 (X.over (c m) (l m)) A T b st (Km m) | e=>Km m e st)=some r:=by
    intro e st h
    cases e with
    | normal=>exact S2 hN b h hK
    | _=>exact hK _ _ h
   split at h
   ·rename_i hj
    exact (S2 hN a h (Km:=fun m e st=>match e with | .normal=>F0 (X.over (c m) (l m)) A T b st (Km m) | e=>Km m e st) behind).imp fun m hm=>hm
   ·rename_i outs hj
    obtain ⟨s,hs,h⟩:=a7 h
    obtain ⟨e,st',h1,h2⟩:=anS h
    refine ((S2 hN a hs (Km:=fun _ e st=>afv outs e st fun n vs hp=>some (n,vs,hp)) fun e st h=>E3.of fun _=>h).and (behind e st' h1)).imp fun m ⟨g1,g2⟩=>?_
    show (Option.bind _ _)=some r
    rw [g1]
    simp only [Option.bind_some]
    rw [h2]; exact g2
 | .loop a,R,r,st,K,Km,h,hK=>by
   simp only [F0] at h ⊢
   split at h
   ·cases h
   ·rename_i li hli
    obtain ⟨vs,h,h0⟩:=avb h
    obtain ⟨res,hres,h⟩:=a7 h
    obtain ⟨e,st',h1,h2⟩:=anS h
    have hB:=hN.lp _ (fun m vs hp=>acs li.ks vs hp fun st=>F0 (X.over (c m) (l m)) A T a st fun e st=>match e with
     | .normal=>abc li.ks st fun vs hp=>some (none,vs,hp)
     | e=>afv li.outs e st fun n vs hp=>some (some n,vs,hp)) (fun vs hp res hr=>by
     obtain ⟨s,g1,g2⟩:=apd hr
     exact (S2 hN a g1 (Km:=fun _ e st=>match e with
      | .normal=>abc li.ks st fun vs hp=>some (none,vs,hp)
      | e=>afv li.outs e st fun n vs hp=>some (some n,vs,hp)) fun e st h=>E3.of fun _=>h).imp fun m hm=>by rw [g2]; exact hm) _ _ _ hres
    refine (hB.and (hK e st' h1)).imp fun m ⟨g1,g2⟩=>?_
    rw [h0]
    exact (congrArg (fun (o:Option (Nat × List V × VH))=>o.bind fun q=>inV li.outs q.1 q.2.1 q.2.2 (Km m)) g1).trans ((h2 R (Km m)).trans g2)
 | .rangeFunc ..,R,r,st,K,Km,h,hK=>by cases h
 | .scope ..,R,r,st,K,Km,h,hK=>by cases h
 | .label ..,R,r,st,K,Km,h,hK=>by cases h
 | .goto ..,R,r,st,K,Km,h,hK=>by cases h
 | .refuse ..,R,r,st,K,Km,h,hK=>by cases h
theorem aui {R:Type} (X:XV) (c:y0) (l:V0) (st:VS) (t:Nat) (K:V->VS->Option R):vtV (X.over c l) st (.tmp t) K=vtV X st (.tmp t) K:=rfl
theorem ahH {R:Type} (X:XV) (c:y0) (l:V0):∀ (rs:List ResultVar) (st:VS) (K:List V->VS->Option R),ach (X.over c l) rs st K=ach X rs st K
 | [],st,K=>rfl
 | .tmp t::rs,st,K=>by
   simp only [ach,aui]
   congr 1; funext v st
   exact ahH X c l rs st _
 | .cell a t::rs,st,K=>by
   simp only [ach,p9,ahH X c l rs]
theorem aia (hN:agL X c l) {f:FuncId} {args:List V} {H:VH} {r:V × VH} (h:ac3 X f args H=some r):E3 fun m=>ac3 (X.over (c m) (l m)) f args H=some r:=by
 unfold ac3 at h ⊢
 have e1:∀ m,(X.over (c m) (l m)).fn f=X.fn f:=fun _=>rfl
 have e2:∀ m,(X.over (c m) (l m)).I0 f=X.I0 f:=fun _=>rfl
 have e3:∀ m,(X.over (c m) (l m)).C3 f=X.C3 f:=fun _=>rfl
 simp only [e1,e2,e3]
 split at h
 ·cases h
 ·rename_i fn hf
  split at h
  ·cases h
  ·rename_i x hx
   split at h
   ·rename_i hd
    try simp only [hf,hx,hd]
    refine (S2 hN x h (Km:=fun m e st=>match e with
     | .normal | .ret=>ach (X.over (c m) (l m)) fn.results.toList st fun vs st=>some (aoj vs,st.H)
     | _=>none) fun e st h=>E3.of fun m=>?_).imp fun m hm=>hm
    cases e<;>first | (simp only [ahH]; exact h) | exact h
   ·cases h
end
noncomputable def C0 (X:XV) (A:S5) (T:List Nat) (li:akM) (a:Code) (vs:List V) (H:VH):Option (Option Nat × List V × VH) :=
 acs li.ks vs H fun st=>F0 X A T a st fun e st=>match e with
  | .normal=>abc li.ks st fun vs hp=>some (none,vs,hp)
  | e=>afv li.outs e st fun n vs hp=>some (some n,vs,hp)
structure U7 where
 b:abp
 H4:Nat->Option (List V)
 gi:Nat->Bool
 C3:FuncId->List Nat
 mv:FuncId->List Nat
 Y5:FuncId->Option (List V->VH->Option (V × VH))
def U7.ctx (b:U7) (call:y0) (lp:V0):XV:=⟨b.b.ng,b.b.tab,b.b.fn,b.b.I0,b.b.kind,b.b.ext,b.H4,b.gi,b.C3,b.mv,call,lp⟩
def R4:Nat->V0
 | 0,_,_,_=>none
 | n+1,B,vs,hp=>match B vs hp with
   | none=>none
   | some (none,vs,hp)=>R4 n B vs hp
   | some (some m,vs,hp)=>some (m,vs,hp)
noncomputable def O4 (b:U7):Nat->y0
 | 0,_,_,_=>none
 | n+1,f,args,H=>match b.Y5 f with
   | some g=>g args H
   | none=>ac3 (b.ctx (O4 b n) (R4 n)) f args H
noncomputable def o6:V0:=fun B vs hp=>alX fun n=>R4 n B vs hp
noncomputable def M7 (b:U7):y0:=fun f args H=>alX fun n=>O4 b n f args H
theorem afV {B:List V->VH->Option (Option Nat × List V × VH)}:∀ {n:Nat} {vs:List V} {hp:VH} {res:Nat × List V × VH},R4 n B vs hp=some res->∃ m,aj6 B m vs hp res
 | 0,_,_,_,h=>by cases h
 | n+1,vs,hp,res,h=>by
   simp only [R4] at h
   split at h
   ·cases h
   ·rename_i hb
    obtain ⟨m,hm⟩:=afV h
    exact ⟨m+1,.more hb hm⟩
   ·rename_i hb
    cases h
    exact ⟨0,.stop hb⟩
theorem alL {B:List V->VH->Option (Option Nat × List V × VH)} {Bm:Nat->List V->VH->Option (Option Nat × List V × VH)} (hB:∀ vs hp res,B vs hp=some res->E3 fun m=>Bm m vs hp=some res)
 {n:Nat} {vs:List V} {hp:VH} {res:Nat × List V × VH} (h:aj6 B n vs hp res):E3 fun m=>∀ k,n<k->R4 k (Bm m) vs hp=some res:=by
 induction h with
 | stop h =>
   refine (hB _ _ _ h).imp fun m hm k hk=>?_
   obtain ⟨k,rfl⟩:∃ j,k=j+1:=⟨k-1,by omega⟩
   simp only [R4,hm]
 | more h _ ih =>
   refine ((hB _ _ _ h).and ih).imp fun m ⟨g1,g2⟩ k hk=>?_
   obtain ⟨k,rfl⟩:∃ j,k=j+1:=⟨k-1,by omega⟩
   simp only [R4,g1]
   exact g2 k (by omega)
theorem awA (n:Nat):art (R4 n):=fun _ _ _ _ h=>afV h
theorem apw (b:U7):∀ (n:Nat) (f:FuncId) (args:List V) (H:VH) (r:V × VH),O4 b n f args H=some r->∀ m,n<=m->O4 b m f args H=some r:=by
 intro n
 induction n with
 | zero=>intro f args H r h; cases h
 | succ n ih =>
   intro f args H r h m hm
   obtain ⟨m,rfl⟩:∃ j,m=j+1:=⟨m-1,by omega⟩
   simp only [O4] at h ⊢
   split at h
   ·rename_i g hg; first | exact h | (simp only [hg]; exact h)
   ·rename_i hg
    try simp only [hg]
    have hN:agL (b.ctx (O4 b n) (R4 n)) (fun _=>O4 b m) (fun _=>R4 m):=by
     refine ⟨fun f vs hp res h=>E3.of fun _=>ih f vs hp res h m (by omega),fun B Bm hB vs hp res h=>?_⟩
     have h':R4 n B vs hp=some res:=h
     clear h
     have:∀ (n m:Nat) (vs:List V) (hp:VH),n<=m->R4 n B vs hp=some res->E3 fun k=>R4 m (Bm k) vs hp=some res:=by
      intro n
      induction n with
      | zero=>intro m vs hp _ h; cases h
      | succ n ihn =>
        intro m vs hp hm h
        obtain ⟨m,rfl⟩:∃ j,m=j+1:=⟨m-1,by omega⟩
        simp only [R4] at h
        split at h
        ·cases h
        ·rename_i hb
         exact ((hB _ _ _ hb).and (ihn m _ _ (by omega) h)).imp fun k ⟨g1,g2⟩=>by simp only [R4,g1]; exact g2
        ·rename_i hb
         cases h
         exact (hB _ _ _ hb).imp fun k g1=>by simp only [R4,g1]
     exact this n m vs hp (by omega) h'
    exact (aia hN h).const
theorem ake {b:U7} {n:Nat} {f:FuncId} {args:List V} {H:VH} {r:V × VH} (h:O4 b n f args H=some r):M7 b f args H=some r :=
 D5.2 ⟨n,fun m hm=>apw b n f args H r h m hm⟩
theorem ait {n:Nat} {B:List V->VH->Option (Option Nat × List V × VH)} {vs:List V} {hp:VH} {r:Nat × List V × VH} (h:R4 n B vs hp=some r):o6 B vs hp=some r:=by
 obtain ⟨m,hm⟩:=afV h
 obtain ⟨n1,h1⟩:=alL (Bm:=fun _=>B) (fun _ _ _ h=>E3.of fun _=>h) hm
 exact D5.2 ⟨m+1,fun k hk=>h1 n1 (Nat.le_refl _) k (by omega)⟩
theorem j7 (b:U7) (f:FuncId) (args:List V) (H:VH) (hp':b.Y5 f=none):M7 b f args H=ac3 (b.ctx (M7 b) o6) f args H:=by
 have to:∀ r,M7 b f args H=some r->ac3 (b.ctx (M7 b) o6) f args H=some r:=by
  intro r h
  obtain ⟨n,hn⟩:=D5.1 h
  have:=hn (n+1) (by omega)
  simp only [O4,hp'] at this
  have hN:agL (b.ctx (O4 b n) (R4 n)) (fun _=>M7 b) (fun _=>o6):=by
   refine ⟨fun f vs hp res h=>E3.of fun _=>ake h,fun B Bm hB vs hp res h=>?_⟩
   obtain ⟨m,hm⟩:=afV (n:=n) h
   exact (alL hB hm).imp fun k hk=>ait (hk (m+1) (by omega))
  exact (aia hN this).const
 have back:∀ r,ac3 (b.ctx (M7 b) o6) f args H=some r->M7 b f args H=some r:=by
  intro r h
  have hN:agL (b.ctx (M7 b) o6) (O4 b) R4:=by
   refine ⟨fun f vs hp res h=>D5.1 h,fun B Bm hB vs hp res h=>?_⟩
   obtain ⟨n,hn⟩:=D5.1 h
   obtain ⟨m,hm⟩:=afV (hn n (Nat.le_refl _))
   obtain ⟨n1,h1⟩:=alL hB hm
   exact ⟨max n1 (m+1),fun k hk=>h1 k (by omega) k (by omega)⟩
  obtain ⟨n,hn⟩:=aia hN h
  have h1:O4 b (n+1) f args H=some r:=by
   simp only [O4,hp']
   exact hn n (Nat.le_refl _)
  exact ake h1
 cases h1:M7 b f args H with
 | some r=>exact (to r h1).symm
 | none =>
   cases h2:ac3 (b.ctx (M7 b) o6) f args H with
   | none=>rfl
   | some r=>rw [back r h2] at h1; cases h1
theorem aq3 (b:U7) (f:FuncId) (args:List V) (H:VH) {g:List V->VH->Option (V × VH)} (hp':b.Y5 f=some g):M7 b f args H=g args H:=by
 cases h:g args H with
 | some r=>exact ake (n:=1) (by simp only [O4,hp']; exact h)
 | none =>
   cases h2:M7 b f args H with
   | none=>rfl
   | some r =>
     obtain ⟨n,hn⟩:=D5.1 h2
     have:=hn (n+1) (by omega)
     simp only [O4,hp',h] at this
     cases this
theorem aqK (B:List V->VH->Option (Option Nat × List V × VH)) (vs:List V) (hp:VH) :
 o6 B vs hp=match B vs hp with | none=>none | some (none,vs,hp)=>o6 B vs hp | some (some m,vs,hp)=>some (m,vs,hp):=by
 cases hb:B vs hp with
 | none =>
   simp only
   cases h:o6 B vs hp with
   | none=>rfl
   | some r =>
     obtain ⟨n,hn⟩:=D5.1 h
     have:=hn (n+1) (by omega)
     simp only [R4,hb] at this; cases this
 | some x =>
   obtain ⟨o,vs1,hp1⟩:=x
   cases o with
   | some m=>exact ait (n:=1) (by simp only [R4,hb])
   | none =>
     simp only
     cases h:o6 B vs1 hp1 with
     | some r =>
       obtain ⟨n,hn⟩:=D5.1 h
       exact ait (n:=n+1) (by simp only [R4,hb]; exact hn n (Nat.le_refl _))
     | none =>
       cases h2:o6 B vs hp with
       | none=>rfl
       | some r =>
         obtain ⟨n,hn⟩:=D5.1 h2
         have:=hn (n+1) (by omega)
         simp only [R4,hb] at this
         rw [ait this] at h; cases h
structure aiU (b:U7):Prop where
 zero:∀ t ti,look b.b.tab t=some ti->∀ u ∈ ti.zero,I1 u=true
 sl:∀ t e b9 eb z ag n zz,look b.b.tab t=some ⟨.slice e b9 eb z,ag,n,zz⟩->(∀ u ∈ z,I1 u=true)/\z.length=b9/\0<b9
 gd:∀ g cs,b.H4 g=some cs->B5 cs=true
 pos:∀ t ti,look b.b.tab t=some ti->0<ti.size
 ar5:∀ f,b.Y5 f=none->b.b.Y5 f=none
 Y5:∀ f g args r H H',b.Y5 f=some g->g args H=some (r,H')->D4 (b.ctx (M7 b) o6) (N6 b.b) f args H r H'
theorem J9.ctx {b:U7} {c c':y0} {l l':V0} {w:Wd} (h:J9 (b.ctx c l) w):J9 (b.ctx c' l') w:=h
theorem D4.ctx {b:U7} {c c':y0} {l l':V0} {call:J3} {f:FuncId} {args:List V} {H H':VH} {r:V} (h:D4 (b.ctx c l) call f args H r H'):D4 (b.ctx c' l') call f args H r H':=h
theorem alJ {b:U7} (hb:aiU b):∀ (n:Nat) (f:FuncId) (args:List V) (H:VH) (r:V) (H':VH),O4 b n f args H=some (r,H')->D4 (b.ctx (M7 b) o6) (N6 b.b) f args H r H'
 | 0,f,args,H,r,H',h=>by cases h
 | n+1,f,args,H,r,H',h=>by
   simp only [O4] at h
   split at h
   ·rename_i g hg
    exact hb.Y5 f g args _ _ _ hg h
   ·rename_i hg
    have hs:=auD (X:=b.ctx (O4 b n) (R4 n)) (Y:=b.b.ctx (N6 b.b) lpW) ⟨rfl,rfl,rfl,rfl,rfl,rfl⟩ ⟨hb.zero,hb.sl,hb.gd,hb.pos⟩ (fun f args H r H' h=>alJ hb n f args H r H' h) (awA n) (fun B vs hp=>ayx B vs hp) h
    intro w args' ca ch h1 h2 h3 h4 h5 h6
    obtain ⟨x,w2,cr,ch',q1,q2⟩:=hs w args' ca ch h1 h2 h3 h4 h5 h6
    exact ⟨x,w2,cr,ch',by rw [aua b.b f args' w.hp (hb.ar5 f hg)]; exact q1,q2⟩
theorem as7 {b:U7} (hb:aiU b) {f:FuncId} {args:List V} {H:VH} {r:V} {H':VH} (h:M7 b f args H=some (r,H')):D4 (b.ctx (M7 b) o6) (N6 b.b) f args H r H':=by
 obtain ⟨n,hn⟩:=D5.1 h
 exact alJ hb n f args H r H' (hn n (Nat.le_refl _))
theorem aq7 {P:Program} {b:U7} (hb:aiU b) (hP:agc P b.b) {f:FuncId} {args:List V} {H':VH} (h:M7 b f args []=some (.bool true,H')) {hp:Heap} {vs:List Value}
 (hw:HW ⟨hp,[],[]⟩) (hg:J9 (b.ctx (M7 b) o6) ⟨hp,[],[]⟩) (hv:c9 ⟨hp,[],[]⟩ args vs (fun _=>0)) {ι:l9} {w:World} {args':Array Value}
 (hR:Rel b.b.ng ι hp w w.heap.size) (ha:B8 ι vs args'.toList) (hro:∀ b k,n7 hp b=some k->k.md ≠ .rw) :
 Calls P f args' w fun e w'=>e = .returned (.bool true)/\Below w.heap.size w w':=by
 obtain ⟨x,w2,cr,ch',q1,q2,q3,q4,q5,q6⟩:=as7 hb h ⟨hp,[],[]⟩ vs (fun _=>0) (fun _=>0) hw hg hv (by simp [w7]) (by simp) (by simp)
 simp only [RV] at q5
 rw [q5.1] at q1
 exact akC hP q1 hR ha hro
end Go.AM

/- Words for printed runs of the machine of values, and what the tables owe. -/
namespace Go.AM
set_option linter.unusedSimpArgs false
set_option linter.unusedVariables false
def l4 {R:Type} (n:Nat) (vs:List V) (K:(Nat->V)->Option R):Option R:=if vs.length=n then K (fun i=>vs.getD i .b7) else none
def atC (l:List (Nat × List Nat)) (f:FuncId):List Nat:=(look l f).getD []
theorem au3 {P:Program} {l:List (Nat × TI)} (h:∀ t ti,look l t=some ti->P7 P t ti):∀ t ti,look l t=some ti->∀ u ∈ ti.zero,I1 u=true:=fun t ti e=>by
 obtain ⟨i,v,_,_,_,_,_,h7⟩:=(h t ti e).info
 exact h7
theorem axq {P:Program} {l:List (Nat × TI)} (h:∀ t ti,look l t=some ti->P7 P t ti):∀ t e b9 eb z ag n zz,look l t=some ⟨.slice e b9 eb z,ag,n,zz⟩->(∀ u ∈ z,I1 u=true)/\z.length=b9/\0<b9:=fun t e b9 eb z ag n zz hl=>by
 obtain ⟨d,_,_,h3⟩:=(h t _ hl).und
 simp only [arF] at h3
 obtain ⟨_,i,v,_,_,_,_,_,h4,h5,_,h6⟩:=h3
 exact ⟨h6,h4,h5⟩
def auP:List (Nat × TI)->Bool
 | []=>true
 | (_,x)::l=>Nat.blt 0 x.size&&auP l
theorem aqa:∀ {l:List (Nat × TI)},auP l=true->∀ t ti,look l t=some ti->0<ti.size
 | [],_,t,ti,h=>by simp [look] at h
 | (k,x)::l,hp,t,ti,h=>by
   simp only [auP,Bool.and_eq_true] at hp
   simp only [look] at h
   split at h
   ·cases h
    exact Nat.le_of_ble_eq_true hp.1
   ·exact aqa hp.2 t ti h
end Go.AM

/- What the words of a printed run come to at values that are known. -/
namespace Go.AM
set_option linter.unusedSimpArgs false
set_option linter.unusedVariables false
theorem aqB (b:Bool):strip (.bool b) = .bool b:=by exact id rfl
theorem asY (k:IntKind) (n:Int):strip (.int k n) = .int k n:=by exact id rfl
theorem as1 (s:List UInt8):strip (.str s) = .str s:=by exact id rfl
theorem apU:strip .b7 = .b7:=by exact id rfl
theorem atM (k o:Nat):strip (.ptr k o) = .ptr k o:=by exact id rfl
theorem asb (c:List V) (o:Nat):strip (.G3 c o) = .G3 c o:=by exact id rfl
theorem avJ (f:FuncId) (c:List V):strip (.fn f c) = .fn f c:=by exact id rfl
theorem avk (o:Bool) (xs:List (List V)):strip (.sl o xs) = .sl false (o9 xs):=by exact id rfl
theorem ast (cs:List V):strip (.agg cs) = .agg (o8 cs):=by exact id rfl
theorem asz (cs:List V):strip (.w5 cs) = .w5 (o8 cs):=by exact id rfl
theorem aqO:o8 []=[]:=by exact id rfl
theorem aoJ (v:V) (l:List V):o8 (v::l)=strip v::o8 l:=by exact id rfl
theorem anC:o9 []=[]:=by exact id rfl
theorem anf (v:List V) (l:List (List V)):o9 (v::l)=o8 v::o9 l:=by exact id rfl
theorem aqI (H:VH) (b:Bool):j8 H (.bool b) = .bool b:=by exact id rfl
theorem asW (H:VH) (k:IntKind) (n:Int):j8 H (.int k n) = .int k n:=by exact id rfl
theorem asU (H:VH) (s:List UInt8):j8 H (.str s) = .str s:=by exact id rfl
theorem avD (H:VH) (o:Bool) (xs:List (List V)):j8 H (.sl o xs) = .sl false (o9 xs):=by exact id rfl
theorem asQ (H:VH) (cs:List V):j8 H (.agg cs) = .agg (o8 cs):=by exact id rfl
theorem av5 (H:VH) (f:FuncId) (cs:List V):j8 H (.fn f cs) = .fn f (cs.map (aez H)):=by exact id rfl
theorem asT (H:VH) (f:FuncId):j8 H (.fn f []) = .fn f []:=by exact id rfl
theorem att (H:VH) (k o:Nat):j8 H (.ptr k o)=agX (H.getD k []) k o:=by exact id rfl
theorem aop (c:V) (cs:List V) (k o:Nat):agX (c::cs) k o = .G3 (o8 (c::cs)) o:=by exact id rfl
theorem aty (H:VH) (c:List V) (o:Nat):j8 H (.G3 c o) = .G3 c o:=by exact id rfl
theorem aqM (H:VH) (k o:Nat):aez H (.ptr k o)=agX (H.getD k []) k o:=by exact id rfl
theorem ape {α β:Type} (f:α->β):([]:List α).map f=[]:=by exact id rfl
theorem anb {α β:Type} (f:α->β) (a:α) (l:List α):(a::l).map f=f a::l.map f:=by exact id rfl
theorem aeH {α:Type} (l:List α):[]++l=l:=by exact id rfl
theorem adf {α:Type} (a:α) (l m:List α):(a::l)++m=a::(l++m):=by exact id rfl
theorem ap4 (b:Bool):A8 (.bool b)=true:=by exact id rfl
theorem atE (k:IntKind) (n:Int):A8 (.int k n)=true:=by exact id rfl
theorem asf (s:List UInt8):A8 (.str s)=true:=by exact id rfl
theorem avy (o:Bool) (xs:List (List V)):A8 (.sl o xs)=H6 xs:=by exact id rfl
theorem asC (cs:List V):A8 (.agg cs)=w9 cs:=by exact id rfl
theorem atS (cs:List V) (o:Nat):A8 (.G3 cs o)=w9 cs:=by exact id rfl
theorem avC (f:FuncId) (cs:List V):A8 (.fn f cs)=w9 cs:=by exact id rfl
theorem aqu:w9 []=true:=by exact id rfl
theorem aoF (v:V) (l:List V):w9 (v::l)=(A8 v&&w9 l):=by exact id rfl
theorem aoV:H6 []=true:=by exact id rfl
theorem amW (v:List V) (l:List (List V)):H6 (v::l)=(w9 v&&H6 l):=by exact id rfl
theorem as0 (b:Bool):data (.bool b)=true:=by exact id rfl
theorem avU (k:IntKind) (n:Int):data (.int k n)=true:=by exact id rfl
theorem avO (s:List UInt8):data (.str s)=true:=by exact id rfl
theorem ayj (o:Bool) (xs:List (List V)):data (.sl o xs)=K8 xs:=by exact id rfl
theorem avA (cs:List V):data (.agg cs)=B5 cs:=by exact id rfl
theorem avj (cs:List V):data (.w5 cs)=B5 cs:=by exact id rfl
theorem atx:B5 []=true:=by exact id rfl
theorem aqk (v:V) (l:List V):B5 (v::l)=(data v&&B5 l):=by exact id rfl
theorem apW:K8 []=true:=by exact id rfl
theorem aoU (v:List V) (l:List (List V)):K8 (v::l)=(B5 v&&K8 l):=by exact id rfl
theorem aqz (b:Bool):abJ (.bool b)=true:=by exact id rfl
theorem ar7 (k:IntKind) (n:Int):abJ (.int k n)=true:=by exact id rfl
theorem atF (s:List UInt8):abJ (.str s)=true:=by exact id rfl
theorem ar0 (l:List V):abJ (.w5 l)=l.all T7:=by exact id rfl
theorem aqw (b:Bool):T7 (.bool b)=true:=by exact id rfl
theorem as2 (k:IntKind) (n:Int):T7 (.int k n)=true:=by exact id rfl
theorem asm (s:List UInt8):T7 (.str s)=true:=by exact id rfl
theorem atv {α:Type} (p:α->Bool):([]:List α).all p=true:=by exact id rfl
theorem aqQ {α:Type} (p:α->Bool) (a:α) (l:List α):(a::l).all p=(p a&&l.all p):=by exact id rfl
theorem avq:(true&&true)=true:=by exact id rfl
theorem atO {α β:Type} (a:α) (f:α->Option β):(some a).bind f=f a:=by exact id rfl
theorem axa {α:Type} (a:α):id a=a:=by exact id rfl
theorem ap9 {R:Type} (b:Bool) (x y:Option R):j9 (.bool b) x y=if b=true then x else y:=by cases b<;>rfl
theorem avf {R:Type} (x:Option R):j9 .ub x x=x:=by show aiH x x=x; unfold aiH; rw [if_pos rfl]
theorem aqn {R:Type} (b:Bool) (x y:Option R):l7 (.bool b) x y=if b=true then x else y:=by cases b<;>rfl
theorem ayA {R:Type} (x y:Option R):l7 (.bool true) x y=x:=by exact id rfl
theorem ayE {R:Type} (x y:Option R):l7 (.bool false) x y=y:=by exact id rfl
theorem avt:strip .ub = .ub:=by exact id rfl
theorem ayf {R:Type} (x y:Option R):j9 (.bool true) x y=x:=by exact id rfl
theorem axm {R:Type} (x y:Option R):j9 (.bool false) x y=y:=by exact id rfl
theorem aw3 {R:Type} (a:Option R) (l:List (Option R)):A2 0 (a::l)=a:=by exact id rfl
theorem in_1 {R:Type} (a b:Option R) (l:List (Option R)):A2 1 (a::b::l)=b:=by exact id rfl
theorem ayc {R:Type} (a b c:Option R) (l:List (Option R)):A2 2 (a::b::c::l)=c:=by exact id rfl
theorem axP {R:Type} (a b c d:Option R) (l:List (Option R)):A2 3 (a::b::c::d::l)=d:=by exact id rfl
theorem ayl {R:Type} (a b c d e:Option R) (l:List (Option R)):A2 4 (a::b::c::d::e::l)=e:=by exact id rfl
theorem axy {R:Type} (K:(Nat->V)->Option R):l4 0 [] K=K fun i=>([]:List V).getD i .b7:=by exact id rfl
theorem axT {R:Type} (a:V) (K:(Nat->V)->Option R):l4 1 [a] K=K fun i=>[a].getD i .b7:=by exact id rfl
theorem axI {R:Type} (a b:V) (K:(Nat->V)->Option R):l4 2 [a,b] K=K fun i=>[a,b].getD i .b7:=by exact id rfl
theorem axZ {R:Type} (a b c:V) (K:(Nat->V)->Option R):l4 3 [a,b,c] K=K fun i=>[a,b,c].getD i .b7:=by exact id rfl
theorem awT {R:Type} (a b c d:V) (K:(Nat->V)->Option R):l4 4 [a,b,c,d] K=K fun i=>[a,b,c,d].getD i .b7:=by exact id rfl
theorem aw5 {R:Type} (a b c d e:V) (K:(Nat->V)->Option R):l4 5 [a,b,c,d,e] K=K fun i=>[a,b,c,d,e].getD i .b7:=by exact id rfl
theorem ayu {R:Type} (a b c d e f:V) (K:(Nat->V)->Option R):l4 6 [a,b,c,d,e,f] K=K fun i=>[a,b,c,d,e,f].getD i .b7:=by exact id rfl
theorem axY {R:Type} (a b c d e f g:V) (K:(Nat->V)->Option R):l4 7 [a,b,c,d,e,f,g] K=K fun i=>[a,b,c,d,e,f,g].getD i .b7:=by exact id rfl
theorem aw6 {R:Type} (a b c d e f g h:V) (K:(Nat->V)->Option R):l4 8 [a,b,c,d,e,f,g,h] K=K fun i=>[a,b,c,d,e,f,g,h].getD i .b7:=by exact id rfl
theorem aw0 {R:Type} (a b c d e f g h j:V) (K:(Nat->V)->Option R):l4 9 [a,b,c,d,e,f,g,h,j] K=K fun i=>[a,b,c,d,e,f,g,h,j].getD i .b7:=by exact id rfl
theorem ave {R:Type} (a b c d e f g h j k:V) (K:(Nat->V)->Option R):l4 10 [a,b,c,d,e,f,g,h,j,k] K=K fun i=>[a,b,c,d,e,f,g,h,j,k].getD i .b7:=by exact id rfl
theorem aw1 {α:Type} (a d:α) (l:List α):(a::l).getD 0 d=a:=by exact id rfl
theorem axi {α:Type} (a b d:α) (l:List α):(a::b::l).getD 1 d=b:=by exact id rfl
theorem axO {α:Type} (a b c d:α) (l:List α):(a::b::c::l).getD 2 d=c:=by exact id rfl
theorem axV {α:Type} (a b c e d:α) (l:List α):(a::b::c::e::l).getD 3 d=e:=by exact id rfl
theorem axx {α:Type} (a b c e f d:α) (l:List α):(a::b::c::e::f::l).getD 4 d=f:=by exact id rfl
theorem ax0 {α:Type} (a b c e f g d:α) (l:List α):(a::b::c::e::f::g::l).getD 5 d=g:=by exact id rfl
theorem ax6 {α:Type} (a b c e f g h d:α) (l:List α):(a::b::c::e::f::g::h::l).getD 6 d=h:=by exact id rfl
theorem aw4 {α:Type} (a b c e f g h j d:α) (l:List α):(a::b::c::e::f::g::h::j::l).getD 7 d=j:=by exact id rfl
theorem aw7 {α:Type} (a b c e f g h j k d:α) (l:List α):(a::b::c::e::f::g::h::j::k::l).getD 8 d=k:=by exact id rfl
theorem ayw {α:Type} (a b c e f g h j k m d:α) (l:List α):(a::b::c::e::f::g::h::j::k::m::l).getD 9 d=m:=by exact id rfl
theorem avL {R:Type} (a b c d e f g h j k m:V) (K:(Nat->V)->Option R):l4 11 [a,b,c,d,e,f,g,h,j,k,m] K=K fun i=>[a,b,c,d,e,f,g,h,j,k,m].getD i .b7:=by exact id rfl
theorem avn {R:Type} (a b c d e f g h j k m n:V) (K:(Nat->V)->Option R):l4 12 [a,b,c,d,e,f,g,h,j,k,m,n] K=K fun i=>[a,b,c,d,e,f,g,h,j,k,m,n].getD i .b7:=by exact id rfl
theorem avW {R:Type} (a b c d e f g h j k m n o:V) (K:(Nat->V)->Option R):l4 13 [a,b,c,d,e,f,g,h,j,k,m,n,o] K=K fun i=>[a,b,c,d,e,f,g,h,j,k,m,n,o].getD i .b7:=by exact id rfl
theorem avl {R:Type} (a b c d e f g h j k m n o p:V) (K:(Nat->V)->Option R):l4 14 [a,b,c,d,e,f,g,h,j,k,m,n,o,p] K=K fun i=>[a,b,c,d,e,f,g,h,j,k,m,n,o,p].getD i .b7:=by exact id rfl
theorem avz {R:Type} (a b c d e f g h j k m n o p q:V) (K:(Nat->V)->Option R):l4 15 [a,b,c,d,e,f,g,h,j,k,m,n,o,p,q] K=K fun i=>[a,b,c,d,e,f,g,h,j,k,m,n,o,p,q].getD i .b7:=by exact id rfl
theorem avw {α:Type} (x0 x1 x2 x3 x4 x5 x6 x7 x8 x9 x10 d:α) (l:List α):(x0::x1::x2::x3::x4::x5::x6::x7::x8::x9::x10::l).getD 10 d=x10:=by exact id rfl
theorem avp {α:Type} (x0 x1 x2 x3 x4 x5 x6 x7 x8 x9 x10 x11 d:α) (l:List α):(x0::x1::x2::x3::x4::x5::x6::x7::x8::x9::x10::x11::l).getD 11 d=x11:=by exact id rfl
theorem avV {α:Type} (x0 x1 x2 x3 x4 x5 x6 x7 x8 x9 x10 x11 x12 d:α) (l:List α):(x0::x1::x2::x3::x4::x5::x6::x7::x8::x9::x10::x11::x12::l).getD 12 d=x12:=by exact id rfl
theorem avm {α:Type} (x0 x1 x2 x3 x4 x5 x6 x7 x8 x9 x10 x11 x12 x13 d:α) (l:List α):(x0::x1::x2::x3::x4::x5::x6::x7::x8::x9::x10::x11::x12::x13::l).getD 13 d=x13:=by exact id rfl
theorem av6 {α:Type} (x0 x1 x2 x3 x4 x5 x6 x7 x8 x9 x10 x11 x12 x13 x14 d:α) (l:List α):(x0::x1::x2::x3::x4::x5::x6::x7::x8::x9::x10::x11::x12::x13::x14::l).getD 14 d=x14:=by exact id rfl
theorem av4 {α:Type} (x0 x1 x2 x3 x4 x5 x6 x7 x8 x9 x10 x11 x12 x13 x14 x15 d:α) (l:List α):(x0::x1::x2::x3::x4::x5::x6::x7::x8::x9::x10::x11::x12::x13::x14::x15::l).getD 15 d=x15:=by exact id rfl
section
variable {B:List V->VH->Option (Option Nat × List V × VH)} {vs vs':List V} {hp hp':VH} {n:Nat}
theorem aiI (h:B vs hp=some (none,vs',hp')):o6 B vs hp=o6 B vs' hp':=by rw [aqK,h]
theorem aem (h:B vs hp=some (some n,vs',hp')):o6 B vs hp=some (n,vs',hp'):=by rw [aqK,h]
end
section
variable (tk:TK) (a b:Int) (k:IntKind)
theorem avY:a8 tk .lss (.int k a) (.int k b)=some (.bool (decide (a<b))):=by simp [a8,toA,T4,S9,ofA]
theorem av8:a8 tk .leq (.int k a) (.int k b)=some (.bool (decide (a<=b))):=by simp [a8,toA,T4,S9,ofA]
theorem avx:a8 tk .gtr (.int k a) (.int k b)=some (.bool (decide (a>b))):=by simp [a8,toA,T4,S9,ofA]
theorem avM:a8 tk .geq (.int k a) (.int k b)=some (.bool (decide (a>=b))):=by simp [a8,toA,T4,S9,ofA]
theorem avS:a8 tk .eql (.int k a) (.int k b)=some (.bool (decide (a=b))):=by
 simp only [a8,toA,T4,S9,ofA,Option.bind_some,if_true]
 congr 2
theorem avc:a8 tk .neq (.int k a) (.int k b)=some (.bool (!decide (a=b))):=by
 simp only [a8,toA,T4,S9,ofA,Option.bind_some,if_true]
 congr 2
theorem afl (h1 : -9223372036854775808<=a+b) (h2:a+b<=9223372036854775807):a8 tk .add (.int .i64 a) (.int .i64 b)=some (.int .i64 (a+b)):=by simp [a8,toA,T4,S9,ofA,IntWalk.i64_in _ ⟨h1,h2⟩]
theorem alK (h1 : -9223372036854775808<=a-b) (h2:a-b<=9223372036854775807):a8 tk .sub (.int .i64 a) (.int .i64 b)=some (.int .i64 (a-b)):=by simp [a8,toA,T4,S9,ofA,IntWalk.i64_in _ ⟨h1,h2⟩]
theorem aky (h1 : -9223372036854775808<=a*b) (h2:a*b<=9223372036854775807):a8 tk .mul (.int .i64 a) (.int .i64 b)=some (.int .i64 (a*b)):=by simp [a8,toA,T4,S9,ofA,IntWalk.i64_in _ ⟨h1,h2⟩]
theorem akv (h:b ≠ 0):a8 tk .rem (.int k a) (.int k b)=some (.int k (a.tmod b)):=by simp [a8,toA,T4,S9,ofA,h]
theorem ayH (h:0<b) (h1:0<=a) (h2:a<=9223372036854775807):a8 tk .quo (.int .i64 a) (.int .i64 b)=some (.int .i64 (a.tdiv b)):=by
 have h3:0<=a.tdiv b:=Int.tdiv_nonneg h1 (by omega)
 have h4:a.tdiv b<=a:=Int.tdiv_le_self b h1
 have h5:=IntWalk.i64_in (a.tdiv b) ⟨by omega,by omega⟩
 simp [a8,toA,ofA,T4,S9,show b ≠ 0 by omega,h5]
theorem avX (b:Bool):G9 .not (.bool b)=some (.bool !b):=by exact id rfl
theorem av3 (a b:Bool):a8 .bool .eql (.bool a) (.bool b)=some (.bool (decide (a=b))):=by cases a<;>cases b<;>rfl
theorem avG (a b:Bool):a8 .bool .neq (.bool a) (.bool b)=some (.bool (!decide (a=b))):=by cases a<;>cases b<;>rfl
end
theorem ayV (tk:TK) (a b:Nat) (h1:a<2 ^ 62) (h2:b<2 ^ 62):a8 tk .xor (.int .i64 a) (.int .i64 b)=some (.int .i64 ((a ^^^ b:Nat):Int))/\a ^^^ b<2 ^ 62:=by
 have hlt:a ^^^ b<2 ^ 62:=Nat.xor_lt_two_pow h1 h2
 refine ⟨?_,hlt⟩
 have e1:BitVec.ofInt 64 (a:Int)=BitVec.ofNat 64 a:=by simp
 have e2:BitVec.ofInt 64 (b:Int)=BitVec.ofNat 64 b:=by simp
 have e3:(BitVec.ofNat 64 a ^^^ BitVec.ofNat 64 b).toNat=a ^^^ b:=by
  rw [BitVec.toNat_xor,BitVec.toNat_ofNat,BitVec.toNat_ofNat,Nat.mod_eq_of_lt (by omega),Nat.mod_eq_of_lt (by omega)]
 have e4:=IntWalk.i64_in ((a ^^^ b:Nat):Int) ⟨by omega,by omega⟩
 show some (V.int .i64 (IntKind.i64.wrap (((BitVec.ofInt 64 (a:Int) ^^^ BitVec.ofInt 64 (b:Int)).toNat:Nat):Int)))=_
 rw [e1,e2,e3,e4]
theorem apl (a b:Nat):(a:Int).tmod (b:Int)=((a % b:Nat):Int):=by rw [Int.tmod_eq_emod_of_nonneg (by omega)]; simp
theorem aub (a b:Nat):(a:Int).tdiv (b:Int)=((a / b:Nat):Int):=by simp [Int.ofNat_tdiv]
theorem amv (n:Nat) (h:n<=255):adv .i64 (.int .u8 (n:Int))=some (.int .i64 (n:Int)):=by simp [adv,IntWalk.i64_in (n:Int) ⟨by omega,by omega⟩]
theorem af5 (tk:TK) (a b:Nat) (h:a*b<=9223372036854775807):a8 tk .mul (.int .i64 (a:Int)) (.int .i64 (b:Int))=some (.int .i64 ((a*b:Nat):Int)):=by
 have e:(a:Int)*(b:Int)=((a*b:Nat):Int):=by simp
 rw [aky _ _ _ (by rw [e]; omega) (by rw [e]; omega),e]
theorem y4 (tk:TK) (a b:Nat) (h:a+b<=9223372036854775807):a8 tk .add (.int .i64 (a:Int)) (.int .i64 (b:Int))=some (.int .i64 ((a+b:Nat):Int)):=by
 have e:(a:Int)+(b:Int)=((a+b:Nat):Int):=by simp
 rw [afl _ _ _ (by rw [e]; omega) (by rw [e]; omega),e]
theorem adC (tk:TK) (a b:Nat) (h:b<=a) (h2:a<=9223372036854775807):a8 tk .sub (.int .i64 (a:Int)) (.int .i64 (b:Int))=some (.int .i64 ((a-b:Nat):Int)):=by
 have e:(a:Int)-(b:Int)=((a-b:Nat):Int):=by omega
 rw [alK _ _ _ (by rw [e]; omega) (by rw [e]; omega),e]
theorem aga (tk:TK) (a b:Nat) (h:0<b):a8 tk .rem (.int .i64 (a:Int)) (.int .i64 (b:Int))=some (.int .i64 ((a % b:Nat):Int)):=by
 rw [akv _ _ _ _ (by omega),apl]
theorem aii (tk:TK) (a b:Nat) (h:0<b) (h2:a<=9223372036854775807):a8 tk .quo (.int .i64 (a:Int)) (.int .i64 (b:Int))=some (.int .i64 ((a / b:Nat):Int)):=by
 rw [ayH _ _ _ (by omega) (by omega) (by omega),aub]
theorem avN (s t:List UInt8):((ByteArray.mk s.toArray).toList==(ByteArray.mk t.toArray).toList)=decide (s=t):=by
 rw [ByteArray.toList_eq,ByteArray.toList_eq]
 show (s==t)=_
 rw [Bool.eq_iff_iff,beq_iff_eq,decide_eq_true_iff]
theorem avZ (tk:TK) (s t:List UInt8):a8 tk .eql (.str s) (.str t)=some (.bool (decide (s=t))):=by
 simp only [a8,toA,T4,afT,ofA,Option.bind_some,avN]
theorem av0 (tk:TK) (s t:List UInt8):a8 tk .neq (.str s) (.str t)=some (.bool (!decide (s=t))):=by
 simp only [a8,toA,T4,afT,ofA,Option.bind_some,avN]
theorem J0 (tk:TK) (s t:List UInt8) (h:s.length+t.length<=9223372036854775807):a8 tk .add (.str s) (.str t)=some (.str (s++t)):=by
 simp only [a8,toA,T4,afT,ofA,Option.bind_some]
 rw [if_pos (by simpa [ByteArray.size] using h)]
 simp [ofA]
theorem N8 (s:List UInt8) (k:IntKind) (i:Nat) (h:i<s.length):o7 (.str s) (.int k (i:Int))=some (.int .u8 ((s[i]'h).toNat:Int)):=by
 simp [o7,List.getElem?_eq_getElem h]
theorem avB (s:List UInt8):p8 (.str s)=some (.int .i64 s.length):=by exact id rfl
theorem av9 (o:Bool) (xs:List (List V)):D2 (.sl o xs)=some (.int .i64 xs.length):=by exact id rfl
theorem ari (s:List UInt8) (k k':IntKind) (l h:Nat) (h1:l<=h) (h2:h<=s.length):y7 (.str s) (some (.int k (l:Int))) (some (.int k' (h:Int)))=some (.str ((s.drop l).take (h-l))):=by
 simp only [y7,acU,Option.bind_some]
 rw [if_pos (by omega)]; simp
theorem agp (s:List UInt8) (k:IntKind) (h:Nat) (h2:h<=s.length):y7 (.str s) none (some (.int k (h:Int)))=some (.str (s.take h)):=by
 simp only [y7,acU,Option.bind_some]
 rw [if_pos (by omega)]; simp
theorem ade (s:List UInt8) (k:IntKind) (l:Nat) (h2:l<=s.length):y7 (.str s) (some (.int k (l:Int))) none=some (.str (s.drop l)):=by
 simp only [y7,acU,Option.bind_some]
 rw [if_pos (by omega)]
 simp
 rw [List.take_of_length_le (by simp)]
theorem avF (s:List UInt8):anw (.str s)=some (.str s):=by exact id rfl
theorem anv (b9:Nat) (o:Bool) (xs:List (List V)) (k:IntKind) (i:Nat) (c:List V) (h:xs[i]? = some c) (hc:c.length=b9):E1 b9 (.sl o xs) (.int k (i:Int))=some (.G3 (o8 c) 0):=by
 simp [E1,h,hc]
theorem atP (g:Nat->Option (List V)) (t:Bool) (n:Nat) (v:V) (H:VH):G7 g t false n (.G3 [v] 0) H=some (v,H):=by exact id rfl
theorem asX (f:FuncId) (c:List V):R8 (.fn f c)=some (.fn f c):=by exact id rfl
theorem asy (k o:Nat):R8 (.ptr k o)=some (.ptr k o):=by exact id rfl
theorem atr (c:List V) (o:Nat):R8 (.G3 c o)=some (.G3 c o):=by exact id rfl
theorem asG (k o n:Nat):Q2 (.ptr k o) n=some (.ptr k (o+n)):=by exact id rfl
theorem atN (c:List V) (o n:Nat):Q2 (.G3 c o) n=some (.G3 c (o+n)):=by exact id rfl
theorem av1 (k:IntKind) (n:Int):B4 (.int k n)=some (.int k n):=by exact id rfl
theorem atc (b:Bool):B4 (.bool b)=some (.bool b):=by exact id rfl
theorem avP (s:List UInt8):B4 (.str s)=some (.str s):=by exact id rfl
theorem axL (o:Bool) (xs:List (List V)):B4 (.sl o xs)=some (.sl o xs):=by exact id rfl
theorem avi (k o:Nat):B4 (.ptr k o)=some (.ptr k o):=by exact id rfl
theorem ax3 (f:FuncId) (c:List V):B4 (.fn f c)=some (.fn f c):=by exact id rfl
theorem ayD (xs:List (List V)):Z9 (.sl true xs)=some xs:=by exact id rfl
theorem avs (f:FuncId) (c:List V):aee (.fn f c)=some (f,c):=by exact id rfl
theorem ayt (a:V) (l:List V):y5 (.w5 (a::l)) 0=some a:=by exact id rfl
theorem axu (a b:V) (l:List V):y5 (.w5 (a::b::l)) 1=some b:=by exact id rfl
theorem ayF (a b c:V) (l:List V):y5 (.w5 (a::b::c::l)) 2=some c:=by exact id rfl
theorem ayi (a:V) (l:List V):acG 0 (.w5 (a::l)) = .w5 (strip a::l):=by exact id rfl
theorem aw8 (a b:V) (l:List V):acG 1 (.w5 (a::b::l)) = .w5 (a::strip b::l):=by exact id rfl
theorem axj (a b c:V) (l:List V):acG 2 (.w5 (a::b::c::l)) = .w5 (a::b::strip c::l):=by exact id rfl
theorem ayK (b9:Nat) (o:Bool) (xs:List (List V)) (k:IntKind) (h:Nat) (he:F4 b9 xs=true) (h2:h<=xs.length):V6 b9 (.sl o xs) none (some (.int k (h:Int)))=some (.sl false (o9 (xs.take h))):=by
 simp only [V6,acU,Option.bind_some]
 rw [if_pos ⟨he,by omega⟩]; simp
theorem ac2 (b9 bytes:Nat) (xs:List (List V)) (o:Bool) (ys:List (List V)) (h1:F4 b9 xs=true) (h2:F4 b9 ys=true) (h3:(xs.length+ys.length)*bytes<=140737488355328):I6 false b9 bytes xs (.sl o ys)=some (.sl true (xs++ys)):=by
 simp only [I6]; rw [if_pos ⟨h1,h2,h3⟩]
theorem adY {call:y0} {f:FuncId} {args:List V} {r:V} {H:VH} (h:call f args []=some (r,H)) (h1:w9 args=true) (h2:data r=true):aar call f args=some r:=by
 simp only [aar,h1,h,Option.bind_some,h2]
theorem y1 {call:y0} {f:FuncId} {args:List V} {r:V} {H:VH} (h:call f args []=some (r,H)) (h1:w9 args=true) (h2:abJ r=true):P3 call f args=some r:=by
 simp only [P3,h1,h,Option.bind_some,h2]
def vT (l:List (List UInt8)):List (List V):=l.map fun s=>[.str s]
def vI (k:IntKind) (l:List Int):List (List V):=l.map fun n=>[.int k n]
def vB (l:List UInt8):List (List V):=l.map fun b=>[.int .u8 b.toNat]
theorem aai (l:List (List UInt8)):(vT l).length=l.length:=by simp [vT]
theorem abA (l:List UInt8):(vB l).length=l.length:=by simp [vB]
theorem ats (k:IntKind) (l:List Int):(vI k l).length=l.length:=by simp [vI]
theorem agq (l:List (List UInt8)):o9 (vT l)=vT l:=by
 induction l with
 | nil=>rfl
 | cons a l ih=>simp only [vT,List.map_cons,o9,o8,strip] at ih ⊢; rw [ih]
theorem agC (l:List UInt8):o9 (vB l)=vB l:=by
 induction l with
 | nil=>rfl
 | cons a l ih=>simp only [vB,List.map_cons,o9,o8,strip] at ih ⊢; rw [ih]
theorem apg (k:IntKind) (l:List Int):o9 (vI k l)=vI k l:=by
 induction l with
 | nil=>rfl
 | cons a l ih=>simp only [vI,List.map_cons,o9,o8,strip] at ih ⊢; rw [ih]
theorem anz (l:List (List UInt8)):H6 (vT l)=true:=by
 induction l with
 | nil=>rfl
 | cons a l ih=>simp only [vT,List.map_cons,H6,w9,A8,Bool.and_self,Bool.true_and] at ih ⊢; exact ih
theorem avo (l:List UInt8):H6 (vB l)=true:=by
 induction l with
 | nil=>rfl
 | cons a l ih=>simp only [vB,List.map_cons,H6,w9,A8,Bool.and_self,Bool.true_and] at ih ⊢; exact ih
theorem avv (k:IntKind) (l:List Int):H6 (vI k l)=true:=by
 induction l with
 | nil=>rfl
 | cons a l ih=>simp only [vI,List.map_cons,H6,w9,A8,Bool.and_self,Bool.true_and] at ih ⊢; exact ih
theorem aiA (l:List (List UInt8)):K8 (vT l)=true:=by
 induction l with
 | nil=>rfl
 | cons a l ih=>simp only [vT,List.map_cons,K8,B5,data,Bool.and_self,Bool.true_and] at ih ⊢; exact ih
theorem aqV (l:List UInt8):K8 (vB l)=true:=by
 induction l with
 | nil=>rfl
 | cons a l ih=>simp only [vB,List.map_cons,K8,B5,data,Bool.and_self,Bool.true_and] at ih ⊢; exact ih
theorem aqY (k:IntKind) (l:List Int):K8 (vI k l)=true:=by
 induction l with
 | nil=>rfl
 | cons a l ih=>simp only [vI,List.map_cons,K8,B5,data,Bool.and_self,Bool.true_and] at ih ⊢; exact ih
theorem aan (l:List (List UInt8)):F4 1 (vT l)=true:=by simp [F4,vT]
theorem acj (l:List UInt8):F4 1 (vB l)=true:=by simp [F4,vB]
theorem atq (k:IntKind) (l:List Int):F4 1 (vI k l)=true:=by simp [F4,vI]
theorem ax4 (l:List (List UInt8)) (i:Nat) (h:i<l.length):(vT l)[i]? = some [.str l[i]]:=by simp [vT,List.getElem?_eq_getElem h]
theorem axD (l:List UInt8) (i:Nat) (h:i<l.length):(vB l)[i]? = some [.int .u8 (l[i].toNat:Int)]:=by simp [vB,List.getElem?_eq_getElem h]
theorem axs (k:IntKind) (l:List Int) (i:Nat) (h:i<l.length):(vI k l)[i]? = some [.int k l[i]]:=by simp [vI,List.getElem?_eq_getElem h]
theorem ahF (l m:List (List UInt8)):vT l++vT m=vT (l++m):=by simp [vT]
theorem aww (l:List UInt8) (n:Nat):(vB l).take n=vB (l.take n):=by simp [vB]
theorem aeA (o:Bool) (l:List (List UInt8)) (k:IntKind) (i:Nat) (h:i<l.length):E1 1 (.sl o (vT l)) (.int k (i:Int))=some (.G3 [.str l[i]] 0):=by
 rw [anv 1 o (vT l) k i _ (ax4 l i h) rfl]; rfl
theorem aob (o:Bool) (l:List UInt8) (k:IntKind) (i:Nat) (h:i<l.length):E1 1 (.sl o (vB l)) (.int k (i:Int))=some (.G3 [.int .u8 (l[i].toNat:Int)] 0):=by
 rw [anv 1 o (vB l) k i _ (axD l i h) rfl]; rfl
theorem as9 (o:Bool) (k':IntKind) (l:List Int) (k:IntKind) (i:Nat) (h:i<l.length):E1 1 (.sl o (vI k' l)) (.int k (i:Int))=some (.G3 [.int k' l[i]] 0):=by
 rw [anv 1 o (vI k' l) k i _ (axs k' l i h) rfl]; rfl
end Go.AM

/- What Go's assembly functions hand back in the machine of values: the place of a byte in a text, the count of a byte in a text. No condition. -/
namespace Go.AM
set_option linter.unusedSimpArgs false
set_option linter.unusedVariables false
def aoy:Nat->List Value->Option Value
 | 0,[.string s,.int .u8 c]=>some (.int .i64 (Go.Lib.indexByte s.data.toList c.toNat.toUInt8))
 | 1,[.string s,.int .u8 c]=>some (.int .i64 (Go.Lib.countByte s.data.toList c.toNat.toUInt8))
 | _,_=>none
def akh {R:Type} (n:Nat) (vs:List V) (K:V->Option R):Option R :=
 (vs.mapM toA).bind fun az=>(aoy n az).bind fun r=>(ofA r).bind fun v=>K v
theorem alB {R:Type} (s:List UInt8) (c:Int) (K:V->Option R):akh 0 [.str s,.int .u8 c] K=K (.int .i64 (Go.Lib.indexByte s c.toNat.toUInt8)):=by
 simp [akh,toA,aoy,ofA]
theorem ald {R:Type} (s:List UInt8) (c:Int) (K:V->Option R):akh 1 [.str s,.int .u8 c] K=K (.int .i64 (Go.Lib.countByte s c.toNat.toUInt8)):=by
 simp [akh,toA,aoy,ofA]
def ara (l m:List Nat) (e:List (Nat × Nat)) (f:FuncId):Nat:=match look e f with | some n=>n+3 | none=>kindOf l m f
def avT (P:Program) (f n:Nat):Prop:=match n with
 | 0=>∀ args w,(callFunc f args).run P w=((Extern.BytealgIndexByte.indexByte args).run P w).andThen fun v w' => .ok (.value v) w'
 | 1=>∀ args w,(callFunc f args).run P w=((Extern.BytealgCount.count args).run P w).andThen fun v w' => .ok (.value v) w'
 | _=>True
def aih (P:Program):List (Nat × Nat)->Prop
 | []=>True
 | (f,n)::l=>avT P f n/\aih P l
theorem aih.at {P:Program}:∀ {l:List (Nat × Nat)} {f n:Nat},aih P l->look l f=some n->avT P f n
 | [],f,n,_,h=>by cases h
 | (g,m)::l,f,n,h,hl=>by
   unfold look at hl
   split at hl
   ·rename_i e
    have:g=f:=by simpa using e
    cases hl
    subst this
    exact h.1
   ·exact h.2.at hl
theorem asa (l m:List Nat) (f:FuncId):kindOf l m f<=2:=by
 unfold kindOf; split
 ·omega
 ·split<;>omega
theorem ayk {P:Program} {l m:List Nat} {e:List (Nat × Nat)} (h:aih P e):arN P (ara l m e) aoy:=by
 intro f n vs v hk hx ι vs' w hv
 have hf:look e f=some n:=by
  unfold ara at hk
  split at hk
  ·rename_i k hk'; rw [hk']; congr 1; omega
  ·have:=asa l m f; omega
 have hF:=h.at hf
 match n,vs,hx with
 | 0,[.string s,.int .u8 c],hx =>
   cases hx
   obtain ⟨x,y,h1,h2⟩:∃ x y,vs' = #[x,y]/\VR ι (.string s) x/\VR ι (.int .u8 c) y:=by
    rcases vs' with ⟨l⟩
    cases hv with
    | cons a hv=>cases hv with
      | cons b hv=>cases hv; exact ⟨_,_,rfl,a,b⟩
   obtain ⟨h2,h3⟩:=h2
   cases h2; cases h3
   subst h1
   refine ⟨_,?_,.int _ _⟩
   rw [hF,Go.Lib.run_indexByteString]; rfl
 | 1,[.string s,.int .u8 c],hx =>
   cases hx
   obtain ⟨x,y,h1,h2⟩:∃ x y,vs' = #[x,y]/\VR ι (.string s) x/\VR ι (.int .u8 c) y:=by
    rcases vs' with ⟨l⟩
    cases hv with
    | cons a hv=>cases hv with
      | cons b hv=>cases hv; exact ⟨_,_,rfl,a,b⟩
   obtain ⟨h2,h3⟩:=h2
   cases h2; cases h3
   subst h1
   refine ⟨_,?_,.int _ _⟩
   rw [hF,Go.Lib.run_countString]; rfl
end Go.AM

/- slices.Insert and slices.Delete in the machine of values: on rows that lie in objects. -/
namespace Go.AM
set_option linter.unusedSimpArgs false
set_option linter.unusedVariables false
set_option linter.unusedSectionVars false
theorem apI (b:abp) {f:FuncId} {args:List Value} {hp:Heap} {g:List Value->Heap->Option (Value × Heap)} (hg:b.Y5 f=some g) {r:Value × Heap} (h:g args hp=some r):N6 b f args hp=some r :=
 akt (n:=1) (by simp only [V4,hg]; exact h)
theorem Ext.trans {a b c:Wd} (h:Ext a b (fun _=>True)) (g:Ext b c (fun _=>True)):Ext a c (fun _=>True) where
 y2:=fun i k hk hn=>by
  obtain ⟨k1,a1,a2,a3,a4,a5,a6⟩:=h.y2 i k hk hn
  obtain ⟨k2,b1,b2,b3,b4,b5,b6⟩:=g.y2 i k1 a1 a2
  exact ⟨k2,b1,b2,fun q=>b3 (a3 q),by rw [b4,a4],by rw [b5,a5],fun _=>⟨by rw [(b6 trivial).1,(a6 trivial).1],by rw [(b6 trivial).2,(a6 trivial).2]⟩⟩
 j0:=fun k i hk=>g.j0 k i (h.j0 k i hk)
 osz:=fun k i kb hk hb=>by
  obtain ⟨k1,a1,a2⟩:=h.osz k i kb hk hb
  obtain ⟨k2,b1,b2⟩:=g.osz k i k1 (h.j0 k i hk) a1
  exact ⟨k2,b1,by rw [b2,a2]⟩
section
variable {w:Wd} {b:Nat} {kb k:l5} (hw:HW w) (hb:b ∈ w.j0) (hk:w.hp[b]? = some kb) (hf:k.j5=w.hp.length)
include hw hb hk hf
end
theorem RV.built {w:Wd} {y:List V} {l:List (List V)} {x:Value} {c:j6} (h:RV w (.sl true (y::l)) x c) {b9:Nat} (hesz:F4 b9 (y::l)=true) :
 ∃ b kv cc d,n7 w.hp b=some kv/\b ∉ w.fb/\x = .slice (some ⟨b,0,none⟩) (l.length+1) cc/\kv.sz=b9/\kv.md = .rw/\kv.pl=true/\0<b9/\kv.cells.length=(l.length+1)*b9/\l8 w (y::l) kv.cells b9 d/\∀ i,d i<=c i:=by
 simp only [RV] at h
 rcases h with ⟨h,_⟩ | ⟨h0,b,o,kb,ws,cc,d,h1,h2,h3,h4,h5,h6,h7,h8⟩
 ·cases h
 ·rcases h8 with ⟨h8,_⟩ | ⟨_,⟨h9,h9'⟩,rfl,h11,h12⟩
  ·cases h8
  ·have hsz:=h7.b9 hesz h0
   have hws:ws=kb.cells:=by
    have:=(E5 h6).2.1
    rw [this,List.drop_zero,List.take_of_length_le (by omega)]
   subst hws
   rw [hsz] at h7 h11 h5
   exact ⟨b,kb,cc,d,h1,h2,h4,hsz,h9,h9',h5,h11.symm,h7,fun i=>by rw [h12]; omega⟩
theorem E4.start {w:Wd} (hw:HW w) {args:List V} {args':List Value} {H:VH} {ca ch:j6} (hv:c9 w args args' ca) (ho:w7 w H w.j0 ch):E4 ⟨w.hp,w.j0,w.fb,fun i=>ca i+ch i⟩ w:=by
 refine ⟨Nat.le_refl _,fun _ _ h _ _=>h,fun b k hk _=>⟨k,hk,rfl,rfl,rfl,.inl rfl⟩,fun c k hc hk=>?_,⟨[],by simp,by simp⟩,⟨[],by simp,by simp⟩,fun b k hb hk=>?_,fun b kb hk=>⟨kb,hk,rfl,rfl⟩,hw.rlt,hw.j5⟩
 ·have:=(List.getElem?_eq_some_iff.1 hk).1; simp only at hc; omega
 ·simp only at hb
  by_cases q:1<=ca b
  ·obtain ⟨_,_,kb,a1,_,a3⟩:=c9.owned _ hv b q
   have a1':=(l6 a1).1
   rw [hk] at a1'; cases a1'; exact a3
  ·obtain ⟨kb,a1,a3⟩:=w7.ahW ho b (by omega)
   rw [hk] at a1; cases a1; exact a3
def al4 (P:Program) (ng:Nat):List (Nat × (List Value->Heap->Option (Value × Heap)))->Prop
 | []=>True
 | (f,g)::l=>(∀ args hp r hp',g args hp=some (r,hp')->arz P ng f args hp r hp')/\al4 P ng l
theorem aoL {P:Program} {ng:Nat}:∀ {l:List (Nat × (List Value->Heap->Option (Value × Heap)))},al4 P ng l->∀ f g args hp r hp',look l f=some g->g args hp=some (r,hp')->arz P ng f args hp r hp'
 | [],_,f,g,args,hp,r,hp',h,_=>by cases h
 | (k,q)::l,⟨h1,h2⟩,f,g,args,hp,r,hp',h,e=>by
   rw [k9] at h
   split at h
   ·rename_i hk; cases h; rw [hk]; exact h1 args hp r hp' e
   ·exact aoL h2 f g args hp r hp' h e
def ajM (b:U7):List (Nat × (List V->VH->Option (V × VH)))->Prop
 | []=>True
 | (f,g)::l=>(∀ args H r H',g args H=some (r,H')->D4 (b.ctx (M7 b) o6) (N6 b.b) f args H r H')/\ajM b l
theorem amL {b:U7}:∀ {l:List (Nat × (List V->VH->Option (V × VH)))},ajM b l->∀ f g args r H H',look l f=some g->g args H=some (r,H')->D4 (b.ctx (M7 b) o6) (N6 b.b) f args H r H'
 | [],_,f,g,args,r,H,H',h,_=>by cases h
 | (k,q)::l,⟨h1,h2⟩,f,g,args,r,H,H',h,e=>by
   rw [k9] at h
   split at h
   ·rename_i hk; cases h; rw [hk]; exact h1 args H r H' e
   ·exact amL h2 f g args r H H' h e
theorem anc {α β:Type}:∀ {l:List (Nat × α)} {l':List (Nat × β)},l.map (·.1)=l'.map (·.1)->∀ {f:Nat},look l f=none->look l' f=none
 | [],[],_,f,_=>rfl
 | [],_::_,h,_,_=>by simp at h
 | _::_,[],h,_,_=>by simp at h
 | (k,a)::l,(k',a')::l',h,f,hn=>by
   simp only [List.map_cons,List.cons.injEq] at h
   obtain ⟨rfl,h⟩:=h
   rw [k9] at hn ⊢
   split at hn
   ·cases hn
   ·rename_i hk; rw [if_neg hk]; exact anc h hn
end Go.AM

/- slices.DeleteFunc in the machine of values: of a row of texts in an object, those that are empty are struck. -/
namespace Go.AM
set_option linter.unusedSimpArgs false
set_option linter.unusedVariables false
set_option linter.unusedSectionVars false
abbrev bsA (s:List UInt8):ByteArray:=⟨s.toArray⟩
theorem aoI:∀ (ss:List (List UInt8)),ad7 (ss.map fun s => .string (bsA s))=some (ss.map bsA)
 | []=>rfl
 | s::ss=>by
   show ((ad7 (ss.map fun s => .string (bsA s))).map fun t=>bsA s::t)=_
   rw [aoI ss]; rfl
end Go.AM

/- strings.Join in the machine of values. -/
namespace Go.AM
set_option linter.unusedSimpArgs false
set_option linter.unusedVariables false
set_option linter.unusedSectionVars false
def adu:List (List V)->Option (List (List UInt8))
 | []=>some []
 | [.str s]::l=>(adu l).map fun t=>s::t
 | _=>none
def J2 (sep:List UInt8):List (List UInt8)->List UInt8
 | []=>[]
 | [a]=>a
 | a::b::l=>a++sep++J2 sep (b::l)
def akw:List V->VH->Option (V × VH)
 | [.sl _ xs,.str sep],H=>(adu xs).bind fun ss=>if ss.length<=140737488355328/\(J2 sep ss).length<=140737488355328 then some (.str (J2 sep ss),H) else none
 | _,_=>none
theorem amM:∀ (ss:List (List UInt8)),adu (ss.map fun s=>[V.str s])=some ss
 | []=>rfl
 | s::ss=>by
   show ((adu (ss.map fun s=>[V.str s])).map fun t=>s::t)=_
   rw [amM ss]; rfl
theorem amU:∀ {l:List (List V)} {ss:List (List UInt8)},adu l=some ss->l=ss.map fun s=>[V.str s]
 | [],ss,h=>by cases h; rfl
 | v::l,ss,h=>by
   match v,h with
   | [.str s],h =>
     simp only [adu] at h
     cases hs:adu l with
     | none=>rw [hs] at h; cases h
     | some t=>rw [hs] at h; cases h; rw [amU hs]; rfl
theorem ao4 (sep:List UInt8):∀ (ss:List (List UInt8)),Lib.join ss sep=J2 sep ss
 | []=>rfl
 | [a]=>Lib.join_one a sep
 | a::b::l=>by
   have ih:=ao4 sep (b::l)
   rw [Lib.join_cons] at ih ⊢
   simp only [Lib.joinTail,List.map_cons,List.flatten_cons,J2] at ih ⊢
   rw [<-ih]
   simp only [List.append_assoc]
theorem amI {w:Wd}:∀ {ss:List (List UInt8)} {xs:List Value} {sz:Nat} {c:j6},l8 w (ss.map fun s=>[V.str s]) xs sz c->xs=ss.map (fun s => .string (bsA s))/\(ss ≠ []->sz=1)/\∀ i,c i=0
 | [],xs,sz,c,h=>by simp only [List.map_nil,l8] at h; exact ⟨h.1,fun q=>absurd rfl q,h.2⟩
 | s::ss,xs,sz,c,h=>by
   simp only [List.map_cons,l8] at h
   obtain ⟨ys,zs,c1,c2,rfl,h1,h2,h3,h4⟩:=h
   simp only [c9,RV] at h2
   obtain ⟨x,_,d1,d2,rfl,⟨rfl,h5⟩,⟨rfl,h6⟩,h7⟩:=h2
   obtain ⟨rfl,_,h8⟩:=amI h3
   exact ⟨rfl,fun _=>h1.symm,fun i=>by rw [h4,h7,h5,h6,h8]⟩
theorem aqj:∀ (ss:List (List UInt8)),(ss.map bsA).map (fun x=>x.data.toList)=ss
 | []=>rfl
 | s::ss=>by
   have:=aqj ss
   simp only [List.map_cons,this]
theorem atL {X:XV} {b:abp} {f:FuncId} (hg:b.Y5 f=some aiG) {args:List V} {H H':VH} {r:V} (h:akw args H=some (r,H')):D4 X (N6 b) f args H r H':=by
 intro w args' ca ch hw hgl ha ho hle hbig
 unfold akw at h
 split at h
 ·rename_i ow xs sep
  obtain ⟨ss,hss,h⟩:=a7 h
  split at h
  ·rename_i hc
   obtain ⟨hn,hl⟩:=hc
   cases h
   have hxe:=amU hss
   have hv:=ha
   simp only [c9] at ha
   obtain ⟨x1,_,c1,c2,rfl,h1,⟨x2,_,c3,c4,rfl,h2,⟨rfl,h0⟩,q2⟩,q1⟩:=ha
   simp only [RV] at h2
   obtain ⟨rfl,h20⟩:=h2
   have fin:aiG [x1,.string ⟨sep.toArray⟩] w.hp=some (.string (bsA (J2 sep ss)),w.hp):=by
    simp only [RV] at h1
    rcases h1 with ⟨hx,⟨a,cc,rfl,_⟩,_⟩ | ⟨hx,bk,o,kb,ws,cc,d,g1,g2,g3,rfl,g5,g6,g7,g8⟩
    ·have:ss=[]:=by rw [hx] at hxe; simpa using hxe.symm
     subst this
     rfl
    ·rw [hxe] at g7
     obtain ⟨e1,e2,_⟩:=amI g7
     have hne:ss ≠ []:=fun q=>hx (by rw [hxe,q]; rfl)
     have hsz:=e2 hne
     have hxl:xs.length=ss.length:=by rw [hxe,List.length_map]
     have hpos:0<ss.length:=List.length_pos_iff.2 hne
     obtain ⟨n1,n2⟩:∃ n,ss.length=n+1:=⟨ss.length-1,by omega⟩
     obtain ⟨p1,p2,_,_⟩:=E5 g6
     rw [hsz,Nat.mul_one,hxl] at p1 p2
     have hs1:ad7 ((kb.cells.drop o).take ss.length)=some (ss.map bsA):=by rw [<-p2,e1]; exact aoI ss
     rw [hxl]
     have hj:(Lib.join ((ss.map bsA).map fun x=>x.data.toList) sep)=J2 sep ss:=by rw [aqj,ao4]
     unfold aiG
     rw [n2] at hs1 p1 ⊢
     simp only [g1,Option.bind_some,hs1]
     have hj':(Lib.join ((ss.map bsA).map fun x=>x.data.toList) (ByteArray.mk sep.toArray).data.toList)=J2 sep ss:=by simpa using hj
     rw [if_pos ⟨hsz,p1,by omega,by omega,by rw [hj']; exact hl⟩]
     unfold avQ
     rw [hj']
   refine ⟨_,w,fun _=>0,ch,apI b hg fin,hw,hgl,E4.start hw hv ho,?_,ho,fun m=>?_,fun m hm=>?_,fun m hm=>?_⟩
   ·simp only [RV]; exact ⟨trivial,fun _=>trivial⟩
   ·have:=hle m; show 0+ch m<=1; omega
   ·show 0+ch m<=_; omega
   ·have:=hbig m hm; show 0+ch m=0; omega
  ·cases h
 ·cases h
end Go.AM

/- What comes in: arguments read az data, az values of the machines. -/
namespace Go.AM
set_option linter.unusedSimpArgs false
set_option linter.unusedVariables false
inductive Ty where
 | bool
 | int (k:IntKind)
 | str
 | sl (e:Ty)
 | st (fs:List Ty)
mutual
def Q9:Ty->Nat
 | .st fs=>aa1 fs
 | _=>1
termination_by structural t=>t
def aa1:List Ty->Nat
 | []=>0
 | t::ts=>Q9 t+aa1 ts
termination_by structural l=>l
end
mutual
def ace (P:Program):Ty->TypeId->Bool
 | .bool,t=>(match P.underlying t with | some .bool=>true | _=>false)
 | .int k,t=>(match P.underlying t with | some (.int k')=>decide (k'=k) | _=>false)
 | .str,t=>(match P.underlying t with | some .string=>true | _=>false)
 | .sl e,t=>(match P.underlying t with | some (.slice e')=>ace P e e'&&decide (P.cellsOf e'=Q9 e)&&decide (0<Q9 e) | _=>false)
 | .st fs,t=>(match P.underlying t with | some (.struct fields)=>alm P fs fields.toList 0&&decide (P.cellsOf t=aa1 fs) | _=>false)
termination_by structural t=>t
def alm (P:Program):List Ty->List Field->Nat->Bool
 | [],fs,_=>(match fs with | []=>true | _=>false)
 | t::ts,fs,off=>(match fs with | f::fs=>ace P t f.type&&decide (f.offset=off)&&decide (P.cellsOf f.type=Q9 t)&&alm P ts fs (off+Q9 t) | []=>false)
termination_by structural l=>l
end
mutual
def L1:Ty->List V->Prop
 | .bool,vs=>∃ b,vs=[.bool b]
 | .int k,vs=>∃ n,vs=[.int k n]/\(Lit.int k n).wf=true
 | .str,vs=>∃ s:List UInt8,vs=[.str s]/\s.length<=maxLen
 | .sl e,vs=>∃ xs:List (List V),vs=[.sl false xs]/\xs.length<=maxLen/\∀ x ∈ xs,L1 e x
 | .st fs,vs=>aaf fs vs
termination_by structural t=>t
def aaf:List Ty->List V->Prop
 | [],vs=>vs=[]
 | t::ts,vs=>∃ a b,vs=a++b/\L1 t a/\aaf ts b
termination_by structural l=>l
end
structure T1 (ι:l9) (hp:Heap) (w:World):Prop where
 ro:∀ (b:Nat) (k:l5),hp[b]? = some k->(k.md = .ro\/k.md = .gone)/\k.j5=b/\k.pl=true
 D1:∀ b x,ι b=some x->b<hp.length
 ok:∀ b x k,ι b=some x->hp[b]? = some k->(k.md ≠ .gone->X7 ι x k w w.heap.size)/\k.sz=x.sz
theorem GOk.zero (ι:l9):GOk 0 ι:=fun g hg=>by omega
theorem GOk.mono {n:Nat} {ι ι':l9} (h:GOk n ι) (s:Sub ι ι'):GOk n ι':=fun g hg=>by
 obtain ⟨x,h1,h2⟩:=h g hg
 exact ⟨x,s _ _ h1,h2⟩
theorem T1.rel {ι:l9} {hp:Heap} {w:World} (h:T1 ι hp w) {n:Nat} (hg:GOk n ι):Rel n ι hp w w.heap.size where
 H4:=hg
 S1:=fun b x k hx hk=>(h.ok b x k hx hk).2
 D1:=h.D1
 base:=Nat.le_refl _
 ok:=fun b x k hx hk=>(h.ok b x k hx (l6 hk).1).1 (l6 hk).2.1
 sep:=fun b x k b' x' k' hx hk hm=>by
  rcases (h.ro b k (l6 hk).1).1 with q | q<;>(rw [q] at hm; cases hm)
theorem T1.hw {ι:l9} {hp:Heap} {w:World} (h:T1 ι hp w):HW ⟨hp,[],[]⟩ where
 obj:=fun b hb=>by cases hb
 one:=fun b c kb kc hb hc m1 m2 _=>by rcases (h.ro b kb hb).1 with q | q<;>(rw [q] at m1; cases m1)
 j5:=fun c k hk=>by
  rw [(h.ro c k hk).2.1]; exact (List.getElem?_eq_some_iff.1 hk).1
 Y0:=fun b hb=>by cases hb
 sub:=fun b hb=>by cases hb
 nd:=List.nodup_nil
 fbf:=fun _ _ _ _ hb=>by cases hb
 mrk:=fun c k hk e=>by rw [(h.ro c k hk).2.2] at e; cases e
theorem T1.ay7 {ι:l9} {hp:Heap} {w:World} (h:T1 ι hp w):∀ b k,n7 hp b=some k->k.md ≠ .rw:=fun b k hk e=>by
 rcases (h.ro b k (l6 hk).1).1 with q | q<;>(rw [q] at e; cases e)
theorem T1.nil (w:World):T1 (fun _=>none) [] w where
 ro:=fun b k h=>by simp at h
 D1:=fun b x h=>by cases h
 ok:=fun b x k h=>by cases h
theorem X7.sub {ι ι':l9} (hs:Sub ι ι') {x:Img} {k:l5} {w:World} {B:Nat} (h:X7 ι x k w B):X7 ι' x k w B:=by
 obtain ⟨cs,el,fr,h1,h2,h3,h4,h5⟩:=h
 exact ⟨cs,el,fr,h1,h2,h3,h4.mono hs,h5⟩
theorem T1.push {ι:l9} {hp:Heap} {w:World} (h:T1 ι hp w) {x:Img} {cells:List Value} {sz:Nat} (hb:X7 ι x ⟨cells,sz,.ro,hp.length,true⟩ w w.heap.size) (hsz:sz=x.sz) :
 ∃ ι',T1 ι' (hp++[⟨cells,sz,.ro,hp.length,true⟩]) w/\Sub ι ι'/\ι' hp.length=some x:=by
 have hsub:Sub ι (fun b=>if b=hp.length then some x else ι b):=fun b y hy=>by
  have:=h.D1 b y hy
  show (if b=hp.length then some x else ι b)=some y
  rw [if_neg (by omega)]; exact hy
 refine ⟨fun b=>if b=hp.length then some x else ι b,⟨fun b k hk=>?_,fun b y hy=>?_,fun b y k hy hk=>?_⟩,hsub,by simp⟩
 ·rcases T3 hk with ⟨_,hk⟩ | ⟨rfl,rfl⟩
  ·exact h.ro b k hk
  ·exact ⟨.inl rfl,rfl,rfl⟩
 ·have hy':(if b=hp.length then some x else ι b)=some y:=hy
  simp only [List.length_append,List.length_cons,List.length_nil]
  split at hy'
  ·omega
  ·have:=h.D1 b y hy'; omega
 ·have hy':(if b=hp.length then some x else ι b)=some y:=hy
  rcases T3 hk with ⟨hl,hk⟩ | ⟨rfl,rfl⟩
  ·rw [if_neg (by omega)] at hy'
   obtain ⟨a,b'⟩:=h.ok b y k hy' hk
   exact ⟨fun q=>(a q).sub hsub,b'⟩
  ·rw [if_pos rfl] at hy'
   cases hy'
   exact ⟨fun _=>hb.sub hsub,hsz⟩
theorem B8.ax2 {ι:l9} {xs ys:List Value} (h:B8 ι xs ys):xs.length=ys.length:=by
 induction h with
 | nil=>rfl
 | cons _ _ ih=>simp [ih]
theorem B8.get' {ι:l9} {xs ys:List Value} (h:B8 ι xs ys):∀ (i:Nat) (x:Value),xs[i]? = some x->∃ y,ys[i]? = some y/\VR ι x y:=by
 induction h with
 | nil=>intro i x h; simp at h
 | cons h1 _ ih =>
   intro i z hz
   cases i with
   | zero=>simp at hz; subst hz; exact ⟨_,by simp,h1⟩
   | succ i=>simp at hz; simpa using ih i z hz
theorem amB (hp new:Heap):Ext ⟨hp,[],[]⟩ ⟨hp++new,[],[]⟩ (fun _=>True):=by
 refine ⟨fun b kb hb hn=>⟨kb,?_,y8.nil,by simp,rfl,rfl,fun _=>⟨rfl,rfl⟩⟩,fun k b h=>h,fun k b kb h=>by simp at h⟩
 show n7 (hp++new) b=_
 have hb':n7 hp b=some kb:=hb
 rw [y6 _ (l6 hb').2.2]; exact hb'
theorem c9.push {hp new:Heap} {vs:List V} {xs:List Value} (h:c9 ⟨hp,[],[]⟩ vs xs (fun _=>0)):c9 ⟨hp++new,[],[]⟩ vs xs (fun _=>0) :=
 c9.mono (amB hp new) vs h (fun _ _=>trivial)
theorem l8.push {hp new:Heap} {vs:List (List V)} {xs:List Value} {sz:Nat} (h:l8 ⟨hp,[],[]⟩ vs xs sz (fun _=>0)):l8 ⟨hp++new,[],[]⟩ vs xs sz (fun _=>0) :=
 l8.mono (amB hp new) vs h (fun _ _=>trivial)
mutual
theorem L1.len:∀ (τ:Ty) {vs:List V},L1 τ vs->vs.length=Q9 τ
 | .bool,vs,h=>by simp only [L1] at h; obtain ⟨_,rfl⟩:=h; rfl
 | .int k,vs,h=>by simp only [L1] at h; obtain ⟨_,rfl,_⟩:=h; rfl
 | .str,vs,h=>by simp only [L1] at h; obtain ⟨_,rfl,_⟩:=h; rfl
 | .sl e,vs,h=>by simp only [L1] at h; obtain ⟨_,rfl,_⟩:=h; rfl
 | .st fs,vs,h=>by simp only [L1] at h; simp only [Q9]; exact aaf.len fs h
theorem aaf.len:∀ (τ:List Ty) {vs:List V},aaf τ vs->vs.length=aa1 τ
 | [],vs,h=>by simp only [aaf] at h; rw [h]; rfl
 | t::ts,vs,h=>by
   simp only [aaf] at h
   obtain ⟨a,b,rfl,h1,h2⟩:=h
   simp only [List.length_append,aa1,L1.len t h1,aaf.len ts h2]
end
section
variable {H:Type} {enc:TypeId × Value->H} {P:Program} {w:World}
theorem ak0 {a:Addr} {v:Value} (h:w.cell? a=some v):∃ cs el fr,w.heap[a.block]? = some (.cells cs el fr)/\a.spot=none/\cs[a.off]? = some v:=by
 unfold World.cell? at h
 split at h
 ·rename_i c el fr hc
  split at h
  ·cases h
  ·rename_i hs
   refine ⟨c,el,fr,hc,?_,h⟩
   cases e:a.spot with
   | none=>rfl
   | some _=>rw [e] at hs; simp at hs
 ·cases h
theorem as8 (a:Addr) (n:Nat):(a.add n).block=a.block:=by unfold Addr.add; split<;>rfl
theorem awu (a:Addr) (n:Nat):(a.add n).off=a.off+n:=by
 unfold Addr.add; split
 ·rename_i h; subst h; simp
 ·rfl
theorem add_add (a:Addr) (m n:Nat):(a.add m).add n=a.add (m+n)\/(a.add m).add n=a.add (m+n):=by
 left
 unfold Addr.add
 by_cases hm:m=0
 ·subst hm; simp
 ·by_cases hn:n=0
  ·subst hn; simp
  ·simp only [hm,hn,if_false,Nat.add_eq_zero_iff,and_self,Nat.add_assoc]
mutual
theorem conv:∀ (τ:Ty) {t:TypeId} {n:Nat} {cs:List Value} {x:DataW H × List MemPlace} {hp:Heap} {ι:l9},ace P τ t=true->DataW.trod enc P w 0 (fun _=>true) true n t cs=some x->T1 ι hp w →
 ∃ new ι' xs vs,T1 ι' (hp++new) w/\Sub ι ι'/\B8 ι' xs cs/\(∀ u ∈ xs,u.oneCell'=true)/\c9 ⟨hp++new,[],[]⟩ vs xs (fun _=>0)/\L1 τ vs
 | .bool,t,n,cs,x,hp,ι,ht,h,hi=>by
   simp only [ace] at ht
   split at ht
   ·rename_i hu
    obtain ⟨b,rfl,rfl⟩:=DataW.trod_bool hu h
    exact ⟨[],ι,[.bool b],[.bool b],by simpa using hi,Sub.refl ι,.cons (.bool b) .nil,by simp [Value.oneCell'],c9.one (by simp [RV]),by simp [L1]⟩
   ·cases ht
 | .int k,t,n,cs,x,hp,ι,ht,h,hi=>by
   simp only [ace] at ht
   split at ht
   ·rename_i k' hu
    have:=of_decide_eq_true ht
    subst this
    obtain ⟨b,rfl,rfl,hw⟩:=DataW.trod_int hu h
    exact ⟨[],ι,[.int k' b],[.int k' b],by simpa using hi,Sub.refl ι,.cons (.int k' b) .nil,by simp [Value.oneCell'],c9.one (by simp [RV]),by simp only [L1]; exact ⟨b,rfl,hw⟩⟩
   ·cases ht
 | .str,t,n,cs,x,hp,ι,ht,h,hi=>by
   simp only [ace] at ht
   split at ht
   ·rename_i hu
    obtain ⟨b,rfl,rfl,hw⟩:=DataW.trod_string hu h
    exact ⟨[],ι,[.string b],[.str b.data.toList],by simpa using hi,Sub.refl ι,.cons (.str b) .nil,by simp [Value.oneCell'],c9.one (by simp [RV]),by simp only [L1]; exact ⟨_,rfl,by have e:b.data.toList.length=b.size:=rfl; rw [e]; exact hw⟩⟩
   ·cases ht
 | .sl e,t,n,cs,x,hp,ι,ht,h,hi=>by
   simp only [ace] at ht
   split at ht
   ·rename_i e' hu
    simp only [Bool.and_eq_true,decide_eq_true_eq] at ht
    obtain ⟨⟨hte,hsz⟩,hpos⟩:=ht
    rcases DataW.trod_slice hu h with ⟨rfl,rfl⟩ | ⟨a,len,cap,elems,rest,m,rfl,rfl,rfl,_,hlc,hcap,hel,hget,hsp,_⟩
    ·refine ⟨[],ι,[.slice none 0 0],[.sl false []],by simpa using hi,Sub.refl ι,.cons .acX .nil,by simp [Value.oneCell'],c9.one (by simp only [RV]; exact .inl ⟨trivial,⟨none,0,rfl,by simp⟩,by simp⟩),?_⟩
     simp only [L1]
     exact ⟨[],rfl,by simp,by simp⟩
    ·by_cases h0:len=0
     ·subst h0
      refine ⟨[],ι,[.slice (some ⟨0,0,none⟩) 0 1],[.sl false []],by simpa using hi,Sub.refl ι,.cons (.slz _ _ _ _ (by omega)) .nil,by simp [Value.oneCell'],c9.one (by simp only [RV]; exact .inl ⟨trivial,⟨_,1,rfl,by simp⟩,by simp⟩),?_⟩
      simp only [L1]
      exact ⟨[],rfl,by simp,by simp⟩
     ·-- the elements,one after the other
      have elem:∀ (j:Nat) {hp:Heap} {ι:l9},j<=len->T1 ι hp w->∃ new ι' xs vs,T1 ι' (hp++new) w/\Sub ι ι'/\xs.length=j*Q9 e/\(∀ (i:Nat) (v:Value),xs[i]? = some v->v.oneCell'=true/\∃ v',w.cell? (a.add i)=some v'/\VR ι' v v') ∧
       l8 ⟨hp++new,[],[]⟩ vs xs (Q9 e) (fun _=>0)/\vs.length=j/\∀ y ∈ vs,L1 e y:=by
       intro j
       induction j with
       | zero=>intro hp ι _ hi; exact ⟨[],ι,[],[],by simpa using hi,Sub.refl ι,by simp,by simp,by simp [l8],rfl,by simp⟩
       | succ j ih =>
         intro hp ι hj hi
         obtain ⟨new1,ι1,xs1,vs1,i1,s1,l1,r1,q1,n1,t1⟩:=ih (by omega) hi
         have hg:=hget j (by omega)
         have hej:∃ y,elems[j]? = some y:=⟨elems[j]'(by omega),List.getElem?_eq_getElem (by omega)⟩
         obtain ⟨y,hy⟩:=hej
         rw [hy,Option.bind_eq_some_iff] at hg
         obtain ⟨ecs,hec,hey⟩:=hg
         obtain ⟨new2,ι2,xs2,vs2,i2,s2,r2,o2,q2,t2⟩:=conv e hte hey i1
         obtain ⟨_,hlen2,hcell⟩:=World.cells?_some hec
         have hx2:xs2.length=Q9 e:=by rw [r2.ax2,hlen2,hsz]
         refine ⟨new1++new2,ι2,xs1++xs2,vs1++[vs2],by rw [<-List.append_assoc]; exact i2,s1.trans s2,by simp [l1,hx2,Nat.succ_mul],fun i v hv=>?_,?_,by simp [n1],fun z hz=>?_⟩
         ·by_cases hlt:i<xs1.length
          ·rw [List.getElem?_append_left hlt] at hv
           obtain ⟨g1,v',g2,g3⟩:=r1 i v hv
           exact ⟨g1,v',g2,g3.mono s2⟩
          ·rw [List.getElem?_append_right (by omega)] at hv
           obtain ⟨v',g2,g3⟩:=r2.get' _ _ hv
           refine ⟨o2 v (List.mem_of_getElem? hv),v',?_,g3⟩
           have hi2:i-xs1.length<P.cellsOf e':=by
            have:=(List.getElem?_eq_some_iff.1 g2).1; omega
           have:=hcell (i-xs1.length) hi2
           rw [g2] at this
           rw [<-this]
           have e1:(a.add (j*P.cellsOf e')).add (i-xs1.length)=a.add (j*P.cellsOf e'+(i-xs1.length)):=(add_add a _ _).elim id id
           have e2:j*P.cellsOf e'+(i-xs1.length)=i:=by rw [hsz,<-l1]; omega
           rw [e1,e2]
         ·rw [<-List.append_assoc]
          refine (l8.app (l8.push q1) (b:=fun _=>0) ?_).congr (by simp)
          simp only [l8]
          exact ⟨xs2,[],fun _=>0,fun _=>0,by simp,L1.len e t2,q2,⟨rfl,by simp⟩,by simp⟩
         ·rcases List.mem_append.1 hz with hz | hz
          ·exact t1 z hz
          ·simp at hz; subst hz; exact t2
      obtain ⟨new,ι1,xs,vs,i1,s1,l1,r1,q1,n1,t1⟩:=elem len (Nat.le_refl _) hi
      have hxl:0<xs.length:=by rw [l1]; exact Nat.mul_pos (by omega) hpos
      obtain ⟨_,v0,hv0,_⟩:=r1 0 xs[0] (List.getElem?_eq_getElem hxl)
      have ha0:a.add 0=a:=by simp [Addr.add]
      rw [ha0] at hv0
      obtain ⟨c,el,fr,hc,hspot,_⟩:=ak0 hv0
      have inb:∀ i v,w.cell? (a.add i)=some v->a.off+i<c.size/\c[a.off+i]? = some v:=fun i v hv=>by
       obtain ⟨c',el',fr',hc',_,hx⟩:=ak0 hv
       rw [as8] at hc'
       rw [hc] at hc'
       cases hc'
       rw [awu] at hx
       exact ⟨(Array.getElem?_eq_some_iff.1 hx).1,hx⟩
      have hroom:a.off+cap*Q9 e<=c.size:=by
       have hlast:∃ ecs,w.cells? 0 (a.add ((cap-1)*P.cellsOf e')) (P.cellsOf e')=some ecs:=by
        by_cases hcl:cap=len
        ·have hg:=hget (cap-1) (by omega)
         have:∃ y,elems[cap-1]? = some y:=⟨elems[cap-1]'(by omega),List.getElem?_eq_getElem (by omega)⟩
         obtain ⟨y,hy⟩:=this
         rw [hy,Option.bind_eq_some_iff] at hg
         exact ⟨_,hg.choose_spec.1⟩
        ·obtain ⟨hrl,hr⟩:=hsp rfl
         have hg:=hr (cap-1-len) (by omega)
         have:∃ y,rest[cap-1-len]? = some y:=⟨rest[cap-1-len]'(by omega),List.getElem?_eq_getElem (by omega)⟩
         obtain ⟨y,hy⟩:=this
         rw [show len+(cap-1-len)=cap-1 by omega,hy,Option.bind_eq_some_iff] at hg
         exact ⟨_,hg.choose_spec.1⟩
       obtain ⟨ecs,hec⟩:=hlast
       obtain ⟨_,hl2,hcell⟩:=World.cells?_some hec
       rw [hsz] at *
       have hlt:Q9 e-1<ecs.length:=by omega
       have:=hcell (Q9 e-1) (by omega)
       rw [List.getElem?_eq_getElem hlt,(add_add a _ _).elim id id] at this
       have:=(inb _ _ this).1
       have hm:(cap-1)*Q9 e+Q9 e=cap*Q9 e:=by
        rw [<-Nat.succ_mul]; congr 1; omega
       omega
      have hblk:X7 ι1 ⟨a.block,a.off,c.size-a.off,Q9 e⟩ ⟨xs,Q9 e,.ro,(hp++new).length,true⟩ w w.heap.size:=by
       refine ⟨c,el,fr,hc,by simp only; omega,?_,fun i v hv=>?_,fun h=>by cases h⟩
       ·simp only; rw [l1]
        have:=Nat.mul_le_mul_right (Q9 e) hlc
        omega
       ·obtain ⟨g1,v',g2,g3⟩:=r1 i v hv
        exact ⟨g1,v',(inb i v' g2).2,g3⟩
      obtain ⟨ι2,i2,s2,hat⟩:=i1.push hblk rfl
      refine ⟨new++[⟨xs,Q9 e,.ro,(hp++new).length,true⟩],ι2,[.slice (some ⟨(hp++new).length,0,none⟩) len (len+1)],[.sl false vs],by rw [<-List.append_assoc]; exact i2,s1.trans s2,?_,by simp [Value.oneCell'],?_,?_⟩
      ·refine .cons ?_ .nil
       have:=VR.slc (ι:=ι2) (o:=0) (n:=len) (c:=len+1) (c':=cap) hat (by omega) hlc (by omega) (by simp only; omega)
       have ea:(⟨a.block,a.off+0,none⟩:Addr)=a:=by
        obtain ⟨b,o,s⟩:=a
        simp only at hspot
        subst hspot; rfl
       simp only at this
       rw [ea] at this; exact this
      ·refine c9.one ?_
       rw [<-List.append_assoc]
       have hne:vs ≠ []:=fun e=>by rw [e] at n1; simp at n1; omega
       simp only [RV]
       refine .inr ⟨hne,(hp++new).length,0,⟨xs,Q9 e,.ro,(hp++new).length,true⟩,xs,len+1,fun _=>0,aqD (by simp),by simp,y8.nil,by rw [n1],hpos,?_,l8.push q1,.inl ⟨trivial,by simp,by simp⟩⟩
       show L4 xs 0 (vs.length*Q9 e)=some xs
       rw [N0 (by rw [n1,l1]; omega),List.drop_zero,List.take_of_length_le (by rw [n1,l1]; omega)]
      ·simp only [L1]
       exact ⟨vs,rfl,by rw [n1]; omega,t1⟩
   ·cases ht
 | .st fs,t,n,cs,x,hp,ι,ht,h,hi=>by
   simp only [ace] at ht
   split at ht
   ·rename_i fields hu
    simp only [Bool.and_eq_true,decide_eq_true_eq] at ht
    obtain ⟨ht1,ht2⟩:=ht
    obtain ⟨xs,m,rfl,rfl,hlen,hxl,hget⟩:=DataW.trod_struct hu h
    obtain ⟨new,ι',ys,vs,g1,g2,g3,g4,g5,g6⟩:=av2 fs (fields:=fields.toList) (off:=0) (cs:=cs) (m:=m) ht1 (by rw [hlen,ht2]; omega) (fun i f hf=>by
     have:=hget i f (by simpa using hf)
     have hi:i<xs.length:=by rw [hxl]; have:=(List.getElem?_eq_some_iff.1 hf).1; simpa using this
     exact ⟨xs[i],by rw [this,List.getElem?_eq_getElem hi]⟩) hi
    refine ⟨new,ι',ys,vs,g1,g2,?_,g4,g5,by simp only [L1]; exact g6⟩
    have:(cs.drop 0).take (aa1 fs)=cs:=by rw [List.drop_zero,List.take_of_length_le (by omega)]
    rw [this] at g3; exact g3
   ·cases ht
theorem av2:∀ (fs:List Ty) {fields:List Field} {off m:Nat} {cs:List Value} {hp:Heap} {ι:l9},alm P fs fields off=true->off+aa1 fs<=cs.length →
 (∀ (i:Nat) (f:Field),fields[i]? = some f->∃ y,DataW.trod enc P w 0 (fun _=>true) true m f.type ((cs.drop f.offset).take (P.cellsOf f.type))=some y)->T1 ι hp w →
 ∃ new ι' xs vs,T1 ι' (hp++new) w/\Sub ι ι'/\B8 ι' xs ((cs.drop off).take (aa1 fs))/\(∀ u ∈ xs,u.oneCell'=true)/\c9 ⟨hp++new,[],[]⟩ vs xs (fun _=>0)/\aaf fs vs
 | [],fields,off,m,cs,hp,ι,ht,hl,hg,hi=>⟨[],ι,[],[],by simpa using hi,Sub.refl ι,by simp [aa1]; exact .nil,by simp,by simp [c9],by simp [aaf]⟩
 | t::ts,fields,off,m,cs,hp,ι,ht,hl,hg,hi=>by
   cases fields with
   | nil=>simp only [alm] at ht; cases ht
   | cons f fields =>
     simp only [alm,Bool.and_eq_true,decide_eq_true_eq] at ht
     obtain ⟨⟨⟨h1,h2⟩,h3⟩,h4⟩:=ht
     simp only [aa1] at hl
     obtain ⟨y,hy⟩:=hg 0 f (by simp)
     rw [h2,h3] at hy
     obtain ⟨new1,ι1,xs1,vs1,i1,s1,r1,o1,q1,t1⟩:=conv t h1 hy hi
     obtain ⟨new2,ι2,xs2,vs2,i2,s2,r2,o2,q2,t2⟩:=av2 ts (fields:=fields) (off:=off+Q9 t) (cs:=cs) (m:=m) h4 (by omega) (fun i g hgi=>hg (i+1) g (by simpa using hgi)) i1
     refine ⟨new1++new2,ι2,xs1++xs2,vs1++vs2,by rw [<-List.append_assoc]; exact i2,s1.trans s2,?_,fun u hu=>?_,?_,by simp only [aaf]; exact ⟨vs1,vs2,rfl,t1,t2⟩⟩
     ·have e:(cs.drop off).take (aa1 (t::ts))=(cs.drop off).take (Q9 t)++(cs.drop (off+Q9 t)).take (aa1 ts):=by
       simp only [aa1]
       rw [<-List.drop_drop,List.take_add]
      rw [e]
      exact (r1.mono s2).append r2
     ·rcases List.mem_append.1 hu with hu | hu
      ·exact o1 u hu
      ·exact o2 u hu
     ·rw [<-List.append_assoc]
      exact ((c9.push q1).app q2).congr (by simp)
end
end
end Go.AM

/- Package variables that are listed az laid: rows of texts. -/
namespace Go.AM
set_option linter.unusedSimpArgs false
set_option linter.unusedVariables false
def ab7 (g:Nat) (cells:List Value):Heap:=(List.range g).map (fun b=>⟨[],1,.gone,b,true⟩)++[⟨cells,1,.ro,g,true⟩]
theorem agN (g:Nat) (cells:List Value):(ab7 g cells).length=g+1:=by simp [ab7]
theorem ane (g:Nat) (cells:List Value):(ab7 g cells)[g]? = some ⟨cells,1,.ro,g,true⟩:=by
 unfold ab7
 rw [List.getElem?_append_right (by simp)]; simp
theorem alr {g b:Nat} {cells:List Value} {k:l5} (h:(ab7 g cells)[b]? = some k):(b<g/\k=⟨[],1,.gone,b,true⟩)\/(b=g/\k=⟨cells,1,.ro,g,true⟩):=by
 have hl:=(List.getElem?_eq_some_iff.1 h).1
 rw [agN] at hl
 by_cases hb:b<g
 ·left
  unfold ab7 at h
  rw [List.getElem?_append_left (by simpa using hb)] at h
  simp [hb] at h
  exact ⟨hb,h.symm⟩
 ·obtain rfl:b=g:=by omega
  rw [ane] at h; cases h
  exact .inr ⟨rfl,rfl⟩
def akU (g room:Nat):l9:=fun b=>if b<=g then some ⟨b,0,if b=g then room else 0,1⟩ else none
def abM (ss:List (List UInt8)):List Value:=ss.map fun s => .string ⟨s.toArray⟩
theorem T1.ayT {w:World} {g:Nat} {cs:Array Value} {el:TypeId} {fr:Nat × Nat} (hb:w.heap[g]? = some (.cells cs el fr)) {ss:List (List UInt8)} (hc:cs.toList=abM ss) :
 T1 (akU g cs.size) (ab7 g (abM ss)) w/\GOk (g+1) (akU g cs.size):=by
 refine ⟨⟨fun b k h=>?_,fun b x h=>?_,fun b x k hx hk=>?_⟩,fun b hb'=>?_⟩
 ·rcases alr h with ⟨_,rfl⟩ | ⟨rfl,rfl⟩
  ·exact ⟨.inr rfl,rfl,rfl⟩
  ·exact ⟨.inl rfl,rfl,rfl⟩
 ·unfold akU at h
  rw [agN]
  split at h
  ·omega
  ·cases h
 ·unfold akU at hx
  split at hx
  ·cases hx
   rcases alr hk with ⟨hlt,rfl⟩ | ⟨rfl,rfl⟩
   ·exact ⟨fun q=>absurd rfl q,rfl⟩
   ·refine ⟨fun _=>⟨cs,el,fr,hb,by simp,?_,fun i v hv=>?_,fun q=>by cases q⟩,rfl⟩
    ·simp only [if_true]
     have:=congrArg List.length hc
     simp at this; simp [this]
    ·simp only at hv ⊢
     rw [<-hc] at hv
     have hv':cs[i]? = some v:=by simpa using hv
     have hm:v ∈ abM ss:=by rw [<-hc]; exact List.mem_of_getElem? hv
     unfold abM at hm
     obtain ⟨s,_,rfl⟩:=List.mem_map.1 hm
     exact ⟨rfl,_,by rw [Nat.zero_add]; exact hv',.str _⟩
  ·cases hx
 ·exact ⟨⟨b,0,if b=g then cs.size else 0,1⟩,by unfold akU; rw [if_pos (by omega)],rfl,rfl⟩
def alb (g:Nat) (ss:List (List UInt8)):Nat->Option (List V):=fun k=>match Nat.beq k g with | true=>some (ss.map .str) | false=>none
theorem apc {w:Wd}:∀ ss:List (List UInt8),c9 w (ss.map .str) (abM ss) (fun _=>0)
 | []=>by simp [c9,abM]
 | s::ss=>⟨_,_,fun _=>0,fun _=>0,rfl,by simp [RV],apc ss,by simp⟩
theorem arh {g:Nat} {ss:List (List UInt8)} {k:Nat} {cs:List V} (h:alb g ss k=some cs):B5 cs=true:=by
 unfold alb at h
 split at h
 ·cases h
  induction ss with
  | nil=>rfl
  | cons s ss ih=>simp only [List.map_cons,B5,data,Bool.true_and]; exact ih
 ·cases h
theorem J9.start {X:XV} {g:Nat} {ss:List (List UInt8)} (hx:X.H4=alb g ss) (hi:X.gi=fun _=>false) (new:Heap):J9 X ⟨ab7 g (abM ss)++new,[],[]⟩:=⟨(fun k cs h=>by
 rw [hx] at h
 unfold alb at h
 split at h
 ·rename_i hk
  cases h
  obtain rfl:=Nat.eq_of_beq_eq_true hk
  refine ⟨⟨abM ss,1,.ro,k,true⟩,?_,y8.nil,apc ss,by simp,rfl⟩
  show n7 (ab7 k (abM ss)++new) k=_
  unfold n7
  rw [List.getElem?_append_left (by rw [agN]; omega),ane]
  rfl
 ·cases h),fun k h=>by rw [hi] at h; cases h⟩
theorem atm {P:Program} {w:World} {n:String} {d:DataW Unit} {g:Nat} {t e:TypeId} {k:Nat} {ss:List (List UInt8)} :
 ∀ {laid:List (String × DataW Unit)},laidMetH P laid w->(n,d) ∈ laid->d.handleName?.isNone=true->P.globalNamed n=some g->(P.globals[g]?).map (·.type)=some t->P.underlying t=some (.array k e)->P.underlying e=some .string →
 P.cellsOf e=1->P.cellsOf t=k->d = .agg (ss.map fun s => .lit (.string s))->∃ cs el fr,w.heap[g]? = some (.cells cs el fr)/\cs.toList=abM ss:=by
 intro laid h hm hh hg ht hu he h1 hk hd
 obtain ⟨h2,_⟩:=laidMetH_iff.1 h
 obtain ⟨ps,hv,-⟩:=h2
 have hm':(n,d) ∈ laid.filter fun x=>x.2.handleName?.isNone:=List.mem_filter.2 ⟨hm,hh⟩
 clear h hm hh
 generalize (laid.filter fun x=>x.2.handleName?.isNone)=l at hv hm'
 induction l generalizing ps with
 | nil=>cases hm'
 | cons y l ih =>
   obtain ⟨n',d'⟩:=y
   obtain ⟨g',t',cs,fuel,p,q,a1,a2,a3,a4,a5,a6⟩:=hv
   rcases List.mem_cons.1 hm' with e' | e'
   ·cases e'
    rw [hg] at a1; cases a1
    rw [ht] at a2; cases a2
    obtain ⟨cs',el,fr,b1,b2⟩:∃ cs' el fr,w.heap[g]? = some (.cells cs' el fr)/\cs'=cs:=by
     unfold World.var? at a3
     rw [hg] at a3
     simp only [Option.bind_some] at a3
     split at a3
     ·rename_i c el fr hc
      cases a3
      exact ⟨_,el,fr,hc,rfl⟩
     ·cases a3
    subst b2
    refine ⟨cs',el,fr,b1,?_⟩
    subst hd
    obtain ⟨xs,m,_,hx,hl,hxl,hf⟩:=DataW.trod_array hu a4
    simp only [Prod.mk.injEq,DataW.agg.injEq] at hx
    have hxs:=hx.1
    have hsl:ss.length=xs.length:=by simpa using congrArg List.length hxs
    rw [h1] at hf
    apply List.ext_getElem?
    intro i
    by_cases hi:i<k
    ·have hfi:=hf i hi
     have hxi:xs[i]? = some (xs[i]'(by omega)):=List.getElem?_eq_getElem (by omega)
     rw [hxi] at hfi
     obtain ⟨s,e1,e2,_⟩:=DataW.trod_string he hfi
     have e3:(ss.map fun s=>(DataW.lit (.string s):DataW Unit))[i]? = some (.lit (.string s.data.toList)):=by
      rw [hxs,List.getElem?_map,hxi,Option.map_some,e2]
     rw [List.getElem?_map] at e3
     have hsi:ss[i]? = some (ss[i]'(by omega)):=List.getElem?_eq_getElem (by omega)
     rw [hsi] at e3
     simp only [Option.map_some,Option.some.injEq,DataW.lit.injEq,Lit.string.injEq] at e3
     have e4:cs'.toList[i]? = some (.string s):=by
      rw [Nat.mul_one] at e1
      have:((cs'.toList.drop i).take 1)[0]? = some (.string s):=by rw [e1]; rfl
      rw [List.getElem?_take] at this
      simpa using this
     rw [e4]
     unfold abM
     rw [List.getElem?_map,hsi,Option.map_some,e3]
    ·rw [List.getElem?_eq_none (by omega),List.getElem?_eq_none (by unfold abM; simp; omega)]
   ·exact ih q a5 e'
end Go.AM

/- Objects: loading and storing through known pointers; the block that draws. -/
namespace Go.AM
set_option linter.unusedSimpArgs false
set_option linter.unusedVariables false
theorem auf {α:Type} {l:List α} {k:Nat} {a:α} (h:l[k]? = some a):l.set k a=l:=by
 apply List.ext_getElem?
 intro i
 rw [List.getElem?_set]
 split
 ·rename_i e
  subst e
  rw [h,if_pos (List.getElem?_eq_some_iff.1 h).1]
 ·rfl
theorem aiP {g:Nat->Option (List V)} {n k off:Nat} {H:VH} {cs:List V} {v u:V} (h:H[k]? = some cs) (hv:cs[off]? = some v) (hu:strip v=u):G7 g false false n (.ptr k off) H=some (u,H):=by
 rw [<-hu]
 simp only [G7,h,ac9,hv,Option.bind_some,Option.map_some,auf h]
theorem ap5 {k off:Nat} {H:VH} {cs:List V} {v:V} (h:H[k]? = some cs) (ho:off<cs.length):stO (.ptr k off) [v] H=some (H.set k (cs.set off v)):=by
 have hb:Nat.ble (off+[v].length) cs.length=true:=Nat.ble_eq_true_of_le (by simp; omega)
 simp only [stO,h,hb]
 have:Q1 cs off [v]=cs.set off v:=by
  simp only [Q1]
  rw [List.set_eq_take_append_cons_drop,if_pos ho]; simp
 rw [this]
def O9 (xs:List UInt8) (p n:Nat):Nat :=
 if xs.length=0 then 0
 else if p<xs.length then (xs.getD p 0).toNat % n
 else
  let x:=(xs.getD (p % xs.length) 0).toNat*131+(xs.getD ((p*7+3) % xs.length) 0).toNat*1117+p*29+p / xs.length*53
  (x ^^^ x / 64) % n
theorem aeN (xs:List UInt8) (p n:Nat) (h:1<=n):O9 xs p n<n:=by
 unfold O9
 split
 ·omega
 ·split
  ·exact Nat.mod_lt _ (by omega)
  ·exact Nat.mod_lt _ (by omega)
def rdr (o:Bool) (xs:List UInt8) (p:Nat):List V:=[.sl o (vB xs),.int .i64 (p:Int)]
end Go.AM

/- Arguments: each az a value of the machines. -/
namespace Go.AM
open Go.WideShapes
set_option linter.unusedSimpArgs false
set_option linter.unusedVariables false
def afO:Ty->V->Prop
 | .st fs,u=>∃ vs,u = .agg vs/\aaf fs vs
 | τ,u=>L1 τ [u]
theorem ayo {H:Type} {enc:TypeId × Value->H} {P:Program} {w:World} {τ:Ty} {t:TypeId} {v:Value} {d:DataW H} {ps:List MemPlace} {base:Nat} {r:Reach} {hp:Heap} {ι:l9} (ht:ace P τ t=true)
 (h:DataW.Trod enc P w 0 (fun _=>true) true t v d ps) (hv:Value.okWide P w r base t v) (hi:T1 ι hp w) :
 ∃ new ι' x u,T1 ι' (hp++new) w/\Sub ι ι'/\VR ι' x v/\RV ⟨hp++new,[],[]⟩ u x (fun _=>0)/\afO τ u:=by
 obtain ⟨fuel,hf⟩:=h
 obtain ⟨new,ι',xs,vs,h1,h2,h3,h4,h5,h6⟩:=conv τ ht hf hi
 have single:∀ {c:Value},v.cells.toList=[c]->c=v->(∀ u,L1 τ [u]->afO τ u)->∃ new ι' x u,T1 ι' (hp++new) w/\Sub ι ι'/\VR ι' x v/\RV ⟨hp++new,[],[]⟩ u x (fun _=>0)/\afO τ u:=by
  intro c hc hcv hA
  rw [hc] at h3
  cases h3 with
  | cons g1 g2 =>
    cases g2
    rename_i x
    match vs,h5 with
    | [u],h5 =>
      simp only [c9] at h5
      obtain ⟨x',ys,c1,c2,e1,k1,⟨e2,k2⟩,k3⟩:=h5
      cases e1
      exact ⟨new,ι',x,u,h1,h2,by rw [<-hcv]; exact g1,k1.congr (fun i=>by have:=k3 i; omega),hA u h6⟩
    | [],h5=>simp only [c9] at h5; exact absurd h5.1 (by simp)
    | u::u2::l,h5 =>
      simp only [c9] at h5
      obtain ⟨x',ys,c1,c2,e1,k1,⟨x2,ys2,d1,d2,e2,_⟩,k3⟩:=h5
      cases e1; cases e2
 cases τ with
 | bool =>
   simp only [ace] at ht
   split at ht
   ·rename_i hu
    obtain ⟨b,rfl⟩:=okWide_bool hu hv
    exact single rfl rfl (fun _ h=>h)
   ·cases ht
 | int k =>
   simp only [ace] at ht
   split at ht
   ·rename_i hu
    obtain ⟨b,rfl⟩:=okWide_int hu hv
    exact single rfl rfl (fun _ h=>h)
   ·cases ht
 | str =>
   simp only [ace] at ht
   split at ht
   ·rename_i hu
    obtain ⟨b,rfl⟩:=okWide_string hu hv
    exact single rfl rfl (fun _ h=>h)
   ·cases ht
 | sl e =>
   simp only [ace] at ht
   split at ht
   ·rename_i hu
    obtain ⟨a,l,c,rfl⟩:=okWide_slice hu hv
    exact single rfl rfl (fun _ h=>h)
   ·cases ht
 | st fs =>
   simp only [ace] at ht
   split at ht
   ·rename_i hu
    obtain ⟨⟨cs⟩,rfl,hsz⟩:=okWide_struct hu hv
    have h3':B8 ι' xs cs:=h3
    refine ⟨new,ι',.agg ⟨xs⟩,.agg vs,h1,h2,?_,?_,?_⟩
    ·refine .agg (by simp [h3'.ax2]) (fun i a b ha hb=>?_) (fun i a ha=>h4 a (List.mem_of_getElem? (by simpa using ha)))
     obtain ⟨y,g1,g2⟩:=h3'.get' i a (by simpa using ha)
     have:cs[i]? = some b:=by simpa using hb
     rw [this] at g1; cases g1; exact g2
    ·simp only [RV]; exact ⟨xs,rfl,h5⟩
    ·simp only [L1] at h6; exact ⟨vs,rfl,h6⟩
   ·cases ht
theorem ato {u:V} (h:afO (.sl (.int .u8)) u):∃ xs:List UInt8,u = .sl false (vB xs)/\xs.length<=maxLen:=by
 simp only [afO,L1] at h
 obtain ⟨ys,h1,h2,h3⟩:=h
 cases h1
 have:∀ {l:List (List V)},(∀ x ∈ l,∃ n,x=[.int .u8 n]/\(Lit.int .u8 n).wf=true)->∃ xs:List UInt8,l=vB xs:=by
  intro l
  induction l with
  | nil=>intro _; exact ⟨[],rfl⟩
  | cons a l ih =>
    intro hl
    obtain ⟨n,rfl,hn⟩:=hl a (by simp)
    obtain ⟨xs,rfl⟩:=ih (fun x hx=>hl x (by simp [hx]))
    have hn':0<=n/\n<=255:=by
     simp [Lit.wf,IntKind.min,IntKind.max,IntKind.signed,IntKind.bits] at hn
     omega
    refine ⟨UInt8.ofNat n.toNat::xs,?_⟩
    simp only [vB,List.map_cons]
    congr 2
    have e:(UInt8.ofNat n.toNat).toNat=n.toNat:=by rw [UInt8.toNat_ofNat']; omega
    rw [e,Int.toNat_of_nonneg hn'.1]
 obtain ⟨xs,rfl⟩:=this h3
 exact ⟨xs,rfl,by rw [abA] at h2; exact h2⟩
theorem RV.more {hp new:Heap} {u:V} {x:Value} (h:RV ⟨hp,[],[]⟩ u x (fun _=>0)):RV ⟨hp++new,[],[]⟩ u x (fun _=>0) :=
 RV.mono (amB hp new) u h (fun _ _=>trivial)
end Go.AM

/- Rows of values of a kind; mails, sessions, mailboxes az values. -/
namespace Go.AM
set_option linter.unusedSimpArgs false
set_option linter.unusedVariables false
abbrev Bs:=List UInt8
structure Ec (α:Type) where
 e:α->List V
 n:Nat
 len:∀ a,(e a).length=n
 st:∀ a,o8 (e a)=e a
 np:∀ a,w9 (e a)=true
 dt:∀ a,B5 (e a)=true
def vR {α:Type} (E:Ec α) (l:List α):List (List V):=l.map E.e
section
variable {α:Type} (E:Ec α) (l m:List α)
theorem ahZ:(vR E l).length=l.length:=by simp [vR]
theorem E8:o9 (vR E l)=vR E l:=by
 induction l with
 | nil=>rfl
 | cons a l ih=>simp only [vR,List.map_cons,o9,E.st] at ih ⊢; rw [ih]
theorem afd:H6 (vR E l)=true:=by
 induction l with
 | nil=>rfl
 | cons a l ih=>simp only [vR,List.map_cons,H6,E.np,Bool.true_and] at ih ⊢; exact ih
theorem aed:K8 (vR E l)=true:=by
 induction l with
 | nil=>rfl
 | cons a l ih=>simp only [vR,List.map_cons,K8,E.dt,Bool.true_and] at ih ⊢; exact ih
theorem afG:F4 E.n (vR E l)=true:=by simp [F4,vR,E.len]
theorem as3:vR E l++vR E m=vR E (l++m):=by simp [vR]
theorem axM (i:Nat) (h:i<l.length):(vR E l)[i]? = some (E.e l[i]):=by simp [vR,List.getElem?_eq_getElem h]
theorem axG (o:Bool) (k:IntKind) (i:Nat) (h:i<l.length):E1 E.n (.sl o (vR E l)) (.int k (i:Int))=some (.G3 (E.e l[i]) 0):=by
 rw [anv E.n o (vR E l) k i _ (axM E l i h) (E.len _),E.st]
end
def eT:Ec Bs:=⟨fun s=>[.str s],1,fun _=>rfl,fun _=>rfl,fun _=>rfl,fun _=>rfl⟩
structure abn where
 from_:Bs
 to:List Bs
 lines:List Bs
 deriving DecidableEq
structure acR where
 state:Int
 host:Bs
 Z8:abn
 done:List abn
 deriving DecidableEq
structure Box where
 path:Bs
 ab4:List abn
 deriving DecidableEq
def cM (m:abn):List V:=[.str m.from_,.sl false (vT m.to),.sl false (vT m.lines)]
def eM:Ec abn where
 e:=cM
 n:=3
 len:=fun _=>rfl
 st:=fun m=>by simp only [cM,o8,strip,agq]
 np:=fun m=>by simp only [cM,w9,A8,anz,Bool.and_self]
 dt:=fun m=>by simp only [cM,B5,data,aiA,Bool.and_self]
def cS (s:acR):List V:=[.int .i64 s.state,.str s.host,.str s.Z8.from_,.sl false (vT s.Z8.to),.sl false (vT s.Z8.lines),.sl false (vR eM s.done)]
def eS:Ec acR where
 e:=cS
 n:=6
 len:=fun _=>rfl
 st:=fun m=>by simp only [cS,o8,strip,agq,E8]
 np:=fun m=>by simp only [cS,w9,A8,anz,afd,Bool.and_self]
 dt:=fun m=>by simp only [cS,B5,data,aiA,aed,Bool.and_self]
def cX (b:Box):List V:=[.str b.path,.sl false (vR eM b.ab4)]
def eX:Ec Box where
 e:=cX
 n:=2
 len:=fun _=>rfl
 st:=fun m=>by simp only [cX,o8,strip,E8]
 np:=fun m=>by simp only [cX,w9,A8,afd,Bool.and_self]
 dt:=fun m=>by simp only [cX,B5,data,aed,Bool.and_self]
theorem axv (a b:V):F8 2 (.agg [a,b])=some [a,b]:=by exact id rfl
theorem ayh (a b c:V):F8 3 (.agg [a,b,c])=some [a,b,c]:=by exact id rfl
theorem ax9 (a b c d e f:V):F8 6 (.agg [a,b,c,d,e,f])=some [a,b,c,d,e,f]:=by exact id rfl
theorem axF (a b c d e f g:V):F8 7 (.agg [a,b,c,d,e,f,g])=some [a,b,c,d,e,f,g]:=by exact id rfl
theorem ax1 (g:Nat->Option (List V)) (t:Bool) (a b:V) (H:VH):G7 g t true 2 (.G3 [a,b] 0) H=some (.agg [a,b],H):=by exact id rfl
theorem awU (g:Nat->Option (List V)) (t:Bool) (a b c:V) (H:VH):G7 g t true 3 (.G3 [a,b,c] 0) H=some (.agg [a,b,c],H):=by exact id rfl
theorem ayp (g:Nat->Option (List V)) (t:Bool) (a b c d e f:V) (H:VH):G7 g t true 6 (.G3 [a,b,c,d,e,f] 0) H=some (.agg [a,b,c,d,e,f],H):=by exact id rfl
theorem as4 (g:Nat->Option (List V)) (t:Bool) (n:Nat) (a:V) (l:List V) (H:VH):G7 g t false n (.G3 (a::l) 0) H=some (a,H):=by exact id rfl
theorem ar6 (g:Nat->Option (List V)) (t:Bool) (n:Nat) (a b:V) (l:List V) (H:VH):G7 g t false n (.G3 (a::b::l) 1) H=some (b,H):=by exact id rfl
theorem asL (g:Nat->Option (List V)) (t:Bool) (n:Nat) (a b c:V) (l:List V) (H:VH):G7 g t false n (.G3 (a::b::c::l) 2) H=some (c,H):=by exact id rfl
theorem axe (m:abn):eM.e m=[.str m.from_,.sl false (vT m.to),.sl false (vT m.lines)]:=by exact id rfl
theorem ax5 (s:acR):eS.e s=[.int .i64 s.state,.str s.host,.str s.Z8.from_,.sl false (vT s.Z8.to),.sl false (vT s.Z8.lines),.sl false (vR eM s.done)]:=by exact id rfl
theorem axh (b:Box):eX.e b=[.str b.path,.sl false (vR eM b.ab4)]:=by exact id rfl
theorem ayB (m:abn):cM m=[.str m.from_,.sl false (vT m.to),.sl false (vT m.lines)]:=by exact id rfl
theorem axE (s:acR):cS s=[.int .i64 s.state,.str s.host,.str s.Z8.from_,.sl false (vT s.Z8.to),.sl false (vT s.Z8.lines),.sl false (vR eM s.done)]:=by exact id rfl
theorem aw2 (b:Box):cX b=[.str b.path,.sl false (vR eM b.ab4)]:=by exact id rfl
theorem aqf (l:List abn):F4 3 (vR eM l)=true:=afG eM l
theorem aqL (l:List Box):F4 2 (vR eX l)=true:=afG eX l
def L0 {α:Type} (E:Ec α) (l:List α) (z:List V) (i:Nat):List V:=(vR E (l.take i)).flatten++aaQ (l.length-i) z
theorem R5 {α:Type} (E:Ec α):∀ l:List α,(vR E l).flatten.length=l.length*E.n
 | []=>by simp [vR]
 | a::l=>by
   have:=R5 E l
   simp only [vR,List.map_cons,List.flatten_cons,List.length_append,E.len,List.length_cons,Nat.succ_mul] at this ⊢
   omega
theorem atU {α:Type} (E:Ec α) {l:List α} {z:List V} (hz:z.length=E.n) {i:Nat} (h:i<l.length):Q1 (L0 E l z i) (i*E.n) (E.e l[i])=L0 E l z (i+1)/\i*E.n+E.n<=(L0 E l z i).length:=by
 have h1:(vR E (l.take i)).flatten.length=i*E.n:=by rw [R5,List.length_take,Nat.min_eq_left (by omega)]
 obtain ⟨k,hk⟩:∃ k,l.length-i=k+1:=⟨l.length-i-1,by omega⟩
 have hk2:l.length-(i+1)=k:=by omega
 have e1:L0 E l z i=(vR E (l.take i)).flatten++z++aaQ k z:=by simp only [L0,hk,aaQ,List.append_assoc]
 have e2:L0 E l z (i+1)=(vR E (l.take i)).flatten++E.e l[i]++aaQ k z:=by
  simp only [L0,hk2]
  rw [List.take_succ_eq_append_getElem h]
  simp only [vR,List.map_append,List.map_cons,List.map_nil,List.flatten_append,List.flatten_cons,List.flatten_nil,List.append_nil]
 constructor
 ·rw [e1,e2,<-h1]
  exact aev _ _ _ _ (by rw [hz,E.len])
 ·rw [e1]; simp only [List.length_append,h1,hz]; omega
theorem auR {α:Type} (E:Ec α) (l:List α) (z:List V):L0 E l z l.length=(vR E l).flatten:=by simp [L0,aaQ]
theorem agK {α:Type} (E:Ec α):∀ l:List α,A3 E.n l.length (vR E l).flatten=vR E l
 | []=>rfl
 | a::l=>by
   have:=agK E l
   simp only [vR,List.map_cons,List.flatten_cons,List.length_cons,A3] at this ⊢
   have h:=E.len a
   rw [<-h,List.take_left,List.drop_left,h,this]
theorem arT {α:Type} (E:Ec α) {H:VH} {k:Nat} {l:List α} (h:H[k]? = some (vR E l).flatten):alq H (.A0 k 0 l.length E.n)=some (.sl false (vR E l)):=by
 simp only [alq,af8,h,Option.bind_some]
 rw [N0 (by rw [R5]; omega),List.drop_zero,List.take_of_length_le (by rw [R5]; omega)]
 simp only [Option.map_some,agK,E8]
theorem asH (k o n e:Nat):D2 (.A0 k o n e)=some (.int .i64 n):=by exact id rfl
theorem alw (k off n e:Nat) (q:IntKind) (i:Nat) (h:i<n):E1 e (.A0 k off n e) (.int q (i:Int))=some (.ptr k (off+i*e)):=by
 have hc:(0:Int)<=(i:Int)/\(i:Int)<(n:Int)/\e=e:=⟨by omega,by omega,rfl⟩
 simp only [E1]
 rw [if_pos (by simpa using hc)]; simp
theorem asR (k o n e:Nat):strip (.A0 k o n e) = .A0 k o n e:=by exact id rfl
theorem ar1 (k o n e:Nat):A8 (.A0 k o n e)=false:=by exact id rfl
theorem ayr (b:Nat) (n:Nat) (h:n*b<=140737488355328) (h2:n<=9223372036854775807):ahp b (.int .i64 (n:Int)) (.int .i64 (n:Int))=some (n,n):=by
 simp only [ahp]
 rw [if_pos ⟨by omega,by omega,by simpa using h,by omega⟩]; simp
theorem asi {k off:Nat} {H:VH} {cs c:List V} (h:H[k]? = some cs) (ho:off+c.length<=cs.length):stO (.ptr k off) c H=some (H.set k (Q1 cs off c)):=by
 have hb:Nat.ble (off+c.length) cs.length=true:=Nat.ble_eq_true_of_le ho
 simp only [stO,h,hb]
theorem akK {α:Type} (E:Ec α) {H:VH} {k:Nat} {l:List α} {z:List V} (hz:z.length=E.n) {i:Nat} (hi:i<l.length) (h:H[k]? = some (L0 E l z i)):stO (.ptr k (0+i*E.n)) (E.e l[i]) H=some (H.set k (L0 E l z (i+1))):=by
 obtain ⟨h1,h2⟩:=atU E hz hi
 rw [Nat.zero_add,asi h (by rw [E.len]; exact h2),h1]
theorem ayq {α:Type} (E:Ec α) {call:y0} {f:FuncId} {args:List V} {H:VH} {k:Nat} {l:List α} (h:call f args []=some (.A0 k 0 l.length E.n,H)) (h1:w9 args=true) (hk:H[k]? = some (vR E l).flatten):aar call f args=some (.sl false (vR E l)):=by
 simp only [aar,h1,h,Option.bind_some,data,arT E hk,aed]
end Go.AM

/- Loops of common kinds. -/
namespace Go.AM
set_option linter.unusedSimpArgs false
set_option linter.unusedVariables false
abbrev LB:=List V->VH->Option (Option Nat × List V × VH)
section
variable {B:LB} {S:Nat->List V} {H:VH}
theorem adl {α:Type} {m0 m1:Nat} {vs0 vs1:List V} (xs:List α) (p:α->Bool) (hr:∀ (i:Nat) (h:i<xs.length),B (S i) H=if p xs[i]=true then some (some m1,vs1,H) else some (none,S (i+1),H))
 (he:B (S xs.length) H=some (some m0,vs0,H)):o6 B (S 0) H=if xs.any p=true then some (m1,vs1,H) else some (m0,vs0,H):=by
 have key:∀ (n i:Nat),xs.length-i=n->i<=xs.length->o6 B (S i) H=if (xs.drop i).any p=true then some (m1,vs1,H) else some (m0,vs0,H):=by
  intro n
  induction n with
  | zero =>
    intro i hn hi
    have:i=xs.length:=by omega
    subst this
    rw [aem he,List.drop_eq_nil_of_le (Nat.le_refl _)]; rfl
  | succ n ih =>
    intro i hn hi
    have h1:i<xs.length:=by omega
    have hb:=hr i h1
    rw [List.drop_eq_getElem_cons h1,List.any_cons]
    by_cases e:p xs[i]=true
    ·rw [if_pos e] at hb
     rw [aem hb,e]; rfl
    ·rw [if_neg e] at hb
     rw [aiI hb,ih (i+1) (by omega) (by omega)]
     have:p xs[i]=false:=by simpa using e
     rw [this,Bool.false_or]
 have:=key xs.length 0 (by omega) (by omega)
 simpa using this
def aim {α:Type} (f:α->Int->Int):List α->Int->Int
 | [],n=>n
 | a::l,n=>if f a n<0 then -1 else aim f l (f a n)
theorem aqb {α:Type} {f:α->Int->Int} {l:List α} (hf:∀ a ∈ l,∀ n,0<=n->f a n<=n):∀ {n:Int},0<=n->aim f l n<=n:=by
 induction l with
 | nil=>intro n _; exact Int.le_refl _
 | cons a l ih =>
   intro n hn
   simp only [aim]
   have:=hf a (by simp) n hn
   split
   ·omega
   ·have:=ih (fun b hb=>hf b (by simp [hb])) (n:=f a n) (by omega)
    omega
theorem akq {α:Type} {f:α->Int->Int} {l:List α} (hf:∀ a ∈ l,∀ n,0<=n->f a n<=n):∀ {n:Int},0<=n->0<=aim f l n->∀ a ∈ l,∃ k,0<=k/\k<=n/\0<=f a k:=by
 induction l with
 | nil=>intro n _ _ a ha; cases ha
 | cons b l ih =>
   intro n hn h a ha
   simp only [aim] at h
   split at h
   ·omega
   ·rename_i hb
    rcases List.mem_cons.1 ha with rfl | ha
    ·exact ⟨n,hn,Int.le_refl _,by omega⟩
    ·have:=hf b (by simp) n hn
     obtain ⟨k,h1,h2,h3⟩:=ih (fun b hb=>hf b (by simp [hb])) (n:=f b n) (by omega) h a ha
     exact ⟨k,h1,by omega,h3⟩
end
end Go.AM

/- More loops of common kinds, texts cut at a byte, and runs of which a part is known. -/
namespace Go.AM
set_option linter.unusedSimpArgs false
set_option linter.unusedVariables false
set_option maxRecDepth 10000
theorem akr {α:Type} {c:Prop} [Decidable c] {x y z:α} (h1:c->x=z) (h2:¬ c->y=z):(if c then x else y)=z:=by
 by_cases h:c
 ·rw [if_pos h]; exact h1 h
 ·rw [if_neg h]; exact h2 h
section
variable {B:LB} {S:Nat->List V} {H:VH}
theorem aoq {α:Type} {m0 m1:Nat} {vs0:List V} (xs:List α) (p:α->Bool) (hr:∀ (i:Nat) (h:i<xs.length),B (S i) H=if p xs[i]=true then some (some m1,[.int .i64 (i:Nat)],H) else some (none,S (i+1),H))
 (he:B (S xs.length) H=some (some m0,vs0,H)):o6 B (S 0) H=if xs.any p=true then some (m1,[.int .i64 (xs.findIdx p:Nat)],H) else some (m0,vs0,H):=by
 have key:∀ (n i:Nat),xs.length-i=n->i<=xs.length->o6 B (S i) H=if (xs.drop i).any p=true then some (m1,[.int .i64 (i+(xs.drop i).findIdx p:Nat)],H) else some (m0,vs0,H):=by
  intro n
  induction n with
  | zero =>
    intro i hn hi
    have:i=xs.length:=by omega
    subst this
    rw [aem he,List.drop_eq_nil_of_le (Nat.le_refl _)]; rfl
  | succ n ih =>
    intro i hn hi
    have h1:i<xs.length:=by omega
    have hb:=hr i h1
    rw [List.drop_eq_getElem_cons h1,List.any_cons,List.findIdx_cons]
    by_cases e:p xs[i]=true
    ·rw [if_pos e] at hb
     rw [aem hb,e]; rfl
    ·rw [if_neg e] at hb
     rw [aiI hb,ih (i+1) (by omega) (by omega)]
     have:p xs[i]=false:=by simpa using e
     rw [this,Bool.false_or]
     simp only [cond_false,Nat.add_assoc,Nat.add_comm 1]
 have:=key xs.length 0 (by omega) (by omega)
 simpa using this
theorem atz {α:Type} (E:Ec α) {l:List α} {k t:Nat} {z:List V} {H0:VH} {m:Nat} {vs:List V} (ht:t<=l.length) (h0:H0[k]? = some (L0 E l z 0)) (hr:∀ (i:Nat) (h:i<t) (H:VH),H[k]? = some (L0 E l z i)->B (S i) H=some (none,S (i+1),H.set k (L0 E l z (i+1))))
 (he:∀ H,H[k]? = some (L0 E l z t)->B (S t) H=some (some m,vs,H)):∃ H1,o6 B (S 0) H0=some (m,vs,H1)/\H1[k]? = some (L0 E l z t):=by
 have key:∀ (n i:Nat) (H:VH),t-i=n->i<=t->H[k]? = some (L0 E l z i)->∃ H1,o6 B (S i) H=some (m,vs,H1)/\H1[k]? = some (L0 E l z t):=by
  intro n
  induction n with
  | zero =>
    intro i H hn hi hk
    have:i=t:=by omega
    subst this
    exact ⟨H,aem (he H hk),hk⟩
  | succ n ih =>
    intro i H hn hi hk
    have h1:i<t:=by omega
    rw [aiI (hr i h1 H hk)]
    exact ih (i+1) _ (by omega) (by omega) (by rw [List.getElem?_set,if_pos rfl,if_pos (List.getElem?_eq_some_iff.1 hk).1])
 exact key t 0 H0 (by omega) (by omega) h0
end
theorem ayv (b9 k o n h:Nat) (q:IntKind) (hh:h<=n):V6 b9 (.A0 k o n b9) none (some (.int q (h:Int)))=some (.A0 k o h b9):=by
 simp only [V6,acU,Option.bind_some]
 rw [if_pos ⟨trivial,by omega,by omega,by omega⟩]
 simp
theorem ayY (k:IntKind) (a b:Int) (h:a<=b):aiL (.int k a) (.int k b)=some (.int k a):=by
 simp only [aiL,if_true]
 rw [if_neg (by omega)]
def cB (s:Bs):List V:=s.map fun b => .int .u8 (b.toNat:Int)
theorem ayR (s:Bs):arX (.str s)=some (cB s):=rfl
theorem alk (s:Bs):(cB s).length=s.length:=by simp [cB]
theorem afP:∀ s:Bs,acb (vB s)=some s
 | []=>rfl
 | b::l=>by
   have ih:=afP l
   show (acb (vB l)).map _=_
   rw [ih]; simp
theorem aoS:∀ s:Bs,A3 1 s.length (cB s)=vB s
 | []=>rfl
 | b::l=>by
   have ih:=aoS l
   show [V.int .u8 (b.toNat:Int)]::A3 1 l.length (cB l)=_
   rw [ih]; rfl
theorem ayJ {H:VH} {k:Nat} {t:Bs} (h:H[k]? = some (cB t)):abm (.A0 k 0 t.length 1) H=some (.str t):=by
 simp only [abm,if_true,h,Option.bind_some]
 rw [N0 (by rw [alk]; omega),List.drop_zero,List.take_of_length_le (by rw [alk]; omega)]
 simp only [Option.bind_some,aoS,afP,Option.map_some]
theorem ay8 {g:Nat->Option (List V)} {H:VH} {k i:Nat} {t:Bs} (h:H[k]? = some (cB t)) (hi:i<t.length):G7 g false false 1 (.ptr k i) H=some (.int .u8 (t[i].toNat:Int),H) :=
 aiP (v := .int .u8 (t[i].toNat:Int)) h (by simp [cB,List.getElem?_eq_getElem hi]) rfl
theorem aza {H:VH} {k i:Nat} {t:Bs} (b:UInt8) (h:H[k]? = some (cB t)) (hi:i<t.length):stO (.ptr k i) [.int .u8 (b.toNat:Int)] H=some (H.set k (cB (t.set i b))):=by
 rw [ap5 h (by rw [alk]; exact hi)]
 simp [cB,List.map_set]
theorem axk (tk:TK) (a b:Int) (h1:0<=a+b) (h2:a+b<=255):a8 tk .add (.int .u8 a) (.int .u8 b)=some (.int .u8 (a+b)):=by
 simp [a8,toA,T4,S9,ofA,IntWalk.u8_in _ ⟨h1,h2⟩]
def l3 {R:Type} (e:Option R) (Q:R->Prop):Prop:=∃ r,e=some r/\Q r
theorem l3.here {R:Type} {Q:R->Prop} {r:R} (h:Q r):l3 (some r) Q:=⟨r,rfl,h⟩
theorem l3.bind {R T:Type} {e:Option R} {P:R->Prop} {K:R->Option T} {Q:T->Prop} (h:l3 e P) (k:∀ r,P r->l3 (K r) Q):l3 (e.bind K) Q:=by
 obtain ⟨r,rfl,hr⟩:=h
 exact k r hr
theorem l3.mono {R:Type} {e:Option R} {P Q:R->Prop} (h:l3 e P) (k:∀ r,P r->Q r):l3 e Q:=by
 obtain ⟨r,e,hr⟩:=h
 exact ⟨r,e,k r hr⟩
theorem l3.ite {R:Type} {c:Prop} [Decidable c] {x y:Option R} {Q:R->Prop} (h1:c->l3 x Q) (h2:¬ c->l3 y Q):l3 (if c then x else y) Q:=by
 split
 ·exact h1 ‹_›
 ·exact h2 ‹_›
theorem l3.loop {B:LB} {I:Nat->List V->VH->Prop} {Q:Nat × List V × VH->Prop}
 (hr:∀ n s H,I n s H->l3 (B s H) fun r=>match r.1 with | some m=>Q (m,r.2) | none=>∃ n',n'<n/\I n' r.2.1 r.2.2) :
 ∀ (n:Nat) (s:List V) (H:VH),I n s H->l3 (o6 B s H) Q:=by
 intro n
 induction n using Nat.strongRecOn with
 | _ n ih =>
   intro s H hI
   obtain ⟨⟨m,vs,H'⟩,e,hq⟩:=hr n s H hI
   cases m with
   | some m=>exact ⟨_,aem e,hq⟩
   | none =>
     obtain ⟨n',hn,hI'⟩:=hq
     rw [aiI e]
     exact ih n' hn _ _ hI'
def T6 (e:Option (V × VH)) (P:V->VH->Prop):Prop:=∃ v H,e=some (v,H)/\P v H
theorem T6.bind {T:Type} {e:Option (V × VH)} {P:V->VH->Prop} {K:V × VH->Option T} {Q:T->Prop} (h:T6 e P) (k:∀ v H,P v H->l3 (K (v,H)) Q):l3 (e.bind K) Q:=by
 obtain ⟨v,H,rfl,hr⟩:=h
 exact k v H hr
theorem T6.of {e:Option (V × VH)} {P:V->VH->Prop} (h:l3 e fun r=>P r.1 r.2):T6 e P:=by
 obtain ⟨⟨v,H⟩,h1,h2⟩:=h
 exact ⟨v,H,h1,h2⟩
theorem l3.V3 {B:LB} {T:Type} {I:Nat->List V->VH->Prop} {P:Nat->List V->VH->Prop} {n:Nat} {s:List V} {H:VH} {K:Nat × List V × VH->Option T} {Q:T->Prop}
 (hr:∀ n s H,I n s H->l3 (B s H) fun r=>(∃ m,r.1=some m/\P m r.2.1 r.2.2)\/(r.1=none/\∃ n',n'<n/\I n' r.2.1 r.2.2))
 (h0:I n s H) (k:∀ m vs H',P m vs H'->l3 (K (m,vs,H')) Q):l3 ((o6 B s H).bind K) Q:=by
 refine (l3.loop (I:=I) (Q:=fun r=>P r.1 r.2.1 r.2.2) (fun n s H hI=>(hr n s H hI).mono fun r h=>?_) n s H h0).bind fun r h=>k r.1 r.2.1 r.2.2 h
 obtain ⟨r1,r2⟩:=r
 rcases h with ⟨m,h1,h2⟩ | ⟨h1,h2⟩
 ·cases h1; exact h2
 ·cases h1; exact h2
def Rd (k b:Nat) (H:VH):Prop:=∃ o xs p,H[k]? = some (rdr o xs p)/\p<=b/\xs.length<=2000
theorem Rd.le {k b b':Nat} {H:VH} (h:Rd k b H) (hb:b<=b'):Rd k b' H:=by
 obtain ⟨o,xs,p,h1,h2,h3⟩:=h
 exact ⟨o,xs,p,h1,by omega,h3⟩
def unT:List (List V)->List Bs
 | [.str s]::l=>s::unT l
 | _=>[]
def okT (xs:List (List V)):Bool:=(unT xs).length==xs.length&&(unT xs).all (fun s=>decide (s.length<=200))&&decide (1<=xs.length)&&decide (xs.length<=1000)
theorem ata:∀ {xs:List (List V)},(unT xs).length=xs.length->vT (unT xs)=xs
 | [],_=>rfl
 | x::l,h=>by
   unfold unT at h ⊢
   split at h
   ·rename_i s l' e
    cases e
    have:=ata (xs:=l) (by simpa using h)
    show [V.str s]::vT (unT l)=_
    rw [this]
   ·simp at h
def unI:List (List V)->List Int
 | [.int .i64 s]::l=>s::unI l
 | _=>[]
def okI (xs:List (List V)):Bool:=(unI xs).length==xs.length&&decide (1<=xs.length)&&decide (xs.length<=1000)
theorem atD:∀ {xs:List (List V)},(unI xs).length=xs.length->vI .i64 (unI xs)=xs
 | [],_=>rfl
 | x::l,h=>by
   unfold unI at h ⊢
   split at h
   ·rename_i s l' e
    cases e
    have:=atD (xs:=l) (by simpa using h)
    show [V.int .i64 s]::vI .i64 (unI l)=_
    rw [this]
   ·simp at h
theorem ayI (s:Bs) (c:UInt8):Go.Lib.indexByte s c=if c ∈ s then ((s.idxOf c:Nat):Int) else -1:=by
 induction s with
 | nil=>rfl
 | cons b l ih =>
   unfold Go.Lib.indexByte
   rw [ih,List.idxOf_cons]
   by_cases h:b=c
   ·subst h; simp
   ·have h':¬ c=b:=fun e=>h e.symm
    by_cases hm:c ∈ l
    ·have:(b==c)=false:=by simpa using h
     simp only [this,hm,if_true,List.mem_cons,or_true,cond_false]
     have hn:((l.idxOf c:Nat):Int) ≠ -1:=by omega
     simp [hn]
    ·have:(b==c)=false:=by simpa using h
     simp [this,hm,h',h]
def al9 (c:UInt8) (s:Bs):Bs:=if c ∈ s then s.take (s.idxOf c) else s
def alU (c:UInt8) (s:Bs):Bs:=if c ∈ s then s.drop (s.idxOf c+1) else []
def j4 (c:UInt8):Bs->List Bs
 | []=>[[]]
 | b::l=>if b=c then []::j4 c l else match j4 c l with | []=>[[b]] | x::r=>(b::x)::r
theorem abY (c:UInt8) (s:Bs):j4 c s ≠ []:=by
 cases s with
 | nil=>simp [j4]
 | cons b l =>
   unfold j4
   split
   ·simp
   ·split<;>simp
theorem aa8 (c:UInt8) (s:Bs):(j4 c s).length=s.count c+1:=by
 induction s with
 | nil=>rfl
 | cons b l ih =>
   unfold j4
   rw [List.count_cons]
   by_cases h:b=c
   ·simp [h,ih]
   ·have:(b==c)=false:=by simpa using h
    rw [if_neg h,this]
    split
    ·rename_i e; exact absurd e (abY c l)
    ·rename_i x r e; rw [e] at ih; simpa using ih
theorem ae5 (c:UInt8) (s:Bs) (h:c ∉ s):j4 c s=[s]:=by
 induction s with
 | nil=>rfl
 | cons b l ih =>
   unfold j4
   have h1:¬ b=c:=fun e=>h (by simp [e])
   rw [if_neg h1,ih (fun e=>h (by simp [e]))]
theorem adV (c:UInt8) (s:Bs) (h:c ∈ s):j4 c s=s.take (s.idxOf c)::j4 c (s.drop (s.idxOf c+1)):=by
 induction s with
 | nil=>cases h
 | cons b l ih =>
   rw [List.idxOf_cons]
   conv=>lhs; unfold j4
   by_cases h1:b=c
   ·subst h1; simp
   ·have h2:c ∈ l:=by rcases List.mem_cons.1 h with e | e; exact absurd e.symm h1; exact e
    have:(b==c)=false:=by simpa using h1
    rw [if_neg h1,ih h2,this]
    simp
theorem acw (c:UInt8) (s:Bs):∀ t ∈ j4 c s,t.length<=s.length:=by
 induction s with
 | nil=>intro t ht; simp [j4] at ht; subst ht; simp
 | cons b l ih =>
   intro t ht
   unfold j4 at ht
   split at ht
   ·rcases List.mem_cons.1 ht with rfl | ht
    ·simp
    ·have:=ih t ht; simp; omega
   ·split at ht
    ·simp at ht; subst ht; simp
    ·rename_i x r e
     rcases List.mem_cons.1 ht with rfl | ht
     ·have:=ih x (by rw [e]; simp); simp; omega
     ·have:=ih t (by rw [e]; simp [ht]); simp; omega
def G8 (c:UInt8) (s:Bs):Nat->Bs
 | 0=>s
 | i+1=>(G8 c s i).drop ((G8 c s i).idxOf c+1)
theorem afy (c:UInt8) (s:Bs):∀ i,i<(j4 c s).length->j4 c (G8 c s i)=(j4 c s).drop i
 | 0,_=>rfl
 | i+1,h=>by
   have ih:=afy c s i (by omega)
   have hm:c ∈ G8 c s i:=by
    by_cases hm:c ∈ G8 c s i
    ·exact hm
    ·rw [ae5 c _ hm] at ih
     have:=congrArg List.length ih
     simp at this; omega
   rw [adV c _ hm] at ih
   have:=congrArg List.tail ih
   simpa [G8] using this
theorem amC (c:UInt8) (s:Bs):∀ i,(G8 c s i).length<=s.length
 | 0=>Nat.le_refl _
 | i+1=>by have:=amC c s i; simp only [G8,List.length_drop]; omega
theorem b8:type_of% (And.intro @Nat.zero_add (And.intro @if_true.{1} (And.intro @if_false.{1} (And.intro @decide_true (And.intro @decide_false (And.intro @Bool.false_eq_true (And.intro @Bool.not_true (And.intro @Bool.not_false (And.intro @avf (And.intro @aqn (And.intro @ayA (And.intro @ayE (And.intro @avt (And.intro @aqB (And.intro @asY (And.intro @as1 (And.intro @apU (And.intro @atM (And.intro @asb (And.intro @avJ (And.intro @avk (And.intro @ast (And.intro @asz (And.intro @aqO (And.intro @aoJ (And.intro @anC (And.intro @anf (And.intro @ac4 (And.intro @N3 (And.intro @aay (And.intro @aqI (And.intro @asW (And.intro @asU (And.intro @avD (And.intro @asQ (And.intro @asT (And.intro @av5 (And.intro @att (And.intro @aty (And.intro @aqM (And.intro @aop (And.intro @ape (And.intro @anb (And.intro @aeH (And.intro @adf (And.intro @ap4 (And.intro @atE (And.intro @asf (And.intro @avy (And.intro @asC (And.intro @atS (And.intro @avC (And.intro @aqu (And.intro @aoF (And.intro @aoV (And.intro @amW (And.intro @as0 (And.intro @avU (And.intro @avO (And.intro @ayj (And.intro @avA (And.intro @avj (And.intro @atx (And.intro @aqk (And.intro @apW (And.intro @aoU (And.intro @aqz (And.intro @ar7 (And.intro @atF (And.intro @ar0 (And.intro @aqw (And.intro @as2 (And.intro @asm (And.intro @atv (And.intro @aqQ (And.intro @avq (And.intro @atO (And.intro @axa (And.intro @ap9 (And.intro @ayf (And.intro @axm (And.intro @aw3 (And.intro @in_1 (And.intro @ayc (And.intro @axP (And.intro @ayl (And.intro @axy (And.intro @axT (And.intro @axI (And.intro @axZ (And.intro @awT (And.intro @aw5 (And.intro @ayu (And.intro @axY (And.intro @aw6 (And.intro @aw0 (And.intro @ave (And.intro @aw1 (And.intro @axi (And.intro @axO (And.intro @axV (And.intro @axx (And.intro @ax0 (And.intro @ax6 (And.intro @aw4 (And.intro @aw7 (And.intro @ayw (And.intro @avL (And.intro @avn (And.intro @avW (And.intro @avl (And.intro @avz (And.intro @avw (And.intro @avp (And.intro @avV (And.intro @avm (And.intro @av6 (And.intro @av4 (And.intro @avY (And.intro @av8 (And.intro @avx (And.intro @avM (And.intro @avS (And.intro @avc (And.intro @avX (And.intro @av3 (And.intro @avG (And.intro @avZ (And.intro @av0 (And.intro @avB (And.intro @av9 (And.intro @avF (And.intro @atP (And.intro @alB (And.intro @ald (And.intro @asX (And.intro @asy (And.intro @atr (And.intro @asG (And.intro @atN (And.intro @av1 (And.intro @atc (And.intro @avP (And.intro @axL (And.intro @avi (And.intro @ax3 (And.intro @ayD (And.intro @avs (And.intro @ayt (And.intro @axu (And.intro @ayF (And.intro @ayi (And.intro @aw8 (And.intro @axj (And.intro @aai (And.intro @abA (And.intro @ats (And.intro @agq (And.intro @agC (And.intro @apg (And.intro @anz (And.intro @avo (And.intro @avv (And.intro @aiA (And.intro @aqV (And.intro @aqY (And.intro @aan (And.intro @acj (And.intro @atq (And.intro @axv (And.intro @ayh (And.intro @ax9 (And.intro @axF (And.intro @ax1 (And.intro @awU (And.intro @ayp (And.intro @as4 (And.intro @ar6 (And.intro @asL (And.intro @axe (And.intro @ax5 (And.intro @axh (And.intro @ayB (And.intro @axE (And.intro @aw2 (And.intro @ahZ (And.intro @E8 (And.intro @afd (And.intro @aed (And.intro @aqf (And.intro @aqL (And.intro @asH (And.intro @asR @ar1))))))))))))))))))))))))))))))))))))))))))))))))))))))))))))))))))))))))))))))))))))))))))))))))))))))))))))))))))))))))))))))))))))))))))))))))))))))))))))))))))))))))))))))))))))))))))))))))):=And.intro @Nat.zero_add (And.intro @if_true.{1} (And.intro @if_false.{1} (And.intro @decide_true (And.intro @decide_false (And.intro @Bool.false_eq_true (And.intro @Bool.not_true (And.intro @Bool.not_false (And.intro @avf (And.intro @aqn (And.intro @ayA (And.intro @ayE (And.intro @avt (And.intro @aqB (And.intro @asY (And.intro @as1 (And.intro @apU (And.intro @atM (And.intro @asb (And.intro @avJ (And.intro @avk (And.intro @ast (And.intro @asz (And.intro @aqO (And.intro @aoJ (And.intro @anC (And.intro @anf (And.intro @ac4 (And.intro @N3 (And.intro @aay (And.intro @aqI (And.intro @asW (And.intro @asU (And.intro @avD (And.intro @asQ (And.intro @asT (And.intro @av5 (And.intro @att (And.intro @aty (And.intro @aqM (And.intro @aop (And.intro @ape (And.intro @anb (And.intro @aeH (And.intro @adf (And.intro @ap4 (And.intro @atE (And.intro @asf (And.intro @avy (And.intro @asC (And.intro @atS (And.intro @avC (And.intro @aqu (And.intro @aoF (And.intro @aoV (And.intro @amW (And.intro @as0 (And.intro @avU (And.intro @avO (And.intro @ayj (And.intro @avA (And.intro @avj (And.intro @atx (And.intro @aqk (And.intro @apW (And.intro @aoU (And.intro @aqz (And.intro @ar7 (And.intro @atF (And.intro @ar0 (And.intro @aqw (And.intro @as2 (And.intro @asm (And.intro @atv (And.intro @aqQ (And.intro @avq (And.intro @atO (And.intro @axa (And.intro @ap9 (And.intro @ayf (And.intro @axm (And.intro @aw3 (And.intro @in_1 (And.intro @ayc (And.intro @axP (And.intro @ayl (And.intro @axy (And.intro @axT (And.intro @axI (And.intro @axZ (And.intro @awT (And.intro @aw5 (And.intro @ayu (And.intro @axY (And.intro @aw6 (And.intro @aw0 (And.intro @ave (And.intro @aw1 (And.intro @axi (And.intro @axO (And.intro @axV (And.intro @axx (And.intro @ax0 (And.intro @ax6 (And.intro @aw4 (And.intro @aw7 (And.intro @ayw (And.intro @avL (And.intro @avn (And.intro @avW (And.intro @avl (And.intro @avz (And.intro @avw (And.intro @avp (And.intro @avV (And.intro @avm (And.intro @av6 (And.intro @av4 (And.intro @avY (And.intro @av8 (And.intro @avx (And.intro @avM (And.intro @avS (And.intro @avc (And.intro @avX (And.intro @av3 (And.intro @avG (And.intro @avZ (And.intro @av0 (And.intro @avB (And.intro @av9 (And.intro @avF (And.intro @atP (And.intro @alB (And.intro @ald (And.intro @asX (And.intro @asy (And.intro @atr (And.intro @asG (And.intro @atN (And.intro @av1 (And.intro @atc (And.intro @avP (And.intro @axL (And.intro @avi (And.intro @ax3 (And.intro @ayD (And.intro @avs (And.intro @ayt (And.intro @axu (And.intro @ayF (And.intro @ayi (And.intro @aw8 (And.intro @axj (And.intro @aai (And.intro @abA (And.intro @ats (And.intro @agq (And.intro @agC (And.intro @apg (And.intro @anz (And.intro @avo (And.intro @avv (And.intro @aiA (And.intro @aqV (And.intro @aqY (And.intro @aan (And.intro @acj (And.intro @atq (And.intro @axv (And.intro @ayh (And.intro @ax9 (And.intro @axF (And.intro @ax1 (And.intro @awU (And.intro @ayp (And.intro @as4 (And.intro @ar6 (And.intro @asL (And.intro @axe (And.intro @ax5 (And.intro @axh (And.intro @ayB (And.intro @axE (And.intro @aw2 (And.intro @ahZ (And.intro @E8 (And.intro @afd (And.intro @aed (And.intro @aqf (And.intro @aqL (And.intro @asH (And.intro @asR @ar1))))))))))))))))))))))))))))))))))))))))))))))))))))))))))))))))))))))))))))))))))))))))))))))))))))))))))))))))))))))))))))))))))))))))))))))))))))))))))))))))))))))))))))))))))))))))))))))))
end Go.AM

/- Rows in objects: what calls see of them, what becomes of rows that calls give. -/
namespace Go.AM
set_option linter.unusedSimpArgs false
set_option linter.unusedVariables false
mutual
theorem ajL (G:VH):∀ v:V,data v=true->S3 G v=strip v
 | .bool b,_=>rfl
 | .int k n,_=>rfl
 | .str s,_=>rfl
 | .b7,_=>rfl
 | .U2,_=>rfl
 | .ub,_=>rfl
 | .gp g off,h=>by simp only [data] at h; cases h
 | .G3 cs off,h=>by simp only [data] at h; cases h
 | .ptr k off,h=>by simp only [data] at h; cases h
 | .A0 k off n e,h=>by simp only [data] at h; cases h
 | .fn f cs,h=>by simp only [data] at h; cases h
 | .sl ow xs,h=>by simp only [data] at h; simp only [S3,strip,ak6 G xs h]
 | .agg cs,h=>by simp only [data] at h; simp only [S3,strip,afb G cs h]
 | .w5 cs,h=>by simp only [data] at h; simp only [S3,strip,afb G cs h]
theorem afb (G:VH):∀ l:List V,B5 l=true->abq G l=o8 l
 | [],_=>rfl
 | v::l,h=>by
   simp only [B5,Bool.and_eq_true] at h
   simp only [abq,o8,ajL G v h.1,afb G l h.2]
theorem ak6 (G:VH):∀ l:List (List V),K8 l=true->aa7 G l=o9 l
 | [],_=>rfl
 | v::l,h=>by
   simp only [K8,Bool.and_eq_true] at h
   simp only [aa7,o9,afb G v h.1,ak6 G l h.2]
end
theorem auQ (d:Nat) (H:VH) (v:V) (h:data v=true):frD d H v=strip v:=by
 cases d with
 | zero=>exact ajL _ v h
 | succ d=>exact ajL _ v h
mutual
theorem ard:∀ v:V,data v=true->aiT v=true
 | .bool b,_=>rfl
 | .int k n,_=>rfl
 | .str s,_=>rfl
 | .b7,_=>rfl
 | .U2,_=>rfl
 | .ub,_=>rfl
 | .gp g off,h=>by simp only [data] at h; cases h
 | .G3 cs off,h=>by simp only [data] at h; cases h
 | .ptr k off,h=>by simp only [data] at h; cases h
 | .A0 k off n e,h=>by simp only [data] at h; cases h
 | .fn f cs,h=>by simp only [data] at h; cases h
 | .sl ow xs,h=>by simp only [data] at h; simp only [aiT,ahG xs h]
 | .agg cs,h=>by simp only [data] at h; simp only [aiT,abH cs h]
 | .w5 cs,h=>by simp only [data] at h; simp only [aiT,abH cs h]
theorem abH:∀ l:List V,B5 l=true->aaR l=true
 | [],_=>rfl
 | v::l,h=>by
   simp only [B5,Bool.and_eq_true] at h
   simp only [aaR,ard v h.1,abH l h.2,Bool.and_self]
theorem ahG:∀ l:List (List V),K8 l=true->aix l=true
 | [],_=>rfl
 | v::l,h=>by
   simp only [K8,Bool.and_eq_true] at h
   simp only [aix,abH v h.1,ahG l h.2,Bool.and_self]
end
def Rows (e:Nat) (r:List (List V)):Prop:=∀ x ∈ r,x.length=e
theorem Rows.flat {e:Nat}:∀ {r:List (List V)},Rows e r->r.flatten.length=r.length*e
 | [],_=>by simp
 | x::r,h=>by
   have h1:=h x (by simp)
   have h2:=Rows.flat (r:=r) (fun y hy=>h y (by simp [hy]))
   rw [List.flatten_cons,List.length_append,h1,h2,List.length_cons,Nat.succ_mul,Nat.add_comm]
theorem Rows.strip {e:Nat} {r:List (List V)} (h:Rows e r):Rows e (o9 r):=fun x hx=>by
 rw [ajl] at hx
 obtain ⟨y,hy,rfl⟩:=List.mem_map.1 hx
 rw [List.length_map]; exact h y hy
theorem Rows.get {e:Nat} {j:Nat} (hj:j<e):∀ {r:List (List V)} {i:Nat} {x:List V},Rows e r->r[i]? = some x->r.flatten[i*e+j]? = x[j]?
 | [],i,x,_,h=>by simp at h
 | y::r,0,x,hr,h=>by
   simp at h; subst h
   have h1:=hr y (by simp)
   rw [List.flatten_cons,Nat.zero_mul,Nat.zero_add,List.getElem?_append_left (by omega)]
 | y::r,i+1,x,hr,h=>by
   have h1:=hr y (by simp)
   simp at h
   rw [List.flatten_cons,List.getElem?_append_right (by rw [h1,Nat.succ_mul]; omega),h1]
   have:(i+1)*e+j-e=i*e+j:=by rw [Nat.succ_mul]; omega
   rw [this]
   exact Rows.get hj (fun z hz=>hr z (by simp [hz])) h
theorem Rows.set {e:Nat} {j:Nat} (hj:j<e) {v:V}:∀ {r:List (List V)} {i:Nat} {x:List V},Rows e r->r[i]? = some x->Q1 r.flatten (i*e+j) [v]=(r.set i (x.set j v)).flatten
 | [],i,x,_,h=>by simp at h
 | y::r,0,x,hr,h=>by
   simp at h; subst h
   have h1:=hr y (by simp)
   simp only [List.flatten_cons,Nat.zero_mul,Nat.zero_add,List.set_cons_zero,Q1,List.length_singleton]
   rw [List.take_append_of_le_length (by omega),List.drop_append_of_le_length (by omega),<-List.append_assoc]
   congr 1
   rw [List.set_eq_take_append_cons_drop,if_pos (by omega)]; simp
 | y::r,i+1,x,hr,h=>by
   have h1:=hr y (by simp)
   simp at h
   have ih:=Rows.set hj (v:=v) (r:=r) (i:=i) (fun z hz=>hr z (by simp [hz])) h
   simp only [Q1,List.length_singleton] at ih
   simp only [List.flatten_cons,List.set_cons_succ,Q1,List.length_singleton]
   have e1:(i+1)*e+j=y.length+(i*e+j):=by rw [Nat.succ_mul]; omega
   rw [e1,List.take_length_add_append,Nat.add_assoc,List.drop_length_add_append,List.append_assoc,List.append_assoc,<-ih,List.append_assoc]
theorem ate {call:y0} {f:FuncId} {H:VH} {vs:List V} (h:aaR vs=true):Q7 call f H vs=P3 call f (vs.map (j8 H)):=by unfold Q7; rw [h]
theorem auT {H:VH} {v:V} (h:data v=true):j8 H v=strip v:=by
 cases v<;>first | rfl | (simp only [data] at h; cases h)
theorem aqg {H:VH}:∀ {vs:List V},B5 vs=true->vs.map (j8 H)=vs.map strip
 | [],_=>rfl
 | v::vs,h=>by
   simp only [B5,Bool.and_eq_true] at h
   simp only [List.map_cons,auT h.1,aqg h.2]
theorem aqC {d:Nat} {H:VH}:∀ {vs:List V},B5 vs=true->vs.map (frD d H)=vs.map strip
 | [],_=>rfl
 | v::vs,h=>by
   simp only [B5,Bool.and_eq_true] at h
   simp only [List.map_cons,auQ d H v h.1,aqC h.2]
theorem amJ {call:y0} {f:FuncId} {H:VH} {vs:List V} (h:B5 vs=true):Q7 call f H vs=P3 call f (vs.map strip):=by rw [ate (abH vs h),aqg h]
end Go.AM

/- Runs of the machine of values whose arguments are written out: reckoned by the kernel. -/
namespace Go.AM
set_option linter.unusedSimpArgs false
set_option linter.unusedVariables false
mutual
def eqW:V->V->Bool
 | .bool a,.bool b=>a==b
 | .int k n,.int k' n'=>decide (k=k')&&decide (n=n')
 | .str s,.str t=>decide (s=t)
 | .b7,.b7=>true
 | .U2,.U2=>true
 | .ub,.ub=>true
 | .ptr k o,.ptr k' o'=>Nat.beq k k'&&Nat.beq o o'
 | .gp k o,.gp k' o'=>Nat.beq k k'&&Nat.beq o o'
 | .G3 c o,.G3 c' o'=>amn c c'&&Nat.beq o o'
 | .sl w xs,.sl w' ys=>w==w'&&avH xs ys
 | .agg c,.agg c'=>amn c c'
 | .w5 c,.w5 c'=>amn c c'
 | .fn f c,.fn f' c'=>decide (f=f')&&amn c c'
 | .A0 k o n e,.A0 k' o' n' e'=>Nat.beq k k'&&Nat.beq o o'&&Nat.beq n n'&&Nat.beq e e'
 | _,_=>false
termination_by structural v=>v
def amn:List V->List V->Bool
 | [],[]=>true
 | a::l,b::m=>eqW a b&&amn l m
 | _,_=>false
termination_by structural l=>l
def avH:List (List V)->List (List V)->Bool
 | [],[]=>true
 | a::l,b::m=>amn a b&&avH l m
 | _,_=>false
termination_by structural l=>l
end
section
variable (X:XV) (A:S5) (T:List Nat)
end
section
variable {X:XV} {c:y0} {l:V0} {A:S5} {T:List Nat}
end
end Go.AM

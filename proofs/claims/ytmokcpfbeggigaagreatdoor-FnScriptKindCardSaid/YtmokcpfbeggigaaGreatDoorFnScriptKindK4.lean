/- Part 4 of the machines: what is proved is told at each theorem; no condition. -/
import Derived.Test.YtmokcpfbeggigaaGreatDoorFnScriptKindK3
import Derived.Test.YtmokcpfbeggigaaGreatDoorFnScriptKindK2
import Derived.IntWalk
import Derived.Laws.Strings
import Derived.Lib.Bytealg
import Derived.ChangeArms
import Derived.DataReads
import Derived.LaidSub
import Derived.OpenShut
import Derived.WideShapes
/- One operation: the machine of values and the abstract machine side by side. -/
namespace Go.AM
set_option linter.unusedSimpArgs false
set_option linter.unusedVariables false
structure aaX (X:XV):Prop where
 zero:∀ t ti,look X.tab t=some ti->∀ u ∈ ti.zero,F7 u=true
 sl:∀ t e b9 eb z ag n zz,look X.tab t=some ⟨.slice e b9 eb z,ag,n,zz⟩->(∀ u ∈ z,F7 u=true)/\z.length=b9/\0<b9
 gd:aka X
 pos:∀ t ti,look X.tab t=some ti->0<ti.size
theorem atS {n:Nat} {l:List V}:(aaq n l).length=n*l.length:=by
 induction n with
 | zero=>simp [aaq]
 | succ n ih=>simp only [aaq,List.length_append,ih,Nat.succ_mul]; omega
theorem amq {w:Wd} {l:List V} {xs:List Value} (h:c9 w l xs (fun _=>0)):∀ n,c9 w (aaq n l) (rep n xs) (fun _=>0)
 | 0=>by simp [aaq,rep,c9]
 | n+1=>by
   simp only [aaq,rep]
   exact h.app (amq h n)
theorem atx {w:Wd} {r:V} {x:Value} {c:j1} (h:RV w r x c) (hs:abZ r=true):agf x=true/\∀ i,c i=0:=by
 have one:∀ {r:V} {x:Value} {c:j1},RV w r x c->T1 r=true->acv x=true/\∀ i,c i=0:=by
  intro r x c h hs
  cases r<;>simp only [T1] at hs<;>try (cases hs; done)
  all_goals simp only [RV] at h; rw [h.1]; exact ⟨rfl,h.2⟩
 by_cases ht:∃ vs,r = .n8 vs
 rotate_left
 ·have hs1:T1 r=true:=by cases r<;>first | exact hs | exact absurd ⟨_,rfl⟩ ht
  obtain ⟨h1,h2⟩:=one h hs1
  refine ⟨?_,h2⟩
  cases x<;>first | exact h1 | cases h1
 obtain ⟨vs,rfl⟩:=ht
 simp only [abZ] at hs
 simp only [RV] at h
 obtain ⟨ws,rfl,hw⟩:=h
 have:∀ {vs:List V} {ws:List Value} {c:j1},c9 w vs ws c->vs.all T1=true->ws.all acv=true/\∀ i,c i=0:=by
  intro vs
  induction vs with
  | nil=>intro ws c h _; simp only [c9] at h; rw [h.1]; exact ⟨rfl,h.2⟩
  | cons v vs ih =>
    intro ws c h hs
    simp only [c9] at h
    obtain ⟨x,ys,c1,c2,rfl,h2,h3,h4⟩:=h
    simp only [List.all_cons,Bool.and_eq_true] at hs ⊢
    obtain ⟨a1,a2⟩:=one h2 hs.1
    obtain ⟨b1,b2⟩:=ih h3 hs.2
    exact ⟨⟨a1,b1⟩,fun i=>by rw [h4,a2,b2]⟩
 obtain ⟨a,b⟩:=this hw hs
 refine ⟨?_,b⟩
 simp only [agf]
 simpa using a
theorem aoZ {take agg:Bool} {size off:Nat} {cs:List V} {r:V × List V} (h:adH take agg size cs off=some r) (hp:0<size):cs ≠ []:=by
 intro e
 subst e
 cases agg with
 | true =>
   simp only [adH] at h
   obtain ⟨c,h1,_⟩:=a7 h
   have:=(E9 h1).1
   simp at this; omega
 | false =>
   simp [adH] at h
theorem atD {X:XV} {E:En} {w:Wd} {s:VS} {s':St} {ce cl ch cx c:j1} (g:StC X E w s s' ce cl ch cx) {k off:Nat} {p9 cs:List V} {p:Value} {xs:List Value} {cp:j1}
 (hp:RV w (.ptr k off) p cp) (hk:s.H[k]? = some p9) (hcs:c9 w cs xs c) (hc:∀ i,c i<=cx i) (hb:off+cs.length<=p9.length) (hne:cs ≠ []) :
 ∃ w2,age w.hp p xs=some w2.hp/\E4 X E w2 { s with H:=s.H.set k (O2 p9 off cs) } { s' with hp:=w2.hp } (fun _=>0):=by
 simp only [RV] at hp
 obtain ⟨⟨b,h1,rfl⟩,_⟩:=hp
 obtain ⟨kb,c1,c2,g2,g3,g4,o2,g5⟩:=g.obj.store g.hw.nd hk (fun e=>by subst e; cases cs with | nil=>exact hne rfl | cons a l=>simp at hb) h1
 have hbm:=List.mem_of_getElem? h1
 obtain ⟨c',k1,k2⟩:=g3.seg hcs hb
 have hl:=g3.len
 have hst:age w.hp (.pointer (some ⟨b,off,none⟩)) xs=some (setW w b { kb with cells:=E5 kb.cells off xs }).hp:=by
  simp only [age,y2 g2 (by rw [o2]; simp),Option.bind_some]
  rw [if_pos ⟨o2,by rw [<-hcs.len,<-hl]; exact hb⟩]
  rfl
 have hx:Ext w (setW w b { kb with cells:=E5 kb.cells off xs }) (fun _=>True):=awA (k:={ kb with cells:=E5 kb.cells off xs }) g.hw hbm g2 rfl rfl _
 have hset:(setW w b { kb with cells:=E5 kb.cells off xs }).hp[b]? = some { kb with cells:=E5 kb.cells off xs }:=by
  exact amk (List.getElem?_eq_some_iff.1 g2).1
 have hobj:=g5 _ (O2 p9 off cs) _ c' hx (fun e he hne ke hke=>by
  obtain ⟨q',a1,_⟩:=aeU (b:=b) (k:={ kb with cells:=E5 kb.cells off xs }) g2 rfl rfl hke
  refine ⟨q',a1,fun hm=>?_⟩
  have:=aiI (k:={ kb with cells:=E5 kb.cells off xs }) hke (show ke.g9 ≠ kb.g9 from g.hw.ayL hke g2 hm o2 hne) hne
  rw [this] at a1; cases a1; rfl) hset (.inr ⟨o2,c9.mono hx _ k1 (fun _ _=>trivial)⟩)
 have hlen:(setW w b { kb with cells:=E5 kb.cells off xs }).hp.length=w.hp.length:=agR
 refine ⟨_,hst,ce,cl,_,rfl,g.hw.set hbm g2 rfl rfl rfl,g.gl.mono hx,g.fr.set g.hw hbm g2 rfl rfl,g.env.mono hx (fun _ _=>trivial),g.loc.mono hx (fun _ _=>trivial),g.aat,hobj,fun i=>?_,fun i hi=>?_,fun i hi=>?_⟩
 ·have:=g.L1 i; have:=k2 i; have:=hc i; have:=g4 i; omega
 ·have:=g.O5 i hi; have:=k2 i; have:=hc i; have:=g4 i; omega
 ·rw [hlen] at hi; have:=g.L8 i hi; have:=k2 i; have:=hc i; have:=g4 i; omega
theorem acW {X:XV} {E:En} {w:Wd} {s:VS} {s':St} {ce cl ch cx c:j1} (g:StC X E w s s' ce cl ch cx) {cs:List V} {xs:List Value} (hcs:c9 w cs xs c) (hc:∀ i,c i<=cx i) (n:Nat) (p:Bool) (hpl:p=false->n=1) :
 ∃ w2,w2.hp=w.hp++[⟨xs,n,.rw,w.hp.length,p⟩]/\E4 X E w2 { s with H:=s.H++[cs] } { s' with hp:=w2.hp } (fun _=>0)/\RV w2 (.ptr s.H.length 0) (.pointer (some ⟨w.hp.length,0,none⟩)) (fun _=>0):=by
 have hx:=aql (k:=⟨xs,n,.rw,w.hp.length,p⟩) g.hw rfl (fun _=>True)
 refine ⟨{ hp:=w.hp++[⟨xs,n,.rw,w.hp.length,p⟩],g8:=w.g8++[w.hp.length],fb:=w.hp.length::w.fb },rfl,⟨ce,cl,fun i=>ch i+c i,rfl,g.hw.agb rfl hpl,g.gl.mono hx,g.fr.agb g.hw rfl,g.env.mono hx (fun _ _=>trivial),g.loc.mono hx (fun _ _=>trivial),g.aat,?_,fun i=>?_,fun i hi=>?_,fun i hi=>?_⟩,?_⟩
 ·refine p8.snoc (kb:=⟨xs,n,.rw,w.hp.length,p⟩) (by simp) rfl (c9.mono hx _ hcs (fun _ _=>trivial)) (g.obj.mono hx (fun b hb => .eq ?_) (fun _ _=>trivial))
  show (w.hp++_)[b]? = _
  rw [List.getElem?_append_left (g.hw.V5 _ (g.hw.sub _ hb))]
 ·have:=g.L1 i; have:=hc i; omega
 ·have:=g.O5 i hi; have:=hc i; omega
 ·simp at hi; have:=g.L8 i (by omega); have:=hc i; omega
 ·simp only [RV]
  exact ⟨⟨w.hp.length,by rw [<-g.obj.len]; simp,rfl⟩,by simp⟩
theorem amv {w w2:Wd} {p:Bool} {k m b9 cc:Nat} {xs:List Value} (h1:w2.hp=w.hp++[⟨xs,b9,.rw,w.hp.length,p⟩]) (h2:RV w2 (.ptr k 0) (.pointer (some ⟨w.hp.length,0,none⟩)) (fun _=>0)) (h0:0<b9) :
 RV w2 (.z7 k 0 m b9) (M5 w.hp m cc) (fun _=>0):=by
 simp only [RV] at h2 ⊢
 obtain ⟨⟨b,g1,g2⟩,g3⟩:=h2
 cases g2
 exact ⟨⟨w.hp.length,cc,⟨xs,b9,.rw,w.hp.length,p⟩,g1,by rw [h1]; simp,rfl,h0,rfl⟩,by simp⟩
theorem auW {X:XV} {E:En} {w:Wd} {s:VS} {s':St} {ce cl ch cx c1 c2:j1} {fl b:Bool} {b9 bytes:Nat} {sv yv r:V} {x z:Value} {H':VH}
 (g:StC X E w s s' ce cl ch cx) (hx:RV w sv x c1) (hy:RV w yv z c2) (hc:∀ i,c1 i+c2 i<=cx i) (h:auk fl b b9 bytes sv yv s.H=some (r,H')) (h0:0<b9) :
 ∃ w2 x' c',R8 false w.hp b9 bytes x z=some (x',w2.hp)/\adl b z=some z/\E4 X E w2 { s with H:=H' } { s' with hp:=w2.hp } c'/\RV w2 r x' c':=by
 unfold auk at h
 split at h
 ·-- the row lies in an object
  rename_i k off n e
  split at h
  ·rename_i ow ys
   obtain ⟨cs,hk,hq⟩:=a7 h
   clear h
   have h:=hq
   clear hq
   split at h
   ·rename_i hcond
    obtain ⟨rfl,rfl,hn,hcl,hesz,hbt⟩:=hcond
    obtain ⟨new,d,hnew,hys,hd,hlen,_,a2,cc2,rfl⟩:=hy.read hesz
    have hvs:adl false (Value.slice a2 ys.length cc2)=some (Value.slice a2 ys.length cc2):=rfl
    simp only [RV] at hx
    obtain ⟨⟨bk,cc,kb,hr,hkb,hsz,_,rfl⟩,hx0⟩:=hx
    have hne:cs ≠ []:=fun e=>by subst e; simp only [List.length_nil] at hcl; have:=Nat.mul_pos hn h0; omega
    obtain ⟨kb',d1,d2,g2,g3,g4,hrw,g5⟩:=g.obj.store g.hw.nd hk hne hr
    rw [hkb] at g2; cases g2
    have hbm:=List.mem_of_getElem? hr
    have alQ:n*e=kb.cells.length:=by rw [<-g3.len]; exact hcl.symm
    have hw:=g.hw
    have hbl:=(List.getElem?_eq_some_iff.1 hkb).1
    have hcut:cut kb.cells 0 (n*e)=some kb.cells:=by
     show L2 kb.cells 0 (n*e)=some kb.cells
     rw [M1 (by omega),alQ]; simp
    have hold:C5 w.hp e (.slice (some ⟨bk,0,none⟩) n cc)=some kb.cells:=by
     simp only [C5]
     rw [if_neg (by omega),y2 hkb (by rw [hrw]; simp)]
     simp only [Option.bind_some,hsz,if_true,hcut]
    cases ys with
    | nil =>
      cases h
      simp only [List.length_nil] at hlen hnew ⊢
      refine ⟨w,.slice (some ⟨bk,0,none⟩) n cc,fun _=>0,?_,hvs,⟨ce,cl,ch,{ g with hp:=rfl,L1:=fun i=>by have:=g.L1 i; omega,O5:=fun i hi=>by have:=g.O5 i hi; omega,L8:=fun i hi=>by have:=g.L8 i hi; omega }⟩,?_⟩
      rotate_left
      ·simp only [RV]
       exact ⟨⟨bk,cc,kb,hr,hkb,hsz,h0,rfl⟩,by simp⟩
      ·simp only [R8,adg]
       split
       ·simp only [J8,hnew,Option.bind_some,hlen,if_true,List.length_nil]
       ·simp only [hnew,Option.bind_some,hlen,if_true,List.length_nil]
    | cons y l =>
      cases h
      have hll:A9 (Value.slice a2 (y::l).length cc2)=l.length+1:=hlen
      have hfl:=g.fr.len
      have fin:∀ (w2:Wd) (f:Nat) (p:Bool),w2.hp[w.hp.length]? = some ⟨kb.cells++new,e,.rw,f,p⟩->w2.g8=w.g8++[w.hp.length]->w2.hp.length=w.hp.length+1->Ext w w2 (fun _=>True)->HW w2->D8 E w2 →
       (∀ c ∈ w.g8,c ≠ bk->adL w w2 c)->(∃ kb':j9,w2.hp[bk]? = some kb') →
       E4 X E w2 { s with H:=s.H.set k []++[cs++(y::l).flatten] } { s' with hp:=w2.hp } (fun _=>0)/\RV w2 (.z7 s.H.length 0 (n+(l.length+1)) e) (M5 w.hp (n+(l.length+1)) (n+(l.length+1)+1)) (fun _=>0):=by
       intro w2 f p hat hrho hlen2 hE hw2 hfr hkeep ⟨kb2,hkb2⟩
       refine ⟨⟨ce,cl,fun i=>(0+d2 i)+(d1 i+d i),rfl,hw2,g.gl.mono hE,hfr,g.env.mono hE (fun _ _=>trivial),g.loc.mono hE (fun _ _=>trivial),g.aat,?_,fun i=>?_,fun i hi=>?_,fun i hi=>?_⟩,?_⟩
       ·rw [hrho]
        exact p8.snoc (kb:=⟨kb.cells++new,e,.rw,f,p⟩) hat rfl ((c9.mono hE _ g3 (fun _ _=>trivial)).app (c9.mono hE _ hys.flat (fun _ _=>trivial))) (g5 w2 [] kb2 (fun _=>0) hE hkeep hkb2 (.inl ⟨rfl,by simp⟩))
       ·have:=g.L1 i; have:=g4 i; have:=hd i; have:=hc i; omega
       ·have:=g.O5 i hi; have:=g4 i; have:=hd i; have:=hc i; omega
       ·have:=g.L8 i (by omega); have:=g4 i; have:=hd i; have:=hc i; omega
       ·simp only [RV,M5]
        refine ⟨⟨w.hp.length,_,_,?_,hat,rfl,h0,rfl⟩,by simp⟩
        rw [hrho,<-g.obj.len]; simp
      by_cases hcc:cc=n
      ·obtain ⟨f1,f2⟩:=fin ⟨w.hp++[⟨kb.cells++new,e,.rw,w.hp.length,true⟩],w.g8++[w.hp.length],w.hp.length::w.fb⟩ w.hp.length true (by simp) rfl (by simp) (aql hw rfl _) (hw.agb rfl (fun h=>by cases h)) (g.fr.agb hw rfl)
        (fun c hc _ => .eq (by show (w.hp++_)[c]? = _; rw [List.getElem?_append_left (hw.rlt c hc)])) ⟨kb,by show (w.hp++_)[bk]? = _; rw [List.getElem?_append_left hbl]; exact hkb⟩
       refine ⟨_,_,_,?_,hvs,f1,f2⟩
       simp only [R8,adg]
       rw [if_pos hcc]
       simp only [J8,hnew,Option.bind_some,hll]
       rw [if_neg (by omega),if_pos ⟨hcc,by simpa using hbt⟩,hold]; rfl
      ·obtain ⟨f1,f2⟩:=fin (ad9 w bk kb ⟨kb.cells++new,e,.rw,kb.g9,kb.pl⟩) kb.g9 kb.pl (by simp [ad9,H6]) rfl (by simp [ad9,H6]) (auM (k:=⟨kb.cells++new,e,.rw,kb.g9,kb.pl⟩) hw hkb hbm rfl _) (hw.ad9 (k:=⟨kb.cells++new,e,.rw,kb.g9,kb.pl⟩) hkb hrw hbm rfl (fun h=>by show e=1; rw [<-hsz]; exact hw.mrk bk kb hkb h)) (g.fr.ad9 (k:=⟨kb.cells++new,e,.rw,kb.g9,kb.pl⟩) hw hkb hbm rfl hsz.symm)
        (fun c hc hne => .eq (K7 (hw.rlt c hc) hne)) ⟨_,aex hbl⟩
       have huse:aa1 w.hp bk kb (0+n*e)=w.hp.set bk { kb with md := .ro }:=by unfold aa1; rw [if_pos (by omega)]
       refine ⟨_,_,_,?_,hvs,f1,f2⟩
       simp only [R8,adg]
       rw [if_neg hcc]
       simp only [hnew,Option.bind_some,hll]
       rw [if_neg (by omega),if_pos ⟨hn,by simpa using hbt⟩,hold]
       simp only [Option.bind_some,y2 hkb (by rw [hrw]; simp),hrw,if_true,huse]
       rfl
   ·cases h
  ·cases h
 ·-- an own row
  obtain ⟨xs,hxs,hq⟩:=a7 h
  clear h
  obtain ⟨rv,ha,h⟩:=a7 hq
  clear hq
  have hsv:sv = .sl true xs:=by
   unfold Z6 at hxs
   split at hxs
   ·cases hxs; rfl
   ·cases hxs
  subst hsv
  have plain:r=rv->H'=s.H->∃ w2 x' c',R8 false w.hp b9 bytes x z=some (x',w2.hp)/\adl b z=some z/\E4 X E w2 { s with H:=H' } { s' with hp:=w2.hp } c'/\RV w2 r x' c':=by
   rintro rfl rfl
   obtain ⟨w2,x',c',k1,k2,k3,k4⟩:=aqL (full:=false) g hx (fun q=>by cases q) hy hc ha h0
   exact ⟨w2,x',c',k1,k2,⟨ce,cl,ch,k3⟩,k4⟩
  split at h
  ·rename_i hfl
   split at h
   ·rename_i y l
    cases h
    obtain ⟨ys,new,d,hrv,hnew,hys,hd,hlen,hesz,hb,hst⟩:=ao7 ha hy
    have hxe:xs=[]:=by simp at hfl; exact hfl.2
    subst hxe
    injection hrv with _ hrv
    simp only [List.nil_append] at hrv
    subst hrv
    simp only [RV] at hx
    rcases hx with ⟨_,⟨a,cc,rfl,hcc⟩,hx0⟩ | ⟨h',_⟩
    ·have hcc:=hcc trivial
     subst hcc
     obtain ⟨w2,k1,k2,k3⟩:=acW g (cs:=(y::l).flatten) hys.flat (fun i=>by have:=hd i; have:=hc i; omega) b9 true (fun h=>by cases h)
     refine ⟨w2,M5 w.hp (l.length+1) (l.length+1+1),fun _=>0,?_,hst,k2,amv k1 k3 h0⟩
     have hlen':A9 z=l.length+1:=hlen
     simp only [R8,adg,List.length_nil,if_true]
     simp only [J8,hnew,Option.bind_some,hlen']
     rw [if_neg (by omega),if_pos ⟨trivial,by simpa using hb⟩]
     have hold:C5 w.hp b9 (.slice a 0 0)=some []:=by
      cases a with
      | none=>rfl
      | some a =>
        obtain ⟨b0,o0,s0⟩:=a
        cases s0<;>simp [C5]
     rw [hold,k1]
     simp [M5]
    ·exact absurd rfl h'
   ·cases h; exact plain rfl rfl
  ·cases h; exact plain rfl rfl
theorem arA {X:XV} {w:Wd} {n b9:Nat} {a v:V} {x:Value} {c:j1} (hg:I1 X w) (h:akc X.G5 n b9 a=some v) (ha:RV w a x c):∃ z,afM w.hp n b9 x=some z/\RV w v z (fun _=>0):=by
 unfold akc at h
 split at h
 ·rename_i g
  obtain ⟨cs,hcs,hq⟩:=a7 h
  split at hq
  ·rename_i hc
   obtain ⟨hn,rfl,hl⟩:=hc
   cases hq
   obtain ⟨kb,b1,b2,b3,b4,b5⟩:=hg.1 g cs hcs
   simp only [RV] at ha
   obtain ⟨rfl,_⟩:=ha
   have hlen:kb.cells.length=n:=by rw [<-b3.len,hl]
   refine ⟨.slice (some ⟨g,0,none⟩) n n,?_,?_⟩
   ·simp only [afM,b1,Option.bind_some]
    rw [if_pos ⟨hn,trivial,b5,by omega⟩]
   ·have hch:=aay (sz:=1) (n:=n) b3 (by omega)
    have hcl:(y6 1 n cs).length=n:=by have:=hch.len; omega
    simp only [RV]
    refine .inr ⟨fun q=>by rw [q] at hcl; simp at hcl; omega,g,0,kb,kb.cells,n,fun _=>0,b1,b4,b2,by rw [hcl],by omega,?_,by rw [b5]; exact hch,.inl ⟨trivial,by simp,by simp⟩⟩
    rw [hcl,b5,M1 (by omega)]
    rw [List.drop_zero,List.take_of_length_le (by omega)]
  ·cases hq
 ·cases h
theorem atC {w:Wd} (l:List UInt8):c9 w (l.map fun b=>V.int .u8 b.toNat) (l.map fun b=>Value.int .u8 b.toNat) (fun _=>0):=by
 induction l with
 | nil=>simp [c9]
 | cons b l ih =>
   simp only [List.map_cons,c9]
   exact ⟨_,_,fun _=>0,fun _=>0,rfl,by simp [RV],ih,by simp⟩
section
variable {X:XV} {Y:Ctx} {A:P8} {T:List Nat} {E:En} {w:Wd} {s:VS} {s':St} {R R':Type} {r:R} {o:Oper}
 {K:VE->VS->B4->Option R} {K':EV->List (Nat × List Value)->Heap->B4->Option R'} {Q:R'->Prop}
def akb (X:XV) (E:En) (env:List (Nat × EV)) (K:VE->VS->B4->Option R) (K':EV->List (Nat × List Value)->Heap->B4->Option R') (r:R) (Q:R'->Prop):Prop :=
 ∀ (w2:Wd) (e:VE) (e':EV) (s2:VS) (loc:List (Nat × List Value)) (c:B4) (ce:j1),K e s2 c=some r->RE w2 e e' ce->E4 X E w2 s2 ⟨env,loc,w2.hp⟩ ce->∃ r',K' e' loc w2.hp c=some r'/\Q r'
theorem E4.hp {cx:j1} (hs:E4 X E w s s' cx):s'.hp=w.hp:=by
 obtain ⟨_,_,_,g⟩:=hs; exact g.hp
theorem E4.self {cx:j1} (hs:E4 X E w s s' cx):E4 X E w s ⟨s'.env,s'.loc,w.hp⟩ cx:=by
 have:=hs.hp
 obtain ⟨env,loc,hp⟩:=s'
 simp only at this
 subst this
 exact hs
theorem akb.pure (hK:akb X E s'.env K K' r Q) {v:V} {x:Value} {s2:VS} {c:B4} {cx:j1} (h:K (.val v) s2 c=some r) (hr:RV w v x (fun _=>0)) (hs:E4 X E w s2 s' cx):∃ r',K' (.val x) s'.loc s'.hp c=some r'/\Q r':=by
 rw [hs.hp]
 exact hK w (.val v) (.val x) s2 s'.loc c (fun _=>0) h hr (hs.less (by simp)).self
theorem aqH {hp:Heap} {k:j9} (h:k.md ≠ .gone):l6 (hp++[k]) hp.length=some k:=by
 unfold l6
 rw [List.getElem?_append_right (Nat.le_refl _)]
 simp [h]
def ayo (full:Bool):B4:=match full with | true => .A | false => .W
theorem StC.asV {ce cl ch cx c:j1} (g:StC X E w s s' ce cl ch cx) {d:Nat} (hl:look s.loc d=none) {cs:List V} {xs:List Value} (hcs:c9 w cs xs c) (hc:∀ i,c i<=cx i) :
 E4 X E w { s with loc:=(d,cs)::s.loc } ⟨s'.env,(d,xs)::s'.loc,w.hp⟩ (fun _=>0):=by
 refine ⟨ce,fun i=>c i+cl i,ch,rfl,g.hw,g.gl,g.fr,g.env,?_,fun k hk=>?_,g.obj,fun i=>?_,fun i hi=>?_,fun i hi=>?_⟩
 ·simp only [K4]
  refine ⟨xs,c,cl,by rw [j7,if_pos rfl],hcs,hl,?_,by simp⟩
  have:∀ {l:List (Nat × List V)} {c:j1},K4 w l s'.loc c->look l d=none->K4 w l ((d,xs)::s'.loc) c:=by
   intro l
   induction l with
   | nil=>intro c h _; simpa [K4] using h
   | cons p l ih =>
     intro c h hn
     obtain ⟨q,v⟩:=p
     simp only [K4] at h ⊢
     obtain ⟨ws,d1,d2,h1,h2,h0,h3,h4⟩:=h
     rw [j7] at hn
     split at hn
     ·cases hn
     ·rename_i hq
      exact ⟨ws,d1,d2,by rw [j7,if_neg (Ne.symm hq)]; exact h1,h2,h0,ih h3 hn,h4⟩
  exact this g.loc hl
 ·rw [j7] at hk ⊢
  split at hk
  ·cases hk
  ·rename_i hq; rw [if_neg hq]; exact g.aat k hk
 ·have:=g.L1 i; have:=hc i; omega
 ·have:=g.O5 i hi; have:=hc i; omega
 ·have:=g.L8 i hi; have:=hc i; omega
theorem c9.one {w:Wd} {v:V} {x:Value} {c:j1} (h:RV w v x c):c9 w [v] [x] c:=⟨x,[],c,fun _=>0,rfl,h,by simp [c9],by simp⟩
theorem amT (hcall:∀ f args H r H',X.call f args H=some (r,H')->C4 X Y.call f args H r H') {cx:j1} (hs:E4 X E w s s' cx) {f:FuncId} {vs:List V} {xs:List Value} {c1:j1} (h2:c9 w vs xs c1) (hc:∀ i,c1 i<=cx i) {rv:V} {H':VH} (hr:X.call f vs s.H=some (rv,H')) :
 ∃ x w2 cr,Y.call f xs w.hp=some (x,w2.hp)/\RV w2 rv x cr/\E4 X E w2 { s with H:=H' } ⟨s'.env,s'.loc,w2.hp⟩ cr:=by
 obtain ⟨ce,cl,ch,g⟩:=hs
 obtain ⟨x,w2,cr,ch',q1,q2,q3,q4,q5,q6,q7,q8,q9⟩:=hcall f vs s.H rv H' hr w xs c1 ch g.hw g.gl h2 g.obj (fun i=>by have:=g.L1 i; have:=hc i; omega) (fun i hi=>by have:=g.L8 i hi; have:=hc i; omega)
 have hx:=q4.ext
 refine ⟨x,w2,cr,q1,q5,ce,cl,ch',rfl,q2,q3,?_,g.env.mono hx (fun b hb=>by have:=g.L1 b; have:=hc b; show c1 b+ch b=0; omega),g.loc.mono hx (fun b hb=>by have:=g.L1 b; have:=hc b; show c1 b+ch b=0; omega),g.aat,q6,fun i=>?_,fun i hi=>?_,fun i hi=>?_⟩
 ·refine g.fr.trans q4 g.hw q2 (fun b hb=>hb) (fun i hi=>by have:=g.O5 i hi; have:=hc i; omega) rfl ?_ ?_
  ·obtain ⟨r1,a1,a2⟩:=g.fr.g8
   obtain ⟨r2,b1,b2⟩:=q4.g8
   simp only at b1 b2
   refine ⟨r1++r2,by rw [b1,a1,List.append_assoc],fun b hb=>?_⟩
   have hl:=g.fr.len
   rcases List.mem_append.1 hb with hb | hb
   ·have hbw:b<w.hp.length:=g.hw.rlt b (by rw [a1]; exact List.mem_append.2 (.inr hb))
    refine ⟨(a2 b hb).1,fun k hk=>?_⟩
    rw [q4.Z7 b _ k (List.getElem?_eq_getElem hbw) hk]
    exact (a2 b hb).2 _ (List.getElem?_eq_getElem hbw)
   ·have:=(b2 b hb).1
    refine ⟨by omega,fun k hk=>?_⟩
    rcases (b2 b hb).2 k hk with q | ⟨b0,q1,k0,q2,q3⟩
    ·left; simp only at q; omega
    ·rw [<-q3]; exact g.fr.aeA q1 q2
  ·obtain ⟨r1,a1,a2⟩:=g.fr.fb
   obtain ⟨r2,b1,b2⟩:=q4.fb
   simp only at b1 b2
   refine ⟨r2++r1,by rw [b1,a1,List.append_assoc],fun b hb=>?_⟩
   rcases List.mem_append.1 hb with hb | hb
   ·have:=b2 b hb; have:=g.fr.len; omega
   ·exact a2 b hb
 ·by_cases hi:i<w.hp.length
  ·have:=q8 i hi; have:=g.L1 i; have:=hc i; omega
  ·have:=g.L8 i (by omega); have:=q7 i; omega
 ·have:=q8 i (by have:=g.fr.len; omega); have:=g.O5 i hi; have:=hc i; omega
 ·have:=q9 i hi
  have hl:=q4.len
  simp only at hl
  have:=g.L8 i (by omega); omega
theorem ahX (hT:aaX X) (hcall:∀ f args H r H',X.call f args H=some (r,H')->C4 X Y.call f args H r H') {cx:j1} (hs:E4 X E w s s' cx) {f:FuncId} {vs:List V} {xs:List Value} (fb:List Nat) (hfb:∀ b ∈ fb,b ∈ w.fb) (h2:u1 vs=true->c9 ⟨w.hp,[],fb⟩ vs xs (fun _=>0)) {rv:V} (hr:S9 X.call f vs=some rv) :
 ∃ x,U3 Y.call f xs s'.hp=some x/\RV w rv x (fun _=>0):=by
 have hhp:=hs.hp
 obtain ⟨ce,cl,ch,g⟩:=hs
 unfold S9 at hr
 split at hr
 ·rename_i hn
  obtain ⟨⟨rv',H'⟩,hr1,hr2⟩:=a7 hr
  simp only at hr2
  split at hr2
  ·rename_i hsc
   cases hr2
   obtain ⟨x,hp2,fb2,rho2,cr,q1,q2,q3,q4,q5,q6,q7,q8,q9,q10,_⟩:=acA g.hw g.gl hT.gd fb hfb (h2 hn) (hcall _ _ _ _ _ hr1)
   obtain ⟨t1,t2⟩:=atx q3 hsc
   have hq:U3 Y.call f xs s'.hp=some x:=by
    unfold U3
    rw [hhp,q1]
    simp only [Option.bind_some]
    rw [if_pos ⟨q2,t1⟩]
   have hdat:data rv=true:=by
    cases rv<;>first | rfl | (simp only [abZ,T1] at hsc; cases hsc; done) | skip
    rename_i l
    simp only [abZ] at hsc
    simp only [data]
    have:∀ {l:List V},l.all T1=true->B9 l=true:=by
     intro l
     induction l with
     | nil=>intro _; rfl
     | cons a l ih =>
       intro h
       simp only [List.all_cons,Bool.and_eq_true] at h
       simp only [B9,Bool.and_eq_true]
       refine ⟨?_,ih h.2⟩
       cases a<;>first | rfl | (simp only [T1] at h; exact absurd h.1 (by simp))
    exact this hsc
   have hxw:RV w rv x (fun _=>0):=by
    have:∀ {v:V} {x:Value} {c:j1},RV ⟨hp2,rho2,fb2⟩ v x c->T1 v=true->RV w v x (fun _=>0):=by
     intro v x c h hs
     cases v<;>simp only [T1] at hs<;>first | (cases hs; done) | skip
     all_goals simp only [RV] at h ⊢; exact ⟨h.1,by simp⟩
    by_cases ht2:∃ l,rv = .n8 l
    ·obtain ⟨l,rfl⟩:=ht2
     simp only [abZ] at hsc
     simp only [RV] at q3 ⊢
     obtain ⟨ws,rfl,q3⟩:=q3
     refine ⟨ws,rfl,?_⟩
     have all:∀ {l:List V} {ws:List Value} {c:j1},c9 ⟨hp2,rho2,fb2⟩ l ws c->l.all T1=true->c9 w l ws (fun _=>0):=by
      intro l
      induction l with
      | nil=>intro ws c h _; simp only [c9] at h ⊢; exact ⟨h.1,by simp⟩
      | cons a l ih =>
        intro ws c h hs
        simp only [c9] at h ⊢
        obtain ⟨x,ys,c1,c2,rfl,h2,h3,h4⟩:=h
        simp only [List.all_cons,Bool.and_eq_true] at hs
        exact ⟨x,ys,_,_,rfl,this h2 hs.1,ih h3 hs.2,by simp⟩
     exact all q3 hsc
    ·have hs1:T1 rv=true:=by cases rv<;>first | exact hsc | exact absurd ⟨_,rfl⟩ ht2
     exact this q3 hs1
   exact ⟨x,hq,hxw⟩
  ·cases hr2
 ·cases hr
theorem agK (hT:aaX X) (hcall:∀ f args H r H',X.call f args H=some (r,H')->C4 X Y.call f args H r H') {cx:j1} (hs:E4 X E w s s' cx) {f:FuncId} {vs:List V} {xs:List Value} {c1:j1} (h2:c9 w vs xs c1) {rv:V} (hr:S9 X.call f (vs.map (j3 s.H))=some rv) :
 ∃ x,U3 Y.call f xs s'.hp=some x/\RV w rv x (fun _=>0):=by
 have hs':=hs
 obtain ⟨ce,cl,ch,g⟩:=hs'
 exact ahX hT hcall hs w.fb (fun _ h=>h) (fun hn=>akl (wc:=⟨w.hp,[],w.fb⟩) g.hw g.obj rfl rfl rfl h2 hn) hr
theorem apO (hT:aaX X) (hcall:∀ f args H r H',X.call f args H=some (r,H')->C4 X Y.call f args H r H') {cx:j1} (hs:E4 X E w s s' cx) {f:FuncId} {vs:List V} {xs:List Value} {c1:j1} (h2:c9 w vs xs c1) {rv:V} (hr:abF X.call f s.H vs=some rv) :
 ∃ x,U3 Y.call f xs s'.hp=some x/\RV w rv x (fun _=>0):=by
 unfold abF at hr
 split at hr
 ·exact agK hT hcall hs h2 hr
 ·have hs':=hs
  obtain ⟨ce,cl,ch,g⟩:=hs'
  exact ahX hT hcall hs [] (by simp) (fun hn=>abB (w:=w) (wc:=⟨w.hp,[],[]⟩) rfl rfl rfl g.hw g.obj 3 h2 hn) hr
theorem apZ (hT:aaX X) (hcall:∀ f args H r H',X.call f args H=some (r,H')->C4 X Y.call f args H r H') {cx:j1} (hs:E4 X E w s s' cx) {f:FuncId} {vs:List V} {xs:List Value} {c1:j1} (h2:c9 w vs xs c1) {rv:V} (hr:aci X.call f s.H vs=some rv) :
 ∃ x,U3 Y.call f xs s'.hp=some x/\RV w rv x (fun _=>0):=by
 unfold aci at hr
 have hs':=hs
 obtain ⟨ce,cl,ch,g⟩:=hs'
 exact ahX hT hcall hs [] (by simp) (fun hn=>abB (w:=w) (wc:=⟨w.hp,[],[]⟩) rfl rfl rfl g.hw g.obj 3 h2 hn) hr
def aor (Y:Ctx) (w:Wd) (f:FuncId) (xs:List Value) (rv:V):Prop :=
 ∃ (x:Value) (hp2:Heap) (fb fb2 rho2:List Nat) (cr:j1),Y.call f xs w.hp=some (x,hp2)/\hp2.take w.hp.length=w.hp/\RV ⟨hp2,w.g8,w.fb⟩ rv x cr/\(∀ i,cr i<=1)/\(∀ i,i<w.hp.length->cr i=0)/\(∀ i,hp2.length<=i->cr i=0) ∧
   HW ⟨hp2,w.g8,w.fb⟩/\D8 ⟨w.hp,[],fb,fun _=>0⟩ ⟨hp2,rho2,fb2⟩/\HW ⟨hp2,rho2,fb2⟩
theorem al3 {w:Wd} {f:FuncId} {xs:List Value} {rv rv':V} {x:Value} {hp2:Heap} {fb fb2 rho2:List Nat} {cr ch':j1} {H':VH} (q1:Y.call f xs w.hp=some (x,hp2)) (q2:hp2.take w.hp.length=w.hp) (q3:RV ⟨hp2,rho2,fb2⟩ rv' x cr)
 (q7:HW ⟨hp2,w.g8,w.fb⟩) (q9:D8 ⟨w.hp,[],fb,fun _=>0⟩ ⟨hp2,rho2,fb2⟩) (q10:HW ⟨hp2,rho2,fb2⟩) (hq:∀ (b:Nat) (k:j9),w.hp.length<=b->hp2[b]? = some k->b ∉ w.fb/\w9 hp2 w.g8 k.g9)
 (ho:p8 ⟨hp2,rho2,fb2⟩ H' rho2 ch') (c1:∀ i,cr i+ch' i<=1) (c2:∀ i,i<w.hp.length->cr i+ch' i=0) (c3:∀ i,hp2.length<=i->cr i+ch' i=0) (hr:ouR H' rv'=some rv):aor Y w f xs rv:=by
 unfold ouR at hr
 obtain ⟨⟨v,H2⟩,e1,e2⟩:=a7 hr
 simp only at e2
 split at e2
 ·cases e2
  have hge:∀ b ∈ rho2,w.hp.length<=b:=fun b hb=>q9.alp (w:=⟨hp2,rho2,fb2⟩) hb (by simp)
  obtain ⟨c',ch2,p1,p2,p3⟩:=anH (w:=⟨hp2,rho2,fb2⟩) (w':=⟨hp2,w.g8,w.fb⟩) (n0:=w.hp.length) rfl hq q10 hge 6 ho q3 c2 e1
  have hlo:=fun i=>arQ (H:=H') i q10.nd
  have hin:∀ i,1<=LO H' rho2 i->cr i=0/\ch' i=0/\w.hp.length<=i/\i<hp2.length:=fun i hi=>by
   have hm:i ∈ rho2:=by
    by_cases q:i ∈ rho2
    ·exact q
    ·rw [ad7 q] at hi; omega
   refine ⟨?_,?_,hge i hm,q10.rlt i hm⟩
   ·by_cases q:1<=cr i
    ·exact absurd hm (RV.owned _ q3 i q).2.1
    ·omega
   ·by_cases q:1<=ch' i
    ·obtain ⟨kb,a1,a2⟩:=p8.ah1 ho i q
     exact absurd hm (a2.nin a1)
    ·omega
  refine ⟨x,hp2,fb,fb2,rho2,c',q1,q2,p1,fun i=>?_,fun i hi=>?_,fun i hi=>?_,q7,q9,q10⟩
  ·have:=p3 i; have:=c1 i; have:=hlo i
   by_cases q:1<=LO H' rho2 i
   ·have:=hin i q; simp only at *; omega
   ·simp only at *; omega
  ·have:=p3 i; have:=c2 i hi
   by_cases q:1<=LO H' rho2 i
   ·have:=hin i q; omega
   ·simp only at *; omega
  ·have:=p3 i; have:=c3 i hi
   by_cases q:1<=LO H' rho2 i
   ·have:=hin i q; omega
   ·simp only at *; omega
 ·cases e2
theorem aly (hT:aaX X) (hcall:∀ f args H r H',X.call f args H=some (r,H')->C4 X Y.call f args H r H') {cx:j1} (hs:E4 X E w s s' cx) {f:FuncId} {vs:List V} {xs:List Value} {c1:j1} (h2:c9 w vs xs c1) {rv:V} (hr:aac X.call f (vs.map (j3 s.H))=some rv):aor Y w f xs rv:=by
 obtain ⟨ce,cl,ch,g⟩:=hs
 unfold aac at hr
 split at hr
 ·rename_i hn
  obtain ⟨⟨rv',H'⟩,hr1,hr2⟩:=a7 hr
  simp only at hr2
  split at hr2
  ·rename_i hdat
   cases hr2
   obtain ⟨x,hp2,fb2,rho2,cr,q1,q2,q3,q4,q5,q6,q7,q8,q9,q10,q11,q12,_⟩:=agm g.hw g.obj g.gl hT.gd h2 hn (hcall _ _ _ _ _ hr1)
   exact ⟨x,hp2,_,fb2,rho2,cr,q1,q2,RV.data (w:=⟨hp2,rho2,fb2⟩) (w':=⟨hp2,w.g8,w.fb⟩) rfl q8 rv hdat q3,q4,q5,q6,q7,q9,q10⟩
  ·obtain ⟨v2,hv2,hr3⟩:=a7 hr2
   split at hr3
   ·rename_i hdat
    cases hr3
    obtain ⟨x,hp2,fb2,rho2,cr,q1,q2,q3,q4,q5,q6,q7,q8,q9,q10,q11,_,ch',q12,_⟩:=agm g.hw g.obj g.gl hT.gd h2 hn (hcall _ _ _ _ _ hr1)
    obtain ⟨c',p1,p2⟩:=amQ (w:=⟨hp2,rho2,fb2⟩) (w':=⟨hp2,w.g8,w.fb⟩) rfl q8 q11 q10 q12 q3 hv2 hdat
    exact ⟨x,hp2,_,fb2,rho2,c',q1,q2,p1,fun i=>Nat.le_trans (p2 i) (q4 i),fun i hi=>by have:=p2 i; have:=q5 i hi; omega,fun i hi=>by have:=p2 i; have:=q6 i hi; omega,q7,q9,q10⟩
   ·unfold ouD at hr3
    split at hr3
    ·rename_i u hu
     cases hr3
     obtain ⟨x,hp2,fb2,rho2,cr,q1,q2,q3,q4,q5,q6,q7,q8,q9,q10,q11,q12,ch',q13,q14,q15,q16⟩:=agm g.hw g.obj g.gl hT.gd h2 hn (hcall _ _ _ _ _ hr1)
     exact al3 q1 q2 q3 q7 q9 q10 q12 q13 q14 q15 q16 hu
    ·obtain ⟨v3,hv3,hr4⟩:=a7 hr3
     split at hr4
     ·rename_i hdat
      cases hr4
      obtain ⟨x,hp2,fb2,rho2,cr,q1,q2,q3,q4,q5,q6,q7,q8,q9,q10,q11,_,ch',q12,_⟩:=agm g.hw g.obj g.gl hT.gd h2 hn (hcall _ _ _ _ _ hr1)
      obtain ⟨c',p1,p2⟩:=ak7 (w:=⟨hp2,rho2,fb2⟩) (w':=⟨hp2,w.g8,w.fb⟩) rfl q8 q11 q10 q12 q3 hv3 hdat
      exact ⟨x,hp2,_,fb2,rho2,c',q1,q2,p1,fun i=>Nat.le_trans (p2 i) (q4 i),fun i hi=>by have:=p2 i; have:=q5 i hi; omega,fun i hi=>by have:=p2 i; have:=q6 i hi; omega,q7,q9,q10⟩
     ·cases hr4
 ·cases hr
theorem apU (hT:aaX X) (hcall:∀ f args H r H',X.call f args H=some (r,H')->C4 X Y.call f args H r H') {cx:j1} (hs:E4 X E w s s' cx) {f:FuncId} {vs:List V} {xs:List Value} {c1:j1} (h2:c9 w vs xs c1) {rv:V} (hr:ale X.call f s.H vs=some rv):aor Y w f xs rv:=by
 obtain ⟨ce,cl,ch,g⟩:=hs
 unfold ale at hr
 split at hr
 ·rename_i hn
  obtain ⟨⟨rv',H'⟩,hr1,hr2⟩:=a7 hr
  simp only at hr2
  obtain ⟨x,hp2,fb2,rho2,cr,q1,q2,q3,q4,q5,q6,q7,q8,q9,q10,ch',q13,q14,q15,q16⟩:=acA g.hw g.gl hT.gd [] (by simp) (abB (w:=w) (wc:=⟨w.hp,[],[]⟩) rfl rfl rfl g.hw g.obj 3 h2 hn) (hcall _ _ _ _ _ hr1)
  exact al3 q1 q2 q3 q7 q8 q9 q10 q13 q14 q15 q16 hr2
 ·cases hr
theorem apX (hT:aaX X) (hcall:∀ f args H r H',X.call f args H=some (r,H')->C4 X Y.call f args H r H') {cx:j1} (hs:E4 X E w s s' cx) {f:FuncId} {vs:List V} {xs:List Value} {c1:j1} (h2:c9 w vs xs c1) {rv:V} (hr:ac6 X.call f s.H vs=some rv):aor Y w f xs rv:=by
 unfold ac6 at hr
 split at hr
 ·exact aly hT hcall hs h2 hr
 ·obtain ⟨v,hr,hown⟩:=a7 hr
  split at hown
  ·rename_i ho
   cases hown
   obtain ⟨ce,cl,ch,g⟩:=hs
   unfold aac at hr
   split at hr
   ·rename_i hn
    obtain ⟨⟨rv',H'⟩,hr1,hr2⟩:=a7 hr
    simp only at hr2
    obtain ⟨x,hp2,fb2,rho2,cr,q1,q2,q3,q4,q5,q6,q7,q8,q9,q10,ch',q12,q13⟩:=acA g.hw g.gl hT.gd [] (by simp) (abB (w:=w) (wc:=⟨w.hp,[],[]⟩) rfl rfl rfl g.hw g.obj 3 h2 hn) (hcall _ _ _ _ _ hr1)
    have fin:∀ {v:V} {c:j1},RV ⟨hp2,rho2,fb2⟩ v x c->(∀ i,c i<=cr i)->J4 v=true->RV ⟨hp2,w.g8,w.fb⟩ v x c:=fun h hc ho=>RV.own (w:=⟨hp2,rho2,fb2⟩) (w':=⟨hp2,w.g8,w.fb⟩) rfl _ ho h (fun b k hb hk=>q10 b k (by
     have:=hc b
     by_cases hlt:b<w.hp.length
     ·have:=q5 b hlt; omega
     ·omega) hk)
    split at hr2
    ·cases hr2
     exact ⟨x,hp2,_,fb2,rho2,cr,q1,q2,fin q3 (fun _=>Nat.le_refl _) ho,q4,q5,q6,q7,q8,q9⟩
    ·obtain ⟨v2,hv2,hr3⟩:=a7 hr2
     split at hr3
     ·rename_i hdat
      cases hr3
      obtain ⟨c',p1,p2⟩:=amQ (w:=⟨hp2,rho2,fb2⟩) (w':=⟨hp2,[],[]⟩) rfl (fun b k _ _=>⟨by simp,w9.nil⟩) (fun b _ k _=>⟨by simp,w9.nil⟩) q9 q12 q3 hv2 hdat
      have:=RV.own (w:=⟨hp2,[],[]⟩) (w':=⟨hp2,w.g8,w.fb⟩) rfl _ ho p1 (fun b k hb hk=>q10 b k (by
       have:=p2 b
       by_cases hlt:b<w.hp.length
       ·have:=q5 b hlt; omega
       ·omega) hk)
      exact ⟨x,hp2,_,fb2,rho2,c',q1,q2,this,fun i=>Nat.le_trans (p2 i) (q4 i),fun i hi=>by have:=p2 i; have:=q5 i hi; omega,fun i hi=>by have:=p2 i; have:=q6 i hi; omega,q7,q8,q9⟩
     ·unfold ouD at hr3
      split at hr3
      ·rename_i u hu
       cases hr3
       exact al3 q1 q2 q3 q7 q8 q9 q10 q12 q13.1 q13.2.1 q13.2.2 hu
      ·obtain ⟨v3,hv3,hr4⟩:=a7 hr3
       split at hr4
       ·rename_i hdat
        cases hr4
        obtain ⟨c',p1,p2⟩:=ak7 (w:=⟨hp2,rho2,fb2⟩) (w':=⟨hp2,[],[]⟩) rfl (fun b k _ _=>⟨by simp,w9.nil⟩) (fun b _ k _=>⟨by simp,w9.nil⟩) q9 q12 q3 hv3 hdat
        have:=RV.own (w:=⟨hp2,[],[]⟩) (w':=⟨hp2,w.g8,w.fb⟩) rfl _ ho p1 (fun b k hb hk=>q10 b k (by
         have:=p2 b
         by_cases hlt:b<w.hp.length
         ·have:=q5 b hlt; omega
         ·omega) hk)
        exact ⟨x,hp2,_,fb2,rho2,c',q1,q2,this,fun i=>Nat.le_trans (p2 i) (q4 i),fun i hi=>by have:=p2 i; have:=q5 i hi; omega,fun i hi=>by have:=p2 i; have:=q6 i hi; omega,q7,q8,q9⟩
       ·cases hr4
   ·cases hr
  ·cases hown
theorem an9 {cx:j1} (hK:akb X E s'.env K K' r Q) (hs:E4 X E w s s' cx) {f:FuncId} {xs:List Value} {x:Value} {hp2:Heap} {fb fb2 rho2:List Nat} {rv:V} {cr:j1} (h1:K (.val rv) s .A=some r) (q1:Y.call f xs w.hp=some (x,hp2)) (q2:hp2.take w.hp.length=w.hp)
 (q3:RV ⟨hp2,w.g8,w.fb⟩ rv x cr) (q4:∀ i,cr i<=1) (q5:∀ i,i<w.hp.length->cr i=0) (q6:∀ i,hp2.length<=i->cr i=0) (q7:HW ⟨hp2,w.g8,w.fb⟩) (q9:D8 ⟨w.hp,[],fb,fun _=>0⟩ ⟨hp2,rho2,fb2⟩) (q10:HW ⟨hp2,rho2,fb2⟩) :
 ∃ r',((U7 Y.call f xs s'.hp).bind fun r=>K' (.val r.1) s'.loc r.2 .A)=some r'/\Q r':=by
 have hhp:=hs.hp
 obtain ⟨ce,cl,ch,g⟩:=hs
 have hq:U7 Y.call f xs s'.hp=some (x,hp2):=by
  unfold U7
  rw [hhp,q1]
  simp only [Option.bind_some]
  rw [if_pos q2]
 rw [hq]
 simp only [Option.bind_some]
 have hlen:=q9.len
 simp only at hlen
 have same:∀ b,b<w.hp.length->hp2[b]? = w.hp[b]?:=fun b hb=>by
  rw [List.getElem?_eq_getElem hb]
  exact q9.same b _ (List.getElem?_eq_getElem hb) w9.nil rfl
 have hx:Ext w ⟨hp2,w.g8,w.fb⟩ (fun _=>True):=by
  refine ⟨fun b kb hb hn=>?_,fun k b h=>h,fun j b kb _ hb=>⟨kb,by show hp2[b]? = _; rw [same b (List.getElem?_eq_some_iff.1 hb).1]; exact hb,rfl⟩⟩
  obtain ⟨a1,a2,a3⟩:=k9 hb
  exact ⟨kb,y2 (by show hp2[b]? = _; rw [same b a3]; exact a1) a2,fun c hc q hq=>hn c hc q (by rw [<-same c (g.hw.rlt c hc)]; exact hq),fun h=>h,rfl,rfl,fun _=>⟨rfl,rfl⟩⟩
 have hfr:D8 E ⟨hp2,w.g8,w.fb⟩:=g.fr.trans q9 g.hw q10 (by simp) (by simp) rfl (by
  obtain ⟨r0,a1,a2⟩:=g.fr.g8
  refine ⟨r0,a1,fun b hb=>⟨(a2 b hb).1,fun k hk=>?_⟩⟩
  have hk':hp2[b]? = some k:=hk
  rw [same b (g.hw.rlt b (by rw [a1]; exact List.mem_append.2 (.inr hb)))] at hk'
  exact (a2 b hb).2 k hk') g.fr.fb
 have g':=g.move hx (fun _ _=>trivial) q7 hfr (fun b hb => .eq (same b (g.hw.V5 _ (g.hw.sub _ hb)))) rfl hlen
 refine hK ⟨hp2,w.g8,w.fb⟩ (.val rv) (.val x) _ _ _ cr h1 (by simp only [RE]; exact q3) ⟨ce,cl,ch,{ g' with L1:=fun i=>?_,O5:=fun i hi=>?_,L8:=fun i hi=>?_ }⟩
 ·by_cases hi:i<w.hp.length
  ·have:=q5 i hi; have:=g.L1 i; omega
  ·have:=g.L8 i (by omega); have:=q4 i; omega
 ·have:=q5 i (by have:=g.fr.len; omega); have:=g.O5 i hi; omega
 ·have:=q6 i hi; have:=g.L8 i (by simp only at hi; omega); omega
open Classical in
theorem air {cx:j1} (hK:akb X E s'.env K K' r Q) (hs:E4 X E w s s' cx) {f:FuncId} {xs:List Value} {x:Value} {hp2:Heap} {fb fb2 rho2:List Nat} {ov:V} {oH:VH} {cr:j1} (own:∀ b,1<=cr b->b ∉ w.fb/\b ∉ w.g8/\∃ kb:j9,l6 hp2 b=some kb/\kb.md = .rw/\w9 hp2 w.g8 kb.g9)
 (hP:Prm ⟨hp2,w.g8,w.fb⟩ s.H oH cr (fun W c'=>RV W ov x c')) (h1:K (.val ov) { s with H:=oH } .A=some r) (q1:Y.call f xs w.hp=some (x,hp2)) (q2:hp2.take w.hp.length=w.hp)
 (q4:∀ i,cr i<=1) (q5:∀ i,i<w.hp.length->cr i=0) (q6:∀ i,hp2.length<=i->cr i=0) (q7:HW ⟨hp2,w.g8,w.fb⟩) (q9:D8 ⟨w.hp,[],fb,fun _=>0⟩ ⟨hp2,rho2,fb2⟩) (q10:HW ⟨hp2,rho2,fb2⟩) :
 ∃ r',((U7 Y.call f xs s'.hp).bind fun r=>K' (.val r.1) s'.loc r.2 .A)=some r'/\Q r':=by
 have hhp:=hs.hp
 obtain ⟨ce,cl,ch,g⟩:=hs
 have hq:U7 Y.call f xs s'.hp=some (x,hp2):=by
  unfold U7
  rw [hhp,q1]
  simp only [Option.bind_some]
  rw [if_pos q2]
 rw [hq]
 simp only [Option.bind_some]
 have hlen:=q9.len
 simp only at hlen
 have same:∀ b,b<w.hp.length->hp2[b]? = w.hp[b]?:=fun b hb=>by
  rw [List.getElem?_eq_getElem hb]
  exact q9.same b _ (List.getElem?_eq_getElem hb) w9.nil rfl
 have newf:∀ (b:Nat) (k:j9),w.hp.length<=b->hp2[b]? = some k->w.hp.length<=k.g9:=fun b k hb hk=>by
  rcases q9.g9 b k hb hk with (q | ⟨_,q,_⟩) | ⟨_,_,_,q,_⟩
  ·exact q
  ·cases q
  ·simp at q
 obtain ⟨ps,Hs,c',ch',e1,e2,e3,e4,e5,e6⟩:=hP.ex
 let FB:List Nat:=(List.range hp2.length).filter fun b=>decide (∃ p ∈ ps,∃ kp kb:j9,hp2[p]? = some kp/\hp2[b]? = some kb/\kb.g9=kp.g9)
 have hFB:∀ b,b ∈ FB<->b<hp2.length/\∃ p ∈ ps,∃ kp kb:j9,hp2[p]? = some kp/\hp2[b]? = some kb/\kb.g9=kp.g9:=fun b=>by
  simp only [FB,List.mem_filter,List.mem_range,decide_eq_true_eq]
 have pnew:∀ p ∈ ps,w.hp.length<=p:=fun p hp=>by
  have:=e4 p hp
  by_cases hlt:p<w.hp.length
  ·have:=q5 p hlt; omega
  ·omega
 have pown:∀ p ∈ ps,∃ kp:j9,hp2[p]? = some kp/\kp.md = .rw/\w.hp.length<=kp.g9/\p<hp2.length:=fun p hp=>by
  obtain ⟨_,_,kp,a1,a2,_⟩:=own p (e4 p hp)
  obtain ⟨b1,b2,b3⟩:=k9 a1
  exact ⟨kp,b1,a2,newf p kp (pnew p hp) b1,b3⟩
 have FBnew:∀ b ∈ FB,w.hp.length<=b:=fun b hb=>by
  obtain ⟨_,p,hp,kp,kb,a1,a2,a3⟩:=(hFB b).1 hb
  obtain ⟨kp',b1,_,b3,_⟩:=pown p hp
  rw [a1] at b1; cases b1
  by_cases hlt:b<w.hp.length
  ·rw [same b hlt] at a2
   have:=g.hw.g9 b kb a2; omega
  ·omega
 have hW:HW ⟨hp2,w.g8++ps,FB++w.fb⟩:=by
  refine ⟨fun b hb=>?_,q7.one,q7.g9,fun b hb=>?_,fun b hb=>?_,?_,fun b c kb kc hb hk hk' hff=>?_,q7.mrk⟩
  ·rcases List.mem_append.1 hb with hb | hb
   ·exact q7.obj b hb
   ·obtain ⟨kp,a1,a2,_⟩:=pown b hb
    exact ⟨kp,a1⟩
  ·rcases List.mem_append.1 hb with hb | hb
   ·exact ((hFB b).1 hb).1
   ·exact q7.V5 b hb
  ·rcases List.mem_append.1 hb with hb | hb
   ·exact List.mem_append.2 (.inr (q7.sub b hb))
   ·obtain ⟨kp,a1,a2,_,a4⟩:=pown b hb
    exact List.mem_append.2 (.inl ((hFB b).2 ⟨a4,b,hb,kp,kp,a1,a1,rfl⟩))
  ·rw [List.nodup_append]
   exact ⟨q7.nd,e3,fun a ha b hb e=>by subst e; have:=g.hw.rlt a ha; have:=pnew a hb; omega⟩
  ·rcases List.mem_append.1 hb with hb | hb
   ·exact List.mem_append.2 (.inr (q7.fbf b c kb kc hb hk hk' hff))
   ·exact List.mem_append.2 (.inl ((hFB c).2 ⟨(List.getElem?_eq_some_iff.1 hk').1,b,hb,kb,kc,hk,hk',hff⟩))
 have hx:Ext w ⟨hp2,w.g8++ps,FB++w.fb⟩ (fun _=>True):=by
  refine ⟨fun b kb hb hn=>?_,fun k b h=>?_,fun j b kb _ hb=>⟨kb,by show hp2[b]? = _; rw [same b (List.getElem?_eq_some_iff.1 hb).1]; exact hb,rfl⟩⟩
  ·obtain ⟨a1,a2,a3⟩:=k9 hb
   refine ⟨kb,y2 (by show hp2[b]? = _; rw [same b a3]; exact a1) a2,fun c hc q hq=>?_,fun h h'=>?_,rfl,rfl,fun _=>⟨rfl,rfl⟩⟩
   ·have hq':hp2[c]? = some q:=hq
    rcases List.mem_append.1 hc with hc | hc
    ·exact hn c hc q (by rw [<-same c (g.hw.rlt c hc)]; exact hq')
    ·have:=newf c q (pnew c hc) hq'
     have:=g.hw.g9 b kb a1
     omega
   ·rcases List.mem_append.1 h' with h' | h'
    ·have:=FBnew b h'; omega
    ·exact h h'
  ·show (w.g8++ps)[k]? = _
   rw [List.getElem?_append_left (List.getElem?_eq_some_iff.1 h).1]; exact h
 have hfr:D8 E ⟨hp2,w.g8++ps,FB++w.fb⟩:=g.fr.trans q9 g.hw q10 (by simp) (by simp) rfl (by
  obtain ⟨r0,a1,a2⟩:=g.fr.g8
  have hl:=g.fr.len
  refine ⟨r0++ps,by show w.g8++ps=_; rw [a1,List.append_assoc],fun b hb=>?_⟩
  rcases List.mem_append.1 hb with hb | hb
  ·refine ⟨(a2 b hb).1,fun k hk=>?_⟩
   have hk':hp2[b]? = some k:=hk
   rw [same b (g.hw.rlt b (by rw [a1]; exact List.mem_append.2 (.inr hb)))] at hk'
   exact (a2 b hb).2 k hk'
  ·have:=pnew b hb
   refine ⟨by omega,fun k hk=>?_⟩
   have:=newf b k this hk; left; omega) (by
  obtain ⟨r0,a1,a2⟩:=g.fr.fb
  have hl:=g.fr.len
  refine ⟨FB++r0,by show FB++w.fb=_; rw [a1,List.append_assoc],fun b hb=>?_⟩
  rcases List.mem_append.1 hb with hb | hb
  ·have:=FBnew b hb; omega
  ·exact a2 b hb)
 obtain ⟨p1,o1⟩:=e6 ⟨hp2,w.g8++ps,FB++w.fb⟩ rfl (fun j hj=>by
  show (w.g8++ps)[_]? = _
  rw [<-g.obj.len,List.getElem?_append_right (by omega)]
  congr 1; omega) (fun b k hb hk=>by
  have hcb:=e5 b
  have hnb:b ∉ ps:=fun hp=>by rw [if_pos hp] at hcb; have:=q4 b; omega
  rw [if_neg hnb] at hcb
  obtain ⟨a1,_,kb,a3,a4,a5⟩:=own b (by omega)
  have hkb:=(k9 a3).1
  have hk':hp2[b]? = some k:=hk
  have hkb':hp2[b]? = some kb:=hkb
  rw [hk'] at hkb'; cases hkb'
  have ne:∀ p ∈ ps,∀ kp:j9,hp2[p]? = some kp->kp.g9 ≠ k.g9:=fun p hp kp hkp e=>by
   obtain ⟨kp',b1,b2,_⟩:=pown p hp
   rw [hkp] at b1; cases b1
   exact hnb (q7.one p b kp k hkp hk' b2 a4 e ▸ hp)
  refine ⟨fun h=>?_,fun c hc q hq=>?_⟩
  ·rcases List.mem_append.1 h with h | h
   ·obtain ⟨_,p,hp,kp,kb,b1,b2,b3⟩:=(hFB b).1 h
    rw [hk'] at b2; cases b2
    exact ne p hp kp b1 b3.symm
   ·exact a1 h
  ·rcases List.mem_append.1 hc with hc | hc
   ·exact a5 c hc q hq
   ·exact ne c hc q hq)
 have hobj:p8 ⟨hp2,w.g8++ps,FB++w.fb⟩ oH (w.g8++ps) (fun i=>ch i+ch' i):=by
  rw [e1]
  exact (g.obj.mono hx (fun b hb => .eq (same b (g.hw.rlt b hb))) (fun _ _=>trivial)).app o1
 have cnt:∀ i,c' i+ch' i<=cr i:=fun i=>by have:=e5 i; omega
 refine hK ⟨hp2,w.g8++ps,FB++w.fb⟩ (.val ov) (.val x) _ _ _ c' h1 (by simp only [RE]; exact p1) ⟨ce,cl,_,rfl,hW,g.gl.mono hx,hfr,g.env.mono hx (fun _ _=>trivial),g.loc.mono hx (fun _ _=>trivial),g.aat,hobj,fun i=>?_,fun i hi=>?_,fun i hi=>?_⟩
 ·have:=cnt i
  by_cases hi:i<w.hp.length
  ·have:=q5 i hi; have:=g.L1 i; omega
  ·have:=g.L8 i (by omega); have:=q4 i; omega
 ·have:=cnt i; have:=q5 i (by have:=g.fr.len; omega); have:=g.O5 i hi; omega
 ·have:=cnt i; have:=q6 i hi; have:=g.L8 i (by simp only at hi; omega); omega
theorem apl {cx:j1} (hK:akb X E s'.env K K' r Q) (hs:E4 X E w s s' cx) {f:FuncId} {xs:List Value} {x:Value} {hp2:Heap} {fb fb2 rho2:List Nat} {rv:V} {cr:j1} {d:Nat} (ho:J4 rv=true) (h1:K (.val (prom d s.H rv).1) { s with H:=(prom d s.H rv).2 } .A=some r) (q1:Y.call f xs w.hp=some (x,hp2)) (q2:hp2.take w.hp.length=w.hp)
 (q3:RV ⟨hp2,w.g8,w.fb⟩ rv x cr) (q4:∀ i,cr i<=1) (q5:∀ i,i<w.hp.length->cr i=0) (q6:∀ i,hp2.length<=i->cr i=0) (q7:HW ⟨hp2,w.g8,w.fb⟩) (q9:D8 ⟨w.hp,[],fb,fun _=>0⟩ ⟨hp2,rho2,fb2⟩) (q10:HW ⟨hp2,rho2,fb2⟩) :
 ∃ r',((U7 Y.call f xs s'.hp).bind fun r=>K' (.val r.1) s'.loc r.2 .A)=some r'/\Q r' :=
 air hK hs (fun b hb=>RV.owned rv q3 b hb) (aku rv d s.H ho q3 q4) h1 q1 q2 q4 q5 q6 q7 q9 q10
theorem c9.text {w w':Wd}:∀ {cs:List V} {xs:List Value} {c:j1},ag6 cs=true->c9 w cs xs c->c9 w' cs xs (fun _=>0)
 | [],xs,c,ht,h=>by simp only [c9] at *; exact ⟨h.1,by simp⟩
 | v::cs,xs,c,ht,h=>by
   cases v with
   | str s =>
     simp only [c9,RV] at h ⊢
     obtain ⟨x,ys,c1,c2,h1,⟨h2,_⟩,h3,_⟩:=h
     exact ⟨x,ys,fun _=>0,fun _=>0,h1,⟨h2,by simp⟩,c9.text (cs:=cs) ht h3,by simp⟩
   | _=>simp [ag6] at ht
theorem auJ (hT:aaX X) (hcall:∀ f args H r H',X.call f args H=some (r,H')->C4 X Y.call f args H r H') {cx:j1} (hK:akb X E s'.env K K' r Q) (hs:E4 X E w s s' cx) {f:FuncId} {vs:List V} {xs:List Value} {c1:j1} (h2:c9 w vs xs c1) {rv:V × VH} (hr:ab6 X.call f s.H vs=some rv) (h1:K (.val rv.1) { s with H:=rv.2 } .A=some r) :
 ∃ r',((U7 Y.call f xs s'.hp).bind fun r=>K' (.val r.1) s'.loc r.2 .A)=some r'/\Q r':=by
 have hs':=hs
 obtain ⟨ce,cl,ch,g⟩:=hs'
 unfold ab6 at hr
 split at hr
 ·rename_i hn
  obtain ⟨⟨rv',H'⟩,hr1,hr2⟩:=a7 hr
  simp only at hr2
  split at hr2
  ·rename_i k off n e
   obtain ⟨cs,hcs,hr3⟩:=a7 hr2
   split at hr3
   ·rename_i htx
    cases hr3
    simp only [Bool.and_eq_true] at htx
    obtain ⟨x,hp2,fb2,rho2,cr,q1,q2,q3,q4,q5,q6,q7,q8,q9,q10,ch',q13,q14,q15,q16⟩:=acA g.hw g.gl hT.gd [] (by simp) (abB (w:=w) (wc:=⟨w.hp,[],[]⟩) rfl rfl rfl g.hw g.obj 3 h2 hn) (hcall _ _ _ _ _ hr1)
    simp only [RV] at q3
    obtain ⟨⟨b,cc,kb,b1,b2,b3,b4,rfl⟩,_⟩:=q3
    have hne:cs ≠ []:=fun e=>by subst e; simp at htx
    obtain ⟨b',kb',d1,d2,a1,a2,a3,a4,a5,a6⟩:=q13.get hcs hne
    rw [b1] at a1; cases a1
    have b2':hp2[b]? = some kb:=b2
    have a2':hp2[b]? = some kb':=a2
    rw [b2'] at a2'; cases a2'
    have hbm:=List.mem_of_getElem? b1
    have hge:w.hp.length<=b:=q8.alp (w:=⟨hp2,rho2,fb2⟩) hbm (by simp)
    have hlt:=(List.getElem?_eq_some_iff.1 b2').1
    obtain ⟨n1,n2⟩:=q10 b kb hge b2'
    refine air hK hs (cr:=fun i=>if i=b then 1 else 0) (fun i hi=>?_) ⟨[b],[cs],fun _=>0,fun _=>0,rfl,rfl,by simp,fun p hp=>by simp at hp; subst hp; simp,fun i=>by by_cases q:i=b<;>simp [q],fun W hW hr hb=>⟨?_,?_⟩⟩ h1 q1 q2 (fun i=>by show (if i=b then 1 else 0)<=1; split<;>omega) (fun i hi=>by show (if i=b then 1 else 0)=0; rw [if_neg (by omega)]) (fun i hi=>by show (if i=b then 1 else 0)=0; rw [if_neg (by omega)]) q7 q8 q9
    ·have:i=b:=by
      by_cases q:i=b
      ·exact q
      ·simp only [if_neg q] at hi; omega
     subst this
     exact ⟨n1,fun h=>by have:=g.hw.rlt _ h; omega,kb,y2 b2' (by rw [a6]; simp),a6,n2⟩
    ·have:=hr 0 (by simp)
     simp only [Nat.add_zero,List.getElem?_cons_zero] at this
     simp only [RV]
     exact ⟨⟨b,cc,kb,this,by rw [hW]; exact b2',b3,b4,rfl⟩,by simp⟩
    ·simp only [p8]
     exact ⟨b,[],kb,fun _=>0,fun _=>0,rfl,by rw [hW]; exact b2',.inr ⟨a6,c9.text htx.1 a3⟩,⟨rfl,by simp⟩,by simp⟩
   ·cases hr3
  ·obtain ⟨⟨v',G',H2⟩,hr3,rfl⟩:=Option.map_eq_some_iff.1 hr2
   obtain ⟨x,hp2,fb2,rho2,cr,q1,q2,q3,q4,q5,q6,q7,q8,q9,q10,ch',q13,q14,q15,q16⟩:=acA g.hw g.gl hT.gd [] (by simp) (abB (w:=w) (wc:=⟨w.hp,[],[]⟩) rfl rfl rfl g.hw g.obj 3 h2 hn) (hcall _ _ _ _ _ hr1)
   have hge:∀ b ∈ rho2,w.hp.length<=b:=fun b hb=>q8.alp (w:=⟨hp2,rho2,fb2⟩) hb (by simp)
   have hlo:∀ i,cr i+ch' i+LO H' rho2 i<=1:=fun i=>awO (w:=⟨hp2,rho2,fb2⟩) q9 q13 q3 q14 i
   obtain ⟨c',ch2,p1,p2,p3,p4⟩:=ak9 (w:=⟨hp2,rho2,fb2⟩) q9 5 (H:=s.H) q13 q3 hlo hr3
   have z5:∀ i,i<w.hp.length->c' i=0:=fun i hi=>by
    have:=p3 i; have:=q15 i hi
    have:LO H' rho2 i=0:=ad7 (fun hm=>by have:=hge i hm; omega)
    simp only at *
    omega
   have z6:∀ i,hp2.length<=i->c' i=0:=fun i hi=>by
    have:=p3 i; have:=q16 i hi
    have:LO H' rho2 i=0:=ad7 (fun hm=>by
     obtain ⟨kb,o1⟩:=q9.obj i hm
     have:=(List.getElem?_eq_some_iff.1 o1).1
     simp only at this
     omega)
    simp only at *
    omega
   refine air hK hs (cr:=c') (fun i hi=>?_) ⟨p2.ex⟩ h1 q1 q2 (fun i=>by have:=p3 i; have:=hlo i; simp only at *; omega) z5 z6 q7 q8 q9
   obtain ⟨kb,k1,k2⟩:=p4 i hi
   have hge2:w.hp.length<=i:=by
    by_cases q:i<w.hp.length
    ·have:=z5 i q; omega
    ·omega
   obtain ⟨n1,n2⟩:=q10 i kb hge2 k1
   exact ⟨n1,fun h=>by have:=g.hw.rlt _ h; omega,kb,y2 k1 (by rw [k2]; simp),k2,n2⟩
 ·cases hr
set_option maxHeartbeats 4000000 in
theorem axW (ht:Twin X Y) (hT:aaX X) (hcall:∀ f args H r H',X.call f args H=some (r,H')->C4 X Y.call f args H r H')
 (hs:E4 X E w s s' (fun _=>0)) (h:z8 X A T o s K=some r) (hK:akb X E s'.env K K' r Q):∃ r',A7 Y A o s' K'=some r'/\Q r':=by
 have hhp:=hs.hp
 unfold z8 at h
 unfold A7
 cases hop:o.op with
 | move x =>
   simp only [hop] at h ⊢
   split at h
   ·obtain ⟨e,e',c,h1,h2,h3,h4⟩:=Y8 ht hs h
    rw [h4,hhp]
    exact hK w e e' _ _ _ c h1 h2 (h3.less (by simp)).self
   ·obtain ⟨e,e',c,h1,h2,h3,h4⟩:=Y8 ht hs h
    rw [h4,hhp]
    exact hK w (Z3 e) e' _ _ _ (fun _=>0) h1 h2.Z3 (hs.less (by simp)).self
 | assign x =>
   simp only [hop] at h ⊢
   split at h
   ·obtain ⟨e,e',c,h1,h2,h3,h4⟩:=Y8 ht hs h
    rw [h4,hhp]
    exact hK w e e' _ _ _ c h1 h2 (h3.less (by simp)).self
   ·obtain ⟨e,e',c,h1,h2,h3,h4⟩:=Y8 ht hs h
    rw [h4,hhp]
    exact hK w (Z3 e) e' _ _ _ (fun _=>0) h1 h2.Z3 (hs.less (by simp)).self
 | pick cc x y =>
   simp only [hop] at h ⊢
   obtain ⟨vc,xc,c0,h1,h2,_,h4⟩:=A2 ht hs h
   obtain ⟨ea,ea',ca,g1,g2,g3,g4⟩:=Y8 ht hs h1
   obtain ⟨eb,eb',cb,k1,k2,k3,k4⟩:=Y8 ht g3 g1
   rw [h4,g4,k4]
   have hb:∀ {S:Type} {p q:Option S} {a:S},j8 vc p q=some a->(vc = .bool true/\p=some a)\/(vc = .bool false/\q=some a):=by
    intro S p q a hh
    unfold j8 at hh
    split at hh
    ·exact .inl ⟨rfl,hh⟩
    ·exact .inr ⟨rfl,hh⟩
    ·cases hh
   split at k1
   ·-- B8,val
    cases ea'<;>simp only [RE] at g2
    cases eb'<;>simp only [RE] at k2
    rcases hb k1 with ⟨rfl,hh⟩ | ⟨rfl,hh⟩
    ·cases hh
    ·simp only [RV] at h2
     simp only [h2.1,S3,hhp]
     exact hK w _ _ _ _ _ cb hh (by simpa only [RE] using k2) (k3.less (by simp)).self
   ·-- val,B8
    cases ea'<;>simp only [RE] at g2
    cases eb'<;>simp only [RE] at k2
    rcases hb k1 with ⟨rfl,hh⟩ | ⟨rfl,hh⟩
    ·simp only [RV] at h2
     simp only [h2.1,S3,hhp]
     exact hK w _ _ _ _ _ ca hh (by simpa only [RE] using g2) (k3.less (by simp)).self
    ·cases hh
   ·-- val,val
    cases ea'<;>simp only [RE] at g2
    cases eb'<;>simp only [RE] at k2
    obtain ⟨v,hv,k1⟩:=a7 k1
    unfold ar7 at hv
    split at hv
    ·cases hv
     simp only [RV] at h2
     simp only [h2.1,anG,Option.bind_some,hhp]
     exact hK w _ _ _ _ _ ca k1 (by simpa only [RE] using g2) (k3.less (by simp)).self
    ·cases hv
     simp only [RV] at h2
     simp only [h2.1,anG,Option.bind_some,hhp]
     exact hK w _ _ _ _ _ cb k1 (by simpa only [RE] using k2) (k3.less (by simp)).self
    ·cases hv
   ·cases k1
 | alloc elem =>
   simp only [hop] at h ⊢
   rw [ht.tab]
   split at h
   ·rename_i ti d hti hd
    simp only [hti,hd]
    have hz:=X7 (w:=w) (hT.zero _ _ hti)
    split at h
    ·rename_i hm
     simp only [hm]
     split at h
     ·rename_i hl
      obtain ⟨ce,cl,ch,g⟩:=hs
      simp only [g.aat d hl,hhp]
      exact hK w _ (.loc d 0) _ _ _ (fun _=>0) h (by simp [RE]) (g.asV hl hz (by simp))
     ·cases h
    ·rename_i hm
     simp only [hm]
     obtain ⟨ce,cl,ch,g⟩:=hs
     obtain ⟨w2,h1,h2,h3⟩:=acW g hz (by simp) ti.size true (fun h=>by cases h)
     rw [hhp,<-h1]
     exact hK w2 _ _ _ _ _ (fun _=>0) h h3 h2.self
   ·cases h
 | box elem x =>
   simp only [hop] at h ⊢
   rw [ht.tab]
   split at h
   ·rename_i ti d hti hd
    simp only [hti,hd]
    obtain ⟨v,x',c,h1,h2,h3,h4⟩:=acb ht hs h
    obtain ⟨cs,xs,g1,g2,g3,_⟩:=ahC h1 h2
    rw [h4,g3]
    obtain ⟨ce,cl,ch,g⟩:=h3
    split at g1
    ·rename_i hm
     simp only [hm]
     split at g1
     ·rename_i hl
      have hl':look (used s x).loc d=none:=hl
      simp only [g.aat d hl',hhp]
      exact hK w _ (.loc d 0) _ _ _ (fun _=>0) g1 (by simp [RE]) (g.asV hl' g2 (by simp))
     ·cases g1
    ·rename_i hm
     simp only [hm]
     obtain ⟨w2,k1,k2,k3⟩:=acW g g2 (by simp) ti.size true (fun h=>by cases h)
     rw [hhp,<-k1]
     exact hK w2 _ _ _ _ _ (fun _=>0) g1 k3 k2.self
   ·cases h
 | build t parts =>
   simp only [hop] at h ⊢
   rw [ht.tab]
   split at h
   ·rename_i fs z ag n hti
    simp only [hti]
    have hz:=X7 (w:=w) (hT.zero _ _ hti)
    obtain ⟨cs,s2,ys,c,h1,h2,h3,h4,h5⟩:=ae8 ht hs hz h
    rw [h5,hhp]
    exact hK w (.val (.agg cs)) (.val (.agg ys.toArray)) _ _ _ c h1 (by simp only [RE,RV]; exact ⟨ys,rfl,h2⟩) h3.self
   ·rename_i na b9 z ag n hti
    simp only [hti]
    have hz:=X7 (w:=w) (hT.zero _ _ hti)
    obtain ⟨cs,s2,ys,c,h1,h2,h3,h4,h5⟩:=ae8 ht hs hz h
    rw [h5,hhp]
    exact hK w (.val (.agg cs)) (.val (.agg ys.toArray)) _ _ _ c h1 (by simp only [RE,RV]; exact ⟨ys,rfl,h2⟩) h3.self
   ·cases h
 | buildSlice t len parts =>
   simp only [hop] at h ⊢
   rw [ht.tab]
   split at h
   ·rename_i e b9 eb z ag n zz hti
    simp only [hti]
    split at h
    ·rename_i te hte
     simp only [hte]
     split at h
     ·rename_i hb
      simp only [hb]
      obtain ⟨q1,q2,q3⟩:=hT.sl _ _ _ _ _ _ _ _ hti
      have hz:=amq (X7 (w:=w) q1) len
      obtain ⟨cs,s2,ys,c,h1,h2,h3,h4,h5⟩:=ae8 ht hs hz h
      rw [h5,hhp]
      have hlen:cs.length=len*b9:=by rw [h4,atS,List.length_map,q2]
      have hch:=aay h2 hlen
      obtain ⟨ce,cl,ch,g⟩:=h3
      have hx:=aoM g.hw ⟨ys,b9,.rw,w.hp.length,true⟩ (fun _=>True)
      have g':=g.move hx (fun _ _=>trivial) (g.hw.push rfl (fun h=>by cases h)) (g.fr.push g.hw rfl) (fun b hb => .eq (by show (w.hp++_)[b]? = _; rw [List.getElem?_append_left (g.hw.V5 _ (g.hw.sub _ hb))])) rfl (by simp)
      have hcl:(y6 b9 len cs).length=len:=by
       have:∀ (n:Nat) (l:List V),(y6 b9 n l).length=n:=by
        intro n; induction n with
        | zero=>intro l; rfl
        | succ n ih=>intro l; simp only [y6,List.length_cons,ih]
       exact this _ _
      by_cases h0:y6 b9 len cs=[]
      ·refine hK { w with hp:=w.hp++[⟨ys,b9,.rw,w.hp.length,true⟩] } (.fl (y6 b9 len cs)) _ _ _ _ c h1 ?_ ⟨ce,cl,ch,g'⟩
       simp only [RE,RV,M5]
       refine ⟨?_,_,by rw [hcl]⟩
       left
       have hl0:len=0:=by rw [h0] at hcl; simpa using hcl.symm
       refine ⟨h0,⟨_,_,by rw [hl0],fun _=>rfl⟩,?_⟩
       rw [h0] at hch
       simp only [l4] at hch; exact hch.2
      ·have hfl:=g.fr.len
       refine hK { w with hp:=w.hp++[⟨ys,b9,.rw,w.hp.length,true⟩] } (.fl (y6 b9 len cs)) _ _ _ _ (fun i=>c i+if i=w.hp.length then 1 else 0) h1 ?_ ⟨ce,cl,ch,{ g' with L1:=fun i=>?_,O5:=fun i hi=>?_,L8:=fun i hi=>?_ }⟩
       rotate_left
       ·have:=g.L1 i
        by_cases e:i=w.hp.length
        ·have:=g.L8 i (by omega); rw [if_pos e]; omega
        ·rw [if_neg e]; omega
       ·have:=g.O5 i hi
        rw [if_neg (by omega)]; omega
       ·have hi':(w.hp++[(⟨ys,b9,.rw,w.hp.length,true⟩:j9)]).length<=i:=hi
        simp at hi'
        have:=g.L8 i (by omega)
        rw [if_neg (by omega)]; omega
       simp only [RE,RV,M5]
       refine ⟨?_,_,by rw [hcl]⟩
       right
       have hyl:=hch.len
       refine ⟨h0,w.hp.length,0,⟨ys,b9,.rw,w.hp.length,true⟩,ys,len,c,aqH (by simp),?_,?_,by rw [hcl],q3,?_,l4.mono hx _ hch (fun _ _=>trivial),.inr ⟨trivial,⟨rfl,rfl⟩,rfl,hyl.symm,fun i=>rfl⟩⟩
       ·intro hb; have:=g.hw.V5 _ hb; omega
       ·exact (show w9 w.hp w.g8 w.hp.length from fun b hb q hq=>by have:=g.hw.g9 b q hq; omega).push g.hw.rlt
       ·have hyl':ys.length=(y6 b9 len cs).length*b9:=hyl
        show L2 ys 0 ((y6 b9 len cs).length*b9)=some ys
        rw [M1 (by omega)]
        simp only [List.drop_zero]
        rw [List.take_of_length_le (by omega)]
     ·cases h
    ·cases h
   ·cases h
 | load t x =>
   simp only [hop] at h ⊢
   rw [ht.tab]
   split at h
   ·rename_i ti hti
    simp only [hti]
    obtain ⟨e,e',c,h1,h2,h3,h4⟩:=Y8 ht hs h
    rw [h4]
    split at h1
    ·-- a local
     rename_i k off
     cases e'<;>simp only [RE] at h2
     obtain ⟨rfl,rfl,_⟩:=h2
     split at h1
     ·rename_i cs hl
      obtain ⟨⟨v,cs2⟩,hld,h1⟩:=a7 h1
      obtain ⟨ce,cl,ch,g⟩:=hs
      obtain ⟨ws,c1,c2,g1,g2,g3,g4⟩:=g.loc.look hl
      obtain ⟨z,d1,d2,k1,k2,k3,k4⟩:=aj8 hld g2
      have hset:=g4 cs2 ws d2 k3
      have hsame:X6 s'.loc k ws=s'.loc:=by
       have:∀ {l:List (Nat × List Value)},look l k=some ws->X6 l k ws=l:=by
        intro l
        induction l with
        | nil=>intro h; rfl
        | cons p l ih =>
          intro h
          obtain ⟨q,v⟩:=p
          by_cases e:q=k
          ·subst e
           have hb:Nat.beq q q=true:=Nat.beq_refl q
           simp only [look,hb] at h
           cases h; simp only [X6,hb]
          ·simp only [look,W3 e] at h
           simp only [X6,W3 e,ih h]
       exact this g1
      rw [hsame] at hset
      have hst:E4 X E w { s with loc:=O1 s.loc k cs2 } s' d1:=by
       refine ⟨ce,fun i=>d2 i+c2 i,ch,g.hp,g.hw,g.gl,g.fr,g.env,hset,fun j hj=>g.aat j (adP hj),g.obj,fun i=>?_,fun i hi=>?_,fun i hi=>?_⟩
       ·have:=g.L1 i; have:=g3 i; have:=k4 i; omega
       ·have:=g.O5 i hi; have:=g3 i; have:=k4 i; omega
       ·have:=g.L8 i hi; have:=g3 i; have:=k4 i; omega
      simp only [g1,hhp]
      cases hag:ti.agg with
      | true =>
        rw [hag] at k1
        simp only at k1
        cases hcut:cut ws off ti.size with
        | none=>rw [hcut] at k1; cases k1
        | some m =>
          rw [hcut] at k1; cases k1
          simp only [Option.bind_some]
          exact hK w _ _ _ _ _ d1 h1 (by simp only [RE]; exact k2) hst.self
      | false =>
        rw [hag] at k1
        simp only at k1
        simp only [k1,Option.bind_some]
        exact hK w _ _ _ _ _ d1 h1 (by simp only [RE]; exact k2) hst.self
     ·cases h1
    ·rename_i p
     obtain ⟨⟨v,H2⟩,hld,h1⟩:=a7 h1
     cases e'<;>simp only [RE] at h2
     rename_i x'
     unfold E3 at hld
     split at hld
     ·-- an object
      rename_i k off
      simp only [RV] at h2
      obtain ⟨⟨b,hb1,rfl⟩,_⟩:=h2
      split at hld
      ·rename_i cs hl
       obtain ⟨⟨v',cs2⟩,hlc,heq⟩:=Option.map_eq_some_iff.1 hld
       cases heq
       obtain ⟨ce,cl,ch,g⟩:=hs
       obtain ⟨b',kb,c1,c2,g1,g2,g3,g4,g5,o2⟩:=g.obj.get hl (aoZ hlc (hT.pos _ _ hti))
       rw [hb1] at g1; cases g1
       obtain ⟨z,d1,d2,k1,k2,k3,k4⟩:=aj8 hlc g3
       have hst:E4 X E w { s with H:=s.H.set k cs2 } s' d1:=by
        refine ⟨ce,cl,fun i=>d2 i+c2 i,g.hp,g.hw,g.gl,g.fr,g.env,g.loc,g.aat,g5 cs2 d2 k3,fun i=>?_,fun i hi=>?_,fun i hi=>?_⟩
        ·have:=g.L1 i; have:=g4 i; have:=k4 i; omega
        ·have:=g.O5 i hi; have:=g4 i; have:=k4 i; omega
        ·have:=g.L8 i hi; have:=g4 i; have:=k4 i; omega
       have hload:aaK s'.hp ti.agg ti.size (.pointer (some ⟨b,off,none⟩))=some z:=by
        simp only [aaK,hhp,y2 g2 (by rw [o2]; simp),Option.bind_some]; exact k1
       simp only [hload,Option.bind_some]
       rw [hhp]
       exact hK w _ _ _ _ _ d1 h1 (by simp only [RE]; exact k2) hst.self
      ·cases hld
     ·-- an element
      rename_i cs off
      simp only [RV] at h2
      obtain ⟨⟨b,o',kb,ws,b1,b2,rfl,b3,b4⟩,_⟩:=h2
      cases hv:aiE ti.agg ti.size cs off with
      | none=>rw [hv] at hld; cases hld
      | some v' =>
        rw [hv] at hld
        cases hld
        obtain ⟨z,k1,k2⟩:=anp hv b4
        have hload:aaK s'.hp ti.agg ti.size (.pointer (some ⟨b,o'+off,none⟩))=some z:=by
         simp only [aaK,hhp,b1,Option.bind_some]
         cases hag:ti.agg with
         | true =>
           rw [hag] at k1
           simp only at k1 ⊢
           cases hcut:cut ws off ti.size with
           | none=>rw [hcut] at k1; cases k1
           | some m =>
             rw [hcut] at k1; cases k1
             have:cut kb.cells (o'+off) ti.size=some m:=ae2 b3 hcut
             rw [this]; rfl
         | false =>
           rw [hag] at k1
           simp only at k1 ⊢
           exact acu (ae2 b3 (acB k1))
        simp only [hload,Option.bind_some]
        exact hK.pure h1 k2 hs
     ·-- a package variable
      rename_i g0 off
      simp only [RV] at h2
      obtain ⟨rfl,_⟩:=h2
      split at hld
      ·rename_i cs hg
       cases hv:aiE ti.agg ti.size cs off with
       | none=>rw [hv] at hld; cases hld
       | some v' =>
         rw [hv] at hld
         cases hld
         have hgl:I1 X w:=by obtain ⟨_,_,_,g⟩:=hs; exact g.gl
         obtain ⟨kb,b1,b2,b3,_⟩:=hgl.1 g0 cs hg
         obtain ⟨z,k1,k2⟩:=anp hv b3
         have hload:aaK s'.hp ti.agg ti.size (.pointer (some ⟨g0,off,none⟩))=some z:=by
          simp only [aaK,hhp,b1,Option.bind_some]; exact k1
         simp only [hload,Option.bind_some]
         exact hK.pure h1 k2 hs
      ·cases hld
     ·cases hld
    ·cases h1
   ·cases h
 | store t x y =>
   simp only [hop] at h ⊢
   rw [ht.tab]
   split at h
   ·rename_i ti hti
    simp only [hti]
    obtain ⟨e,e',c,h1,h2,_,h4⟩:=Y8 ht hs h
    obtain ⟨v,x',cv,g1,g2,g3,g4⟩:=acb ht hs h1
    obtain ⟨cs,xs,k1,k2,k3,k5⟩:=ahC g1 g2
    rw [h4,g4,k3]
    obtain ⟨ce,cl,ch,g⟩:=g3
    split at k1
    ·rename_i k off
     cases e'<;>simp only [RE] at h2
     obtain ⟨rfl,rfl,_⟩:=h2
     split at k1
     ·rename_i p9 hl
      split at k1
      ·rename_i hb
       have hle:=Nat.le_of_ble_eq_true hb
       obtain ⟨ws,c1,c2,m1,m2,m3,m4⟩:=g.loc.look hl
       obtain ⟨c',n1,n2⟩:=m2.seg k2 hle
       have hb':Nat.ble (off+xs.length) ws.length=true:=by rw [<-k2.len,<-m2.len]; exact hb
       simp only [m1,hb',hhp]
       refine hK w .B8 .B8 _ _ _ (fun _=>0) k1 (by simp [RE]) ⟨ce,fun i=>c' i+c2 i,ch,rfl,g.hw,g.gl,g.fr,g.env,m4 _ _ c' n1,fun j hj=>atu (g.aat j (adP hj)),g.obj,fun i=>?_,fun i hi=>?_,fun i hi=>?_⟩
       ·have:=g.L1 i; have:=m3 i; have:=n2 i; omega
       ·have:=g.O5 i hi; have:=m3 i; have:=n2 i; omega
       ·have:=g.L8 i hi; have:=m3 i; have:=n2 i; omega
      ·cases k1
     ·cases k1
    ·rename_i p0
     cases e'<;>simp only [RE] at h2
     rename_i p
     obtain ⟨H2,hst,k1⟩:=a7 k1
     unfold stO at hst
     split at hst
     ·rename_i k off
      split at hst
      ·rename_i p9 hl
       split at hst
       ·rename_i hb
        cases hst
        have hle:=Nat.le_of_ble_eq_true hb
        obtain ⟨w2,n1,n2⟩:=atD g h2 hl k2 (by simp) hle (k5 (hT.pos _ _ hti))
        simp only [hhp,n1,Option.bind_some]
        exact hK w2 .B8 .B8 _ _ _ (fun _=>0) k1 (by simp [RE]) n2.self
       ·cases hst
      ·cases hst
     ·cases hst
    ·cases k1
   ·cases h
 | nilCheck x =>
   simp only [hop] at h ⊢
   obtain ⟨e,e',c,h1,h2,_,h4⟩:=Y8 ht hs h
   rw [h4]
   split at h1
   ·cases e'<;>simp only [RE] at h2
    obtain ⟨rfl,rfl,_⟩:=h2
    rw [hhp]
    exact hK w _ _ _ _ _ (fun _=>0) h1 (by simp [RE]) hs.self
   ·rename_i p0
    cases e'<;>simp only [RE] at h2
    obtain ⟨v,hv,h1⟩:=a7 h1
    have h2':=h2
    unfold P4 at hv
    split at hv
    ·cases hv
     simp only [RV] at h2
     obtain ⟨⟨b,hb1,rfl⟩,h0⟩:=h2
     simp only [al6,Option.bind_some]
     exact hK.pure h1 (h2'.congr (fun i=>(h0 i).symm)) hs
    ·cases hv
     simp only [RV] at h2
     obtain ⟨rfl,h0⟩:=h2
     simp only [al6,Option.bind_some]
     exact hK.pure h1 (h2'.congr (fun i=>(h0 i).symm)) hs
    ·cases hv
     simp only [RV] at h2
     obtain ⟨⟨b,o',kb,ws,b1,b2,rfl,b3,b4⟩,h0⟩:=h2
     simp only [al6,Option.bind_some]
     exact hK.pure h1 (h2'.congr (fun i=>(h0 i).symm)) hs
    ·cases hv
     simp only [RV] at h2
     obtain ⟨⟨ws,rfl,b1⟩,h0⟩:=h2
     simp only [al6,Option.bind_some]
     exact hK.pure h1 (h2'.congr (fun i=>(h0 i).symm)) hs
    ·cases hv
   ·cases h1
 | binOp op t x y yt =>
   simp only [hop] at h ⊢
   rw [ht.tab]
   split at h
   ·rename_i ti hti
    simp only [hti]
    split at h
    ·rename_i hn
     rw [Bool.and_eq_true,Bool.not_eq_true'] at hn
     obtain ⟨hn,he⟩:=hn
     have e2:∀ a b,agF ti op a b=Q4 ti.k op a b:=fun a b=>by unfold agF; rw [he]
     obtain ⟨hk,rfl⟩:=apM hn
     obtain ⟨a,x',c,h1,h2,_,h4⟩:=A2 ht hs h
     obtain ⟨v,hv,h1⟩:=a7 h1
     obtain ⟨z,k1,k2⟩:=awB hk hv h2
     rw [h4]
     have e:∀ (K2:Value->Option R'),E8 Y s' (.const (.slice none 0 0)) K2=K2 (.slice none 0 0):=fun K2=>rfl
     rw [e,e2,k1]
     exact hK.pure h1 k2 hs
    ·obtain ⟨a,x',c,h1,h2,_,h4⟩:=A2 ht hs h
     obtain ⟨b,y',d,g1,g2,_,g4⟩:=A2 ht hs h1
     obtain ⟨v,hv,g1⟩:=a7 g1
     obtain ⟨z,k1,k2⟩:=atV hv h2 g2
     rw [h4,g4,k1]
     exact hK.pure g1 k2 hs
   ·cases h
 | unOp op t x =>
   simp only [hop] at h ⊢
   obtain ⟨a,x',c,h1,h2,_,h4⟩:=A2 ht hs h
   obtain ⟨v,hv,h1⟩:=a7 h1
   obtain ⟨z,k1,k2⟩:=axb hv h2
   rw [h4,k1]
   exact hK.pure h1 k2 hs
 | convert src dst x =>
   simp only [hop] at h ⊢
   rw [ht.tab]
   split at h
   ·rename_i ts td hts htd
    simp only [hts,htd]
    obtain ⟨a,x',c,h1,h2,_,h4⟩:=A2 ht hs h
    rw [h4]
    split at h1
    ·rename_i k k' hk hk'
     obtain ⟨v,hv,h1⟩:=a7 h1
     obtain ⟨z,k1,k2⟩:=aup hv h2
     simp only [hk,hk',k1,Option.bind_some]
     exact hK.pure h1 k2 hs
    ·rename_i hk hk'
     obtain ⟨v,hv,h1⟩:=a7 h1
     obtain ⟨z,k1,k2⟩:=auU hv h2
     simp only [hk,hk',k1,Option.bind_some]
     exact hK.pure h1 k2 hs
    ·rename_i e b9 eb zz hk hk'
     split at h1
     ·rename_i ti4 hti4
      obtain ⟨v,hv,h1⟩:=a7 h1
      unfold an4 at hv
      split at hv
      ·rename_i l
       cases hv
       simp only [RV] at h2
       obtain ⟨rfl,_⟩:=h2
       simp only [hk,hk',hti4,hhp]
       have hsz:(ByteArray.mk l.toArray).size=l.length:=by simp [ByteArray.size]
       obtain ⟨ce,cl,ch,g⟩:=hs
       obtain ⟨w2,q1,q2,q3⟩:=acW g (atC l) (by simp) 1 false (fun _=>rfl)
       have hb:aaw ⟨l.toArray⟩=l.map fun b=>Value.int .u8 b.toNat:=rfl
       rw [hb,<-q1,hsz]
       refine hK w2 _ _ _ _ _ (fun _=>0) h1 ?_ q2.self
       have e:(l.map fun b=>V.int .u8 (b.toNat:Int)).length=l.length:=by simp
       simp only [RE]
       have:=amv (m:=l.length) (cc:=l.length+1) q1 q3 (by omega)
       rw [<-e] at this ⊢
       simpa using this
      ·cases hv
     ·cases h1
    ·rename_i e b9 eb zz hk hk'
     split at h1
     ·rename_i ti4 hti4
      obtain ⟨v,hv,h1⟩:=a7 h1
      have hs0:=hs
      obtain ⟨ce,cl,ch,g⟩:=hs0
      obtain ⟨z,k1,k2⟩:=av4 g.hw g.obj hv h2
      simp only [hk,hk',hti4,hhp,k1,Option.bind_some]
      rw [<-hhp]
      exact hK.pure h1 k2 hs
     ·cases h1
    ·cases h1
   ·cases h
 | makeFunc fn first captured =>
   simp only [hop] at h ⊢
   cases hz:first.size with
   | zero =>
     simp only [hz] at h ⊢
     split at h
     ·rename_i f
      obtain ⟨vs,xs,c,h1,h2,h4⟩:=adX ht hs h
      simp only [h4]
      exact hK.pure h1 (by simp only [RV]; exact ⟨⟨xs,rfl,c9.strip _ h2⟩,by simp⟩) hs
     ·cases h
   | succ n=>simp only [hz] at h; cases h
 | slice t x lo hi mx =>
   simp only [hop] at h ⊢
   rw [ht.tab]
   split at h
   ·rename_i hti
    simp only [hti]
    obtain ⟨a,x',c,h1,h2,_,h4⟩:=A2 ht hs h
    obtain ⟨l,l',g1,g2,g3⟩:=akQ ht hs h1
    obtain ⟨k,k',m1,m2,m3⟩:=akQ ht hs g1
    rw [h4,g3,m3]
    split at m1
    ·obtain ⟨v,hv,m1⟩:=a7 m1
     obtain ⟨z,k1,k2⟩:=arO hv h2 g2 m2
     simp only [k1,Option.bind_some]
     exact hK.pure m1 k2 hs
    ·cases m1
   ·rename_i e b9 eb zz ag n z2 hti
    simp only [hti]
    obtain ⟨a,x',c,h1,h2,_,h4⟩:=A2 ht hs h
    rw [h4]
    split at h1
    ·obtain ⟨l,l',g1,g2,g3⟩:=akQ ht hs h1
     obtain ⟨k,k',m1,m2,m3⟩:=akQ ht hs g1
     obtain ⟨v,hv,m1⟩:=a7 m1
     obtain ⟨z,k1,k2⟩:=aru hv h2 g2 m2
     rw [g3,m3]
     simp only [voK,hhp,k1,Option.bind_some]
     rw [<-hhp]
     exact hK.pure m1 k2 hs
    ·obtain ⟨l,l',cl',g1,g2,_,g3⟩:=A2 ht hs h1
     obtain ⟨k,k',ck',m1,m2,_,m3⟩:=A2 ht hs g1
     obtain ⟨u,u',cu',n1,n2,_,n3⟩:=A2 ht hs m1
     obtain ⟨xs,hv,n1⟩:=a7 n1
     obtain ⟨z,k1,k2⟩:=arD hv h2 g2 m2 n2
     simp only [voK,g3,m3,n3,hhp,k1,Option.bind_some]
     exact hK w _ _ _ _ _ (fun _=>0) n1 k2 hs.self
    ·cases h1
   ·rename_i na ag n2 z2 hti
    simp only [hti]
    split at h
    ·obtain ⟨a,x',c,h1,h2,_,h4⟩:=A2 ht hs h
     obtain ⟨v,hv,h1⟩:=a7 h1
     have hgl:I1 X w:=by obtain ⟨_,_,_,g⟩:=hs; exact g.gl
     obtain ⟨z,k1,k2⟩:=arA hgl hv h2
     rw [h4]
     simp only [hhp,k1,Option.bind_some]
     rw [<-hhp]
     exact hK.pure h1 k2 hs
    ·cases h
   ·cases h
 | fieldAddr t x f =>
   simp only [hop] at h ⊢
   rw [ht.tab]
   split at h
   ·rename_i fs ag n zz hti
    simp only [hti]
    split at h
    ·rename_i off m ag2 hf
     simp only [hf]
     obtain ⟨e,e',c,h1,h2,_,h4⟩:=Y8 ht hs h
     rw [h4]
     split at h1
     ·cases e'<;>simp only [RE] at h2
      obtain ⟨rfl,rfl,_⟩:=h2
      rw [hhp]
      exact hK w _ _ _ _ _ (fun _=>0) h1 (by simp [RE]) hs.self
     ·cases e'<;>simp only [RE] at h2
      obtain ⟨v,hv,h1⟩:=a7 h1
      obtain ⟨z,k1,k2⟩:=aqU hv h2
      simp only [k1,Option.bind_some]
      exact hK.pure h1 k2 hs
     ·cases h1
    ·cases h
   ·cases h
 | field t x f =>
   simp only [hop] at h ⊢
   rw [ht.tab]
   split at h
   ·rename_i fs ag n zz hti
    simp only [hti]
    split at h
    ·rename_i off m ag2 hf
     simp only [hf]
     obtain ⟨a,x',c,h1,h2,_,h4⟩:=A2 ht hs h
     obtain ⟨cs,hcs,h7⟩:=a7 h1
     clear h1
     rw [h4]
     unfold E6 at hcs
     split at hcs
     ·split at hcs
      ·rename_i hn
       cases hcs
       simp only [RV] at h2
       obtain ⟨ws,rfl,h2⟩:=h2
       have hl:=h2.len
       have hag:ais n (.agg ⟨ws⟩)=some ws:=by simp only [ais]; rw [if_pos (by simp; omega)]
       simp only [hag,Option.bind_some]
       split at h7
       ·obtain ⟨m',hm,h8⟩:=a7 h7
        obtain ⟨ys,p,q,k1,k2,_,_⟩:=h2.cut hm
        have k1':cut ws off m=some ys:=k1
        simp only [k1',Option.bind_some]
        exact hK.pure h8 (by simp only [RV]; exact ⟨ys,rfl,c9.strip _ k2⟩) hs
       ·obtain ⟨m',hm,h8⟩:=a7 h7
        obtain ⟨ys,p,q,k1,k2,_,_⟩:=h2.cut (acB hm)
        simp only [c9] at k2
        obtain ⟨z,zs,p1,p2,rfl,h5,⟨rfl,h6⟩,h9⟩:=k2
        simp only [acu k1,Option.bind_some]
        exact hK.pure h8 (RV.strip _ h5) hs
      ·cases hcs
     ·cases hcs
    ·cases h
   ·cases h
 | indexAddr t x i =>
   simp only [hop] at h ⊢
   rw [ht.tab]
   split at h
   ·rename_i e b9 eb zz ag n z2 hti
    simp only [hti]
    obtain ⟨a,x',c,h1,h2,_,h4⟩:=A2 ht hs h
    obtain ⟨b,y',d,g1,g2,_,g4⟩:=A2 ht hs h1
    obtain ⟨v,hv,g1⟩:=a7 g1
    obtain ⟨z,k1,k2⟩:=av6 hv h2 g2
    rw [h4,g4,k1]
    exact hK.pure g1 k2 hs
   ·rename_i n b9 ag n2 z2 hti
    simp only [hti]
    obtain ⟨a,x',c,h1,h2,_,h4⟩:=A2 ht hs h
    obtain ⟨b,y',d,g1,g2,_,g4⟩:=A2 ht hs h1
    obtain ⟨v,hv,g1⟩:=a7 g1
    obtain ⟨z,k1,k2⟩:=at3 hv h2 g2
    rw [h4,g4,k1]
    exact hK.pure g1 k2 hs
   ·cases h
 | index t x i =>
   simp only [hop] at h ⊢
   rw [ht.tab]
   split at h
   ·rename_i hti
    simp only [hti]
    obtain ⟨a,x',c,h1,h2,_,h4⟩:=A2 ht hs h
    obtain ⟨b,y',d,g1,g2,_,g4⟩:=A2 ht hs h1
    obtain ⟨v,hv,g1⟩:=a7 g1
    obtain ⟨z,k1,k2⟩:=arx hv h2 g2
    rw [h4,g4,k1]
    exact hK.pure g1 k2 hs
   ·rename_i n b9 ag n2 z2 hti
    simp only [hti]
    obtain ⟨a,x',c,h1,h2,_,h4⟩:=A2 ht hs h
    obtain ⟨b,y',d,g1,g2,_,g4⟩:=A2 ht hs h1
    obtain ⟨v,hv,g1⟩:=a7 g1
    obtain ⟨z,k1,k2⟩:=aq7 hv h2 g2
    rw [h4,g4,k1]
    exact hK.pure g1 k2 hs
   ·cases h
 | extract x i =>
   simp only [hop] at h ⊢
   split at h
   ·rename_i t
    obtain ⟨a,x',c,h1,h2,h3,h4⟩:=A2 ht hs h
    obtain ⟨u,hu,h1⟩:=a7 h1
    obtain ⟨z,c1,c2,k1,k2,k3,k4⟩:=awe hu h2
    rw [h4,k1]
    split at h1
    ·obtain ⟨ce,cl,ch,g⟩:=h3
     have hlook:∃ xx,look s'.env t=some (.val xx)/\xx=x':=by
      have:=h4 (EV) (fun v=>some (.val v))
      simp only [E8,W4] at this
      cases e:look s'.env t with
      | none=>rw [e] at this; cases this
      | some q =>
        rw [e] at this
        cases q<;>simp only at this<;>first | (cases this; done) | skip
        cases this; exact ⟨_,rfl,rfl⟩
     obtain ⟨xx,hl,rfl⟩:=hlook
     obtain ⟨c3,m1,m2⟩:=g.env.awM (d:=t)
     have hdel:∀ {l:List (Nat × VE)},S4 (W1 l t) t=S4 l t:=by
      intro l
      induction l with
      | nil=>rfl
      | cons p l ih =>
        obtain ⟨q,v⟩:=p
        by_cases e:q=t
        ·subst e
         have hb:Nat.beq q q=true:=Nat.beq_refl q
         simp only [W1,S4,hb]
        ·simp only [W1,S4,W3 e,ih]
     simp only [Option.bind_some]
     rw [hhp]
     refine hK w (.val u) (.val z) _ _ _ c1 h1 (by simpa only [RE] using k2) ?_
     have m1':B5 w (S4 s.env t) s'.env c3:=by rw [<-hdel]; exact m1
     refine ⟨fun i=>c2 i+c3 i,cl,ch,rfl,g.hw,g.gl,g.fr,?_,g.loc,g.aat,g.obj,fun i=>?_,fun i hi=>?_,fun i hi=>?_⟩
     ·simp only [B5]
      exact ⟨_,c2,c3,hl,by simpa only [RE] using k3,m1',by simp⟩
     ·have:=g.L1 i; have:=k4 i; have:=m2 i; omega
     ·have:=g.O5 i hi; have:=k4 i; have:=m2 i; omega
     ·have:=g.L8 i hi; have:=k4 i; have:=m2 i; omega
    ·exact hK.pure h1 (RV.strip _ k2) hs
   ·cases h
 | call c =>
   simp only [hop] at h ⊢
   rw [ht.tab,ht.kind,ht.ext]
   split at h
   ·-- len
    rename_i hcal
    simp only [hcal]
    split at h
    ·rename_i x t hargs htys
     simp only [hargs,htys]
     split at h
     ·rename_i hti
      simp only [hti]
      obtain ⟨a,x',c',h1,h2,_,h4⟩:=A2 ht hs h
      obtain ⟨v,hv,h1⟩:=a7 h1
      obtain ⟨z,k1,k2⟩:=auh hv h2
      rw [h4,k1]
      exact hK.pure h1 k2 hs
     ·rename_i hti
      simp only [hti]
      obtain ⟨a,x',c',h1,h2,_,h4⟩:=A2 ht hs h
      obtain ⟨v,hv,h1⟩:=a7 h1
      obtain ⟨z,k1,k2⟩:=auz hv h2
      rw [h4,k1]
      exact hK.pure h1 k2 hs
     ·cases h
    ·cases h
   ·-- min
    rename_i hcal
    simp only [hcal]
    split at h
    ·rename_i x y hargs
     simp only [hargs]
     obtain ⟨a,x',c',h1,h2,_,h4⟩:=A2 ht hs h
     obtain ⟨b,y',d,g1,g2,_,g4⟩:=A2 ht hs h1
     obtain ⟨v,hv,g1⟩:=a7 g1
     obtain ⟨z,k1,k2⟩:=av9 hv h2 g2
     rw [h4,g4,k1]
     exact hK.pure g1 k2 hs
    ·cases h
   ·-- append
    rename_i hcal
    simp only [hcal]
    split at h
    ·rename_i x y t u d hargs htys hd
     simp only [hargs,htys,hd]
     split at h
     ·rename_i e b9 eb z ag n zz ku ag2 n2 zz2 hti hui
      obtain ⟨_,_,h0⟩:=hT.sl _ _ _ _ _ _ _ _ hti
      simp only [hti,hui]
      split at h
      ·rename_i b hku
       have fin:∀ {c1 c2 cx:j1} {s2:VS} {xs:List (List V)} {x' y':Value} {yv rv:V} {ce cl ch:j1} {full:Bool},StC X E w s2 s' ce cl ch cx->RV w (.sl true xs) x' c1->(full=true->∃ a,x' = .slice a xs.length xs.length)->RV w yv y' c2->(∀ i,c1 i+c2 i<=cx i) →
        I5 b b9 eb xs yv=some rv->K (.val rv) s2 (ayo full)=some r →
        ∃ w2 x2,R8 full s'.hp b9 eb x' y'=some (x2,w2)/\adl b y'=some y'/\∃ r',K' (.val x2) s'.loc w2 (ayo full)=some r'/\Q r':=by
        intro c1 c2 cx s2 xs x' y' yv rv ce cl ch full g hx hf hy hc ha hk
        obtain ⟨w2,x2,c',k1,k2,k3,k4⟩:=aqL g hx hf hy hc ha h0
        rw [hhp]
        exact ⟨w2.hp,x2,k1,k2,hK w2 (.val rv) (.val x2) s2 s'.loc _ c' hk (by simpa only [RE] using k4) ⟨ce,cl,ch,k3⟩⟩
       split at h
       ·rename_i hm
        simp only [hm]
        obtain ⟨e1,e1',c1,h1,h2,h3,h4⟩:=Y8 ht hs h
        obtain ⟨yv,y',c2,g1,g2,g3,g4⟩:=acb ht h3 h1
        split at g1
        ·rename_i xs
         cases e1'<;>simp only [RE] at h2
         rename_i x'
         obtain ⟨rv,ha,g1⟩:=a7 g1
         obtain ⟨ce,cl,ch,g⟩:=g3
         obtain ⟨w2,x2,k1,k2,r',k3,k4⟩:=fin (full:=true) g h2.1 (fun _=>h2.2) g2 (by simp) ha g1
         have g4':∀ (R':Type) (K':Value->Option R'),E8 Y s' y K'=K' y':=g4
         have h4':∀ (K':Value->Option R'),E8 Y s' x K'=K' x':=fun K'=>by unfold E8; rw [h4]
         cases ku<;>simp only at hku<;>first | (cases hku; done) | skip
         ·cases hku
          dsimp only
          rw [h4',g4']
          simp only [adl] at k2
          simp only [R8] at k1
          simp only [k2,Option.bind_some,k1]
          exact ⟨r',k3,k4⟩
         ·cases hku
          dsimp only
          rw [h4',g4']
          simp only [adl] at k2
          simp only [R8] at k1
          simp only [k2,Option.bind_some,k1]
          exact ⟨r',k3,k4⟩
        ·cases g1
       ·rename_i hm
        simp only [hm]
        split at h
        ·obtain ⟨sv,x',c1,h1,h2,h3,h4⟩:=acb ht hs h
         obtain ⟨yv,y',c2,g1,g2,g3,g4⟩:=acb ht h3 h1
         obtain ⟨⟨rv,H2⟩,ha,g6⟩:=a7 g1
         obtain ⟨ce,cl,ch,g⟩:=g3
         obtain ⟨w2,x2,c',k1,k2,k3,k4⟩:=auW g h2 g2 (by simp) ha h0
         have hfin:=hK w2 (.val rv) (.val x2) _ s'.loc _ c' g6 (by simpa only [RE] using k4) k3
         obtain ⟨r',q3,q4⟩:=hfin
         cases ku<;>simp only at hku<;>first | (cases hku; done) | skip
         ·cases hku
          dsimp only
          rw [h4,g4]
          simp only [adl] at k2
          simp only [R8] at k1
          simp only [k2,Option.bind_some,hhp,k1]
          exact ⟨r',q3,q4⟩
         ·cases hku
          dsimp only
          rw [h4,g4]
          simp only [adl] at k2
          simp only [R8] at k1
          simp only [k2,Option.bind_some,hhp,k1]
          exact ⟨r',q3,q4⟩
        obtain ⟨sv,x',c1,h1,h2,h3,h4⟩:=acb ht hs h
        obtain ⟨yv,y',c2,g1,g2,g3,g4⟩:=acb ht h3 h1
        obtain ⟨xs,hxs,g5⟩:=a7 g1
        obtain ⟨rv,ha,g6⟩:=a7 g5
        clear g5 g1
        have hsv:sv = .sl true xs:=by
         unfold Z6 at hxs
         split at hxs
         ·cases hxs; rfl
         ·cases hxs
        subst hsv
        obtain ⟨ce,cl,ch,g⟩:=g3
        obtain ⟨w2,x2,k1,k2,r',k3,k4⟩:=fin (full:=false) g h2 (fun q=>by cases q) g2 (by simp) ha g6
        cases ku<;>simp only at hku<;>first | (cases hku; done) | skip
        ·cases hku
         dsimp only
         rw [h4,g4]
         simp only [adl] at k2
         simp only [R8] at k1
         simp only [k2,Option.bind_some,k1]
         exact ⟨r',k3,k4⟩
        ·cases hku
         dsimp only
         rw [h4,g4]
         simp only [adl] at k2
         simp only [R8] at k1
         simp only [k2,Option.bind_some,k1]
         exact ⟨r',k3,k4⟩
      ·cases h
     ·cases h
    ·cases h
   ·-- a known function
    rename_i f hcal
    simp only [hcal]
    split at h
    ·rename_i hk
     simp only [hk]
     obtain ⟨vs,s2,xs,c1,h1,h2,h3,h4⟩:=aj9 ht hs h
     obtain ⟨⟨rv,H'⟩,hr,h1⟩:=a7 h1
     obtain ⟨x,w2,cr,q1,q2,q3⟩:=amT hcall h3 h2 (by simp) hr
     rw [h4,hhp,q1]
     exact hK w2 _ _ _ _ _ cr h1 (by simp only [RE]; exact q2) q3
    ·rename_i hk
     simp only [hk]
     obtain ⟨vs,xs,c1,h1,h2,h4⟩:=adX ht hs h
     split at h1
     ·split at h1
      ·obtain ⟨rv,hr,h1⟩:=a7 h1
       obtain ⟨x,q1,q2⟩:=apZ hT hcall hs h2 hr
       rw [h4,q1]
       exact hK.pure h1 q2 hs
      ·obtain ⟨rv,hr,h1⟩:=a7 h1
       obtain ⟨x,q1,q2⟩:=apO hT hcall hs h2 hr
       rw [h4,q1]
       exact hK.pure h1 q2 hs
     ·obtain ⟨rv,hr,h1⟩:=a7 h1
      obtain ⟨x,q1,q2⟩:=agK hT hcall hs h2 hr
      rw [h4,q1]
      exact hK.pure h1 q2 hs
    ·rename_i hk
     simp only [hk]
     obtain ⟨vs,xs,c1,h1,h2,h4⟩:=adX ht hs h
     rw [h4]
     split at h1
     ·split at h1
      ·obtain ⟨rv,hr,h1⟩:=a7 h1
       exact auJ hT hcall hK hs h2 hr h1
      obtain ⟨rv,hr,h1⟩:=a7 h1
      have came:aor Y w f xs rv:=by
       unfold ahA at hr
       split at hr
       ·exact apU hT hcall hs h2 hr
       ·exact apX hT hcall hs h2 hr
      obtain ⟨x,hp2,fb,fb2,rho2,cr,q1,q2,q3,q4,q5,q6,q7,q9,q10⟩:=came
      split at h1
      ·unfold agI at h1
       split at h1
       ·rename_i hown
        exact apl hK hs hown h1 q1 q2 q3 q4 q5 q6 q7 q9 q10
       ·cases h1
      ·split at h1
       ·unfold agI at h1
        split at h1
        ·rename_i hown
         exact apl hK hs hown h1 q1 q2 q3 q4 q5 q6 q7 q9 q10
        ·cases h1
       ·exact an9 hK hs h1 q1 q2 q3 q4 q5 q6 q7 q9 q10
     ·obtain ⟨rv,hr,h1⟩:=a7 h1
      obtain ⟨x,hp2,fb,fb2,rho2,cr,q1,q2,q3,q4,q5,q6,q7,q9,q10⟩:=aly hT hcall hs h2 hr
      exact an9 hK hs h1 q1 q2 q3 q4 q5 q6 q7 q9 q10
    ·rename_i n hk
     simp only [hk]
     obtain ⟨vs,xs,c1,h1,h2,h4⟩:=adX ht hs h
     obtain ⟨az,has,h5⟩:=a7 h1
     obtain ⟨y,hy,h6⟩:=a7 h5
     obtain ⟨v,hv,h7⟩:=a7 h6
     clear h1 h5 h6
     rw [h4]
     have:xs=az:=by
      have:∀ {vs:List V} {xs az:List Value} {c:j1},c9 w vs xs c->vs.mapM Z0=some az->xs=az:=by
       intro vs
       induction vs with
       | nil=>intro xs az c h h2; simp only [c9] at h; simp at h2; rw [h.1,h2]
       | cons a vs ih =>
         intro xs az c h h2
         simp only [c9] at h
         obtain ⟨x,ys,c1,c2,rfl,k1,k2,k3⟩:=h
         rw [List.mapM_cons] at h2
         obtain ⟨p,p1,h2⟩:=a7 h2
         obtain ⟨q,q1,h2⟩:=a7 h2
         cases h2
         rw [akK k1 p1,ih k2 q1]
      exact this h2 has
     subst this
     rw [hy]
     exact hK.pure h7 (apg hv) hs
   ·-- a function value
    rename_i x hne hcal
    obtain ⟨fv,fv',cf,h1,h2,_,h4⟩:=A2 ht hs h
    obtain ⟨vs,xs,c1,g1,g2,g4⟩:=adX ht hs h1
    obtain ⟨⟨f,caps⟩,hf,g5⟩:=a7 g1
    have hfv:fv = .fn f caps:=by
     unfold agh at hf
     split at hf
     ·cases hf; rfl
     ·cases hf
    clear g1 h1 h
    subst hfv
    simp only [RV] at h2
    obtain ⟨⟨ws,rfl,hcap⟩,_⟩:=h2
    have hcal':callee (.func (.func f) #[] ⟨ws⟩)=some (f,ws):=rfl
    have key:∃ r',(E8 Y s' x fun fv=>ab8 Y s' c.args.toList fun vs=>(callee fv).bind fun p=>match A.o6 with
     | true=>(U3 Y.call p.1 (vs++p.2) s'.hp).bind fun v=>K' (.val v) s'.loc s'.hp .H
     | false=>(Y.call p.1 (vs++p.2) s'.hp).bind fun r=>K' (.val r.1) s'.loc r.2 .W)=some r'/\Q r':=by
     rw [h4,g4]
     simp only [hcal',Option.bind_some]
     have hall:=g2.app hcap
     split at g5
     ·rename_i hq
      obtain ⟨rv,hr,g6⟩:=a7 g5
      obtain ⟨x2,q1,q2⟩:=agK hT hcall hs hall hr
      simp only [hq,q1,Option.bind_some]
      exact hK.pure g6 q2 hs
     ·rename_i hq
      obtain ⟨⟨rv,H'⟩,hr,g6⟩:=a7 g5
      obtain ⟨x2,w2,cr,q1,q2,q3⟩:=amT hcall hs (c9.strip _ hall) (by simp) hr
      try simp only [hq]
      rw [hhp,q1]
      exact hK w2 _ _ _ _ _ cr g6 (by simp only [RE]; exact q2) q3
    cases x with
    | func f=>exact absurd rfl (hne f)
    | _=>simp only [hcal]; exact key
   ·cases h
 | makeSlice t l c =>
   simp only [hop] at h ⊢
   rw [ht.tab]
   split at h
   ·rename_i e b9 eb z ag n zz hti
    simp only [hti]
    obtain ⟨q1,q2,q3⟩:=hT.sl _ _ _ _ _ _ _ _ hti
    obtain ⟨vl,xl,cl',h1,h2,_,h4⟩:=A2 ht hs h
    obtain ⟨vc,xc,cc',g1,g2,_,g4⟩:=A2 ht hs h1
    obtain ⟨m,hm,g5⟩:=a7 g1
    clear g1 h1 h
    rw [h4,g4]
    have hm':anL eb xl xc=some m:=by
     unfold ah7 at hm
     split at hm
     ·simp only [RV] at h2 g2
      rw [h2.1,g2.1]
      exact hm
     ·cases hm
    simp only [hm',Option.bind_some]
    obtain ⟨ce,cl,ch,g⟩:=hs
    obtain ⟨w2,k1,k2,k3⟩:=acW g (amq (X7 (w:=w) q1) m.2) (by simp) b9 true (fun h=>by cases h)
    rw [hhp,<-k1]
    exact hK w2 _ _ _ _ _ (fun _=>0) g5 (by simp only [RE]; exact amv k1 k3 q3) k2.self
   ·cases h
 | _=>simp only [hop] at h; cases h
end
end Go.AM

/- Code: the machine of values and the abstract machine side by side. -/
namespace Go.AM
set_option linter.unusedSimpArgs false
set_option linter.unusedVariables false
def St0 (X:XV) (E:En) (s:VS) (s':St):Prop:=∃ w,E4 X E w s s' (fun _=>0)
def adO (X:XV) (E:En) (vs:List V) (H:VH) (xs:List Value) (hp:Heap):Prop :=
 ∃ (w:Wd) (cv ch:j1),hp=w.hp/\HW w/\I1 X w/\D8 E w/\c9 w vs xs cv/\p8 w H w.g8 ch/\(∀ i,cv i+ch i<=1)/\(∀ i,i<E.hp.length->cv i+ch i<=E.c0 i)/\(∀ i,w.hp.length<=i->cv i+ch i=0)
theorem amN {X:XV} {E:En} {w:Wd} {s:VS} {env:List (Nat × EV)} {loc:List (Nat × List Value)} {ce:j1} {e:VE} {e':EV} (hs:E4 X E w s ⟨env,loc,w.hp⟩ ce) (hr:RE w e e' ce) (d:Option Nat) :
 E4 X E w { s with env:=aoQ s.env d e } ⟨adi env d e',loc,w.hp⟩ (fun _=>0):=by
 cases d with
 | none=>exact hs.less (by simp)
 | some d =>
   obtain ⟨c1,cl,ch,g⟩:=hs
   obtain ⟨c2,h1,h2⟩:=g.env.del (d:=d) (x:=e')
   refine ⟨fun i=>ce i+c2 i,cl,ch,rfl,g.hw,g.gl,g.fr,?_,g.loc,g.aat,g.obj,fun i=>?_,fun i hi=>?_,fun i hi=>?_⟩
   ·simp only [aoQ,adi,B5]
    exact ⟨e',ce,c2,by rw [j7,if_pos rfl],hr,h1,by simp⟩
   ·have:=g.L1 i; have:=h2 i; omega
   ·have:=g.O5 i hi; have:=h2 i; omega
   ·have:=g.L8 i hi; have:=h2 i; omega
theorem amY {S:Type} {v:V} {p q:Option S} {a:S} (hh:j5 v p q=some a):(v = .bool true/\p=some a)\/(v = .bool false/\q=some a)\/(v = .ub/\p=some a/\q=some a):=by
 unfold j5 at hh
 split at hh
 ·exact .inl ⟨rfl,hh⟩
 ·exact .inr (.inl ⟨rfl,hh⟩)
 ·unfold aiz at hh
  split at hh
  ·rename_i e; exact .inr (.inr ⟨rfl,hh,by rw [<-e]; exact hh⟩)
  ·cases hh
 ·cases hh
theorem abH {S:Type} {v:V} {p q:Option S} {a:S} (hh:j8 v p q=some a):(v = .bool true/\p=some a)\/(v = .bool false/\q=some a):=by
 unfold j8 at hh
 split at hh
 ·exact .inl ⟨rfl,hh⟩
 ·exact .inr ⟨rfl,hh⟩
 ·cases hh
section
variable {X:XV} {Y:Ctx} {A:P8} {T:List Nat} {E:En}
theorem St0.bool {s:VS} {s':St} (hs:St0 X E s s') (d:Nat) (b:Bool):St0 X E { s with env:=(d,.val (.bool b))::S4 s.env d } { s' with env:=(d,.val (.bool b))::s'.env }:=by
 obtain ⟨w,h⟩:=hs
 have:=amN (e := .val (.bool b)) (e' := .val (.bool b)) h.self (by simp [RE,RV]) (some d)
 refine ⟨w,?_⟩
 have hh:=h.hp
 obtain ⟨env,loc,hp⟩:=s'
 simp only at hh
 subst hh
 exact this
theorem aso {R R':Type} {r:R} {Q:R'->Prop} {ops:Array Oper} {o:Oper} {s:VS} {s':St} (hs:St0 X E s s') {run pass:List (Nat × VE)->Option R} {run' pass':List (Nat × EV)->Option R'}
 (h:V4 ops o s.env run pass=some r) (h1:∀ e e',run e=some r->St0 X E { s with env:=e } { s' with env:=e' }->∃ r',run' e'=some r'/\Q r') (h2:∀ e e',pass e=some r->St0 X E { s with env:=e } { s' with env:=e' }->∃ r',pass' e'=some r'/\Q r') :
 ∃ r',N5 ops o s'.env run' pass'=some r'/\Q r':=by
 unfold V4 at h
 unfold N5
 split at h
 ·rename_i hg
  simp only [hg]
  exact h1 _ _ h hs
 ·rename_i j want hg
  simp only [hg]
  split at h
  ·cases h
  ·rename_i d hd
   simp only [hd]
   split at h
   ·rename_i v hl
    obtain ⟨w,ce,cl,ch,g⟩:=hs
    obtain ⟨x,c1,c2,k1,k2,_,_⟩:=g.env.look hl
    cases x<;>simp only [RE] at k2
    rename_i x
    have hs':St0 X E s s':=⟨w,ce,cl,ch,g⟩
    rw [k1]
    split at h
    ·rcases abH h with ⟨rfl,h⟩ | ⟨rfl,h⟩
     ·simp only [RV] at k2
      simp only [k2.1,S3]
      exact h1 _ _ h (hs'.bool d true)
     ·simp only [RV] at k2
      simp only [k2.1,S3]
      exact h2 _ _ h (hs'.bool d false)
    ·rcases abH h with ⟨rfl,h⟩ | ⟨rfl,h⟩
     ·simp only [RV] at k2
      simp only [k2.1,S3]
      exact h2 _ _ h (hs'.bool d true)
     ·simp only [RV] at k2
      simp only [k2.1,S3]
      exact h1 _ _ h (hs'.bool d false)
   ·rename_i hl
    obtain ⟨w,ce,cl,ch,g⟩:=hs
    obtain ⟨x,c1,c2,k1,k2,_,_⟩:=g.env.look hl
    cases x<;>simp only [RE] at k2
    rw [k1]
    exact h2 _ _ h ⟨w,ce,cl,ch,g⟩
   ·cases h
theorem aiZ (ht:Twin X Y) (hT:aaX X) (hcall:∀ f args H r H',X.call f args H=some (r,H')->C4 X Y.call f args H r H') {R R':Type} {r:R} {Q:R'->Prop} {ops:Array Oper} :
 ∀ {os:List Oper} {cl:List B4} {s:VS} {s':St} {K:List B4->VS->Option R} {K':List B4->St->Option R'},St0 X E s s'->afo X A T ops os cl s K=some r →
   (∀ cl s s',K cl s=some r->St0 X E s s'->∃ r',K' cl s'=some r'/\Q r')->∃ r',aas Y A ops os cl s' K'=some r'/\Q r'
 | [],cl,s,s',K,K',hs,h,hK=>hK _ _ _ h hs
 | o::os,cl,s,s',K,K',hs,h,hK=>by
   simp only [afo] at h
   simp only [aas]
   refine aso hs h (fun e e' hr hs2=>?_) (fun e e' hp hs2=>?_)
   ·obtain ⟨w,hs2⟩:=hs2
    refine axW ht hT hcall hs2 hr ?_
    intro w2 ev ev' s2 loc c ce hk hre hst
    exact aiZ ht hT hcall ⟨w2,amN hst hre o.dst⟩ hk hK
   ·refine aiZ ht hT hcall ?_ hp hK
    obtain ⟨w,hs2⟩:=hs2
    have hh:=hs2.hp
    simp only at hh
    have:=amN (e := .B8) (e' := .B8) hs2.self (by simp [RE]) o.dst
    refine ⟨w,?_⟩
    rw [<-hh] at this
    exact this
theorem ak0 {t u:Nat} (h:u ≠ t):∀ {l:List (Nat × VE)},look (W1 l t) u=look l u
 | []=>rfl
 | (k,v)::l=>by
   by_cases e:k=t
   ·subst e
    have hb:Nat.beq k k=true:=Nat.beq_refl k
    simp only [W1,hb]
    rw [j7,j7,if_neg h,if_neg h]
   ·simp only [W1,W3 e]
    rw [j7,j7]
    split
    ·rfl
    ·exact ak0 h
theorem agU {R:Type} {t:Nat} {l:List (Nat × VE)}:∀ {ss:List Nat} {K:List V->Option R},t ∉ ss->aaa (W1 l t) ss K=aaa l ss K
 | [],K,h=>rfl
 | s::ss,K,h=>by
   simp only [aaa]
   rw [ak0 (fun e=>h (by simp [e]))]
   split
   ·exact agU (fun hm=>h (by simp [hm]))
   ·exact agU (fun hm=>h (by simp [hm]))
   ·rfl
theorem aox {w:Wd} {ae:List (Nat × EV)} {R:Type} {r:R}:∀ {ss:List Nat} {l:List (Nat × VE)} {ce:j1} {K:List V->Option R},ss.Nodup->B5 w l ae ce->aaa l ss K=some r →
 ∃ vs xs c,K vs=some r/\c9 w vs xs c/\(∀ i,c i<=ce i)/\vs.length=ss.length/\∀ (R':Type) (K':List Value->Option R'),ab2 ae ss K'=K' xs
 | [],l,ce,K,nd,he,h=>⟨[],[],fun _=>0,h,by simp [c9],by simp,rfl,fun _ _=>rfl⟩
 | s::ss,l,ce,K,nd,he,h=>by
   simp only [aaa] at h
   simp at nd
   have key:∀ {v:V} {x:Value} {e:VE} {c1 c2:j1} {K2:List V->Option R},look ae s=some (.val x)->RV w v x c1->B5 w (W1 l s) ae c2->(∀ i,ce i=c1 i+c2 i)->aaa l ss (fun vs=>K (v::vs))=some r →
    ∃ vs xs c,K vs=some r/\c9 w vs xs c/\(∀ i,c i<=ce i)/\vs.length=(s::ss).length/\∀ (R':Type) (K':List Value->Option R'),ab2 ae (s::ss) K'=K' xs:=by
    intro v x e c1 c2 K2 h1 h2 h3 h4 h5
    rw [<-agU (t:=s) nd.1] at h5
    obtain ⟨vs,xs,c,g1,g2,g3,g4,g5⟩:=aox nd.2 h3 h5
    refine ⟨v::vs,x::xs,fun i=>c1 i+c i,g1,⟨x,xs,c1,c,rfl,h2,g2,by simp⟩,fun i=>by have:=g3 i; have:=h4 i; show c1 i+c i<=ce i; omega,by simp [g4],fun R' K'=>by simp only [ab2,h1,g5]⟩
   split at h
   ·rename_i v hl
    obtain ⟨x,c1,c2,h1,h2,h3,h4⟩:=he.look hl
    cases x<;>simp only [RE] at h2
    exact key (e := .B8) (K2:=K) h1 h2 h3 h4 h
   ·rename_i ys hl
    obtain ⟨x,c1,c2,h1,h2,h3,h4⟩:=he.look hl
    cases x<;>simp only [RE] at h2
    exact key (e := .B8) (K2:=K) h1 h2.1 h3 h4 h
   ·cases h
theorem atA {w:Wd} {ae:List (Nat × EV)}:∀ {ls:List (Nat × Nat × Nat)} {l:List (Nat × VE)} {ce:j1},B5 w l ae ce->anC l ls=true->amH ae ls=true
 | [],l,ce,he,h=>rfl
 | (s,k,o)::ls,l,ce,he,h=>by
   simp only [anC] at h
   split at h
   ·rename_i k' o' hl
    obtain ⟨x,c1,c2,h1,h2,h3,h4⟩:=he.look hl
    cases x<;>simp only [RE] at h2
    obtain ⟨rfl,rfl,_⟩:=h2
    simp only [Bool.and_eq_true] at h
    simp only [amH,h1,Bool.and_eq_true]
    exact ⟨h.1,atA he h.2⟩
   ·cases h
theorem alz {k j:Nat} (h:j ≠ k) {cs:List V}:∀ {l:List (Nat × List V)},look (O1 l k cs) j=look l j
 | []=>rfl
 | (q,v)::l=>by
   by_cases e:q=k
   ·subst e
    have hb:Nat.beq q q=true:=Nat.beq_refl q
    simp only [O1,hb]
    rw [j7,j7,if_neg h,if_neg h]
   ·simp only [O1,W3 e]
    rw [j7,j7]
    split
    ·rfl
    ·exact alz h
theorem asP {R:Type} {k:Nat} {d:List V} {l:List (Nat × List V)}:∀ {ks:List (Nat × Nat)} {K:List V->Option R},k ∉ ks.map (·.1)->csV (O1 l k d) ks K=csV l ks K
 | [],K,h=>rfl
 | (j,n)::ks,K,h=>by
   simp only [csV]
   rw [alz (fun e=>h (by simp [e]))]
   split
   ·split
    ·exact asP (fun hm=>h (by simp at hm ⊢; exact .inr hm))
    ·rfl
   ·rfl
theorem ahp {k:Nat} {ws:List Value}:∀ {l:List (Nat × List Value)},look l k=some ws->X6 l k ws=l
 | [],h=>rfl
 | (q,v)::l,h=>by
   by_cases e:q=k
   ·subst e
    have hb:Nat.beq q q=true:=Nat.beq_refl q
    simp only [look,hb] at h
    cases h; simp only [X6,hb]
   ·simp only [look,W3 e] at h
    simp only [X6,W3 e,ahp h]
theorem as4 {w:Wd} {al:List (Nat × List Value)} {R:Type} {r:R}:∀ {ks:List (Nat × Nat)} {l:List (Nat × List V)} {cl:j1} {K:List V->Option R},(ks.map (·.1)).Nodup->K4 w l al cl->csV l ks K=some r →
 ∃ vs xs c,K vs=some r/\c9 w vs xs c/\(∀ i,c i<=cl i)/\vs.length=total ks/\∀ (R':Type) (K':List Value->Option R'),csK al ks K'=K' xs
 | [],l,cl,K,nd,he,h=>⟨[],[],fun _=>0,h,by simp [c9],by simp,rfl,fun _ _=>rfl⟩
 | (k,n)::ks,l,cl,K,nd,he,h=>by
   simp only [csV] at h
   simp only [List.map_cons,List.nodup_cons] at nd
   split at h
   ·rename_i cs hl
    split at h
    ·rename_i hb
     obtain ⟨ws,c1,c2,h1,h2,h3,h4⟩:=he.look hl
     have h5:=h4 _ _ _ (c9.strip _ h2)
     rw [ahp h1] at h5
     rw [<-asP (k:=k) (d:=m8 cs) nd.1] at h
     obtain ⟨vs,xs,c,g1,g2,g3,g4,g5⟩:=as4 nd.2 h5 h
     have hn:=Nat.eq_of_beq_eq_true hb
     have hb':Nat.beq ws.length n=true:=by rw [<-h2.len]; exact hb
     exact ⟨cs++vs,ws++xs,_,g1,h2.app g2,fun i=>by have:=g3 i; have:=h3 i; omega,by simp only [List.length_append,total,g4]; omega,fun R' K'=>by simp only [csK,h1,hb',g5]⟩
    ·cases h
   ·cases h
theorem ajx {kp:G4} (h:aiS kp=true):ac5 kp=true/\(kp.cs.map (·.1)).Nodup/\kp.vs.Nodup/\(kp.ls.map (·.1)).Nodup/\∀ x ∈ kp.ls,mem kp.vs x.1=false:=by
 unfold aiS at h
 simp only [Bool.and_eq_true,decide_eq_true_eq,List.all_eq_true] at h
 obtain ⟨⟨⟨⟨h1,h2⟩,h3⟩,h4⟩,h5⟩:=h
 refine ⟨?_,h2,h3,h4,fun x hx=>by have:=h5 x hx; simpa using this⟩
 unfold ac5
 simp only [Bool.and_eq_true]
 exact ⟨h1,by simpa using h2⟩
theorem agH {R:Type} {r:R} {kp:G4} {s:VS} {s':St} (hs:St0 X E s s') {K:List V->VH->Option R} (h:aaU kp s K=some r) :
 ∃ vs xs,K vs s.H=some r/\adO X E vs s.H xs s'.hp/\∀ (R':Type) (K':List Value->Heap->Option R'),N8 kp s' K'=K' xs s'.hp:=by
 unfold aaU at h
 split at h
 ·rename_i hk
  simp only [Bool.and_eq_true] at hk
  obtain ⟨k1,k2,k3,k4,k5⟩:=ajx hk.1
  obtain ⟨w,ce,cl,ch,g⟩:=hs
  obtain ⟨vs,xs,c,h1,h2,h3,h4,h5⟩:=aox k3 g.env h
  obtain ⟨us,ys,d,g1,g2,g3,g4,g5⟩:=as4 k2 g.loc h1
  refine ⟨vs++us,xs++ys,g1,⟨w,_,ch,g.hp,g.hw,g.gl,g.fr,h2.app g2,g.obj,fun i=>?_,fun i hi=>?_,fun i hi=>?_⟩,fun R' K'=>?_⟩
  ·have:=g.L1 i; have:=h3 i; have:=g3 i; omega
  ·have:=g.O5 i hi; have:=h3 i; have:=g3 i; omega
  ·have:=g.L8 i hi; have:=h3 i; have:=g3 i; omega
  ·simp only [N8,atA g.env hk.2,h5,g5]
 ·cases h
theorem ans {a:Nat}:∀ {l:List Nat},mem l a=false->a ∉ l
 | [],_=>by simp
 | b::l,h=>by
   simp only [mem] at h
   split at h
   ·cases h
   ·rename_i hb
    intro hm
    rcases List.mem_cons.1 hm with e | hm
    ·rw [e,Nat.beq_refl] at hb; cases hb
    ·exact ans h hm
theorem c9.head {w:Wd} {vs:List V} {xs:List Value} {d:j1} {i:Nat} (hi:i<vs.length) (h:c9 w (vs.drop i) (xs.drop i) d):∃ a b,RV w (vs.getD i .b7) (xs.getD i undef) a/\c9 w (vs.drop (i+1)) (xs.drop (i+1)) b/\∀ j,d j=a j+b j:=by
 rw [List.drop_eq_getElem_cons hi] at h
 simp only [c9] at h
 obtain ⟨x,ys,a,b,h1,h2,h3,h4⟩:=h
 have hx:xs[i]? = some x:=by
  have:(xs.drop i)[0]? = some x:=by rw [h1]; rfl
  simpa using this
 have hy:xs.drop (i+1)=ys:=by rw [<-List.drop_drop,h1]; rfl
 refine ⟨a,b,?_,by rw [hy]; exact h3,h4⟩
 rw [List.getD_eq_getElem?_getD,List.getD_eq_getElem?_getD,hx,List.getElem?_eq_getElem hi]; exact h2
theorem anY {w:Wd} {vs:List V} {xs:List Value} {ae:List (Nat × EV)}:∀ {ss:List Nat} {i:Nat} {d:j1},c9 w (vs.drop i) (xs.drop i) d->i+ss.length<=vs.length->(∀ (j s:Nat),ss[j]? = some s->look ae s=some (.val (xs.getD (i+j) undef))) →
 ∃ c1 c2,B5 w (ait i ss vs) ae c1/\c9 w (vs.drop (i+ss.length)) (xs.drop (i+ss.length)) c2/\∀ j,c1 j+c2 j=d j
 | [],i,d,hd,hl,ha=>⟨fun _=>0,d,by simp [ait,B5],by simpa using hd,by simp⟩
 | s::ss,i,d,hd,hl,ha=>by
   simp at hl
   obtain ⟨a,b,h1,h2,h3⟩:=hd.head (i:=i) (by omega)
   obtain ⟨c1,c2,g1,g2,g3⟩:=anY (ss:=ss) (i:=i+1) h2 (by omega) (fun j t ht=>by have:=ha (j+1) t (by simpa using ht); rw [this]; congr 3; omega)
   refine ⟨fun j=>a j+c1 j,c2,?_,by rw [List.length_cons,show i+(ss.length+1)=i+1+ss.length by omega]; exact g2,fun j=>by have:=g3 j; have:=h3 j; show a j+c1 j+c2 j=d j; omega⟩
   simp only [ait,B5]
   exact ⟨_,a,c1,ha 0 s (by simp),by simp only [RE]; exact h1,g1,by simp⟩
theorem aoN {w:Wd} {vs:List V} {xs:List Value}:∀ {ks:List (Nat × Nat)} {i:Nat} {d:j1} {al:List (Nat × List Value)},(ks.map (·.1)).Nodup->c9 w (vs.drop i) (xs.drop i) d->i+total ks<=vs.length->i+total ks<=xs.length->(∀ k n,look (L5 i ks xs) k=some n->look al k=some n)->(∀ p ∈ ks,(look (L5 i ks xs) p.1).isSome=true) →
 ∃ c1,K4 w (ab4 i ks vs) al c1/\∀ j,c1 j<=d j
 | [],i,d,al,nd,hd,hl,hl2,ha,hm=>⟨fun _=>0,by simp [ab4,K4],by simp⟩
 | (k,n)::ks,i,d,al,nd,hd,hl,hl2,ha,hm=>by
   simp only [List.map_cons,List.nodup_cons] at nd
   simp only [total] at hl hl2
   have e1:vs.drop i=(vs.drop i).take n++vs.drop (i+n):=by rw [<-List.drop_drop,List.take_append_drop]
   rw [e1] at hd
   obtain ⟨ys,zs,a,b,h1,h2,h3,h4⟩:=hd.split
   have hyl:=h2.len
   rw [List.length_take,List.length_drop,Nat.min_eq_left (by omega)] at hyl
   have hys:ys=(xs.drop i).take n:=by rw [h1,hyl,List.take_left]
   have hzs:zs=xs.drop (i+n):=by rw [<-List.drop_drop,h1,hyl,List.drop_left]
   subst hzs
   have hne:∀ k' v,look (L5 (i+n) ks xs) k'=some v->k' ≠ k:=fun k' v h e=>by
    subst e
    have:∀ {ks:List (Nat × Nat)} {i:Nat},k' ∉ ks.map (·.1)->look (L5 i ks xs) k'=none:=by
     intro ks
     induction ks with
     | nil=>intro i _; rfl
     | cons p ks ih =>
       intro i hn
       obtain ⟨q,m⟩:=p
       simp only [List.map_cons,List.mem_cons,not_or] at hn
       simp only [L5]
       rw [j7,if_neg hn.1]; exact ih hn.2
    rw [this nd.1] at h; cases h
   have memv:∀ {ks:List (Nat × Nat)} {i:Nat},k ∉ ks.map (·.1)->look (ab4 i ks vs) k=none:=by
    intro ks
    induction ks with
    | nil=>intro i _; rfl
    | cons p ks ih =>
      intro i hn
      obtain ⟨q,m⟩:=p
      simp only [List.map_cons,List.mem_cons,not_or] at hn
      simp only [ab4]
      rw [j7,if_neg hn.1]; exact ih hn.2
   have somev:∀ {ks:List (Nat × Nat)} {i:Nat},∀ p ∈ ks,(look (L5 i ks xs) p.1).isSome=true:=by
    intro ks
    induction ks with
    | nil=>intro i p hp; cases hp
    | cons q ks ih =>
      intro i p hp
      obtain ⟨q,m⟩:=q
      simp only [L5]
      rw [j7]
      split
      ·rfl
      ·rename_i hq
       rcases List.mem_cons.1 hp with rfl | hp
       ·exact absurd rfl hq
       ·exact ih p hp
   obtain ⟨c1,g1,g2⟩:=aoN (ks:=ks) (i:=i+n) (al:=al) nd.2 h3 (by omega) (by omega) (fun k' v h=>ha k' v (by simp only [L5]; rw [j7,if_neg (hne k' v h)]; exact h)) somev
   refine ⟨fun j=>a j+c1 j,?_,fun j=>by have:=g2 j; have:=h4 j; show a j+c1 j<=d j; omega⟩
   simp only [ab4,K4]
   refine ⟨abC i n xs,a,c1,ha k _ (by simp only [L5]; rw [j7,if_pos rfl]),?_,memv nd.1,g1,by simp⟩
   rw [akm (by omega),aix (by omega),<-hys]; exact h2
theorem aiq {R:Type} {r:R} {kp:G4} {vs:List V} {H:VH} {xs:List Value} {hp:Heap} (hs:adO X E vs H xs hp) {K:VS->Option R} (h:ab3 kp vs H K=some r) :
 ∃ s s',K s=some r/\St0 X E s s'/\∀ (R':Type) (K':St->Option R'),aaQ kp xs hp K'=K' s':=by
 unfold ab3 at h
 split at h
 ·rename_i hk
  obtain ⟨k1,k2,k3,k4,k5⟩:=ajx hk
  split at h
  ·rename_i hl
   obtain ⟨w,cv,ch,rfl,hw,hg,hf,hv,ho,l1,l0,lb⟩:=hs
   have hlen:=hv.len
   have hlook:∀ (j s:Nat),kp.vs[j]? = some s->look (X1 kp.ls++aaf 0 kp.vs xs) s=some (.val (xs.getD (0+j) undef)):=by
    intro j s hj
    have hnl:∀ {ls:List (Nat × Nat × Nat)} {m:List (Nat × EV)},(∀ x ∈ ls,x.1 ≠ s)->look (X1 ls++m) s=look m s:=by
     intro ls
     induction ls with
     | nil=>intro m _; rfl
     | cons p ls ih =>
       intro m hn
       obtain ⟨q,k,o⟩:=p
       simp only [X1,List.cons_append]
       rw [j7,if_neg (fun e=>hn (q,k,o) (by simp) e.symm)]
       exact ih (fun x hx=>hn x (by simp [hx]))
    rw [hnl (fun x hx e=>ans (k5 x hx) (by rw [e]; exact List.mem_of_getElem? hj))]
    have hev:∀ {ss:List Nat} {i j:Nat},ss.Nodup->ss[j]? = some s->look (aaf i ss xs) s=some (.val (xs.getD (i+j) undef)):=by
     intro ss
     induction ss with
     | nil=>intro i j _ h; simp at h
     | cons t ss ih =>
       intro i j nd h
       simp at nd
       simp only [aaf]
       rw [j7]
       cases j with
       | zero=>simp at h; subst h; rw [if_pos rfl]; rfl
       | succ j =>
         simp at h
         rw [if_neg (fun e=>nd.1 (by subst e; exact List.mem_of_getElem? h)),ih nd.2 h]
         congr 3; omega
    exact hev k3 hj
   obtain ⟨c1,c2,e1,e2,e3⟩:=anY (ss:=kp.vs) (i:=0) (ae:=X1 kp.ls++aaf 0 kp.vs xs) (by simpa using hv) (by omega) hlook
   have hls:∀ {ls:List (Nat × Nat × Nat)} {pre:List (Nat × EV)} {rest:List (Nat × VE)} {c:j1},(ls.map (·.1)).Nodup->B5 w rest (pre++(X1 ls++aaf 0 kp.vs xs)) c->(∀ x ∈ ls,look pre x.1=none)->B5 w (anF ls++rest) (pre++(X1 ls++aaf 0 kp.vs xs)) c:=by
    intro ls
    induction ls with
    | nil=>intro pre rest c _ h _; exact h
    | cons p ls ih =>
      intro pre rest c nd h hn
      obtain ⟨q,k,o⟩:=p
      simp only [List.map_cons,List.nodup_cons] at nd
      simp only [anF,List.cons_append,B5]
      have hpre:∀ {m:List (Nat × EV)} {t:Nat},look pre t=none->look (pre++m) t=look m t:=by
       intro m t
       have:∀ {pre:List (Nat × EV)},look pre t=none->look (pre++m) t=look m t:=by
        intro pre
        induction pre with
        | nil=>intro _; rfl
        | cons a pre ih2 =>
          intro hh
          obtain ⟨a1,a2⟩:=a
          rw [j7] at hh
          split at hh
          ·cases hh
          ·rename_i hq
           simp only [List.cons_append]
           rw [j7,if_neg hq]; exact ih2 hh
       exact this
      refine ⟨.loc k o,fun _=>0,c,?_,by simp [RE],?_,by simp⟩
      ·have hq:look pre q=none:=hn (q,k,o) (by simp)
       rw [hpre hq]
       simp only [X1,List.cons_append]
       rw [j7,if_pos rfl]
      ·have e:pre++(X1 ((q,k,o)::ls)++aaf 0 kp.vs xs)=(pre++[(q,EV.loc k o)])++(X1 ls++aaf 0 kp.vs xs):=by simp [X1]
       rw [e] at h ⊢
       refine ih nd.2 h (fun x hx=>?_)
       have:look pre x.1=none:=hn x (by simp [hx])
       rw [hpre this,j7,if_neg (fun e=>nd.1 (by rw [<-e]; exact List.mem_map_of_mem hx))]
       rfl
   have henv:=hls (pre:=[]) k4 e1 (fun _ _=>rfl)
   simp only [List.nil_append] at henv
   obtain ⟨c3,f1,f2⟩:=aoN (ks:=kp.cs) (i:=kp.vs.length) (al:=L5 kp.vs.length kp.cs xs) k2 (by simpa using e2) (by omega) (by omega) (fun k n h=>h) (by
    intro p hp
    have somev:∀ {ks:List (Nat × Nat)} {i:Nat},∀ p ∈ ks,(look (L5 i ks xs) p.1).isSome=true:=by
     intro ks
     induction ks with
     | nil=>intro i p hp; cases hp
     | cons q ks ih =>
       intro i p hp
       obtain ⟨q,m⟩:=q
       simp only [L5]
       rw [j7]
       split
       ·rfl
       ·rename_i hq
        rcases List.mem_cons.1 hp with rfl | hp
        ·exact absurd rfl hq
        ·exact ih p hp
    exact somev p hp)
   refine ⟨_,aaz kp xs w.hp,h,⟨w,c1,c3,ch,rfl,hw,hg,hf,henv,f1,fun k hk=>?_,ho,fun i=>?_,fun i hi=>?_,fun i hi=>?_⟩,fun R' K'=>?_⟩
   ·have:∀ {ks:List (Nat × Nat)} {i:Nat},look (ab4 i ks vs) k=none->look (L5 i ks xs) k=none:=by
     intro ks
     induction ks with
     | nil=>intro i _; rfl
     | cons p ks ih =>
       intro i hh
       obtain ⟨q,m⟩:=p
       simp only [ab4] at hh
       simp only [L5]
       rw [j7] at hh ⊢
       split at hh
       ·cases hh
       ·rename_i hq; rw [if_neg hq]; exact ih hh
    exact this hk
   ·have:=l1 i; have:=e3 i; have:=f2 i; omega
   ·have:=l0 i hi; have:=e3 i; have:=f2 i; omega
   ·have:=lb i hi; have:=e3 i; have:=f2 i; omega
   ·unfold aaQ
    rw [k1]
    simp only
    rw [if_pos (by omega)]; rfl
  ·cases h
 ·cases h
theorem aiX {R:Type} {r:R} {e:Exit} {s:VS} {s':St} (hs:St0 X E s s'):∀ {outs:List (Exit × G4)} {K:Nat->List V->VH->Option R},afn outs e s K=some r →
 ∃ n vs xs,K n vs s.H=some r/\adO X E vs s.H xs s'.hp/\∀ (R':Type) (K':Nat->List Value->Heap->Option R'),Z4 outs e s' K'=K' n xs s'.hp
 | [],K,h=>by cases h
 | (x,kp)::l,K,h=>by
   simp only [afn] at h
   split at h
   ·rename_i hx
    obtain ⟨vs,xs,h1,h2,h3⟩:=agH hs h
    exact ⟨0,vs,xs,h1,h2,fun R' K'=>by simp only [Z4,hx,h3]⟩
   ·rename_i hx
    obtain ⟨n,vs,xs,h1,h2,h3⟩:=aiX hs h
    exact ⟨n+1,vs,xs,h1,h2,fun R' K'=>by simp only [Z4,hx,h3]⟩
theorem ao8 {R:Type} {r:R} {vs:List V} {H:VH} {xs:List Value} {hp:Heap} (hs:adO X E vs H xs hp) {K:Exit->VS->Option R}:∀ {outs:List (Exit × G4)} {n:Nat},inV outs n vs H K=some r →
 ∃ e s s',K e s=some r/\St0 X E s s'/\∀ (R':Type) (K':Exit->St->Option R'),inK outs n xs hp K'=K' e s'
 | [],n,h=>by cases h
 | (x,kp)::l,0,h=>by
   simp only [inV] at h
   obtain ⟨s,s',h1,h2,h3⟩:=aiq hs h
   exact ⟨x,s,s',h1,h2,fun R' K'=>by simp only [inK,h3]⟩
 | (x,kp)::l,n+1,h=>by
   simp only [inV] at h
   obtain ⟨e,s,s',h1,h2,h3⟩:=ao8 hs h
   exact ⟨e,s,s',h1,h2,fun R' K'=>by simp only [inK,h3]⟩
inductive aj4 (B:List V->VH->Option (Option Nat × List V × VH)):Nat->List V->VH->(Nat × List V × VH)->Prop
 | stop {vs:List V} {hp:VH} {m:Nat} {vs':List V} {hp':VH}:B vs hp=some (some m,vs',hp')->aj4 B 0 vs hp (m,vs',hp')
 | more {n:Nat} {vs:List V} {hp:VH} {vs1:List V} {hp1:VH} {res:Nat × List V × VH}:B vs hp=some (none,vs1,hp1)->aj4 B n vs1 hp1 res->aj4 B (n+1) vs hp res
def ar3 (lp:T3):Prop:=∀ B vs hp res,lp B vs hp=some res->∃ n,aj4 B n vs hp res
def axh (lp:LpT):Prop:=∀ B vs hp,lp B vs hp=match B vs hp with | none=>none | some (none,vs,hp)=>lp B vs hp | some (some m,vs,hp)=>some (m,vs,hp)
theorem R5 (ht:Twin X Y) (hT:aaX X) (hcall:∀ f args H r H',X.call f args H=some (r,H')->C4 X Y.call f args H r H') (hlp:ar3 X.lp) (hlq:axh Y.lp) :
 ∀ (x:Code) {R R':Type} {r:R} {Q:R'->Prop} {s:VS} {s':St} {K:Exit->VS->Option R} {K':Exit->St->Option R'},St0 X E s s'->E1 X A T x s K=some r →
   (∀ e s s',K e s=some r->St0 X E s s'->∃ r',K' e s'=some r'/\Q r')->∃ r',u6 Y A x s' K'=some r'/\Q r'
 | .skip,R,R',r,Q,s,s',K,K',hs,h,hK=>hK _ _ _ h hs
 | .exit id,R,R',r,Q,s,s',K,K',hs,h,hK=>hK _ _ _ h hs
 | .ret,R,R',r,Q,s,s',K,K',hs,h,hK=>hK _ _ _ h hs
 | .region id ops draw,R,R',r,Q,s,s',K,K',hs,h,hK=>by
   cases draw with
   | false =>
     simp only [E1] at h
     simp only [u6]
     exact aiZ ht hT hcall hs h fun cl s s' h hs=>hK _ _ _ h hs
   | true =>
     simp only [E1] at h
     simp only [u6]
     refine aiZ ht hT hcall hs h fun cl s s' h hs=>?_
     split at h
     ·rename_i ho; simp only [ho]; exact hK _ _ _ h hs
     ·cases h
 | .cond y a b,R,R',r,Q,s,s',K,K',hs,h,hK=>by
   simp only [E1] at h
   simp only [u6]
   obtain ⟨w,hs⟩:=hs
   obtain ⟨v,x',c,h1,h2,_,h4⟩:=A2 ht hs h
   rw [h4]
   rcases amY h1 with ⟨rfl,h⟩ | ⟨rfl,h⟩ | ⟨rfl,h,h'⟩
   ·simp only [RV] at h2
    simp only [h2.1,S3]
    exact R5 ht hT hcall hlp hlq a ⟨w,hs⟩ h hK
   ·simp only [RV] at h2
    simp only [h2.1,S3]
    exact R5 ht hT hcall hlp hlq b ⟨w,hs⟩ h hK
   ·simp only [RV] at h2
    obtain ⟨⟨bb,hb⟩,_⟩:=h2
    subst hb
    cases bb with
    | true=>exact R5 ht hT hcall hlp hlq a ⟨w,hs⟩ h hK
    | false=>exact R5 ht hT hcall hlp hlq b ⟨w,hs⟩ h' hK
 | .block id a,R,R',r,Q,s,s',K,K',hs,h,hK=>by
   simp only [E1] at h
   simp only [u6]
   refine R5 ht hT hcall hlp hlq a hs h fun e s s' h hs=>?_
   cases e with
   | exit i =>
     simp only at h ⊢
     split at h
     ·rename_i hb; simp only [hb]; exact hK _ _ _ h hs
     ·rename_i hb; simp only [hb]; exact hK _ _ _ h hs
   | _=>exact hK _ _ _ h hs
 | .seq a b,R,R',r,Q,s,s',K,K',hs,h,hK=>by
   simp only [E1] at h
   simp only [u6]
   have behind:∀ (e:Exit) (s:VS) (s':St),(match e with | .normal=>E1 X A T b s K | e=>K e s)=some r->St0 X E s s'->∃ r',(fun (e:Exit) (st:St)=>match e with | .normal=>u6 Y A b st K' | e=>K' e st) e s'=some r'/\Q r':=by
    intro e s s' h hs
    cases e with
    | normal=>exact R5 ht hT hcall hlp hlq b hs h hK
    | _=>exact hK _ _ _ h hs
   split at h
   ·rename_i hj
    split
    ·exact R5 ht hT hcall hlp hlq a (K':=fun e st=>match e with | .normal=>u6 Y A b st K' | e=>K' e st) hs h behind
    ·rename_i hj2
     have:=hj.symm.trans hj2
     cases this
   ·rename_i outs hj
    split
    ·rename_i hj2
     have:=hj.symm.trans hj2
     cases this
    rename_i outs' hj2
    have:=hj.symm.trans hj2
    cases this
    obtain ⟨⟨n,vs,H⟩,h1,h2⟩:=a7 h
    obtain ⟨⟨n',xs,hp⟩,g1,g2⟩:=R5 ht hT hcall hlp hlq a (K':=fun e st=>Z4 outs e st fun n vs hp=>some (n,vs,hp)) (Q:=fun q=>q.1=n/\adO X E vs H q.2.1 q.2.2) hs h1 (fun e s s' h hs=>by
     obtain ⟨m,us,xs,k1,k2,k3⟩:=aiX hs h
     cases k1
     exact ⟨_,k3 _ _,rfl,k2⟩)
    simp only at g2
    obtain ⟨rfl,g2⟩:=g2
    rw [g1]
    simp only [Option.bind_some]
    obtain ⟨e,s2,s2',k1,k2,k3⟩:=ao8 g2 h2
    rw [k3]
    exact behind e s2 s2' k1 k2
 | .loop a,R,R',r,Q,s,s',K,K',hs,h,hK=>by
   simp only [E1] at h
   simp only [u6]
   split at h
   ·cases h
   ·rename_i li hli
    obtain ⟨vs,xs,h1,h2,h3⟩:=agH hs h
    obtain ⟨⟨n,us,H⟩,h4,h5⟩:=a7 h1
    simp only [hli]
    rw [h3]
    obtain ⟨m,hm⟩:=hlp _ _ _ _ h4
    have loop:∀ {m:Nat} {vs:List V} {H:VH} {res:Nat × List V × VH} {xs:List Value} {hp:Heap},aj4 (fun vs hp=>ab3 li.ks vs hp fun st=>E1 X A T a st fun e st=>match e with
     | .normal=>aaU li.ks st fun vs hp=>some (none,vs,hp)
     | e=>afn li.outs e st fun n vs hp=>some (some n,vs,hp)) m vs H res->adO X E vs H xs hp →
     ∃ ys hp',Y.lp (fun vs hp=>aaQ li.ks vs hp fun st=>u6 Y A a st fun e st=>match e with
       | .normal=>N8 li.ks st fun vs hp=>some (none,vs,hp)
       | e=>Z4 li.outs e st fun n vs hp=>some (some n,vs,hp)) xs hp=some (res.1,ys,hp')/\adO X E res.2.1 res.2.2 ys hp':=by
     intro m vs H res xs hp hl
     induction hl generalizing xs hp with
     | @stop vs0 H0 m0 vs1 H1 hB =>
       intro hsv
       obtain ⟨s,s',k1,k2,k3⟩:=aiq hsv hB
       obtain ⟨⟨o,ys,hp'⟩,k4,k5⟩:=R5 ht hT hcall hlp hlq a (K':=fun e st=>match e with
        | .normal=>N8 li.ks st fun vs hp=>some (none,vs,hp)
        | e=>Z4 li.outs e st fun n vs hp=>some (some n,vs,hp)) (Q:=fun q=>q.1=some m0/\adO X E vs1 H1 q.2.1 q.2.2) k2 k1 (fun e s s' h hs=>by
          cases e with
          | normal =>
            obtain ⟨us,xs,a1,a2,a3⟩:=agH hs h
            cases a1
          | _ =>
            obtain ⟨m,us,xs,a1,a2,a3⟩:=aiX hs h
            cases a1
            exact ⟨_,a3 _ _,rfl,a2⟩)
       simp only at k5
       obtain ⟨rfl,k5⟩:=k5
       refine ⟨ys,hp',?_,k5⟩
       rw [hlq,k3,k4]
     | @more n0 vs0 H0 vs1 H1 res0 hB _ ih =>
       intro hsv
       obtain ⟨s,s',k1,k2,k3⟩:=aiq hsv hB
       obtain ⟨⟨o,ys,hp'⟩,k4,k5⟩:=R5 ht hT hcall hlp hlq a (K':=fun e st=>match e with
        | .normal=>N8 li.ks st fun vs hp=>some (none,vs,hp)
        | e=>Z4 li.outs e st fun n vs hp=>some (some n,vs,hp)) (Q:=fun q=>q.1=none/\adO X E vs1 H1 q.2.1 q.2.2) k2 k1 (fun e s s' h hs=>by
          cases e with
          | normal =>
            obtain ⟨us,xs,a1,a2,a3⟩:=agH hs h
            cases a1
            exact ⟨_,a3 _ _,rfl,a2⟩
          | _ =>
            obtain ⟨m,us,xs,a1,a2,a3⟩:=aiX hs h
            cases a1)
       simp only at k5
       obtain ⟨rfl,k5⟩:=k5
       obtain ⟨zs,hp2,k6,k7⟩:=ih k5
       refine ⟨zs,hp2,?_,k7⟩
       rw [hlq,k3,k4]
       exact k6
    obtain ⟨ys,hp',k1,k2⟩:=loop hm h2
    obtain ⟨e,s2,s2',k3,k4,k5⟩:=ao8 k2 h5
    obtain ⟨r',q1,q2⟩:=hK _ _ _ k3 k4
    exact ⟨r',(congrArg (fun (o:Option (Nat × List Value × Heap))=>o.bind fun q=>inK li.outs q.1 q.2.1 q.2.2 K') k1).trans ((k5 R' K').trans q1),q2⟩
 | .rangeFunc ..,R,R',r,Q,s,s',K,K',hs,h,hK=>by cases h
 | .scope ..,R,R',r,Q,s,s',K,K',hs,h,hK=>by cases h
 | .label ..,R,R',r,Q,s,s',K,K',hs,h,hK=>by cases h
 | .goto ..,R,R',r,Q,s,s',K,K',hs,h,hK=>by cases h
 | .refuse ..,R,R',r,Q,s,s',K,K',hs,h,hK=>by cases h
theorem afx (ht:Twin X Y) (hT:aaX X) {w:Wd} {R R':Type} {r:R} {Q:R'->Prop} {s':St}:∀ {rs:List ResultVar} {s:VS} {cx:j1} {K:List V->VS->Option R} {K':List Value->Option R'},E4 X E w s s' cx->abU X rs s K=some r →
 (∀ vs s2 xs c,K vs s2=some r->c9 w vs xs c->E4 X E w s2 s' (fun i=>cx i+c i)->∃ r',K' xs=some r'/\Q r')->∃ r',J9 Y rs s' K'=some r'/\Q r'
 | [],s,cx,K,K',hs,h,hK=>hK [] s [] (fun _=>0) h (by simp [c9]) (hs.less (by simp))
 | .tmp t::l,s,cx,K,K',hs,h,hK=>by
   simp only [abU] at h
   simp only [J9]
   obtain ⟨v,x,c,h1,h2,h3,h4⟩:=acb ht hs h
   have hl:look s'.env t=some (.val x):=by
    have:=h4 Value (fun v=>some v)
    simp only [E8,W4] at this
    cases e:look s'.env t with
    | none=>rw [e] at this; cases this
    | some q =>
      rw [e] at this
      cases q<;>simp only at this<;>first | (cases this; done) | skip
      cases this; rfl
   simp only [hl]
   exact afx ht hT h3 h1 fun vs s2 xs d k1 k2 k3=>hK (v::vs) s2 (x::xs) (fun i=>c i+d i) k1 ⟨x,xs,c,d,rfl,h2,k2,by simp⟩ (k3.less (fun i=>by omega))
 | .cell a t::l,s,cx,K,K',hs,h,hK=>by
   simp only [abU] at h
   simp only [J9]
   rw [ht.tab]
   split at h
   ·rename_i ti hti
    simp only [hti]
    obtain ⟨ce,cl,ch,g⟩:=hs
    split at h
    ·rename_i k hl
     obtain ⟨x,c1,c2,h1,h2,_,_⟩:=g.env.look hl
     cases x<;>simp only [RE] at h2
     obtain ⟨rfl,rfl,_⟩:=h2
     simp only [h1]
     split at h
     ·rename_i cs hcs
      obtain ⟨ws,d1,d2,k1,k2,k3,k4⟩:=g.loc.look hcs
      simp only [k1]
      split at h
      ·rename_i hb
       have hb':Nat.beq ws.length ti.size=true:=by rw [<-k2.len]; exact hb
       simp only [hb']
       have hset:=k4 _ _ _ (c9.strip _ k2)
       rw [ahp k1] at hset
       have hst:E4 X E w { s with loc:=O1 s.loc k (m8 cs) } s' (fun i=>cx i+d1 i):=by
        refine ⟨ce,fun i=>0+d2 i,ch,g.hp,g.hw,g.gl,g.fr,g.env,hset,fun j hj=>g.aat j (adP hj),g.obj,fun i=>?_,fun i hi=>?_,fun i hi=>?_⟩
        ·have:=g.L1 i; have:=k3 i; omega
        ·have:=g.O5 i hi; have:=k3 i; omega
        ·have:=g.L8 i hi; have:=k3 i; omega
       split at h
       ·rename_i hag
        simp only [hag]
        exact afx ht hT hst h fun vs s2 xs d q1 q2 q3=>hK (.agg cs::vs) s2 (.agg ws.toArray::xs) (fun i=>d1 i+d i) q1 ⟨_,xs,d1,d,rfl,by simp only [RV]; exact ⟨ws,rfl,k2⟩,q2,by simp⟩ (q3.less (fun i=>by omega))
       ·rename_i hag
        simp only [hag]
        split at h
        ·rename_i v
         simp only [c9] at k2
         obtain ⟨x,ys,e1,e2,rfl,m1,⟨rfl,m2⟩,m3⟩:=k2
         simp only
         exact afx ht hT hst h fun vs s2 xs d q1 q2 q3=>hK (v::vs) s2 (x::xs) (fun i=>d1 i+d i) q1 ⟨x,xs,d1,d,rfl,m1.congr (fun i=>by rw [m3,m2]; rfl),q2,by simp⟩ (q3.less (fun i=>by omega))
        ·cases h
      ·cases h
     ·cases h
    ·rename_i k off hl
     obtain ⟨x,c1,c2,h1,h2,_,_⟩:=g.env.look hl
     cases x<;>simp only [RE] at h2
     simp only [RV] at h2
     obtain ⟨⟨b,hb1,rfl⟩,_⟩:=h2
     simp only [h1]
     split at h
     ·rename_i cs hcs
      obtain ⟨⟨v,cs2⟩,hld,h⟩:=a7 h
      obtain ⟨b',kb,d1,d2,g1,g2,g3,g4,g5,o2⟩:=g.obj.get hcs (aoZ hld (hT.pos _ _ hti))
      rw [hb1] at g1; cases g1
      obtain ⟨z,e1,e2,k1,k2,k3,k4⟩:=aj8 hld g3
      have hload:aaK s'.hp ti.agg ti.size (.pointer (some ⟨b,off,none⟩))=some z:=by
       simp only [aaK,g.hp,y2 g2 (by rw [o2]; simp),Option.bind_some]; exact k1
      simp only [hload,Option.bind_some]
      have hst:E4 X E w { s with H:=s.H.set k cs2 } s' (fun i=>cx i+e1 i):=by
       refine ⟨ce,cl,fun i=>e2 i+d2 i,g.hp,g.hw,g.gl,g.fr,g.env,g.loc,g.aat,g5 cs2 e2 k3,fun i=>?_,fun i hi=>?_,fun i hi=>?_⟩
       ·have:=g.L1 i; have:=g4 i; have:=k4 i; omega
       ·have:=g.O5 i hi; have:=g4 i; have:=k4 i; omega
       ·have:=g.L8 i hi; have:=g4 i; have:=k4 i; omega
      exact afx ht hT hst h fun vs s2 xs d q1 q2 q3=>hK (v::vs) s2 (z::xs) (fun i=>e1 i+d i) q1 ⟨z,xs,e1,d,rfl,k2,q2,by simp⟩ (q3.less (fun i=>by omega))
     ·cases h
    ·cases h
   ·cases h
theorem ao3 {w:Wd}:∀ {args:List V} {xs:List Value} {i:Nat} {pre:List (Nat × EV)} {c:j1},c9 w args xs c->(∀ j,i<=j->look pre j=none)->B5 w (aem i args) (pre++aa3 i xs) c
 | [],xs,i,pre,c,h,hp=>by simp only [c9] at h; simp only [aem,B5]; exact h.2
 | v::args,xs,i,pre,c,h,hp=>by
   simp only [c9] at h
   obtain ⟨x,ys,c1,c2,rfl,h1,h2,h3⟩:=h
   have hpre:∀ {m:List (Nat × EV)} {t:Nat} {pre:List (Nat × EV)},look pre t=none->look (pre++m) t=look m t:=by
    intro m t pre
    induction pre with
    | nil=>intro _; rfl
    | cons a pre ih2 =>
      intro hh
      obtain ⟨a1,a2⟩:=a
      rw [j7] at hh
      split at hh
      ·cases hh
      ·rename_i hq
       simp only [List.cons_append]
       rw [j7,if_neg hq]; exact ih2 hh
   simp only [aem,B5]
   refine ⟨.val x,c1,c2,?_,by simp only [RE]; exact h1,?_,h3⟩
   ·rw [hpre (hp i (Nat.le_refl _))]
    simp only [aa3]
    rw [j7,if_pos rfl]
   ·have e:pre++aa3 i (x::ys)=(pre++[(i,EV.val x)])++aa3 (i+1) ys:=by simp [aa3]
    rw [e]
    refine ao3 h2 fun j hj=>?_
    rw [hpre (hp j (by omega)),j7,if_neg (by omega)]; rfl
def atw (X:XV) (E:En) (r:V) (H':VH) (q:Value × Heap):Prop :=
 ∃ (w2:Wd) (cr ch':j1),q.2=w2.hp/\HW w2/\I1 X w2/\D8 E w2/\RV w2 r q.1 cr/\p8 w2 H' w2.g8 ch'/\(∀ i,cr i+ch' i<=1)/\(∀ i,i<E.hp.length->cr i+ch' i<=E.c0 i)/\(∀ i,w2.hp.length<=i->cr i+ch' i=0)
theorem auu (ht:Twin X Y) (hT:aaX X) (hcall:∀ f args H r H',X.call f args H=some (r,H')->C4 X Y.call f args H r H') (hlp:ar3 X.lp) (hlq:axh Y.lp)
 {f:FuncId} {args:List V} {H H':VH} {r:V} (h:acE X f args H=some (r,H')):C4 X (abp Y) f args H r H':=by
 intro w args' ca ch hw hg hv ho hle hbig
 unfold acE at h
 unfold abp
 rw [ht.fn,ht.D7]
 split at h
 ·cases h
 ·rename_i fn hfn
  simp only [hfn]
  split at h
  ·cases h
  ·rename_i c hc
   simp only [hc]
   split at h
   ·rename_i hd
    simp only [hd]
    have hfr:D8 ⟨w.hp,w.g8,w.fb,fun i=>ca i+ch i⟩ w:=by
     refine ⟨Nat.le_refl _,fun _ _ h _ _=>h,fun b k hk _=>⟨k,hk,rfl,rfl,rfl,.inl rfl⟩,fun c k hc hk=>?_,⟨[],by simp,by simp⟩,⟨[],by simp,by simp⟩,fun b k hb hk=>?_,fun b kb hk=>⟨kb,hk,rfl,rfl⟩,hw.rlt,hw.g9⟩
     ·have:=(List.getElem?_eq_some_iff.1 hk).1; simp only at hc; omega
     ·simp only at hb
      by_cases q:1<=ca b
      ·obtain ⟨_,_,kb,a1,_,a3⟩:=c9.owned _ hv b q
       have a1':=(k9 a1).1
       rw [hk] at a1'; cases a1'; exact a3
      ·obtain ⟨kb,a1,a3⟩:=p8.ah1 ho b (by omega)
       rw [hk] at a1; cases a1; exact a3
    have henv:B5 w (aem 0 args) (aa3 0 args') ca:=by
     have:=ao3 (pre:=[]) (i:=0) hv (fun _ _=>rfl)
     simpa using this
    have hst:St0 X ⟨w.hp,w.g8,w.fb,fun i=>ca i+ch i⟩ ⟨aem 0 args,[],H⟩ ⟨aa3 0 args',[],w.hp⟩ :=
     ⟨w,ca,fun _=>0,ch,rfl,hw,hg,hfr,henv,by simp [K4],fun _ _=>rfl,ho,fun i=>by have:=hle i; omega,fun i hi=>by simp,fun i hi=>by have:=hbig i hi; omega⟩
    obtain ⟨⟨x,hp2⟩,h1,w2,cr,ch',q2,p2,q3,q4,q5,q6,q7,q8,q9⟩:=R5 ht hT hcall hlp hlq c (Y:=Y) (K':=fun e st=>match e with
     | .normal | .ret=>J9 Y fn.results.toList st fun vs=>some (one vs,st.hp)
     | _=>none) (Q:=atw X ⟨w.hp,w.g8,w.fb,fun i=>ca i+ch i⟩ r H') hst h (fun e s s' h hs=>by
       have fin:abU X fn.results.toList s (fun vs st=>some (ao2 vs,st.H))=some (r,H')->∃ r',(J9 Y fn.results.toList s' fun vs=>some (one vs,s'.hp))=some r'/\atw X ⟨w.hp,w.g8,w.fb,fun i=>ca i+ch i⟩ r H' r':=by
        intro h
        obtain ⟨w2,hs⟩:=hs
        refine afx ht hT hs h fun vs s2 xs c k1 k2 k3=>?_
        cases k1
        obtain ⟨ce,cl,ch2,g⟩:=k3
        refine ⟨_,rfl,w2,c,ch2,g.hp,g.hw,g.gl,g.fr,?_,g.obj,fun i=>by have:=g.L1 i; omega,fun i hi=>by have:=g.O5 i hi; show c i+ch2 i<=ca i+ch i; simp only at this; omega,fun i hi=>by have:=g.L8 i hi; omega⟩
        have hl:=k2.len
        match vs,xs,k2,hl with
        | [],[],k2,_=>simp only [ao2,one,RV]; exact ⟨[],rfl,k2⟩
        | [v],[x],k2,_ =>
          simp only [c9] at k2
          obtain ⟨x',ys,e1,e2,h1,m1,⟨rfl,m2⟩,m3⟩:=k2
          cases h1
          exact m1.congr (fun i=>by rw [m3,m2]; rfl)
        | a::b::l,x::y::m,k2,_=>simp only [ao2,one,RV]; exact ⟨_,rfl,k2⟩
       cases e<;>simp only at h ⊢<;>first | exact fin h | cases h)
    simp only at q2
    subst q2
    exact ⟨x,w2,cr,ch',h1,p2,q3,q4,q5,q6,q7,q8,q9⟩
   ·cases h
end
end Go.AM

/- What an operation of the machine of values asks of the calls behind it. -/
namespace Go.AM
set_option linter.unusedSimpArgs false
set_option linter.unusedVariables false
def XV.over (X:XV) (call:u5) (lp:T3):XV:={ X with call:=call,lp:=lp }
section
variable {R:Type} {X:XV} {st:VS} {r:R}
theorem abr {x:Operand} {K:VE->Option R} (h:evV X st x K=some r):∃ e,K e=some r/\∀ (c:u5) (l:T3) (R':Type) (K':VE->Option R'),evV (X.over c l) st x K'=K' e:=by
 cases x with
 | tmp t =>
   simp only [evV] at h
   cases e:look st.env t with
   | none=>rw [e] at h; cases h
   | some e'=>rw [e] at h; exact ⟨e',h,fun c l R' K'=>by simp only [evV,e]⟩
 | const v =>
   simp only [evV] at h
   split at h
   ·exact ⟨_,h,fun c l R' K'=>rfl⟩
   ·rename_i hv
    split at h
    ·rename_i hp
     refine ⟨_,h,fun c l R' K'=>?_⟩
     simp only [evV,hp]
    ·cases h
 | global g =>
   simp only [evV] at h
   cases e:Nat.blt g X.ng with
   | true=>rw [e] at h; exact ⟨_,h,fun c l R' K'=>by show evV _ _ _ _=_; simp only [evV,XV.over,e]⟩
   | false=>rw [e] at h; cases h
 | func f=>exact ⟨_,h,fun c l R' K'=>rfl⟩
theorem C7 {x:Operand} {K:V->Option R} (h:J6 X st x K=some r):∃ v,K v=some r/\∀ (c:u5) (l:T3) (R':Type) (K':V->Option R'),J6 (X.over c l) st x K'=K' v:=by
 obtain ⟨e,hk,he⟩:=abr h
 cases e with
 | val v=>exact ⟨v,hk,fun c l R' K'=>by unfold J6; rw [he]⟩
 | fl xs=>exact ⟨_,hk,fun c l R' K'=>by unfold J6; rw [he]⟩
 | loc k o=>cases hk
 | B8=>cases hk
theorem afe {x:Operand} {K:V->VS->Option R} (h:vtV X st x K=some r):∃ v,K v (used st x)=some r/\∀ (c:u5) (l:T3) (R':Type) (K':V->VS->Option R'),vtV (X.over c l) st x K'=K' v (used st x):=by
 obtain ⟨v,h1,h2⟩:=C7 (K:=fun v=>K v (used st x)) h
 exact ⟨v,h1,fun c l R' K'=>h2 c l R' fun v=>K' v (used st x)⟩
theorem afT:∀ {xs:List Operand} {K:List V->Option R},afj X st xs K=some r->∃ vs,K vs=some r/\∀ (c:u5) (l:T3) (R':Type) (K':List V->Option R'),afj (X.over c l) st xs K'=K' vs
 | [],K,h=>⟨[],h,fun _ _ _ _=>rfl⟩
 | x::xs,K,h=>by
   obtain ⟨v,h,hv⟩:=C7 h
   obtain ⟨vs,h,hvs⟩:=afT h
   exact ⟨v::vs,h,fun c l R' K'=>by simp only [afj,hv,hvs]⟩
theorem anR {x:Option Operand} {K:Option V->Option R} (h:voV X st x K=some r):∃ v,K v=some r/\∀ (c:u5) (l:T3) (R':Type) (K':Option V->Option R'),voV (X.over c l) st x K'=K' v:=by
 cases x with
 | none=>exact ⟨none,h,fun _ _ _ _=>rfl⟩
 | some x =>
   obtain ⟨v,h,hv⟩:=C7 h
   exact ⟨some v,h,fun c l R' K'=>by simp only [voV,hv]⟩
theorem amI {mv:List Nat}:∀ {xs:List Operand} {i:Nat} {st:VS} {K:List V->VS->Option R},acJ X mv i xs st K=some r->∃ vs s2,K vs s2=some r/\∀ (c:u5) (l:T3) (R':Type) (K':List V->VS->Option R'),acJ (X.over c l) mv i xs st K'=K' vs s2
 | [],i,st,K,h=>⟨[],st,h,fun _ _ _ _=>rfl⟩
 | x::xs,i,st,K,h=>by
   simp only [acJ] at h
   obtain ⟨v,h,hv⟩:=C7 h
   split at h
   ·rename_i hm
    obtain ⟨vs,s2,h,hvs⟩:=amI h
    exact ⟨v::vs,s2,h,fun c l R' K'=>by simp only [acJ,hv,hm,hvs]⟩
   ·rename_i hm
    obtain ⟨vs,s2,h,hvs⟩:=amI h
    exact ⟨strip v::vs,s2,h,fun c l R' K'=>by simp only [acJ,hv,hm,hvs]⟩
theorem ahT {agg:Bool} {n:Nat} {v:V} {K:List V->Option R} (h:Z2 agg n v K=some r):∃ cs,K cs=some r/\∀ (R':Type) (K':List V->Option R'),Z2 agg n v K'=K' cs:=by
 cases agg with
 | true =>
   simp only [Z2] at h
   obtain ⟨cs,h1,h⟩:=a7 h
   exact ⟨_,h,fun R' K'=>by simp only [Z2,h1,Option.bind_some]⟩
 | false =>
   simp only [Z2] at h
   obtain ⟨u,h1,h⟩:=a7 h
   exact ⟨_,h,fun R' K'=>by simp only [Z2,h1,Option.bind_some]⟩
theorem ae0 {place:Nat->Option (Nat × Nat × Bool)}:∀ {ps:List (Nat × Operand)} {cells:List V} {st:VS} {K:List V->VS->Option R},abh X place ps cells st K=some r →
 ∃ cs s2,K cs s2=some r/\∀ (c:u5) (l:T3) (R':Type) (K':List V->VS->Option R'),abh (X.over c l) place ps cells st K'=K' cs s2
 | [],cells,st,K,h=>⟨cells,st,h,fun _ _ _ _=>rfl⟩
 | (i,x)::rest,cells,st,K,h=>by
   simp only [abh] at h
   cases e:place i with
   | none=>rw [e] at h; cases h
   | some p =>
     obtain ⟨off,n,agg⟩:=p
     rw [e] at h
     simp only at h
     cases hb:Nat.ble (off+n) cells.length with
     | false=>rw [hb] at h; cases h
     | true =>
       rw [hb] at h
       obtain ⟨v,h,hv⟩:=afe h
       obtain ⟨cs,h,hcs⟩:=ahT h
       cases hb2:Nat.ble (off+cs.length) cells.length with
       | false=>rw [hb2] at h; cases h
       | true =>
         rw [hb2] at h
         obtain ⟨cells',s2,h,hp⟩:=ae0 h
         exact ⟨cells',s2,h,fun c l R' K'=>by simp only [abh,e,hb,hv,hcs,hb2,hp]⟩
end
def awc (X:XV) (A:P8) (T:List Nat) (o:Oper) (st:VS) {R:Type} (K:VE->VS->B4->Option R) (r:R):Prop :=
 (∃ e s2 c,K e s2 c=some r/\∀ (cl:u5) (l:T3) (R':Type) (K':VE->VS->B4->Option R'),z8 (X.over cl l) A T o st K'=K' e s2 c) ∨
 (∃ (f:FuncId) (vs:List V) (s2:VS) (res:V × VH),X.call f vs s2.H=some res/\K (.val res.1) { s2 with H:=res.2 } .W=some r/\∀ (cl:u5) (l:T3) (R':Type) (K':VE->VS->B4->Option R'),z8 (X.over cl l) A T o st K'=(cl f vs s2.H).bind fun r=>K' (.val r.1) { s2 with H:=r.2 } .W) ∨
 (∃ (f:FuncId) (vs:List V) (res:V × VH) (e:VE) (s2:VS) (c:B4),X.call f vs []=some res/\K e s2 c=some r/\∀ (cl:u5) (l:T3) (R':Type) (K':VE->VS->B4->Option R'),cl f vs []=some res->z8 (X.over cl l) A T o st K'=K' e s2 c)
theorem acS {c:u5} {f:FuncId} {vs:List V} {v:V} (h:S9 c f vs=some v):∃ res,c f vs []=some res/\∀ c':u5,c' f vs []=some res->S9 c' f vs=some v:=by
 unfold S9 at h ⊢
 split at h
 ·rename_i hn
  obtain ⟨res,h1,h2⟩:=a7 h
  exact ⟨res,h1,fun c' h3=>by rw [h3]; exact h2⟩
 ·cases h
theorem akr {c:u5} {f:FuncId} {vs:List V} {v:V} (h:aac c f vs=some v):∃ res,c f vs []=some res/\∀ c':u5,c' f vs []=some res->aac c' f vs=some v:=by
 unfold aac at h ⊢
 split at h
 ·rename_i hn
  obtain ⟨res,h1,h2⟩:=a7 h
  exact ⟨res,h1,fun c' h3=>by rw [h3]; exact h2⟩
 ·cases h
theorem arG {c:u5} {f:FuncId} {H:VH} {vs:List V} {v:V} (h:abF c f H vs=some v):∃ az res,c f az []=some res/\∀ c':u5,c' f az []=some res->abF c' f H vs=some v:=by
 unfold abF at h
 split at h
 ·rename_i hn
  obtain ⟨res,h1,h2⟩:=acS h
  exact ⟨_,res,h1,fun c' h3=>by unfold abF; rw [hn]; exact h2 c' h3⟩
 ·rename_i hn
  obtain ⟨res,h1,h2⟩:=acS h
  exact ⟨_,res,h1,fun c' h3=>by unfold abF; rw [hn]; exact h2 c' h3⟩
theorem arE {c:u5} {f:FuncId} {H:VH} {vs:List V} {v:V} (h:aci c f H vs=some v):∃ az res,c f az []=some res/\∀ c':u5,c' f az []=some res->aci c' f H vs=some v:=by
 unfold aci at h
 obtain ⟨res,h1,h2⟩:=acS h
 exact ⟨_,res,h1,fun c' h3=>by unfold aci; exact h2 c' h3⟩
theorem atj {c:u5} {f:FuncId} {H:VH} {vs:List V} {v:V} (h:ac6 c f H vs=some v):∃ az res,c f az []=some res/\∀ c':u5,c' f az []=some res->ac6 c' f H vs=some v:=by
 unfold ac6 at h
 split at h
 ·rename_i hn
  obtain ⟨res,h1,h2⟩:=akr h
  exact ⟨_,res,h1,fun c' h3=>by unfold ac6; rw [hn]; exact h2 c' h3⟩
 ·rename_i hn
  obtain ⟨u,hu,h⟩:=a7 h
  obtain ⟨res,h1,h2⟩:=akr hu
  exact ⟨_,res,h1,fun c' h3=>by unfold ac6; rw [hn]; simp only [h2 c' h3,Option.bind_some]; exact h⟩
theorem atG {u:Bool} {c:u5} {f:FuncId} {H:VH} {vs:List V} {v:V} (h:ahA u c f H vs=some v):∃ az res,c f az []=some res/\∀ c':u5,c' f az []=some res->ahA u c' f H vs=some v:=by
 cases u with
 | false=>exact atj h
 | true =>
   simp only [ahA,ale] at h ⊢
   split at h
   ·rename_i hn
    obtain ⟨res,h1,h2⟩:=a7 h
    exact ⟨_,res,h1,fun c' h3=>by rw [h3]; exact h2⟩
   ·cases h
theorem atv {c:u5} {f:FuncId} {H:VH} {vs:List V} {v:V × VH} (h:ab6 c f H vs=some v):∃ az res,c f az []=some res/\∀ c':u5,c' f az []=some res->ab6 c' f H vs=some v:=by
 unfold ab6 at h ⊢
 split at h
 ·obtain ⟨res,h1,h2⟩:=a7 h
  exact ⟨_,res,h1,fun c' h3=>by rw [h3]; exact h2⟩
 ·cases h
theorem anW {R:Type} {d:Nat} {v:V} {H:VH} {K:V->VH->Option R} {r:R} (h:agI d v H K=some r):K (prom d H v).1 (prom d H v).2=some r/\∀ (R':Type) (K':V->VH->Option R'),agI d v H K'=K' (prom d H v).1 (prom d H v).2:=by
 unfold agI at h ⊢
 split at h
 ·rename_i ho
  exact ⟨h,fun R' K'=>rfl⟩
 ·cases h
section
variable {X:XV} {A:P8} {T:List Nat} {R:Type} {K:VE->VS->B4->Option R} {r:R} {o:Oper} {st:VS}
theorem o7 (X:XV) (c:u5) (l:T3):(X.over c l).tab=X.tab:=rfl
theorem M6 (X:XV) (c:u5) (l:T3):(X.over c l).kind=X.kind:=rfl
theorem atJ (X:XV) (c:u5) (l:T3):(X.over c l).ext=X.ext:=rfl
theorem atZ (X:XV) (c:u5) (l:T3):(X.over c l).mv=X.mv:=rfl
theorem akZ (X:XV) (c:u5) (l:T3):(X.over c l).G5=X.G5:=rfl
theorem K6 (X:XV) (c:u5) (l:T3):(X.over c l).call=c:=rfl
set_option maxHeartbeats 4000000 in
theorem aus (h:z8 X A T o st K=some r):awc X A T o st K r:=by
 unfold z8 at h
 cases hop:o.op with
 | move x =>
   simp only [hop] at h
   split at h
   ·rename_i ht
    obtain ⟨e,h,he⟩:=abr h
    exact .inl ⟨_,_,_,h,fun cl l R' K'=>by unfold z8; simp only [hop,ht,he]⟩
   ·rename_i ht
    obtain ⟨e,h,he⟩:=abr h
    exact .inl ⟨_,_,_,h,fun cl l R' K'=>by unfold z8; simp only [hop,ht,he]⟩
 | assign x =>
   simp only [hop] at h
   split at h
   ·rename_i ht
    obtain ⟨e,h,he⟩:=abr h
    exact .inl ⟨_,_,_,h,fun cl l R' K'=>by unfold z8; simp only [hop,ht,he]⟩
   ·rename_i ht
    obtain ⟨e,h,he⟩:=abr h
    exact .inl ⟨_,_,_,h,fun cl l R' K'=>by unfold z8; simp only [hop,ht,he]⟩
 | pick c x y =>
   simp only [hop] at h
   obtain ⟨vc,h,hc⟩:=C7 h
   obtain ⟨ex,h,hx⟩:=abr h
   obtain ⟨ey,h,hy⟩:=abr h
   split at h
   ·rcases abH h with ⟨rfl,h⟩ | ⟨rfl,h⟩
    ·cases h
    ·exact .inl ⟨_,_,_,h,fun cl l R' K'=>by unfold z8; simp only [hop,hc,hx,hy,j8]⟩
   ·rcases abH h with ⟨rfl,h⟩ | ⟨rfl,h⟩
    ·exact .inl ⟨_,_,_,h,fun cl l R' K'=>by unfold z8; simp only [hop,hc,hx,hy,j8]⟩
    ·cases h
   ·obtain ⟨v,hv,h⟩:=a7 h
    exact .inl ⟨_,_,_,h,fun cl l R' K'=>by unfold z8; simp only [hop,hc,hx,hy,hv,Option.bind_some]⟩
   ·cases h
 | alloc elem =>
   simp only [hop] at h
   split at h
   ·rename_i ti d ht hd
    split at h
    ·rename_i hm
     split at h
     ·rename_i hl
      exact .inl ⟨_,_,_,h,fun cl l R' K'=>by unfold z8; simp only [hop,o7,ht,hd,hm,hl]⟩
     ·cases h
    ·rename_i hm
     exact .inl ⟨_,_,_,h,fun cl l R' K'=>by unfold z8; simp only [hop,o7,ht,hd,hm]⟩
   ·cases h
 | box elem x =>
   simp only [hop] at h
   split at h
   ·rename_i ti d ht hd
    obtain ⟨v,h,hv⟩:=afe h
    obtain ⟨cs,h,hcs⟩:=ahT h
    split at h
    ·rename_i hm
     split at h
     ·rename_i hl
      exact .inl ⟨_,_,_,h,fun cl l R' K'=>by unfold z8; simp only [hop,o7,ht,hd,hm,hl,hv,hcs]⟩
     ·cases h
    ·rename_i hm
     exact .inl ⟨_,_,_,h,fun cl l R' K'=>by unfold z8; simp only [hop,o7,ht,hd,hm,hv,hcs]⟩
   ·cases h
 | build t parts =>
   simp only [hop] at h
   split at h
   ·rename_i ht
    obtain ⟨cells',s2,h,hp⟩:=ae0 h
    exact .inl ⟨_,_,_,h,fun cl l R' K'=>by unfold z8; simp only [hop,o7,ht,hp]⟩
   ·rename_i ht
    obtain ⟨cells',s2,h,hp⟩:=ae0 h
    exact .inl ⟨_,_,_,h,fun cl l R' K'=>by unfold z8; simp only [hop,o7,ht,hp]⟩
   ·cases h
 | buildSlice t len parts =>
   simp only [hop] at h
   split at h
   ·rename_i ht
    split at h
    ·rename_i te hte
     split at h
     ·rename_i hb
      obtain ⟨cells',s2,h,hp⟩:=ae0 h
      exact .inl ⟨_,_,_,h,fun cl l R' K'=>by unfold z8; simp only [hop,o7,ht,hte,hb,hp]⟩
     ·cases h
    ·cases h
   ·cases h
 | load t x =>
   simp only [hop] at h
   split at h
   ·rename_i ti ht
    obtain ⟨e,h,he⟩:=abr h
    split at h
    ·split at h
     ·rename_i cs hk
      obtain ⟨c,hc,h⟩:=a7 h
      exact .inl ⟨_,_,_,h,fun cl l R' K'=>by unfold z8; simp only [hop,o7,ht,he,hk,hc,Option.bind_some]⟩
     ·cases h
    ·obtain ⟨c,hc,h⟩:=a7 h
     exact .inl ⟨_,_,_,h,fun cl l R' K'=>by unfold z8; simp only [hop,o7,akZ,ht,he,hc,Option.bind_some]⟩
    ·cases h
   ·cases h
 | store t x y =>
   simp only [hop] at h
   split at h
   ·rename_i ti ht
    obtain ⟨e,h,he⟩:=abr h
    obtain ⟨v,h,hv⟩:=afe h
    obtain ⟨cs,h,hcs⟩:=ahT h
    split at h
    ·split at h
     ·rename_i p9 hk
      split at h
      ·rename_i hb
       exact .inl ⟨_,_,_,h,fun cl l R' K'=>by unfold z8; simp only [hop,o7,ht,he,hv,hcs,hk,hb]⟩
      ·cases h
     ·cases h
    ·obtain ⟨H2,hh,h⟩:=a7 h
     exact .inl ⟨_,_,_,h,fun cl l R' K'=>by unfold z8; simp only [hop,o7,ht,he,hv,hcs,hh,Option.bind_some]⟩
    ·cases h
   ·cases h
 | nilCheck x =>
   simp only [hop] at h
   obtain ⟨e,h,he⟩:=abr h
   split at h
   ·exact .inl ⟨_,_,_,h,fun cl l R' K'=>by unfold z8; simp only [hop,he]⟩
   ·obtain ⟨v,hv,h⟩:=a7 h
    exact .inl ⟨_,_,_,h,fun cl l R' K'=>by unfold z8; simp only [hop,he,hv,Option.bind_some]⟩
   ·cases h
 | binOp op t x y yt =>
   simp only [hop] at h
   split at h
   ·rename_i ti ht
    split at h
    ·rename_i hn
     obtain ⟨a,h,ha⟩:=C7 h
     obtain ⟨v,hv,h⟩:=a7 h
     exact .inl ⟨_,_,_,h,fun cl l R' K'=>by unfold z8; simp only [hop,o7,ht,hn,ha,hv,Option.bind_some]⟩
    ·rename_i hn
     obtain ⟨a,h,ha⟩:=C7 h
     obtain ⟨b,h,hb⟩:=C7 h
     obtain ⟨v,hv,h⟩:=a7 h
     exact .inl ⟨_,_,_,h,fun cl l R' K'=>by unfold z8; simp only [hop,o7,ht,hn,ha,hb,hv,Option.bind_some]⟩
   ·cases h
 | unOp op t x =>
   simp only [hop] at h
   obtain ⟨a,h,ha⟩:=C7 h
   obtain ⟨v,hv,h⟩:=a7 h
   exact .inl ⟨_,_,_,h,fun cl l R' K'=>by unfold z8; simp only [hop,ha,hv,Option.bind_some]⟩
 | convert src dst x =>
   simp only [hop] at h
   split at h
   ·rename_i ts td hts htd
    obtain ⟨va,h,ha⟩:=C7 h
    split at h
    ·rename_i k k' hk hk'
     obtain ⟨v,hv,h⟩:=a7 h
     exact .inl ⟨_,_,_,h,fun cl l R' K'=>by unfold z8; simp only [hop,o7,hts,htd,ha,hk,hk',hv,Option.bind_some]⟩
    ·rename_i hk hk'
     obtain ⟨v,hv,h⟩:=a7 h
     exact .inl ⟨_,_,_,h,fun cl l R' K'=>by unfold z8; simp only [hop,o7,hts,htd,ha,hk,hk',hv,Option.bind_some]⟩
    ·rename_i hk hk'
     split at h
     ·rename_i hte
      obtain ⟨v,hv,h⟩:=a7 h
      exact .inl ⟨_,_,_,h,fun cl l R' K'=>by unfold z8; simp only [hop,o7,hts,htd,ha,hk,hk',hte,hv,Option.bind_some]⟩
     ·cases h
    ·rename_i hk hk'
     split at h
     ·rename_i hte
      obtain ⟨v,hv,h⟩:=a7 h
      exact .inl ⟨_,_,_,h,fun cl l R' K'=>by unfold z8; simp only [hop,o7,hts,htd,ha,hk,hk',hte,hv,Option.bind_some]⟩
     ·cases h
    ·cases h
   ·cases h
 | makeFunc fn first captured =>
   simp only [hop] at h
   cases hz:first.size with
   | zero =>
     simp only [hz] at h
     split at h
     ·obtain ⟨vs,h,hvs⟩:=afT h
      exact .inl ⟨_,_,_,h,fun cl l R' K'=>by unfold z8; simp only [hop,hz,hvs]⟩
     ·cases h
   | succ n=>simp only [hz] at h; cases h
 | makeSlice t l c =>
   simp only [hop] at h
   split at h
   ·rename_i ht
    obtain ⟨vl,h,hl⟩:=C7 h
    obtain ⟨vc,h,hc⟩:=C7 h
    obtain ⟨n,hn,h⟩:=a7 h
    exact .inl ⟨_,_,_,h,fun cl l R' K'=>by unfold z8; simp only [hop,o7,ht,hl,hc,hn,Option.bind_some]⟩
   ·cases h
 | slice t x lo hi mx =>
   simp only [hop] at h
   split at h
   ·rename_i ht
    obtain ⟨v,h,hv⟩:=C7 h
    obtain ⟨l,h,hl⟩:=anR h
    obtain ⟨k,h,hk⟩:=anR h
    split at h
    ·obtain ⟨u,hu,h⟩:=a7 h
     exact .inl ⟨_,_,_,h,fun cl l R' K'=>by unfold z8; simp only [hop,o7,ht,hv,hl,hk,hu,Option.bind_some]⟩
    ·cases h
   ·rename_i ht
    obtain ⟨v,h,hv⟩:=C7 h
    split at h
    ·obtain ⟨l,h,hl⟩:=anR h
     obtain ⟨k,h,hk⟩:=anR h
     obtain ⟨u,hu,h⟩:=a7 h
     exact .inl ⟨_,_,_,h,fun cl l R' K'=>by unfold z8; simp only [hop,o7,ht,hv,hl,hk,hu,Option.bind_some]⟩
    ·obtain ⟨l,h,hl⟩:=C7 h
     obtain ⟨k,h,hk⟩:=C7 h
     obtain ⟨m,h,hm⟩:=C7 h
     obtain ⟨u,hu,h⟩:=a7 h
     exact .inl ⟨_,_,_,h,fun cl l R' K'=>by unfold z8; simp only [hop,o7,ht,hv,hl,hk,hm,hu,Option.bind_some]⟩
    ·cases h
   ·rename_i ht
    split at h
    ·obtain ⟨v,h,hv⟩:=C7 h
     obtain ⟨u,hu,h⟩:=a7 h
     exact .inl ⟨_,_,_,h,fun cl l R' K'=>by unfold z8; simp only [hop,o7,akZ,ht,hv,hu,Option.bind_some]⟩
    ·cases h
   ·cases h
 | fieldAddr t x f =>
   simp only [hop] at h
   split at h
   ·rename_i ht
    split at h
    ·rename_i off n agg hf
     obtain ⟨e,h,he⟩:=abr h
     split at h
     ·exact .inl ⟨_,_,_,h,fun cl l R' K'=>by unfold z8; simp only [hop,o7,ht,hf,he]⟩
     ·obtain ⟨v,hv,h⟩:=a7 h
      exact .inl ⟨_,_,_,h,fun cl l R' K'=>by unfold z8; simp only [hop,o7,ht,hf,he,hv,Option.bind_some]⟩
     ·cases h
    ·cases h
   ·cases h
 | field t x f =>
   simp only [hop] at h
   split at h
   ·rename_i ht
    split at h
    ·rename_i off m agg hf
     obtain ⟨v,h,hv⟩:=C7 h
     obtain ⟨cs,hcs,h⟩:=a7 h
     split at h
     ·obtain ⟨c,hc,h⟩:=a7 h
      exact .inl ⟨_,_,_,h,fun cl l R' K'=>by unfold z8; simp only [hop,o7,ht,hf,hv,hcs,hc,Option.bind_some]⟩
     ·obtain ⟨c,hc,h⟩:=a7 h
      exact .inl ⟨_,_,_,h,fun cl l R' K'=>by unfold z8; simp only [hop,o7,ht,hf,hv,hcs,hc,Option.bind_some]⟩
    ·cases h
   ·cases h
 | indexAddr t x i =>
   simp only [hop] at h
   split at h
   ·rename_i ht
    obtain ⟨v,h,hv⟩:=C7 h
    obtain ⟨j,h,hj⟩:=C7 h
    obtain ⟨u,hu,h⟩:=a7 h
    exact .inl ⟨_,_,_,h,fun cl l R' K'=>by unfold z8; simp only [hop,o7,ht,hv,hj,hu,Option.bind_some]⟩
   ·rename_i ht
    obtain ⟨v,h,hv⟩:=C7 h
    obtain ⟨j,h,hj⟩:=C7 h
    obtain ⟨u,hu,h⟩:=a7 h
    exact .inl ⟨_,_,_,h,fun cl l R' K'=>by unfold z8; simp only [hop,o7,ht,hv,hj,hu,Option.bind_some]⟩
   ·cases h
 | index t x i =>
   simp only [hop] at h
   split at h
   ·rename_i ht
    obtain ⟨v,h,hv⟩:=C7 h
    obtain ⟨j,h,hj⟩:=C7 h
    obtain ⟨u,hu,h⟩:=a7 h
    exact .inl ⟨_,_,_,h,fun cl l R' K'=>by unfold z8; simp only [hop,o7,ht,hv,hj,hu,Option.bind_some]⟩
   ·rename_i ht
    obtain ⟨v,h,hv⟩:=C7 h
    obtain ⟨j,h,hj⟩:=C7 h
    obtain ⟨u,hu,h⟩:=a7 h
    exact .inl ⟨_,_,_,h,fun cl l R' K'=>by unfold z8; simp only [hop,o7,ht,hv,hj,hu,Option.bind_some]⟩
   ·cases h
 | extract x i =>
   simp only [hop] at h
   split at h
   ·rename_i t
    obtain ⟨v,h,hv⟩:=C7 h
    obtain ⟨u,hu,h⟩:=a7 h
    split at h
    ·rename_i hm
     exact .inl ⟨_,_,_,h,fun cl l R' K'=>by unfold z8; simp only [hop,hv,hu,hm,Option.bind_some]⟩
    ·rename_i hm
     exact .inl ⟨_,_,_,h,fun cl l R' K'=>by unfold z8; simp only [hop,hv,hu,hm,Option.bind_some]⟩
   ·cases h
 | call c =>
   simp only [hop] at h
   split at h
   ·rename_i hcal
    split at h
    ·rename_i x t hargs htys
     split at h
     ·rename_i ht
      obtain ⟨v,h,hv⟩:=C7 h
      obtain ⟨u,hu,h⟩:=a7 h
      exact .inl ⟨_,_,_,h,fun cl l R' K'=>by unfold z8; simp only [hop,o7,hcal,hargs,htys,ht,hv,hu,Option.bind_some]⟩
     ·rename_i ht
      obtain ⟨v,h,hv⟩:=C7 h
      obtain ⟨u,hu,h⟩:=a7 h
      exact .inl ⟨_,_,_,h,fun cl l R' K'=>by unfold z8; simp only [hop,o7,hcal,hargs,htys,ht,hv,hu,Option.bind_some]⟩
     ·cases h
    ·cases h
   ·rename_i hcal
    split at h
    ·rename_i x y hargs
     obtain ⟨v,h,hv⟩:=C7 h
     obtain ⟨u,h,hu⟩:=C7 h
     obtain ⟨m,hm,h⟩:=a7 h
     exact .inl ⟨_,_,_,h,fun cl l R' K'=>by unfold z8; simp only [hop,o7,hcal,hargs,hv,hu,hm,Option.bind_some]⟩
    ·cases h
   ·rename_i hcal
    split at h
    ·rename_i x y t u d hargs htys hdst
     split at h
     ·rename_i ht hu
      split at h
      ·rename_i b hku
       split at h
       ·rename_i hm
        obtain ⟨e,h,he⟩:=abr h
        obtain ⟨v,h,hv⟩:=afe h
        split at h
        ·obtain ⟨q,hq,h⟩:=a7 h
         exact .inl ⟨_,_,_,h,fun cl l R' K'=>by unfold z8; simp only [hop,o7,hcal,hargs,htys,hdst,ht,hu,hku,he,hv,hm,hq,Option.bind_some]⟩
        ·cases h
       ·rename_i hm
        split at h
        ·rename_i hfl
         obtain ⟨s,h,hs⟩:=afe h
         obtain ⟨v,h,hv⟩:=afe h
         obtain ⟨q,hq,h⟩:=a7 h
         rw [hdst] at hfl hq
         exact .inl ⟨_,_,_,h,fun cl l R' K'=>by unfold z8; simp only [hop,o7,hcal,hargs,htys,hdst,ht,hu,hku,hs,hv,hm,hfl,hq,Option.bind_some]⟩
        ·rename_i hfl
         obtain ⟨s,h,hs⟩:=afe h
         obtain ⟨v,h,hv⟩:=afe h
         obtain ⟨xs,hxs,h⟩:=a7 h
         obtain ⟨q,hq,h⟩:=a7 h
         rw [hdst] at hfl
         exact .inl ⟨_,_,_,h,fun cl l R' K'=>by unfold z8; simp only [hop,o7,hcal,hargs,htys,hdst,ht,hu,hku,hs,hv,hxs,hm,hfl,hq,Option.bind_some]⟩
      ·cases h
     ·cases h
    ·cases h
   ·rename_i f hcal
    split at h
    ·rename_i hk
     obtain ⟨vs,s2,h,hvs⟩:=amI h
     obtain ⟨q,hq,h⟩:=a7 h
     exact .inr (.inl ⟨_,_,_,_,hq,h,fun cl l R' K'=>by unfold z8; simp only [hop,hcal,atZ,hvs,M6,hk,K6]⟩)
    ·rename_i hk
     obtain ⟨vs,h,hvs⟩:=afT h
     split at h
     ·rename_i hfl
      split at h
      ·rename_i hf7
       obtain ⟨q,hq,h⟩:=a7 h
       obtain ⟨az,res,h1,h2⟩:=arE hq
       exact .inr (.inr ⟨_,_,_,_,_,_,h1,h,fun cl l R' K' h3=>by unfold z8; simp only [hop,hcal,hvs,M6,hk,K6,hfl,hf7,h2 cl h3,Option.bind_some]⟩)
      ·rename_i hf7
       obtain ⟨q,hq,h⟩:=a7 h
       obtain ⟨az,res,h1,h2⟩:=arG hq
       exact .inr (.inr ⟨_,_,_,_,_,_,h1,h,fun cl l R' K' h3=>by unfold z8; simp only [hop,hcal,hvs,M6,hk,K6,hfl,hf7,h2 cl h3,Option.bind_some]⟩)
     ·rename_i hfl
      obtain ⟨q,hq,h⟩:=a7 h
      obtain ⟨res,h1,h2⟩:=acS hq
      exact .inr (.inr ⟨_,_,_,_,_,_,h1,h,fun cl l R' K' h3=>by unfold z8; simp only [hop,hcal,hvs,M6,hk,K6,hfl,h2 cl h3,Option.bind_some]⟩)
    ·rename_i hk
     obtain ⟨vs,h,hvs⟩:=afT h
     split at h
     ·rename_i hfl
      split at h
      ·rename_i hf6
       obtain ⟨q,hq,h⟩:=a7 h
       obtain ⟨az,res,h1,h2⟩:=atv hq
       exact .inr (.inr ⟨_,_,_,_,_,_,h1,h,fun cl l R' K' h3=>by unfold z8; simp only [hop,hcal,hvs,M6,hk,K6,hfl,hf6,h2 cl h3,Option.bind_some]⟩)
      rename_i hf6
      obtain ⟨q,hq,h⟩:=a7 h
      obtain ⟨az,res,h1,h2⟩:=atG hq
      split at h
      ·rename_i hf1
       obtain ⟨h,hp⟩:=anW h
       exact .inr (.inr ⟨_,_,_,_,_,_,h1,h,fun cl l R' K' h3=>by unfold z8; simp only [hop,hcal,hvs,M6,hk,K6,hfl,hf6,hf1,h2 cl h3,Option.bind_some,hp]⟩)
      ·rename_i hf1
       split at h
       ·rename_i hf3
        obtain ⟨h,hp⟩:=anW h
        exact .inr (.inr ⟨_,_,_,_,_,_,h1,h,fun cl l R' K' h3=>by unfold z8; simp only [hop,hcal,hvs,M6,hk,K6,hfl,hf6,hf1,hf3,h2 cl h3,Option.bind_some,hp]⟩)
       ·rename_i hf3
        exact .inr (.inr ⟨_,_,_,_,_,_,h1,h,fun cl l R' K' h3=>by unfold z8; simp only [hop,hcal,hvs,M6,hk,K6,hfl,hf6,hf1,hf3,h2 cl h3,Option.bind_some]⟩)
     ·rename_i hfl
      obtain ⟨q,hq,h⟩:=a7 h
      obtain ⟨res,h1,h2⟩:=akr hq
      exact .inr (.inr ⟨_,_,_,_,_,_,h1,h,fun cl l R' K' h3=>by unfold z8; simp only [hop,hcal,hvs,M6,hk,K6,hfl,h2 cl h3,Option.bind_some]⟩)
    ·rename_i n hk
     obtain ⟨vs,h,hvs⟩:=afT h
     obtain ⟨az,has,h⟩:=a7 h
     obtain ⟨q,hq,h⟩:=a7 h
     obtain ⟨u,hu,h⟩:=a7 h
     exact .inl ⟨_,_,_,h,fun cl l R' K'=>by unfold z8; simp only [hop,hcal,hvs,M6,hk,atJ,has,hq,hu,Option.bind_some]⟩
   ·rename_i fv hne hcal
    obtain ⟨f,h,hf⟩:=C7 h
    obtain ⟨vs,h,hvs⟩:=afT h
    obtain ⟨p,hp,h⟩:=a7 h
    split at h
    ·rename_i hq'
     obtain ⟨q,hq,h⟩:=a7 h
     obtain ⟨res,h1,h2⟩:=acS hq
     refine .inr (.inr ⟨_,_,_,_,_,_,h1,h,fun cl l R' K' h3=>?_⟩)
     unfold z8
     cases fv with
     | func f=>exact absurd rfl (hne f)
     | _=>simp only [hop,hcal,hf,hvs,hp,hq',K6,h2 cl h3,Option.bind_some]
    ·rename_i hq'
     obtain ⟨q,hq,h⟩:=a7 h
     refine .inr (.inl ⟨_,_,_,_,hq,h,fun cl l R' K'=>?_⟩)
     unfold z8
     cases fv with
     | func f=>exact absurd rfl (hne f)
     | _=>simp only [hop,hcal,hf,hvs,hp,hq',K6,Option.bind_some]
   ·cases h
 | _=>simp only [hop] at h; cases h
end
end Go.AM

/- Calls of the machine of values without a count of steps; they stand for calls of the abstract machine. -/
namespace Go.AM
open Go.RowKit
set_option linter.unusedSimpArgs false
set_option linter.unusedVariables false
theorem atT {R:Type} {kp:G4} {st:VS} {K:List V->VH->Option R} {r:R} (h:aaU kp st K=some r):∃ vs,K vs st.H=some r/\∀ (R':Type) (K':List V->VH->Option R'),aaU kp st K'=K' vs st.H:=by
 have hv:∀ {ss:List Nat} {R:Type} {K:List V->Option R} {r:R},aaa st.env ss K=some r->∃ vs,K vs=some r/\∀ (R':Type) (K':List V->Option R'),aaa st.env ss K'=K' vs:=by
  intro ss
  induction ss with
  | nil=>intro R K r h; exact ⟨[],h,fun _ _=>rfl⟩
  | cons s ss ih =>
    intro R K r h
    simp only [aaa] at h
    split at h
    ·rename_i v hl
     obtain ⟨vs,h1,h2⟩:=ih h
     exact ⟨v::vs,h1,fun R' K'=>by simp only [aaa,hl,h2]⟩
    ·rename_i v hl
     obtain ⟨vs,h1,h2⟩:=ih h
     exact ⟨_,h1,fun R' K'=>by simp only [aaa,hl,h2]⟩
    ·cases h
 have hc:∀ {ks:List (Nat × Nat)} {R:Type} {K:List V->Option R} {r:R},csV st.loc ks K=some r->∃ vs,K vs=some r/\∀ (R':Type) (K':List V->Option R'),csV st.loc ks K'=K' vs:=by
  intro ks
  induction ks with
  | nil=>intro R K r h; exact ⟨[],h,fun _ _=>rfl⟩
  | cons s ks ih =>
    intro R K r h
    obtain ⟨k,n⟩:=s
    simp only [csV] at h
    split at h
    ·rename_i cs hl
     split at h
     ·rename_i hb
      obtain ⟨vs,h1,h2⟩:=ih h
      exact ⟨cs++vs,h1,fun R' K'=>by simp only [csV,hl,hb,h2]⟩
     ·cases h
    ·cases h
 unfold aaU at h
 split at h
 ·rename_i hl
  obtain ⟨vs,h,h1⟩:=hv h
  obtain ⟨cs,h,h2⟩:=hc h
  exact ⟨_,h,fun R' K'=>by simp only [aaU,hl,h1,h2]⟩
 ·cases h
theorem apB {R:Type} {kp:G4} {vs:List V} {H:VH} {K:VS->Option R} {r:R} (h:ab3 kp vs H K=some r):∃ s,K s=some r/\∀ (R':Type) (K':VS->Option R'),ab3 kp vs H K'=K' s:=by
 unfold ab3 at h
 split at h
 ·rename_i hk
  split at h
  ·rename_i hl
   exact ⟨_,h,fun R' K'=>by unfold ab3; simp only [hk]; rw [if_pos hl]⟩
  ·cases h
 ·cases h
theorem aon {R:Type} {vs:List V} {H:VH} {K:Exit->VS->Option R} {r:R}:∀ {outs:List (Exit × G4)} {n:Nat},inV outs n vs H K=some r->∃ e st,K e st=some r/\∀ (R':Type) (K':Exit->VS->Option R'),inV outs n vs H K'=K' e st
 | [],_,h=>by cases h
 | (x,kp)::l,0,h=>by
   simp only [inV] at h
   obtain ⟨s,h1,h2⟩:=apB h
   exact ⟨x,s,h1,fun R' K'=>by simp only [inV,h2]⟩
 | (x,kp)::l,n+1,h=>by
   simp only [inV] at h
   obtain ⟨e,st,h1,h2⟩:=aon h
   exact ⟨e,st,h1,fun R' K'=>by simp only [inV,h2]⟩
theorem asx {R:Type} {ops:Array Oper} {o:Oper} {env:List (Nat × VE)} {run pass:List (Nat × VE)->Option R} {r:R} (h:V4 ops o env run pass=some r) :
 ∃ env',(run env'=some r/\∀ (R':Type) (run' pass':List (Nat × VE)->Option R'),V4 ops o env run' pass'=run' env')\/(pass env'=some r/\∀ (R':Type) (run' pass':List (Nat × VE)->Option R'),V4 ops o env run' pass'=pass' env'):=by
 unfold V4 at h
 split at h
 ·rename_i hg
  exact ⟨_,.inl ⟨h,fun R' run' pass'=>by simp only [V4,hg]⟩⟩
 ·rename_i j want hg
  split at h
  ·cases h
  ·rename_i d hd
   split at h
   ·rename_i v hl
    split at h
    ·rcases abH h with ⟨rfl,h⟩ | ⟨rfl,h⟩
     ·exact ⟨_,.inl ⟨h,fun R' run' pass'=>by simp only [V4,hg,hd,hl,j8]⟩⟩
     ·exact ⟨_,.inr ⟨h,fun R' run' pass'=>by simp only [V4,hg,hd,hl,j8]⟩⟩
    ·rcases abH h with ⟨rfl,h⟩ | ⟨rfl,h⟩
     ·exact ⟨_,.inr ⟨h,fun R' run' pass'=>by simp only [V4,hg,hd,hl,j8]⟩⟩
     ·exact ⟨_,.inl ⟨h,fun R' run' pass'=>by simp only [V4,hg,hd,hl,j8]⟩⟩
   ·rename_i hl
    exact ⟨_,.inr ⟨h,fun R' run' pass'=>by simp only [V4,hg,hd,hl]⟩⟩
   ·cases h
structure agX (X:XV) (c:Nat->u5) (l:Nat->T3):Prop where
 call:∀ f vs hp res,X.call f vs hp=some res->D2 fun m=>c m f vs hp=some res
 lp:∀ (B:List V->VH->Option (Option Nat × List V × VH)) (Bm:Nat->List V->VH->Option (Option Nat × List V × VH)),(∀ vs hp res,B vs hp=some res->D2 fun m=>Bm m vs hp=some res) →
  ∀ vs hp res,X.lp B vs hp=some res->D2 fun m=>l m (Bm m) vs hp=some res
section
variable {X:XV} {c:Nat->u5} {l:Nat->T3} {A:P8} {T:List Nat}
theorem av3 (hN:agX X c l) {R:Type} {r:R} {o:Oper} {st:VS} {K:VE->VS->B4->Option R} {Km:Nat->VE->VS->B4->Option R}
 (h:z8 X A T o st K=some r) (hK:∀ e s cl,K e s cl=some r->D2 fun m=>Km m e s cl=some r):D2 fun m=>z8 (X.over (c m) (l m)) A T o st (Km m)=some r:=by
 rcases aus h with ⟨e,s,cl,h1,h2⟩ | ⟨f,vs,s,res,h1,h2,h3⟩ | ⟨f,vs,res,e,s,cl,h1,h2,h3⟩
 ·exact (hK _ _ _ h1).imp fun m hm=>by rw [h2]; exact hm
 ·exact ((hN.call _ _ _ _ h1).and (hK _ _ _ h2)).imp fun m ⟨a,b⟩=>by rw [h3,a]; exact b
 ·exact ((hN.call _ _ _ _ h1).and (hK _ _ _ h2)).imp fun m ⟨a,b⟩=>by rw [h3 _ _ _ _ a]; exact b
theorem agw (hN:agX X c l) {R:Type} {r:R} {ops:Array Oper}:∀ {os:List Oper} {cl:List B4} {st:VS} {K:List B4->VS->Option R} {Km:Nat->List B4->VS->Option R},
 afo X A T ops os cl st K=some r->(∀ cl st,K cl st=some r->D2 fun m=>Km m cl st=some r)->D2 fun m=>afo (X.over (c m) (l m)) A T ops os cl st (Km m)=some r
 | [],cl,st,K,Km,h,hK=>hK _ _ h
 | o::os,cl,st,K,Km,h,hK=>by
   simp only [afo] at h ⊢
   obtain ⟨env',⟨h1,h2⟩ | ⟨h1,h2⟩⟩:=asx h
   ·refine (av3 hN h1 (Km:=fun m e st c'=>afo (X.over (c m) (l m)) A T ops os (c'::cl) { st with env:=aoQ st.env o.dst e } (Km m)) fun e s cl' h3=>agw hN h3 hK).imp fun m hm=>?_
    rw [h2]; exact hm
   ·exact (agw hN h1 hK).imp fun m hm=>by rw [h2]; exact hm
theorem P6 (hN:agX X c l):∀ (x:Code) {R:Type} {r:R} {st:VS} {K:Exit->VS->Option R} {Km:Nat->Exit->VS->Option R},
 E1 X A T x st K=some r->(∀ e st,K e st=some r->D2 fun m=>Km m e st=some r)->D2 fun m=>E1 (X.over (c m) (l m)) A T x st (Km m)=some r
 | .skip,R,r,st,K,Km,h,hK=>hK _ _ h
 | .exit id,R,r,st,K,Km,h,hK=>hK _ _ h
 | .ret,R,r,st,K,Km,h,hK=>hK _ _ h
 | .region id ops draw,R,r,st,K,Km,h,hK=>by
   cases draw with
   | false =>
     simp only [E1] at h ⊢
     exact agw hN h fun cl st h=>hK _ _ h
   | true =>
     simp only [E1] at h ⊢
     refine agw hN h fun cl st h=>?_
     split at h
     ·exact hK _ _ h
     ·cases h
 | .cond y a b,R,r,st,K,Km,h,hK=>by
   simp only [E1] at h ⊢
   obtain ⟨v,h,hv⟩:=C7 h
   rcases amY h with ⟨rfl,h⟩ | ⟨rfl,h⟩ | ⟨rfl,h,h'⟩
   ·exact (P6 hN a h hK).imp fun m hm=>by rw [hv]; exact hm
   ·exact (P6 hN b h hK).imp fun m hm=>by rw [hv]; exact hm
   ·exact ((P6 hN a h hK).and (P6 hN b h' hK)).imp fun m hm=>by rw [hv]; show aiz _ _=_; unfold aiz; rw [hm.1,hm.2,if_pos rfl]
 | .block id a,R,r,st,K,Km,h,hK=>by
   simp only [E1] at h ⊢
   refine P6 hN a h fun e st h=>?_
   cases e with
   | exit i =>
     simp only at h ⊢
     split at h
     ·rename_i hb; exact (hK _ _ h).imp fun m hm=>by first | exact hm | (rw [hb]; exact hm)
     ·rename_i hb; exact (hK _ _ h).imp fun m hm=>by first | exact hm | (rw [hb]; exact hm)
   | _=>exact hK _ _ h
 | .seq a b,R,r,st,K,Km,h,hK=>by
   simp only [E1] at h ⊢
   have behind:∀ (e:Exit) (st:VS),(match e with | .normal=>E1 X A T b st K | e=>K e st)=some r->D2 fun m=>(match e with | .normal=>E1 (X.over (c m) (l m)) A T b st (Km m) | e=>Km m e st)=some r:=by
    intro e st h
    cases e with
    | normal=>exact P6 hN b h hK
    | _=>exact hK _ _ h
   split at h
   ·rename_i hj
    exact (P6 hN a h (Km:=fun m e st=>match e with | .normal=>E1 (X.over (c m) (l m)) A T b st (Km m) | e=>Km m e st) behind).imp fun m hm=>hm
   ·rename_i outs hj
    obtain ⟨s,hs,h⟩:=a7 h
    obtain ⟨e,st',h1,h2⟩:=aon h
    refine ((P6 hN a hs (Km:=fun _ e st=>afn outs e st fun n vs hp=>some (n,vs,hp)) fun e st h=>D2.of fun _=>h).and (behind e st' h1)).imp fun m ⟨g1,g2⟩=>?_
    show (Option.bind _ _)=some r
    rw [g1]
    simp only [Option.bind_some]
    rw [h2]; exact g2
 | .loop a,R,r,st,K,Km,h,hK=>by
   simp only [E1] at h ⊢
   split at h
   ·cases h
   ·rename_i li hli
    obtain ⟨vs,h,h0⟩:=atT h
    obtain ⟨res,hres,h⟩:=a7 h
    obtain ⟨e,st',h1,h2⟩:=aon h
    have hB:=hN.lp _ (fun m vs hp=>ab3 li.ks vs hp fun st=>E1 (X.over (c m) (l m)) A T a st fun e st=>match e with
     | .normal=>aaU li.ks st fun vs hp=>some (none,vs,hp)
     | e=>afn li.outs e st fun n vs hp=>some (some n,vs,hp)) (fun vs hp res hr=>by
     obtain ⟨s,g1,g2⟩:=apB hr
     exact (P6 hN a g1 (Km:=fun _ e st=>match e with
      | .normal=>aaU li.ks st fun vs hp=>some (none,vs,hp)
      | e=>afn li.outs e st fun n vs hp=>some (some n,vs,hp)) fun e st h=>D2.of fun _=>h).imp fun m hm=>by rw [g2]; exact hm) _ _ _ hres
    refine (hB.and (hK e st' h1)).imp fun m ⟨g1,g2⟩=>?_
    rw [h0]
    exact (congrArg (fun (o:Option (Nat × List V × VH))=>o.bind fun q=>inV li.outs q.1 q.2.1 q.2.2 (Km m)) g1).trans ((h2 R (Km m)).trans g2)
 | .rangeFunc ..,R,r,st,K,Km,h,hK=>by cases h
 | .scope ..,R,r,st,K,Km,h,hK=>by cases h
 | .label ..,R,r,st,K,Km,h,hK=>by cases h
 | .goto ..,R,r,st,K,Km,h,hK=>by cases h
 | .refuse ..,R,r,st,K,Km,h,hK=>by cases h
theorem auP {R:Type} (X:XV) (c:u5) (l:T3) (st:VS) (t:Nat) (K:V->VS->Option R):vtV (X.over c l) st (.tmp t) K=vtV X st (.tmp t) K:=rfl
theorem aho {R:Type} (X:XV) (c:u5) (l:T3):∀ (rs:List ResultVar) (st:VS) (K:List V->VS->Option R),abU (X.over c l) rs st K=abU X rs st K
 | [],st,K=>rfl
 | .tmp t::rs,st,K=>by
   simp only [abU,auP]
   congr 1; funext v st
   exact aho X c l rs st _
 | .cell a t::rs,st,K=>by
   simp only [abU,o7,aho X c l rs]
theorem ahK (hN:agX X c l) {f:FuncId} {args:List V} {H:VH} {r:V × VH} (h:acE X f args H=some r):D2 fun m=>acE (X.over (c m) (l m)) f args H=some r:=by
 unfold acE at h ⊢
 have e1:∀ m,(X.over (c m) (l m)).fn f=X.fn f:=fun _=>rfl
 have e2:∀ m,(X.over (c m) (l m)).D7 f=X.D7 f:=fun _=>rfl
 have e3:∀ m,(X.over (c m) (l m)).y4 f=X.y4 f:=fun _=>rfl
 simp only [e1,e2,e3]
 split at h
 ·cases h
 ·rename_i fn hf
  split at h
  ·cases h
  ·rename_i x hx
   split at h
   ·rename_i hd
    try simp only [hf,hx,hd]
    refine (P6 hN x h (Km:=fun m e st=>match e with
     | .normal | .ret=>abU (X.over (c m) (l m)) fn.results.toList st fun vs st=>some (ao2 vs,st.H)
     | _=>none) fun e st h=>D2.of fun m=>?_).imp fun m hm=>hm
    cases e<;>first | (simp only [aho]; exact h) | exact h
   ·cases h
end
noncomputable def w8 (X:XV) (A:P8) (T:List Nat) (li:alE) (a:Code) (vs:List V) (H:VH):Option (Option Nat × List V × VH) :=
 ab3 li.ks vs H fun st=>E1 X A T a st fun e st=>match e with
  | .normal=>aaU li.ks st fun vs hp=>some (none,vs,hp)
  | e=>afn li.outs e st fun n vs hp=>some (some n,vs,hp)
structure V3 where
 b:abR
 G5:Nat->Option (List V)
 gi:Nat->Bool
 y4:FuncId->List Nat
 mv:FuncId->List Nat
 aax:FuncId->Option (List V->VH->Option (V × VH))
def V3.ctx (b:V3) (call:u5) (lp:T3):XV:=⟨b.b.ng,b.b.tab,b.b.fn,b.b.D7,b.b.kind,b.b.ext,b.G5,b.gi,b.y4,b.mv,call,lp⟩
def O3:Nat->T3
 | 0,_,_,_=>none
 | n+1,B,vs,hp=>match B vs hp with
   | none=>none
   | some (none,vs,hp)=>O3 n B vs hp
   | some (some m,vs,hp)=>some (m,vs,hp)
noncomputable def O7 (b:V3):Nat->u5
 | 0,_,_,_=>none
 | n+1,f,args,H=>match b.aax f with
   | some g=>g args H
   | none=>acE (b.ctx (O7 b n) (O3 n)) f args H
noncomputable def l3:T3:=fun B vs hp=>amz fun n=>O3 n B vs hp
noncomputable def N6 (b:V3):u5:=fun f args H=>amz fun n=>O7 b n f args H
theorem af2 {B:List V->VH->Option (Option Nat × List V × VH)}:∀ {n:Nat} {vs:List V} {hp:VH} {res:Nat × List V × VH},O3 n B vs hp=some res->∃ m,aj4 B m vs hp res
 | 0,_,_,_,h=>by cases h
 | n+1,vs,hp,res,h=>by
   simp only [O3] at h
   split at h
   ·cases h
   ·rename_i hb
    obtain ⟨m,hm⟩:=af2 h
    exact ⟨m+1,.more hb hm⟩
   ·rename_i hb
    cases h
    exact ⟨0,.stop hb⟩
theorem ams {B:List V->VH->Option (Option Nat × List V × VH)} {Bm:Nat->List V->VH->Option (Option Nat × List V × VH)} (hB:∀ vs hp res,B vs hp=some res->D2 fun m=>Bm m vs hp=some res)
 {n:Nat} {vs:List V} {hp:VH} {res:Nat × List V × VH} (h:aj4 B n vs hp res):D2 fun m=>∀ k,n<k->O3 k (Bm m) vs hp=some res:=by
 induction h with
 | stop h =>
   refine (hB _ _ _ h).imp fun m hm k hk=>?_
   obtain ⟨k,rfl⟩:∃ j,k=j+1:=⟨k-1,by omega⟩
   simp only [O3,hm]
 | more h _ ih =>
   refine ((hB _ _ _ h).and ih).imp fun m ⟨g1,g2⟩ k hk=>?_
   obtain ⟨k,rfl⟩:∃ j,k=j+1:=⟨k-1,by omega⟩
   simp only [O3,g1]
   exact g2 k (by omega)
theorem awx (n:Nat):ar3 (O3 n):=fun _ _ _ _ h=>af2 h
theorem ap5 (b:V3):∀ (n:Nat) (f:FuncId) (args:List V) (H:VH) (r:V × VH),O7 b n f args H=some r->∀ m,n<=m->O7 b m f args H=some r:=by
 intro n
 induction n with
 | zero=>intro f args H r h; cases h
 | succ n ih =>
   intro f args H r h m hm
   obtain ⟨m,rfl⟩:∃ j,m=j+1:=⟨m-1,by omega⟩
   simp only [O7] at h ⊢
   split at h
   ·rename_i g hg; first | exact h | (simp only [hg]; exact h)
   ·rename_i hg
    try simp only [hg]
    have hN:agX (b.ctx (O7 b n) (O3 n)) (fun _=>O7 b m) (fun _=>O3 m):=by
     refine ⟨fun f vs hp res h=>D2.of fun _=>ih f vs hp res h m (by omega),fun B Bm hB vs hp res h=>?_⟩
     have h':O3 n B vs hp=some res:=h
     clear h
     have:∀ (n m:Nat) (vs:List V) (hp:VH),n<=m->O3 n B vs hp=some res->D2 fun k=>O3 m (Bm k) vs hp=some res:=by
      intro n
      induction n with
      | zero=>intro m vs hp _ h; cases h
      | succ n ihn =>
        intro m vs hp hm h
        obtain ⟨m,rfl⟩:∃ j,m=j+1:=⟨m-1,by omega⟩
        simp only [O3] at h
        split at h
        ·cases h
        ·rename_i hb
         exact ((hB _ _ _ hb).and (ihn m _ _ (by omega) h)).imp fun k ⟨g1,g2⟩=>by simp only [O3,g1]; exact g2
        ·rename_i hb
         cases h
         exact (hB _ _ _ hb).imp fun k g1=>by simp only [O3,g1]
     exact this n m vs hp (by omega) h'
    exact (ahK hN h).const
theorem anU {b:V3} {n:Nat} {f:FuncId} {args:List V} {H:VH} {r:V × VH} (h:O7 b n f args H=some r):N6 b f args H=some r :=
 D0.2 ⟨n,fun m hm=>ap5 b n f args H r h m hm⟩
theorem aiD {n:Nat} {B:List V->VH->Option (Option Nat × List V × VH)} {vs:List V} {hp:VH} {r:Nat × List V × VH} (h:O3 n B vs hp=some r):l3 B vs hp=some r:=by
 obtain ⟨m,hm⟩:=af2 h
 obtain ⟨n1,h1⟩:=ams (Bm:=fun _=>B) (fun _ _ _ h=>D2.of fun _=>h) hm
 exact D0.2 ⟨m+1,fun k hk=>h1 n1 (Nat.le_refl _) k (by omega)⟩
theorem j6 (b:V3) (f:FuncId) (args:List V) (H:VH) (hp':b.aax f=none):N6 b f args H=acE (b.ctx (N6 b) l3) f args H:=by
 have to:∀ r,N6 b f args H=some r->acE (b.ctx (N6 b) l3) f args H=some r:=by
  intro r h
  obtain ⟨n,hn⟩:=D0.1 h
  have:=hn (n+1) (by omega)
  simp only [O7,hp'] at this
  have hN:agX (b.ctx (O7 b n) (O3 n)) (fun _=>N6 b) (fun _=>l3):=by
   refine ⟨fun f vs hp res h=>D2.of fun _=>anU h,fun B Bm hB vs hp res h=>?_⟩
   obtain ⟨m,hm⟩:=af2 (n:=n) h
   exact (ams hB hm).imp fun k hk=>aiD (hk (m+1) (by omega))
  exact (ahK hN this).const
 have back:∀ r,acE (b.ctx (N6 b) l3) f args H=some r->N6 b f args H=some r:=by
  intro r h
  have hN:agX (b.ctx (N6 b) l3) (O7 b) O3:=by
   refine ⟨fun f vs hp res h=>D0.1 h,fun B Bm hB vs hp res h=>?_⟩
   obtain ⟨n,hn⟩:=D0.1 h
   obtain ⟨m,hm⟩:=af2 (hn n (Nat.le_refl _))
   obtain ⟨n1,h1⟩:=ams hB hm
   exact ⟨max n1 (m+1),fun k hk=>h1 k (by omega) k (by omega)⟩
  obtain ⟨n,hn⟩:=ahK hN h
  have h1:O7 b (n+1) f args H=some r:=by
   simp only [O7,hp']
   exact hn n (Nat.le_refl _)
  exact anU h1
 cases h1:N6 b f args H with
 | some r=>exact (to r h1).symm
 | none =>
   cases h2:acE (b.ctx (N6 b) l3) f args H with
   | none=>rfl
   | some r=>rw [back r h2] at h1; cases h1
theorem ap9 (B:List V->VH->Option (Option Nat × List V × VH)) (vs:List V) (hp:VH) :
 l3 B vs hp=match B vs hp with | none=>none | some (none,vs,hp)=>l3 B vs hp | some (some m,vs,hp)=>some (m,vs,hp):=by
 cases hb:B vs hp with
 | none =>
   simp only
   cases h:l3 B vs hp with
   | none=>rfl
   | some r =>
     obtain ⟨n,hn⟩:=D0.1 h
     have:=hn (n+1) (by omega)
     simp only [O3,hb] at this; cases this
 | some x =>
   obtain ⟨o,vs1,hp1⟩:=x
   cases o with
   | some m=>exact aiD (n:=1) (by simp only [O3,hb])
   | none =>
     simp only
     cases h:l3 B vs1 hp1 with
     | some r =>
       obtain ⟨n,hn⟩:=D0.1 h
       exact aiD (n:=n+1) (by simp only [O3,hb]; exact hn n (Nat.le_refl _))
     | none =>
       cases h2:l3 B vs hp with
       | none=>rfl
       | some r =>
         obtain ⟨n,hn⟩:=D0.1 h2
         have:=hn (n+1) (by omega)
         simp only [O3,hb] at this
         rw [aiD this] at h; cases h
structure aiL (b:V3):Prop where
 zero:∀ t ti,look b.b.tab t=some ti->∀ u ∈ ti.zero,F7 u=true
 sl:∀ t e b9 eb z ag n zz,look b.b.tab t=some ⟨.slice e b9 eb z,ag,n,zz⟩->(∀ u ∈ z,F7 u=true)/\z.length=b9/\0<b9
 gd:∀ g cs,b.G5 g=some cs->B9 cs=true
 pos:∀ t ti,look b.b.tab t=some ti->0<ti.size
 asb:∀ f,b.aax f=none->b.b.aax f=none
 aax:∀ f g args r H H',b.aax f=some g->g args H=some (r,H')->C4 (b.ctx (N6 b) l3) (N9 b.b) f args H r H'
theorem I1.ctx {b:V3} {c c':u5} {l l':T3} {w:Wd} (h:I1 (b.ctx c l) w):I1 (b.ctx c' l') w:=h
theorem C4.ctx {b:V3} {c c':u5} {l l':T3} {call:G8} {f:FuncId} {args:List V} {H H':VH} {r:V} (h:C4 (b.ctx c l) call f args H r H'):C4 (b.ctx c' l') call f args H r H':=h
theorem alK {b:V3} (hb:aiL b):∀ (n:Nat) (f:FuncId) (args:List V) (H:VH) (r:V) (H':VH),O7 b n f args H=some (r,H')->C4 (b.ctx (N6 b) l3) (N9 b.b) f args H r H'
 | 0,f,args,H,r,H',h=>by cases h
 | n+1,f,args,H,r,H',h=>by
   simp only [O7] at h
   split at h
   ·rename_i g hg
    exact hb.aax f g args _ _ _ hg h
   ·rename_i hg
    have hs:=auu (X:=b.ctx (O7 b n) (O3 n)) (Y:=b.b.ctx (N9 b.b) lpW) ⟨rfl,rfl,rfl,rfl,rfl,rfl⟩ ⟨hb.zero,hb.sl,hb.gd,hb.pos⟩ (fun f args H r H' h=>alK hb n f args H r H' h) (awx n) (fun B vs hp=>aw3 B vs hp) h
    intro w args' ca ch h1 h2 h3 h4 h5 h6
    obtain ⟨x,w2,cr,ch',q1,q2⟩:=hs w args' ca ch h1 h2 h3 h4 h5 h6
    exact ⟨x,w2,cr,ch',by rw [auB b.b f args' w.hp (hb.asb f hg)]; exact q1,q2⟩
theorem ati {b:V3} (hb:aiL b) {f:FuncId} {args:List V} {H:VH} {r:V} {H':VH} (h:N6 b f args H=some (r,H')):C4 (b.ctx (N6 b) l3) (N9 b.b) f args H r H':=by
 obtain ⟨n,hn⟩:=D0.1 h
 exact alK hb n f args H r H' (hn n (Nat.le_refl _))
theorem arq {P:Program} {b:V3} (hb:aiL b) (hP:af7 P b.b) {f:FuncId} {args:List V} {H':VH} (h:N6 b f args []=some (.bool true,H')) {hp:Heap} {vs:List Value}
 (hw:HW ⟨hp,[],[]⟩) (hg:I1 (b.ctx (N6 b) l3) ⟨hp,[],[]⟩) (hv:c9 ⟨hp,[],[]⟩ args vs (fun _=>0)) {ι:l5} {w:World} {args':Array Value}
 (hR:Rel b.b.ng ι hp w w.heap.size) (ha:C8 ι vs args'.toList) (hro:∀ b k,l6 hp b=some k->k.md ≠ .rw) :
 Calls P f args' w fun e w'=>e = .returned (.bool true)/\Below w.heap.size w w':=by
 obtain ⟨x,w2,cr,ch',q1,q2,q3,q4,q5,q6⟩:=ati hb h ⟨hp,[],[]⟩ vs (fun _=>0) (fun _=>0) hw hg hv (by simp [p8]) (by simp) (by simp)
 simp only [RV] at q5
 rw [q5.1] at q1
 exact akL hP q1 hR ha hro
end Go.AM

/- Words for printed runs of the machine of values, and what the tables owe. -/
namespace Go.AM
set_option linter.unusedSimpArgs false
set_option linter.unusedVariables false
def j4 {R:Type} (n:Nat) (vs:List V) (K:(Nat->V)->Option R):Option R:=if vs.length=n then K (fun i=>vs.getD i .b7) else none
def asl (l:List (Nat × List Nat)) (f:FuncId):List Nat:=(look l f).getD []
theorem auH {P:Program} {l:List (Nat × TI)} (h:∀ t ti,look l t=some ti->M9 P t ti):∀ t ti,look l t=some ti->∀ u ∈ ti.zero,F7 u=true:=fun t ti e=>by
 obtain ⟨i,v,_,_,_,_,_,h7⟩:=(h t ti e).info
 exact h7
theorem axN {P:Program} {l:List (Nat × TI)} (h:∀ t ti,look l t=some ti->M9 P t ti):∀ t e b9 eb z ag n zz,look l t=some ⟨.slice e b9 eb z,ag,n,zz⟩->(∀ u ∈ z,F7 u=true)/\z.length=b9/\0<b9:=fun t e b9 eb z ag n zz hl=>by
 obtain ⟨d,_,_,h3⟩:=(h t _ hl).und
 simp only [aq5] at h3
 obtain ⟨_,i,v,_,_,_,_,_,h4,h5,_,h6⟩:=h3
 exact ⟨h6,h4,h5⟩
def au2:List (Nat × TI)->Bool
 | []=>true
 | (_,x)::l=>Nat.blt 0 x.size&&au2 l
theorem aqz:∀ {l:List (Nat × TI)},au2 l=true->∀ t ti,look l t=some ti->0<ti.size
 | [],_,t,ti,h=>by simp [look] at h
 | (k,x)::l,hp,t,ti,h=>by
   simp only [au2,Bool.and_eq_true] at hp
   simp only [look] at h
   split at h
   ·cases h
    exact Nat.le_of_ble_eq_true hp.1
   ·exact aqz hp.2 t ti h
end Go.AM

/- What the words of a printed run come to at values that are known. -/
namespace Go.AM
set_option linter.unusedSimpArgs false
set_option linter.unusedVariables false
theorem aq3 (b:Bool):strip (.bool b) = .bool b:=by exact id rfl
theorem atz (k:IntKind) (n:Int):strip (.int k n) = .int k n:=by exact id rfl
theorem ass (s:List UInt8):strip (.str s) = .str s:=by exact id rfl
theorem aqO:strip .b7 = .b7:=by exact id rfl
theorem atN (k o:Nat):strip (.ptr k o) = .ptr k o:=by exact id rfl
theorem asc (c:List V) (o:Nat):strip (.D3 c o) = .D3 c o:=by exact id rfl
theorem avI (f:FuncId) (c:List V):strip (.fn f c) = .fn f c:=by exact id rfl
theorem avb (o:Bool) (xs:List (List V)):strip (.sl o xs) = .sl false (m6 xs):=by exact id rfl
theorem asO (cs:List V):strip (.agg cs) = .agg (m8 cs):=by exact id rfl
theorem atn (cs:List V):strip (.n8 cs) = .n8 (m8 cs):=by exact id rfl
theorem ap8:m8 []=[]:=by exact id rfl
theorem aoj (v:V) (l:List V):m8 (v::l)=strip v::m8 l:=by exact id rfl
theorem aot:m6 []=[]:=by exact id rfl
theorem ank (v:List V) (l:List (List V)):m6 (v::l)=m8 v::m6 l:=by exact id rfl
theorem aqW (H:VH) (b:Bool):j3 H (.bool b) = .bool b:=by exact id rfl
theorem asE (H:VH) (k:IntKind) (n:Int):j3 H (.int k n) = .int k n:=by exact id rfl
theorem asD (H:VH) (s:List UInt8):j3 H (.str s) = .str s:=by exact id rfl
theorem avH (H:VH) (o:Bool) (xs:List (List V)):j3 H (.sl o xs) = .sl false (m6 xs):=by exact id rfl
theorem asg (H:VH) (cs:List V):j3 H (.agg cs) = .agg (m8 cs):=by exact id rfl
theorem avr (H:VH) (f:FuncId) (cs:List V):j3 H (.fn f cs) = .fn f (cs.map (aej H)):=by exact id rfl
theorem asH (H:VH) (f:FuncId):j3 H (.fn f []) = .fn f []:=by exact id rfl
theorem as8 (H:VH) (k o:Nat):j3 H (.ptr k o)=afk (H.getD k []) k o:=by exact id rfl
theorem aoP (c:V) (cs:List V) (k o:Nat):afk (c::cs) k o = .D3 (m8 (c::cs)) o:=by exact id rfl
theorem asy (H:VH) (c:List V) (o:Nat):j3 H (.D3 c o) = .D3 c o:=by exact id rfl
theorem aqG (H:VH) (k o:Nat):aej H (.ptr k o)=afk (H.getD k []) k o:=by exact id rfl
theorem apw {α β:Type} (f:α->β):([]:List α).map f=[]:=by exact id rfl
theorem amS {α β:Type} (f:α->β) (a:α) (l:List α):(a::l).map f=f a::l.map f:=by exact id rfl
theorem aek {α:Type} (l:List α):[]++l=l:=by exact id rfl
theorem ac0 {α:Type} (a:α) (l m:List α):(a::l)++m=a::(l++m):=by exact id rfl
theorem aqR (b:Bool):A3 (.bool b)=true:=by exact id rfl
theorem atB (k:IntKind) (n:Int):A3 (.int k n)=true:=by exact id rfl
theorem ar4 (s:List UInt8):A3 (.str s)=true:=by exact id rfl
theorem avX (o:Bool) (xs:List (List V)):A3 (.sl o xs)=D9 xs:=by exact id rfl
theorem atH (cs:List V):A3 (.agg cs)=u1 cs:=by exact id rfl
theorem atl (cs:List V) (o:Nat):A3 (.D3 cs o)=u1 cs:=by exact id rfl
theorem avu (f:FuncId) (cs:List V):A3 (.fn f cs)=u1 cs:=by exact id rfl
theorem aqI:u1 []=true:=by exact id rfl
theorem an7 (v:V) (l:List V):u1 (v::l)=(A3 v&&u1 l):=by exact id rfl
theorem aoR:D9 []=true:=by exact id rfl
theorem amR (v:List V) (l:List (List V)):D9 (v::l)=(u1 v&&D9 l):=by exact id rfl
theorem ase (b:Bool):data (.bool b)=true:=by exact id rfl
theorem avE (k:IntKind) (n:Int):data (.int k n)=true:=by exact id rfl
theorem avp (s:List UInt8):data (.str s)=true:=by exact id rfl
theorem awP (o:Bool) (xs:List (List V)):data (.sl o xs)=I8 xs:=by exact id rfl
theorem avZ (cs:List V):data (.agg cs)=B9 cs:=by exact id rfl
theorem avO (cs:List V):data (.n8 cs)=B9 cs:=by exact id rfl
theorem ata:B9 []=true:=by exact id rfl
theorem aqX (v:V) (l:List V):B9 (v::l)=(data v&&B9 l):=by exact id rfl
theorem aqr:I8 []=true:=by exact id rfl
theorem api (v:List V) (l:List (List V)):I8 (v::l)=(B9 v&&I8 l):=by exact id rfl
theorem aqn (b:Bool):abZ (.bool b)=true:=by exact id rfl
theorem atF (k:IntKind) (n:Int):abZ (.int k n)=true:=by exact id rfl
theorem asa (s:List UInt8):abZ (.str s)=true:=by exact id rfl
theorem atM (l:List V):abZ (.n8 l)=l.all T1:=by exact id rfl
theorem aqJ (b:Bool):T1 (.bool b)=true:=by exact id rfl
theorem ats (k:IntKind) (n:Int):T1 (.int k n)=true:=by exact id rfl
theorem asU (s:List UInt8):T1 (.str s)=true:=by exact id rfl
theorem asr {α:Type} (p:α->Bool):([]:List α).all p=true:=by exact id rfl
theorem aqS {α:Type} (p:α->Bool) (a:α) (l:List α):(a::l).all p=(p a&&l.all p):=by exact id rfl
theorem avD:(true&&true)=true:=by exact id rfl
theorem asz {α β:Type} (a:α) (f:α->Option β):(some a).bind f=f a:=by exact id rfl
theorem axA {α:Type} (a:α):id a=a:=by exact id rfl
theorem aqP {R:Type} (b:Bool) (x y:Option R):j5 (.bool b) x y=if b=true then x else y:=by cases b<;>rfl
theorem au6 {R:Type} (x:Option R):j5 .ub x x=x:=by show aiz x x=x; unfold aiz; rw [if_pos rfl]
theorem aqM {R:Type} (b:Bool) (x y:Option R):j8 (.bool b) x y=if b=true then x else y:=by cases b<;>rfl
theorem aw5 {R:Type} (x y:Option R):j8 (.bool true) x y=x:=by exact id rfl
theorem awE {R:Type} (x y:Option R):j8 (.bool false) x y=y:=by exact id rfl
theorem avi:strip .ub = .ub:=by exact id rfl
theorem axw {R:Type} (x y:Option R):j5 (.bool true) x y=x:=by exact id rfl
theorem axO {R:Type} (x y:Option R):j5 (.bool false) x y=y:=by exact id rfl
theorem axs {R:Type} (a:Option R) (l:List (Option R)):u4 0 (a::l)=a:=by exact id rfl
theorem in_1 {R:Type} (a b:Option R) (l:List (Option R)):u4 1 (a::b::l)=b:=by exact id rfl
theorem awG {R:Type} (a b c:Option R) (l:List (Option R)):u4 2 (a::b::c::l)=c:=by exact id rfl
theorem aw0 {R:Type} (a b c d:Option R) (l:List (Option R)):u4 3 (a::b::c::d::l)=d:=by exact id rfl
theorem awV {R:Type} (a b c d e:Option R) (l:List (Option R)):u4 4 (a::b::c::d::e::l)=e:=by exact id rfl
theorem axY {R:Type} (K:(Nat->V)->Option R):j4 0 [] K=K fun i=>([]:List V).getD i .b7:=by exact id rfl
theorem aw9 {R:Type} (a:V) (K:(Nat->V)->Option R):j4 1 [a] K=K fun i=>[a].getD i .b7:=by exact id rfl
theorem axe {R:Type} (a b:V) (K:(Nat->V)->Option R):j4 2 [a,b] K=K fun i=>[a,b].getD i .b7:=by exact id rfl
theorem axC {R:Type} (a b c:V) (K:(Nat->V)->Option R):j4 3 [a,b,c] K=K fun i=>[a,b,c].getD i .b7:=by exact id rfl
theorem ax9 {R:Type} (a b c d:V) (K:(Nat->V)->Option R):j4 4 [a,b,c,d] K=K fun i=>[a,b,c,d].getD i .b7:=by exact id rfl
theorem aw8 {R:Type} (a b c d e:V) (K:(Nat->V)->Option R):j4 5 [a,b,c,d,e] K=K fun i=>[a,b,c,d,e].getD i .b7:=by exact id rfl
theorem awF {R:Type} (a b c d e f:V) (K:(Nat->V)->Option R):j4 6 [a,b,c,d,e,f] K=K fun i=>[a,b,c,d,e,f].getD i .b7:=by exact id rfl
theorem ax3 {R:Type} (a b c d e f g:V) (K:(Nat->V)->Option R):j4 7 [a,b,c,d,e,f,g] K=K fun i=>[a,b,c,d,e,f,g].getD i .b7:=by exact id rfl
theorem axT {R:Type} (a b c d e f g h:V) (K:(Nat->V)->Option R):j4 8 [a,b,c,d,e,f,g,h] K=K fun i=>[a,b,c,d,e,f,g,h].getD i .b7:=by exact id rfl
theorem ax8 {R:Type} (a b c d e f g h j:V) (K:(Nat->V)->Option R):j4 9 [a,b,c,d,e,f,g,h,j] K=K fun i=>[a,b,c,d,e,f,g,h,j].getD i .b7:=by exact id rfl
theorem avV {R:Type} (a b c d e f g h j k:V) (K:(Nat->V)->Option R):j4 10 [a,b,c,d,e,f,g,h,j,k] K=K fun i=>[a,b,c,d,e,f,g,h,j,k].getD i .b7:=by exact id rfl
theorem axi {α:Type} (a d:α) (l:List α):(a::l).getD 0 d=a:=by exact id rfl
theorem axH {α:Type} (a b d:α) (l:List α):(a::b::l).getD 1 d=b:=by exact id rfl
theorem axq {α:Type} (a b c d:α) (l:List α):(a::b::c::l).getD 2 d=c:=by exact id rfl
theorem ax7 {α:Type} (a b c e d:α) (l:List α):(a::b::c::e::l).getD 3 d=e:=by exact id rfl
theorem aw4 {α:Type} (a b c e f d:α) (l:List α):(a::b::c::e::f::l).getD 4 d=f:=by exact id rfl
theorem ayf {α:Type} (a b c e f g d:α) (l:List α):(a::b::c::e::f::g::l).getD 5 d=g:=by exact id rfl
theorem ayp {α:Type} (a b c e f g h d:α) (l:List α):(a::b::c::e::f::g::h::l).getD 6 d=h:=by exact id rfl
theorem awQ {α:Type} (a b c e f g h j d:α) (l:List α):(a::b::c::e::f::g::h::j::l).getD 7 d=j:=by exact id rfl
theorem awK {α:Type} (a b c e f g h j k d:α) (l:List α):(a::b::c::e::f::g::h::j::k::l).getD 8 d=k:=by exact id rfl
theorem awT {α:Type} (a b c e f g h j k m d:α) (l:List α):(a::b::c::e::f::g::h::j::k::m::l).getD 9 d=m:=by exact id rfl
theorem avG {R:Type} (a b c d e f g h j k m:V) (K:(Nat->V)->Option R):j4 11 [a,b,c,d,e,f,g,h,j,k,m] K=K fun i=>[a,b,c,d,e,f,g,h,j,k,m].getD i .b7:=by exact id rfl
theorem avx {R:Type} (a b c d e f g h j k m n:V) (K:(Nat->V)->Option R):j4 12 [a,b,c,d,e,f,g,h,j,k,m,n] K=K fun i=>[a,b,c,d,e,f,g,h,j,k,m,n].getD i .b7:=by exact id rfl
theorem avd {R:Type} (a b c d e f g h j k m n o:V) (K:(Nat->V)->Option R):j4 13 [a,b,c,d,e,f,g,h,j,k,m,n,o] K=K fun i=>[a,b,c,d,e,f,g,h,j,k,m,n,o].getD i .b7:=by exact id rfl
theorem avB {R:Type} (a b c d e f g h j k m n o p:V) (K:(Nat->V)->Option R):j4 14 [a,b,c,d,e,f,g,h,j,k,m,n,o,p] K=K fun i=>[a,b,c,d,e,f,g,h,j,k,m,n,o,p].getD i .b7:=by exact id rfl
theorem avU {R:Type} (a b c d e f g h j k m n o p q:V) (K:(Nat->V)->Option R):j4 15 [a,b,c,d,e,f,g,h,j,k,m,n,o,p,q] K=K fun i=>[a,b,c,d,e,f,g,h,j,k,m,n,o,p,q].getD i .b7:=by exact id rfl
theorem avY {α:Type} (x0 x1 x2 x3 x4 x5 x6 x7 x8 x9 x10 d:α) (l:List α):(x0::x1::x2::x3::x4::x5::x6::x7::x8::x9::x10::l).getD 10 d=x10:=by exact id rfl
theorem au7 {α:Type} (x0 x1 x2 x3 x4 x5 x6 x7 x8 x9 x10 x11 d:α) (l:List α):(x0::x1::x2::x3::x4::x5::x6::x7::x8::x9::x10::x11::l).getD 11 d=x11:=by exact id rfl
theorem au4 {α:Type} (x0 x1 x2 x3 x4 x5 x6 x7 x8 x9 x10 x11 x12 d:α) (l:List α):(x0::x1::x2::x3::x4::x5::x6::x7::x8::x9::x10::x11::x12::l).getD 12 d=x12:=by exact id rfl
theorem avn {α:Type} (x0 x1 x2 x3 x4 x5 x6 x7 x8 x9 x10 x11 x12 x13 d:α) (l:List α):(x0::x1::x2::x3::x4::x5::x6::x7::x8::x9::x10::x11::x12::x13::l).getD 13 d=x13:=by exact id rfl
theorem avk {α:Type} (x0 x1 x2 x3 x4 x5 x6 x7 x8 x9 x10 x11 x12 x13 x14 d:α) (l:List α):(x0::x1::x2::x3::x4::x5::x6::x7::x8::x9::x10::x11::x12::x13::x14::l).getD 14 d=x14:=by exact id rfl
theorem avM {α:Type} (x0 x1 x2 x3 x4 x5 x6 x7 x8 x9 x10 x11 x12 x13 x14 x15 d:α) (l:List α):(x0::x1::x2::x3::x4::x5::x6::x7::x8::x9::x10::x11::x12::x13::x14::x15::l).getD 15 d=x15:=by exact id rfl
section
variable {B:List V->VH->Option (Option Nat × List V × VH)} {vs vs':List V} {hp hp':VH} {n:Nat}
theorem aiN (h:B vs hp=some (none,vs',hp')):l3 B vs hp=l3 B vs' hp':=by rw [ap9,h]
theorem adT (h:B vs hp=some (some n,vs',hp')):l3 B vs hp=some (n,vs',hp'):=by rw [ap9,h]
end
section
variable (tk:TK) (a b:Int) (k:IntKind)
theorem avA:a8 tk .lss (.int k a) (.int k b)=some (.bool (decide (a<b))):=by simp [a8,Z0,Q4,R7,Z9]
theorem avo:a8 tk .leq (.int k a) (.int k b)=some (.bool (decide (a<=b))):=by simp [a8,Z0,Q4,R7,Z9]
theorem avN:a8 tk .gtr (.int k a) (.int k b)=some (.bool (decide (a>b))):=by simp [a8,Z0,Q4,R7,Z9]
theorem avh:a8 tk .geq (.int k a) (.int k b)=some (.bool (decide (a>=b))):=by simp [a8,Z0,Q4,R7,Z9]
theorem avj:a8 tk .eql (.int k a) (.int k b)=some (.bool (decide (a=b))):=by
 simp only [a8,Z0,Q4,R7,Z9,Option.bind_some,if_true]
 congr 2
theorem avL:a8 tk .neq (.int k a) (.int k b)=some (.bool (!decide (a=b))):=by
 simp only [a8,Z0,Q4,R7,Z9,Option.bind_some,if_true]
 congr 2
theorem aeJ (h1 : -9223372036854775808<=a+b) (h2:a+b<=9223372036854775807):a8 tk .add (.int .i64 a) (.int .i64 b)=some (.int .i64 (a+b)):=by simp [a8,Z0,Q4,R7,Z9,IntWalk.i64_in _ ⟨h1,h2⟩]
theorem ak1 (h1 : -9223372036854775808<=a-b) (h2:a-b<=9223372036854775807):a8 tk .sub (.int .i64 a) (.int .i64 b)=some (.int .i64 (a-b)):=by simp [a8,Z0,Q4,R7,Z9,IntWalk.i64_in _ ⟨h1,h2⟩]
theorem alr (h1 : -9223372036854775808<=a*b) (h2:a*b<=9223372036854775807):a8 tk .mul (.int .i64 a) (.int .i64 b)=some (.int .i64 (a*b)):=by simp [a8,Z0,Q4,R7,Z9,IntWalk.i64_in _ ⟨h1,h2⟩]
theorem akY (h:b ≠ 0):a8 tk .rem (.int k a) (.int k b)=some (.int k (a.tmod b)):=by simp [a8,Z0,Q4,R7,Z9,h]
theorem ayG (h:0<b) (h1:0<=a) (h2:a<=9223372036854775807):a8 tk .quo (.int .i64 a) (.int .i64 b)=some (.int .i64 (a.tdiv b)):=by
 have h3:0<=a.tdiv b:=Int.tdiv_nonneg h1 (by omega)
 have h4:a.tdiv b<=a:=Int.tdiv_le_self b h1
 have h5:=IntWalk.i64_in (a.tdiv b) ⟨by omega,by omega⟩
 simp [a8,Z0,Z9,Q4,R7,show b ≠ 0 by omega,h5]
theorem avC (b:Bool):C9 .not (.bool b)=some (.bool !b):=by exact id rfl
theorem avg (a b:Bool):a8 .bool .eql (.bool a) (.bool b)=some (.bool (decide (a=b))):=by cases a<;>cases b<;>rfl
theorem avw (a b:Bool):a8 .bool .neq (.bool a) (.bool b)=some (.bool (!decide (a=b))):=by cases a<;>cases b<;>rfl
end
theorem ayy (tk:TK) (a b:Nat) (h1:a<2 ^ 62) (h2:b<2 ^ 62):a8 tk .xor (.int .i64 a) (.int .i64 b)=some (.int .i64 ((a ^^^ b:Nat):Int))/\a ^^^ b<2 ^ 62:=by
 have hlt:a ^^^ b<2 ^ 62:=Nat.xor_lt_two_pow h1 h2
 refine ⟨?_,hlt⟩
 have e1:BitVec.ofInt 64 (a:Int)=BitVec.ofNat 64 a:=by simp
 have e2:BitVec.ofInt 64 (b:Int)=BitVec.ofNat 64 b:=by simp
 have e3:(BitVec.ofNat 64 a ^^^ BitVec.ofNat 64 b).toNat=a ^^^ b:=by
  rw [BitVec.toNat_xor,BitVec.toNat_ofNat,BitVec.toNat_ofNat,Nat.mod_eq_of_lt (by omega),Nat.mod_eq_of_lt (by omega)]
 have e4:=IntWalk.i64_in ((a ^^^ b:Nat):Int) ⟨by omega,by omega⟩
 show some (V.int .i64 (IntKind.i64.wrap (((BitVec.ofInt 64 (a:Int) ^^^ BitVec.ofInt 64 (b:Int)).toNat:Nat):Int)))=_
 rw [e1,e2,e3,e4]
theorem aoe (a b:Nat):(a:Int).tmod (b:Int)=((a % b:Nat):Int):=by rw [Int.tmod_eq_emod_of_nonneg (by omega)]; simp
theorem auw (a b:Nat):(a:Int).tdiv (b:Int)=((a / b:Nat):Int):=by simp [Int.ofNat_tdiv]
theorem amu (n:Nat) (h:n<=255):acY .i64 (.int .u8 (n:Int))=some (.int .i64 (n:Int)):=by simp [acY,IntWalk.i64_in (n:Int) ⟨by omega,by omega⟩]
theorem af0 (tk:TK) (a b:Nat) (h:a*b<=9223372036854775807):a8 tk .mul (.int .i64 (a:Int)) (.int .i64 (b:Int))=some (.int .i64 ((a*b:Nat):Int)):=by
 have e:(a:Int)*(b:Int)=((a*b:Nat):Int):=by simp
 rw [alr _ _ _ (by rw [e]; omega) (by rw [e]; omega),e]
theorem p6 (tk:TK) (a b:Nat) (h:a+b<=9223372036854775807):a8 tk .add (.int .i64 (a:Int)) (.int .i64 (b:Int))=some (.int .i64 ((a+b:Nat):Int)):=by
 have e:(a:Int)+(b:Int)=((a+b:Nat):Int):=by simp
 rw [aeJ _ _ _ (by rw [e]; omega) (by rw [e]; omega),e]
theorem aij (tk:TK) (a b:Nat) (h:b<=a) (h2:a<=9223372036854775807):a8 tk .sub (.int .i64 (a:Int)) (.int .i64 (b:Int))=some (.int .i64 ((a-b:Nat):Int)):=by
 have e:(a:Int)-(b:Int)=((a-b:Nat):Int):=by omega
 rw [ak1 _ _ _ (by rw [e]; omega) (by rw [e]; omega),e]
theorem afI (tk:TK) (a b:Nat) (h:0<b):a8 tk .rem (.int .i64 (a:Int)) (.int .i64 (b:Int))=some (.int .i64 ((a % b:Nat):Int)):=by
 rw [akY _ _ _ _ (by omega),aoe]
theorem ahD (tk:TK) (a b:Nat) (h:0<b) (h2:a<=9223372036854775807):a8 tk .quo (.int .i64 (a:Int)) (.int .i64 (b:Int))=some (.int .i64 ((a / b:Nat):Int)):=by
 rw [ayG _ _ _ (by omega) (by omega) (by omega),auw]
theorem ave (s t:List UInt8):((ByteArray.mk s.toArray).toList==(ByteArray.mk t.toArray).toList)=decide (s=t):=by
 rw [ByteArray.toList_eq,ByteArray.toList_eq]
 show (s==t)=_
 rw [Bool.eq_iff_iff,beq_iff_eq,decide_eq_true_iff]
theorem avQ (tk:TK) (s t:List UInt8):a8 tk .eql (.str s) (.str t)=some (.bool (decide (s=t))):=by
 simp only [a8,Z0,Q4,afH,Z9,Option.bind_some,ave]
theorem au3 (tk:TK) (s t:List UInt8):a8 tk .neq (.str s) (.str t)=some (.bool (!decide (s=t))):=by
 simp only [a8,Z0,Q4,afH,Z9,Option.bind_some,ave]
theorem G3 (tk:TK) (s t:List UInt8) (h:s.length+t.length<=9223372036854775807):a8 tk .add (.str s) (.str t)=some (.str (s++t)):=by
 simp only [a8,Z0,Q4,afH,Z9,Option.bind_some]
 rw [if_pos (by simpa [ByteArray.size] using h)]
 simp [Z9]
theorem G9 (s:List UInt8) (k:IntKind) (i:Nat) (h:i<s.length):l8 (.str s) (.int k (i:Int))=some (.int .u8 ((s[i]'h).toNat:Int)):=by
 simp [l8,List.getElem?_eq_getElem h]
theorem avv (s:List UInt8):m9 (.str s)=some (.int .i64 s.length):=by exact id rfl
theorem avF (o:Bool) (xs:List (List V)):y0 (.sl o xs)=some (.int .i64 xs.length):=by exact id rfl
theorem aiy (s:List UInt8) (k k':IntKind) (l h:Nat) (h1:l<=h) (h2:h<=s.length):w5 (.str s) (some (.int k (l:Int))) (some (.int k' (h:Int)))=some (.str ((s.drop l).take (h-l))):=by
 simp only [w5,abQ,Option.bind_some]
 rw [if_pos (by omega)]; simp
theorem agA (s:List UInt8) (k:IntKind) (h:Nat) (h2:h<=s.length):w5 (.str s) none (some (.int k (h:Int)))=some (.str (s.take h)):=by
 simp only [w5,abQ,Option.bind_some]
 rw [if_pos (by omega)]; simp
theorem adC (s:List UInt8) (k:IntKind) (l:Nat) (h2:l<=s.length):w5 (.str s) (some (.int k (l:Int))) none=some (.str (s.drop l)):=by
 simp only [w5,abQ,Option.bind_some]
 rw [if_pos (by omega)]
 simp
 rw [List.take_of_length_le (by simp)]
theorem avJ (s:List UInt8):anN (.str s)=some (.str s):=by exact id rfl
theorem anE (b9:Nat) (o:Bool) (xs:List (List V)) (k:IntKind) (i:Nat) (c:List V) (h:xs[i]? = some c) (hc:c.length=b9):A1 b9 (.sl o xs) (.int k (i:Int))=some (.D3 (m8 c) 0):=by
 simp [A1,h,hc]
theorem atr (g:Nat->Option (List V)) (t:Bool) (n:Nat) (v:V) (H:VH):E3 g t false n (.D3 [v] 0) H=some (v,H):=by exact id rfl
theorem asZ (f:FuncId) (c:List V):P4 (.fn f c)=some (.fn f c):=by exact id rfl
theorem as2 (k o:Nat):P4 (.ptr k o)=some (.ptr k o):=by exact id rfl
theorem asF (c:List V) (o:Nat):P4 (.D3 c o)=some (.D3 c o):=by exact id rfl
theorem asG (k o n:Nat):K0 (.ptr k o) n=some (.ptr k (o+n)):=by exact id rfl
theorem atd (c:List V) (o n:Nat):K0 (.D3 c o) n=some (.D3 c (o+n)):=by exact id rfl
theorem ava (k:IntKind) (n:Int):y3 (.int k n)=some (.int k n):=by exact id rfl
theorem ar5 (b:Bool):y3 (.bool b)=some (.bool b):=by exact id rfl
theorem avz (s:List UInt8):y3 (.str s)=some (.str s):=by exact id rfl
theorem axt (o:Bool) (xs:List (List V)):y3 (.sl o xs)=some (.sl o xs):=by exact id rfl
theorem avK (k o:Nat):y3 (.ptr k o)=some (.ptr k o):=by exact id rfl
theorem axc (f:FuncId) (c:List V):y3 (.fn f c)=some (.fn f c):=by exact id rfl
theorem axQ (xs:List (List V)):Z6 (.sl true xs)=some xs:=by exact id rfl
theorem avf (f:FuncId) (c:List V):agh (.fn f c)=some (f,c):=by exact id rfl
theorem ax2 (a:V) (l:List V):n9 (.n8 (a::l)) 0=some a:=by exact id rfl
theorem ayc (a b:V) (l:List V):n9 (.n8 (a::b::l)) 1=some b:=by exact id rfl
theorem axj (a b c:V) (l:List V):n9 (.n8 (a::b::c::l)) 2=some c:=by exact id rfl
theorem axy (a:V) (l:List V):acs 0 (.n8 (a::l)) = .n8 (strip a::l):=by exact id rfl
theorem axv (a b:V) (l:List V):acs 1 (.n8 (a::b::l)) = .n8 (a::strip b::l):=by exact id rfl
theorem axD (a b c:V) (l:List V):acs 2 (.n8 (a::b::c::l)) = .n8 (a::b::strip c::l):=by exact id rfl
theorem arC (b9:Nat) (o:Bool) (xs:List (List V)) (k:IntKind) (h:Nat) (he:C6 b9 xs=true) (h2:h<=xs.length):F1 b9 (.sl o xs) none (some (.int k (h:Int)))=some (.sl false (m6 (xs.take h))):=by
 simp only [F1,abQ,Option.bind_some]
 rw [if_pos ⟨he,by omega⟩]; simp
theorem ayC (b9:Nat) (o:Bool) (xs:List (List V)) (k:IntKind) (l:Nat) (he:C6 b9 xs=true) (h2:l<=xs.length):F1 b9 (.sl o xs) (some (.int k (l:Int))) none=some (.sl false (m6 (xs.drop l))):=by
 simp only [F1,abQ,Option.bind_some]
 rw [if_pos ⟨he,by omega⟩]
 simp
 rw [List.take_of_length_le (by simp)]
theorem agD (b9 bytes:Nat) (xs:List (List V)) (o:Bool) (ys:List (List V)) (h1:C6 b9 xs=true) (h2:C6 b9 ys=true) (h3:(xs.length+ys.length)*bytes<=140737488355328):I5 false b9 bytes xs (.sl o ys)=some (.sl true (xs++ys)):=by
 simp only [I5]; rw [if_pos ⟨h1,h2,h3⟩]
theorem aeW {call:u5} {f:FuncId} {args:List V} {r:V} {H:VH} (h:call f args []=some (r,H)) (h1:u1 args=true) (h2:data r=true):aac call f args=some r:=by
 simp only [aac,h1,h,Option.bind_some,h2]
theorem u3 {call:u5} {f:FuncId} {args:List V} {r:V} {H:VH} (h:call f args []=some (r,H)) (h1:u1 args=true) (h2:abZ r=true):S9 call f args=some r:=by
 simp only [S9,h1,h,Option.bind_some,h2]
def vT (l:List (List UInt8)):List (List V):=l.map fun s=>[.str s]
def vI (k:IntKind) (l:List Int):List (List V):=l.map fun n=>[.int k n]
def vB (l:List UInt8):List (List V):=l.map fun b=>[.int .u8 b.toNat]
theorem abW (l:List (List UInt8)):(vT l).length=l.length:=by simp [vT]
theorem abk (l:List UInt8):(vB l).length=l.length:=by simp [vB]
theorem as0 (k:IntKind) (l:List Int):(vI k l).length=l.length:=by simp [vI]
theorem acz (l:List (List UInt8)):m6 (vT l)=vT l:=by
 induction l with
 | nil=>rfl
 | cons a l ih=>simp only [vT,List.map_cons,m6,m8,strip] at ih ⊢; rw [ih]
theorem agB (l:List UInt8):m6 (vB l)=vB l:=by
 induction l with
 | nil=>rfl
 | cons a l ih=>simp only [vB,List.map_cons,m6,m8,strip] at ih ⊢; rw [ih]
theorem apn (k:IntKind) (l:List Int):m6 (vI k l)=vI k l:=by
 induction l with
 | nil=>rfl
 | cons a l ih=>simp only [vI,List.map_cons,m6,m8,strip] at ih ⊢; rw [ih]
theorem anI (l:List (List UInt8)):D9 (vT l)=true:=by
 induction l with
 | nil=>rfl
 | cons a l ih=>simp only [vT,List.map_cons,D9,u1,A3,Bool.and_self,Bool.true_and] at ih ⊢; exact ih
theorem avm (l:List UInt8):D9 (vB l)=true:=by
 induction l with
 | nil=>rfl
 | cons a l ih=>simp only [vB,List.map_cons,D9,u1,A3,Bool.and_self,Bool.true_and] at ih ⊢; exact ih
theorem au5 (k:IntKind) (l:List Int):D9 (vI k l)=true:=by
 induction l with
 | nil=>rfl
 | cons a l ih=>simp only [vI,List.map_cons,D9,u1,A3,Bool.and_self,Bool.true_and] at ih ⊢; exact ih
theorem aiF (l:List (List UInt8)):I8 (vT l)=true:=by
 induction l with
 | nil=>rfl
 | cons a l ih=>simp only [vT,List.map_cons,I8,B9,data,Bool.and_self,Bool.true_and] at ih ⊢; exact ih
theorem aqc (l:List UInt8):I8 (vB l)=true:=by
 induction l with
 | nil=>rfl
 | cons a l ih=>simp only [vB,List.map_cons,I8,B9,data,Bool.and_self,Bool.true_and] at ih ⊢; exact ih
theorem aqx (k:IntKind) (l:List Int):I8 (vI k l)=true:=by
 induction l with
 | nil=>rfl
 | cons a l ih=>simp only [vI,List.map_cons,I8,B9,data,Bool.and_self,Bool.true_and] at ih ⊢; exact ih
theorem abS (l:List (List UInt8)):C6 1 (vT l)=true:=by simp [C6,vT]
theorem abJ (l:List UInt8):C6 1 (vB l)=true:=by simp [C6,vB]
theorem atE (k:IntKind) (l:List Int):C6 1 (vI k l)=true:=by simp [C6,vI]
theorem ayd (l:List (List UInt8)) (i:Nat) (h:i<l.length):(vT l)[i]? = some [.str l[i]]:=by simp [vT,List.getElem?_eq_getElem h]
theorem awR (l:List UInt8) (i:Nat) (h:i<l.length):(vB l)[i]? = some [.int .u8 (l[i].toNat:Int)]:=by simp [vB,List.getElem?_eq_getElem h]
theorem axf (k:IntKind) (l:List Int) (i:Nat) (h:i<l.length):(vI k l)[i]? = some [.int k l[i]]:=by simp [vI,List.getElem?_eq_getElem h]
theorem aoH (l m:List (List UInt8)):vT l++vT m=vT (l++m):=by simp [vT]
theorem awd (l:List (List UInt8)) (n:Nat):(vT l).drop n=vT (l.drop n):=by simp [vT]
theorem awf (l:List UInt8) (n:Nat):(vB l).take n=vB (l.take n):=by simp [vB]
theorem aep (o:Bool) (l:List (List UInt8)) (k:IntKind) (i:Nat) (h:i<l.length):A1 1 (.sl o (vT l)) (.int k (i:Int))=some (.D3 [.str l[i]] 0):=by
 rw [anE 1 o (vT l) k i _ (ayd l i h) rfl]; rfl
theorem apj (o:Bool) (l:List UInt8) (k:IntKind) (i:Nat) (h:i<l.length):A1 1 (.sl o (vB l)) (.int k (i:Int))=some (.D3 [.int .u8 (l[i].toNat:Int)] 0):=by
 rw [anE 1 o (vB l) k i _ (awR l i h) rfl]; rfl
theorem ash (o:Bool) (k':IntKind) (l:List Int) (k:IntKind) (i:Nat) (h:i<l.length):A1 1 (.sl o (vI k' l)) (.int k (i:Int))=some (.D3 [.int k' l[i]] 0):=by
 rw [anE 1 o (vI k' l) k i _ (axf k' l i h) rfl]; rfl
end Go.AM

/- What Go's assembly functions hand back in the machine of values: the place of a byte in a text, the count of a byte in a text. No condition. -/
namespace Go.AM
set_option linter.unusedSimpArgs false
set_option linter.unusedVariables false
def anT:Nat->List Value->Option Value
 | 0,[.string s,.int .u8 c]=>some (.int .i64 (Go.Lib.indexByte s.data.toList c.toNat.toUInt8))
 | 1,[.string s,.int .u8 c]=>some (.int .i64 (Go.Lib.countByte s.data.toList c.toNat.toUInt8))
 | _,_=>none
def ajX {R:Type} (n:Nat) (vs:List V) (K:V->Option R):Option R :=
 (vs.mapM Z0).bind fun az=>(anT n az).bind fun r=>(Z9 r).bind fun v=>K v
theorem akW {R:Type} (s:List UInt8) (c:Int) (K:V->Option R):ajX 0 [.str s,.int .u8 c] K=K (.int .i64 (Go.Lib.indexByte s c.toNat.toUInt8)):=by
 simp [ajX,Z0,anT,Z9]
theorem alL {R:Type} (s:List UInt8) (c:Int) (K:V->Option R):ajX 1 [.str s,.int .u8 c] K=K (.int .i64 (Go.Lib.countByte s c.toNat.toUInt8)):=by
 simp [ajX,Z0,anT,Z9]
def aro (l m:List Nat) (e:List (Nat × Nat)) (f:FuncId):Nat:=match look e f with | some n=>n+3 | none=>kindOf l m f
def avy (P:Program) (f n:Nat):Prop:=match n with
 | 0=>∀ args w,(callFunc f args).run P w=((Extern.BytealgIndexByte.indexByte args).run P w).andThen fun v w' => .ok (.value v) w'
 | 1=>∀ args w,(callFunc f args).run P w=((Extern.BytealgCount.count args).run P w).andThen fun v w' => .ok (.value v) w'
 | _=>True
def ahY (P:Program):List (Nat × Nat)->Prop
 | []=>True
 | (f,n)::l=>avy P f n/\ahY P l
theorem ahY.at {P:Program}:∀ {l:List (Nat × Nat)} {f n:Nat},ahY P l->look l f=some n->avy P f n
 | [],f,n,_,h=>by cases h
 | (g,m)::l,f,n,h,hl=>by
   unfold look at hl
   split at hl
   ·rename_i e
    have:g=f:=by simpa using e
    cases hl
    subst this
    exact h.1
   ·exact h.2.at hl
theorem asI (l m:List Nat) (f:FuncId):kindOf l m f<=2:=by
 unfold kindOf; split
 ·omega
 ·split<;>omega
theorem axP {P:Program} {l m:List Nat} {e:List (Nat × Nat)} (h:ahY P e):arW P (aro l m e) anT:=by
 intro f n vs v hk hx ι vs' w hv
 have hf:look e f=some n:=by
  unfold aro at hk
  split at hk
  ·rename_i k hk'; rw [hk']; congr 1; omega
  ·have:=asI l m f; omega
 have hF:=h.at hf
 match n,vs,hx with
 | 0,[.string s,.int .u8 c],hx =>
   cases hx
   obtain ⟨x,y,h1,h2⟩:∃ x y,vs' = #[x,y]/\VR ι (.string s) x/\VR ι (.int .u8 c) y:=by
    rcases vs' with ⟨l⟩
    cases hv with
    | cons a hv=>cases hv with
      | cons b hv=>cases hv; exact ⟨_,_,rfl,a,b⟩
   obtain ⟨h2,h3⟩:=h2
   cases h2; cases h3
   subst h1
   refine ⟨_,?_,.int _ _⟩
   rw [hF,Go.Lib.run_indexByteString]; rfl
 | 1,[.string s,.int .u8 c],hx =>
   cases hx
   obtain ⟨x,y,h1,h2⟩:∃ x y,vs' = #[x,y]/\VR ι (.string s) x/\VR ι (.int .u8 c) y:=by
    rcases vs' with ⟨l⟩
    cases hv with
    | cons a hv=>cases hv with
      | cons b hv=>cases hv; exact ⟨_,_,rfl,a,b⟩
   obtain ⟨h2,h3⟩:=h2
   cases h2; cases h3
   subst h1
   refine ⟨_,?_,.int _ _⟩
   rw [hF,Go.Lib.run_countString]; rfl
end Go.AM

/- slices.Insert and slices.Delete in the machine of values: on rows that lie in objects. -/
namespace Go.AM
set_option linter.unusedSimpArgs false
set_option linter.unusedVariables false
set_option linter.unusedSectionVars false
theorem Ext.trans {a b c:Wd} (h:Ext a b (fun _=>True)) (g:Ext b c (fun _=>True)):Ext a c (fun _=>True) where
 u9:=fun i k hk hn=>by
  obtain ⟨k1,a1,a2,a3,a4,a5,a6⟩:=h.u9 i k hk hn
  obtain ⟨k2,b1,b2,b3,b4,b5,b6⟩:=g.u9 i k1 a1 a2
  exact ⟨k2,b1,b2,fun q=>b3 (a3 q),by rw [b4,a4],by rw [b5,a5],fun _=>⟨by rw [(b6 trivial).1,(a6 trivial).1],by rw [(b6 trivial).2,(a6 trivial).2]⟩⟩
 g8:=fun k i hk=>g.g8 k i (h.g8 k i hk)
 osz:=fun k i kb hk hb=>by
  obtain ⟨k1,a1,a2⟩:=h.osz k i kb hk hb
  obtain ⟨k2,b1,b2⟩:=g.osz k i k1 (h.g8 k i hk) a1
  exact ⟨k2,b1,by rw [b2,a2]⟩
section
variable {w:Wd} {b:Nat} {kb k:j9} (hw:HW w) (hb:b ∈ w.g8) (hk:w.hp[b]? = some kb) (hf:k.g9=w.hp.length)
include hw hb hk hf
end
theorem RV.built {w:Wd} {y:List V} {l:List (List V)} {x:Value} {c:j1} (h:RV w (.sl true (y::l)) x c) {b9:Nat} (hesz:C6 b9 (y::l)=true) :
 ∃ b kv cc d,l6 w.hp b=some kv/\b ∉ w.fb/\x = .slice (some ⟨b,0,none⟩) (l.length+1) cc/\kv.sz=b9/\kv.md = .rw/\kv.pl=true/\0<b9/\kv.cells.length=(l.length+1)*b9/\l4 w (y::l) kv.cells b9 d/\∀ i,d i<=c i:=by
 simp only [RV] at h
 rcases h with ⟨h,_⟩ | ⟨h0,b,o,kb,ws,cc,d,h1,h2,h3,h4,h5,h6,h7,h8⟩
 ·cases h
 ·rcases h8 with ⟨h8,_⟩ | ⟨_,⟨h9,h9'⟩,rfl,h11,h12⟩
  ·cases h8
  ·have hsz:=h7.b9 hesz h0
   have hws:ws=kb.cells:=by
    have:=(E9 h6).2.1
    rw [this,List.drop_zero,List.take_of_length_le (by omega)]
   subst hws
   rw [hsz] at h7 h11 h5
   exact ⟨b,kb,cc,d,h1,h2,h4,hsz,h9,h9',h5,h11.symm,h7,fun i=>by rw [h12]; omega⟩
theorem D8.start {w:Wd} (hw:HW w) {args:List V} {args':List Value} {H:VH} {ca ch:j1} (hv:c9 w args args' ca) (ho:p8 w H w.g8 ch):D8 ⟨w.hp,w.g8,w.fb,fun i=>ca i+ch i⟩ w:=by
 refine ⟨Nat.le_refl _,fun _ _ h _ _=>h,fun b k hk _=>⟨k,hk,rfl,rfl,rfl,.inl rfl⟩,fun c k hc hk=>?_,⟨[],by simp,by simp⟩,⟨[],by simp,by simp⟩,fun b k hb hk=>?_,fun b kb hk=>⟨kb,hk,rfl,rfl⟩,hw.rlt,hw.g9⟩
 ·have:=(List.getElem?_eq_some_iff.1 hk).1; simp only at hc; omega
 ·simp only at hb
  by_cases q:1<=ca b
  ·obtain ⟨_,_,kb,a1,_,a3⟩:=c9.owned _ hv b q
   have a1':=(k9 a1).1
   rw [hk] at a1'; cases a1'; exact a3
  ·obtain ⟨kb,a1,a3⟩:=p8.ah1 ho b (by omega)
   rw [hk] at a1; cases a1; exact a3
def amb (P:Program) (ng:Nat):List (Nat × (List Value->Heap->Option (Value × Heap)))->Prop
 | []=>True
 | (f,g)::l=>(∀ args hp r hp',g args hp=some (r,hp')->auX P ng f args hp r hp')/\amb P ng l
theorem an8 {P:Program} {ng:Nat}:∀ {l:List (Nat × (List Value->Heap->Option (Value × Heap)))},amb P ng l->∀ f g args hp r hp',look l f=some g->g args hp=some (r,hp')->auX P ng f args hp r hp'
 | [],_,f,g,args,hp,r,hp',h,_=>by cases h
 | (k,q)::l,⟨h1,h2⟩,f,g,args,hp,r,hp',h,e=>by
   rw [j7] at h
   split at h
   ·rename_i hk; cases h; rw [hk]; exact h1 args hp r hp' e
   ·exact an8 h2 f g args hp r hp' h e
def ajQ (b:V3):List (Nat × (List V->VH->Option (V × VH)))->Prop
 | []=>True
 | (f,g)::l=>(∀ args H r H',g args H=some (r,H')->C4 (b.ctx (N6 b) l3) (N9 b.b) f args H r H')/\ajQ b l
theorem am1 {b:V3}:∀ {l:List (Nat × (List V->VH->Option (V × VH)))},ajQ b l->∀ f g args r H H',look l f=some g->g args H=some (r,H')->C4 (b.ctx (N6 b) l3) (N9 b.b) f args H r H'
 | [],_,f,g,args,r,H,H',h,_=>by cases h
 | (k,q)::l,⟨h1,h2⟩,f,g,args,r,H,H',h,e=>by
   rw [j7] at h
   split at h
   ·rename_i hk; cases h; rw [hk]; exact h1 args H r H' e
   ·exact am1 h2 f g args r H H' h e
theorem am6 {α β:Type}:∀ {l:List (Nat × α)} {l':List (Nat × β)},l.map (·.1)=l'.map (·.1)->∀ {f:Nat},look l f=none->look l' f=none
 | [],[],_,f,_=>rfl
 | [],_::_,h,_,_=>by simp at h
 | _::_,[],h,_,_=>by simp at h
 | (k,a)::l,(k',a')::l',h,f,hn=>by
   simp only [List.map_cons,List.cons.injEq] at h
   obtain ⟨rfl,h⟩:=h
   rw [j7] at hn ⊢
   split at hn
   ·cases hn
   ·rename_i hk; rw [if_neg hk]; exact am6 h hn
end Go.AM

/- What comes in: arguments read az data, az values of the machines. -/
namespace Go.AM
set_option linter.unusedSimpArgs false
set_option linter.unusedVariables false
inductive Ty where
 | bool
 | int (k:IntKind)
 | str
 | sl (e:Ty)
 | st (fs:List Ty)
mutual
def O4:Ty->Nat
 | .st fs=>aaS fs
 | _=>1
termination_by structural t=>t
def aaS:List Ty->Nat
 | []=>0
 | t::ts=>O4 t+aaS ts
termination_by structural l=>l
end
mutual
def abT (P:Program):Ty->TypeId->Bool
 | .bool,t=>(match P.underlying t with | some .bool=>true | _=>false)
 | .int k,t=>(match P.underlying t with | some (.int k')=>decide (k'=k) | _=>false)
 | .str,t=>(match P.underlying t with | some .string=>true | _=>false)
 | .sl e,t=>(match P.underlying t with | some (.slice e')=>abT P e e'&&decide (P.cellsOf e'=O4 e)&&decide (0<O4 e) | _=>false)
 | .st fs,t=>(match P.underlying t with | some (.struct fields)=>alO P fs fields.toList 0&&decide (P.cellsOf t=aaS fs) | _=>false)
termination_by structural t=>t
def alO (P:Program):List Ty->List Field->Nat->Bool
 | [],fs,_=>(match fs with | []=>true | _=>false)
 | t::ts,fs,off=>(match fs with | f::fs=>abT P t f.type&&decide (f.offset=off)&&decide (P.cellsOf f.type=O4 t)&&alO P ts fs (off+O4 t) | []=>false)
termination_by structural l=>l
end
mutual
def J2:Ty->List V->Prop
 | .bool,vs=>∃ b,vs=[.bool b]
 | .int k,vs=>∃ n,vs=[.int k n]/\(Lit.int k n).wf=true
 | .str,vs=>∃ s:List UInt8,vs=[.str s]/\s.length<=maxLen
 | .sl e,vs=>∃ xs:List (List V),vs=[.sl false xs]/\xs.length<=maxLen/\∀ x ∈ xs,J2 e x
 | .st fs,vs=>Y9 fs vs
termination_by structural t=>t
def Y9:List Ty->List V->Prop
 | [],vs=>vs=[]
 | t::ts,vs=>∃ a b,vs=a++b/\J2 t a/\Y9 ts b
termination_by structural l=>l
end
structure Q3 (ι:l5) (hp:Heap) (w:World):Prop where
 ro:∀ (b:Nat) (k:j9),hp[b]? = some k->(k.md = .ro\/k.md = .gone)/\k.g9=b/\k.pl=true
 C0:∀ b x,ι b=some x->b<hp.length
 ok:∀ b x k,ι b=some x->hp[b]? = some k->(k.md ≠ .gone->Y1 ι x k w w.heap.size)/\k.sz=x.sz
theorem GOk.zero (ι:l5):GOk 0 ι:=fun g hg=>by omega
theorem GOk.mono {n:Nat} {ι ι':l5} (h:GOk n ι) (s:Sub ι ι'):GOk n ι':=fun g hg=>by
 obtain ⟨x,h1,h2⟩:=h g hg
 exact ⟨x,s _ _ h1,h2⟩
theorem Q3.rel {ι:l5} {hp:Heap} {w:World} (h:Q3 ι hp w) {n:Nat} (hg:GOk n ι):Rel n ι hp w w.heap.size where
 G5:=hg
 S2:=fun b x k hx hk=>(h.ok b x k hx hk).2
 C0:=h.C0
 base:=Nat.le_refl _
 ok:=fun b x k hx hk=>(h.ok b x k hx (k9 hk).1).1 (k9 hk).2.1
 sep:=fun b x k b' x' k' hx hk hm=>by
  rcases (h.ro b k (k9 hk).1).1 with q | q<;>(rw [q] at hm; cases hm)
theorem Q3.hw {ι:l5} {hp:Heap} {w:World} (h:Q3 ι hp w):HW ⟨hp,[],[]⟩ where
 obj:=fun b hb=>by cases hb
 one:=fun b c kb kc hb hc m1 m2 _=>by rcases (h.ro b kb hb).1 with q | q<;>(rw [q] at m1; cases m1)
 g9:=fun c k hk=>by
  rw [(h.ro c k hk).2.1]; exact (List.getElem?_eq_some_iff.1 hk).1
 V5:=fun b hb=>by cases hb
 sub:=fun b hb=>by cases hb
 nd:=List.nodup_nil
 fbf:=fun _ _ _ _ hb=>by cases hb
 mrk:=fun c k hk e=>by rw [(h.ro c k hk).2.2] at e; cases e
theorem Q3.ayK {ι:l5} {hp:Heap} {w:World} (h:Q3 ι hp w):∀ b k,l6 hp b=some k->k.md ≠ .rw:=fun b k hk e=>by
 rcases (h.ro b k (k9 hk).1).1 with q | q<;>(rw [q] at e; cases e)
theorem Q3.nil (w:World):Q3 (fun _=>none) [] w where
 ro:=fun b k h=>by simp at h
 C0:=fun b x h=>by cases h
 ok:=fun b x k h=>by cases h
theorem Y1.sub {ι ι':l5} (hs:Sub ι ι') {x:Img} {k:j9} {w:World} {B:Nat} (h:Y1 ι x k w B):Y1 ι' x k w B:=by
 obtain ⟨cs,el,fr,h1,h2,h3,h4,h5⟩:=h
 exact ⟨cs,el,fr,h1,h2,h3,h4.mono hs,h5⟩
theorem Q3.push {ι:l5} {hp:Heap} {w:World} (h:Q3 ι hp w) {x:Img} {cells:List Value} {sz:Nat} (hb:Y1 ι x ⟨cells,sz,.ro,hp.length,true⟩ w w.heap.size) (hsz:sz=x.sz) :
 ∃ ι',Q3 ι' (hp++[⟨cells,sz,.ro,hp.length,true⟩]) w/\Sub ι ι'/\ι' hp.length=some x:=by
 have hsub:Sub ι (fun b=>if b=hp.length then some x else ι b):=fun b y hy=>by
  have:=h.C0 b y hy
  show (if b=hp.length then some x else ι b)=some y
  rw [if_neg (by omega)]; exact hy
 refine ⟨fun b=>if b=hp.length then some x else ι b,⟨fun b k hk=>?_,fun b y hy=>?_,fun b y k hy hk=>?_⟩,hsub,by simp⟩
 ·rcases Q0 hk with ⟨_,hk⟩ | ⟨rfl,rfl⟩
  ·exact h.ro b k hk
  ·exact ⟨.inl rfl,rfl,rfl⟩
 ·have hy':(if b=hp.length then some x else ι b)=some y:=hy
  simp only [List.length_append,List.length_cons,List.length_nil]
  split at hy'
  ·omega
  ·have:=h.C0 b y hy'; omega
 ·have hy':(if b=hp.length then some x else ι b)=some y:=hy
  rcases Q0 hk with ⟨hl,hk⟩ | ⟨rfl,rfl⟩
  ·rw [if_neg (by omega)] at hy'
   obtain ⟨a,b'⟩:=h.ok b y k hy' hk
   exact ⟨fun q=>(a q).sub hsub,b'⟩
  ·rw [if_pos rfl] at hy'
   cases hy'
   exact ⟨fun _=>hb.sub hsub,hsz⟩
theorem C8.awJ {ι:l5} {xs ys:List Value} (h:C8 ι xs ys):xs.length=ys.length:=by
 induction h with
 | nil=>rfl
 | cons _ _ ih=>simp [ih]
theorem C8.get' {ι:l5} {xs ys:List Value} (h:C8 ι xs ys):∀ (i:Nat) (x:Value),xs[i]? = some x->∃ y,ys[i]? = some y/\VR ι x y:=by
 induction h with
 | nil=>intro i x h; simp at h
 | cons h1 _ ih =>
   intro i z hz
   cases i with
   | zero=>simp at hz; subst hz; exact ⟨_,by simp,h1⟩
   | succ i=>simp at hz; simpa using ih i z hz
theorem al5 (hp new:Heap):Ext ⟨hp,[],[]⟩ ⟨hp++new,[],[]⟩ (fun _=>True):=by
 refine ⟨fun b kb hb hn=>⟨kb,?_,w9.nil,by simp,rfl,rfl,fun _=>⟨rfl,rfl⟩⟩,fun k b h=>h,fun k b kb h=>by simp at h⟩
 show l6 (hp++new) b=_
 have hb':l6 hp b=some kb:=hb
 rw [w6 _ (k9 hb').2.2]; exact hb'
theorem c9.push {hp new:Heap} {vs:List V} {xs:List Value} (h:c9 ⟨hp,[],[]⟩ vs xs (fun _=>0)):c9 ⟨hp++new,[],[]⟩ vs xs (fun _=>0) :=
 c9.mono (al5 hp new) vs h (fun _ _=>trivial)
theorem l4.push {hp new:Heap} {vs:List (List V)} {xs:List Value} {sz:Nat} (h:l4 ⟨hp,[],[]⟩ vs xs sz (fun _=>0)):l4 ⟨hp++new,[],[]⟩ vs xs sz (fun _=>0) :=
 l4.mono (al5 hp new) vs h (fun _ _=>trivial)
mutual
theorem J2.len:∀ (τ:Ty) {vs:List V},J2 τ vs->vs.length=O4 τ
 | .bool,vs,h=>by simp only [J2] at h; obtain ⟨_,rfl⟩:=h; rfl
 | .int k,vs,h=>by simp only [J2] at h; obtain ⟨_,rfl,_⟩:=h; rfl
 | .str,vs,h=>by simp only [J2] at h; obtain ⟨_,rfl,_⟩:=h; rfl
 | .sl e,vs,h=>by simp only [J2] at h; obtain ⟨_,rfl,_⟩:=h; rfl
 | .st fs,vs,h=>by simp only [J2] at h; simp only [O4]; exact Y9.len fs h
theorem Y9.len:∀ (τ:List Ty) {vs:List V},Y9 τ vs->vs.length=aaS τ
 | [],vs,h=>by simp only [Y9] at h; rw [h]; rfl
 | t::ts,vs,h=>by
   simp only [Y9] at h
   obtain ⟨a,b,rfl,h1,h2⟩:=h
   simp only [List.length_append,aaS,J2.len t h1,Y9.len ts h2]
end
section
variable {H:Type} {enc:TypeId × Value->H} {P:Program} {w:World}
theorem akU {a:Addr} {v:Value} (h:w.cell? a=some v):∃ cs el fr,w.heap[a.block]? = some (.cells cs el fr)/\a.spot=none/\cs[a.off]? = some v:=by
 unfold World.cell? at h
 split at h
 ·rename_i c el fr hc
  split at h
  ·cases h
  ·rename_i hs
   refine ⟨c,el,fr,hc,?_,h⟩
   cases e:a.spot with
   | none=>rfl
   | some _=>rw [e] at hs; simp at hs
 ·cases h
theorem asC (a:Addr) (n:Nat):(a.add n).block=a.block:=by unfold Addr.add; split<;>rfl
theorem aww (a:Addr) (n:Nat):(a.add n).off=a.off+n:=by
 unfold Addr.add; split
 ·rename_i h; subst h; simp
 ·rfl
theorem add_add (a:Addr) (m n:Nat):(a.add m).add n=a.add (m+n)\/(a.add m).add n=a.add (m+n):=by
 left
 unfold Addr.add
 by_cases hm:m=0
 ·subst hm; simp
 ·by_cases hn:n=0
  ·subst hn; simp
  ·simp only [hm,hn,if_false,Nat.add_eq_zero_iff,and_self,Nat.add_assoc]
mutual
theorem conv:∀ (τ:Ty) {t:TypeId} {n:Nat} {cs:List Value} {x:DataW H × List MemPlace} {hp:Heap} {ι:l5},abT P τ t=true->DataW.trod enc P w 0 (fun _=>true) true n t cs=some x->Q3 ι hp w →
 ∃ new ι' xs vs,Q3 ι' (hp++new) w/\Sub ι ι'/\C8 ι' xs cs/\(∀ u ∈ xs,u.oneCell'=true)/\c9 ⟨hp++new,[],[]⟩ vs xs (fun _=>0)/\J2 τ vs
 | .bool,t,n,cs,x,hp,ι,ht,h,hi=>by
   simp only [abT] at ht
   split at ht
   ·rename_i hu
    obtain ⟨b,rfl,rfl⟩:=DataW.trod_bool hu h
    exact ⟨[],ι,[.bool b],[.bool b],by simpa using hi,Sub.refl ι,.cons (.bool b) .nil,by simp [Value.oneCell'],c9.one (by simp [RV]),by simp [J2]⟩
   ·cases ht
 | .int k,t,n,cs,x,hp,ι,ht,h,hi=>by
   simp only [abT] at ht
   split at ht
   ·rename_i k' hu
    have:=of_decide_eq_true ht
    subst this
    obtain ⟨b,rfl,rfl,hw⟩:=DataW.trod_int hu h
    exact ⟨[],ι,[.int k' b],[.int k' b],by simpa using hi,Sub.refl ι,.cons (.int k' b) .nil,by simp [Value.oneCell'],c9.one (by simp [RV]),by simp only [J2]; exact ⟨b,rfl,hw⟩⟩
   ·cases ht
 | .str,t,n,cs,x,hp,ι,ht,h,hi=>by
   simp only [abT] at ht
   split at ht
   ·rename_i hu
    obtain ⟨b,rfl,rfl,hw⟩:=DataW.trod_string hu h
    exact ⟨[],ι,[.string b],[.str b.data.toList],by simpa using hi,Sub.refl ι,.cons (.str b) .nil,by simp [Value.oneCell'],c9.one (by simp [RV]),by simp only [J2]; exact ⟨_,rfl,by have e:b.data.toList.length=b.size:=rfl; rw [e]; exact hw⟩⟩
   ·cases ht
 | .sl e,t,n,cs,x,hp,ι,ht,h,hi=>by
   simp only [abT] at ht
   split at ht
   ·rename_i e' hu
    simp only [Bool.and_eq_true,decide_eq_true_eq] at ht
    obtain ⟨⟨hte,hsz⟩,hpos⟩:=ht
    rcases DataW.trod_slice hu h with ⟨rfl,rfl⟩ | ⟨a,len,cap,elems,rest,m,rfl,rfl,rfl,_,hlc,hcap,hel,hget,hsp,_⟩
    ·refine ⟨[],ι,[.slice none 0 0],[.sl false []],by simpa using hi,Sub.refl ι,.cons .adh .nil,by simp [Value.oneCell'],c9.one (by simp only [RV]; exact .inl ⟨trivial,⟨none,0,rfl,by simp⟩,by simp⟩),?_⟩
     simp only [J2]
     exact ⟨[],rfl,by simp,by simp⟩
    ·by_cases h0:len=0
     ·subst h0
      refine ⟨[],ι,[.slice (some ⟨0,0,none⟩) 0 1],[.sl false []],by simpa using hi,Sub.refl ι,.cons (.slz _ _ _ _ (by omega)) .nil,by simp [Value.oneCell'],c9.one (by simp only [RV]; exact .inl ⟨trivial,⟨_,1,rfl,by simp⟩,by simp⟩),?_⟩
      simp only [J2]
      exact ⟨[],rfl,by simp,by simp⟩
     ·-- the elements,one after the other
      have elem:∀ (j:Nat) {hp:Heap} {ι:l5},j<=len->Q3 ι hp w->∃ new ι' xs vs,Q3 ι' (hp++new) w/\Sub ι ι'/\xs.length=j*O4 e/\(∀ (i:Nat) (v:Value),xs[i]? = some v->v.oneCell'=true/\∃ v',w.cell? (a.add i)=some v'/\VR ι' v v') ∧
       l4 ⟨hp++new,[],[]⟩ vs xs (O4 e) (fun _=>0)/\vs.length=j/\∀ y ∈ vs,J2 e y:=by
       intro j
       induction j with
       | zero=>intro hp ι _ hi; exact ⟨[],ι,[],[],by simpa using hi,Sub.refl ι,by simp,by simp,by simp [l4],rfl,by simp⟩
       | succ j ih =>
         intro hp ι hj hi
         obtain ⟨new1,ι1,xs1,vs1,i1,s1,l1,r1,q1,n1,t1⟩:=ih (by omega) hi
         have hg:=hget j (by omega)
         have hej:∃ y,elems[j]? = some y:=⟨elems[j]'(by omega),List.getElem?_eq_getElem (by omega)⟩
         obtain ⟨y,hy⟩:=hej
         rw [hy,Option.bind_eq_some_iff] at hg
         obtain ⟨ecs,hec,hey⟩:=hg
         obtain ⟨new2,ι2,xs2,vs2,i2,s2,r2,o2,q2,t2⟩:=conv e hte hey i1
         obtain ⟨_,hlen2,hcell⟩:=World.cells?_some hec
         have hx2:xs2.length=O4 e:=by rw [r2.awJ,hlen2,hsz]
         refine ⟨new1++new2,ι2,xs1++xs2,vs1++[vs2],by rw [<-List.append_assoc]; exact i2,s1.trans s2,by simp [l1,hx2,Nat.succ_mul],fun i v hv=>?_,?_,by simp [n1],fun z hz=>?_⟩
         ·by_cases hlt:i<xs1.length
          ·rw [List.getElem?_append_left hlt] at hv
           obtain ⟨g1,v',g2,g3⟩:=r1 i v hv
           exact ⟨g1,v',g2,g3.mono s2⟩
          ·rw [List.getElem?_append_right (by omega)] at hv
           obtain ⟨v',g2,g3⟩:=r2.get' _ _ hv
           refine ⟨o2 v (List.mem_of_getElem? hv),v',?_,g3⟩
           have hi2:i-xs1.length<P.cellsOf e':=by
            have:=(List.getElem?_eq_some_iff.1 g2).1; omega
           have:=hcell (i-xs1.length) hi2
           rw [g2] at this
           rw [<-this]
           have e1:(a.add (j*P.cellsOf e')).add (i-xs1.length)=a.add (j*P.cellsOf e'+(i-xs1.length)):=(add_add a _ _).elim id id
           have e2:j*P.cellsOf e'+(i-xs1.length)=i:=by rw [hsz,<-l1]; omega
           rw [e1,e2]
         ·rw [<-List.append_assoc]
          refine (l4.app (l4.push q1) (b:=fun _=>0) ?_).congr (by simp)
          simp only [l4]
          exact ⟨xs2,[],fun _=>0,fun _=>0,by simp,J2.len e t2,q2,⟨rfl,by simp⟩,by simp⟩
         ·rcases List.mem_append.1 hz with hz | hz
          ·exact t1 z hz
          ·simp at hz; subst hz; exact t2
      obtain ⟨new,ι1,xs,vs,i1,s1,l1,r1,q1,n1,t1⟩:=elem len (Nat.le_refl _) hi
      have hxl:0<xs.length:=by rw [l1]; exact Nat.mul_pos (by omega) hpos
      obtain ⟨_,v0,hv0,_⟩:=r1 0 xs[0] (List.getElem?_eq_getElem hxl)
      have ha0:a.add 0=a:=by simp [Addr.add]
      rw [ha0] at hv0
      obtain ⟨c,el,fr,hc,hspot,_⟩:=akU hv0
      have inb:∀ i v,w.cell? (a.add i)=some v->a.off+i<c.size/\c[a.off+i]? = some v:=fun i v hv=>by
       obtain ⟨c',el',fr',hc',_,hx⟩:=akU hv
       rw [asC] at hc'
       rw [hc] at hc'
       cases hc'
       rw [aww] at hx
       exact ⟨(Array.getElem?_eq_some_iff.1 hx).1,hx⟩
      have hroom:a.off+cap*O4 e<=c.size:=by
       have hlast:∃ ecs,w.cells? 0 (a.add ((cap-1)*P.cellsOf e')) (P.cellsOf e')=some ecs:=by
        by_cases hcl:cap=len
        ·have hg:=hget (cap-1) (by omega)
         have:∃ y,elems[cap-1]? = some y:=⟨elems[cap-1]'(by omega),List.getElem?_eq_getElem (by omega)⟩
         obtain ⟨y,hy⟩:=this
         rw [hy,Option.bind_eq_some_iff] at hg
         exact ⟨_,hg.choose_spec.1⟩
        ·obtain ⟨hrl,hr⟩:=hsp rfl
         have hg:=hr (cap-1-len) (by omega)
         have:∃ y,rest[cap-1-len]? = some y:=⟨rest[cap-1-len]'(by omega),List.getElem?_eq_getElem (by omega)⟩
         obtain ⟨y,hy⟩:=this
         rw [show len+(cap-1-len)=cap-1 by omega,hy,Option.bind_eq_some_iff] at hg
         exact ⟨_,hg.choose_spec.1⟩
       obtain ⟨ecs,hec⟩:=hlast
       obtain ⟨_,hl2,hcell⟩:=World.cells?_some hec
       rw [hsz] at *
       have hlt:O4 e-1<ecs.length:=by omega
       have:=hcell (O4 e-1) (by omega)
       rw [List.getElem?_eq_getElem hlt,(add_add a _ _).elim id id] at this
       have:=(inb _ _ this).1
       have hm:(cap-1)*O4 e+O4 e=cap*O4 e:=by
        rw [<-Nat.succ_mul]; congr 1; omega
       omega
      have hblk:Y1 ι1 ⟨a.block,a.off,c.size-a.off,O4 e⟩ ⟨xs,O4 e,.ro,(hp++new).length,true⟩ w w.heap.size:=by
       refine ⟨c,el,fr,hc,by simp only; omega,?_,fun i v hv=>?_,fun h=>by cases h⟩
       ·simp only; rw [l1]
        have:=Nat.mul_le_mul_right (O4 e) hlc
        omega
       ·obtain ⟨g1,v',g2,g3⟩:=r1 i v hv
        exact ⟨g1,v',(inb i v' g2).2,g3⟩
      obtain ⟨ι2,i2,s2,hat⟩:=i1.push hblk rfl
      refine ⟨new++[⟨xs,O4 e,.ro,(hp++new).length,true⟩],ι2,[.slice (some ⟨(hp++new).length,0,none⟩) len (len+1)],[.sl false vs],by rw [<-List.append_assoc]; exact i2,s1.trans s2,?_,by simp [Value.oneCell'],?_,?_⟩
      ·refine .cons ?_ .nil
       have:=VR.slc (ι:=ι2) (o:=0) (n:=len) (c:=len+1) (c':=cap) hat (by omega) hlc (by omega) (by simp only; omega)
       have ea:(⟨a.block,a.off+0,none⟩:Addr)=a:=by
        obtain ⟨b,o,s⟩:=a
        simp only at hspot
        subst hspot; rfl
       simp only at this
       rw [ea] at this; exact this
      ·refine c9.one ?_
       rw [<-List.append_assoc]
       have hne:vs ≠ []:=fun e=>by rw [e] at n1; simp at n1; omega
       simp only [RV]
       refine .inr ⟨hne,(hp++new).length,0,⟨xs,O4 e,.ro,(hp++new).length,true⟩,xs,len+1,fun _=>0,aqH (by simp),by simp,w9.nil,by rw [n1],hpos,?_,l4.push q1,.inl ⟨trivial,by simp,by simp⟩⟩
       show L2 xs 0 (vs.length*O4 e)=some xs
       rw [M1 (by rw [n1,l1]; omega),List.drop_zero,List.take_of_length_le (by rw [n1,l1]; omega)]
      ·simp only [J2]
       exact ⟨vs,rfl,by rw [n1]; omega,t1⟩
   ·cases ht
 | .st fs,t,n,cs,x,hp,ι,ht,h,hi=>by
   simp only [abT] at ht
   split at ht
   ·rename_i fields hu
    simp only [Bool.and_eq_true,decide_eq_true_eq] at ht
    obtain ⟨ht1,ht2⟩:=ht
    obtain ⟨xs,m,rfl,rfl,hlen,hxl,hget⟩:=DataW.trod_struct hu h
    obtain ⟨new,ι',ys,vs,g1,g2,g3,g4,g5,g6⟩:=au8 fs (fields:=fields.toList) (off:=0) (cs:=cs) (m:=m) ht1 (by rw [hlen,ht2]; omega) (fun i f hf=>by
     have:=hget i f (by simpa using hf)
     have hi:i<xs.length:=by rw [hxl]; have:=(List.getElem?_eq_some_iff.1 hf).1; simpa using this
     exact ⟨xs[i],by rw [this,List.getElem?_eq_getElem hi]⟩) hi
    refine ⟨new,ι',ys,vs,g1,g2,?_,g4,g5,by simp only [J2]; exact g6⟩
    have:(cs.drop 0).take (aaS fs)=cs:=by rw [List.drop_zero,List.take_of_length_le (by omega)]
    rw [this] at g3; exact g3
   ·cases ht
theorem au8:∀ (fs:List Ty) {fields:List Field} {off m:Nat} {cs:List Value} {hp:Heap} {ι:l5},alO P fs fields off=true->off+aaS fs<=cs.length →
 (∀ (i:Nat) (f:Field),fields[i]? = some f->∃ y,DataW.trod enc P w 0 (fun _=>true) true m f.type ((cs.drop f.offset).take (P.cellsOf f.type))=some y)->Q3 ι hp w →
 ∃ new ι' xs vs,Q3 ι' (hp++new) w/\Sub ι ι'/\C8 ι' xs ((cs.drop off).take (aaS fs))/\(∀ u ∈ xs,u.oneCell'=true)/\c9 ⟨hp++new,[],[]⟩ vs xs (fun _=>0)/\Y9 fs vs
 | [],fields,off,m,cs,hp,ι,ht,hl,hg,hi=>⟨[],ι,[],[],by simpa using hi,Sub.refl ι,by simp [aaS]; exact .nil,by simp,by simp [c9],by simp [Y9]⟩
 | t::ts,fields,off,m,cs,hp,ι,ht,hl,hg,hi=>by
   cases fields with
   | nil=>simp only [alO] at ht; cases ht
   | cons f fields =>
     simp only [alO,Bool.and_eq_true,decide_eq_true_eq] at ht
     obtain ⟨⟨⟨h1,h2⟩,h3⟩,h4⟩:=ht
     simp only [aaS] at hl
     obtain ⟨y,hy⟩:=hg 0 f (by simp)
     rw [h2,h3] at hy
     obtain ⟨new1,ι1,xs1,vs1,i1,s1,r1,o1,q1,t1⟩:=conv t h1 hy hi
     obtain ⟨new2,ι2,xs2,vs2,i2,s2,r2,o2,q2,t2⟩:=au8 ts (fields:=fields) (off:=off+O4 t) (cs:=cs) (m:=m) h4 (by omega) (fun i g hgi=>hg (i+1) g (by simpa using hgi)) i1
     refine ⟨new1++new2,ι2,xs1++xs2,vs1++vs2,by rw [<-List.append_assoc]; exact i2,s1.trans s2,?_,fun u hu=>?_,?_,by simp only [Y9]; exact ⟨vs1,vs2,rfl,t1,t2⟩⟩
     ·have e:(cs.drop off).take (aaS (t::ts))=(cs.drop off).take (O4 t)++(cs.drop (off+O4 t)).take (aaS ts):=by
       simp only [aaS]
       rw [<-List.drop_drop,List.take_add]
      rw [e]
      exact (r1.mono s2).append r2
     ·rcases List.mem_append.1 hu with hu | hu
      ·exact o1 u hu
      ·exact o2 u hu
     ·rw [<-List.append_assoc]
      exact ((c9.push q1).app q2).congr (by simp)
end
end
end Go.AM

/- Package variables that are listed az laid: rows of texts. -/
namespace Go.AM
set_option linter.unusedSimpArgs false
set_option linter.unusedVariables false
def ace (g:Nat) (cells:List Value):Heap:=(List.range g).map (fun b=>⟨[],1,.gone,b,true⟩)++[⟨cells,1,.ro,g,true⟩]
theorem agu (g:Nat) (cells:List Value):(ace g cells).length=g+1:=by simp [ace]
theorem amX (g:Nat) (cells:List Value):(ace g cells)[g]? = some ⟨cells,1,.ro,g,true⟩:=by
 unfold ace
 rw [List.getElem?_append_right (by simp)]; simp
theorem ak2 {g b:Nat} {cells:List Value} {k:j9} (h:(ace g cells)[b]? = some k):(b<g/\k=⟨[],1,.gone,b,true⟩)\/(b=g/\k=⟨cells,1,.ro,g,true⟩):=by
 have hl:=(List.getElem?_eq_some_iff.1 h).1
 rw [agu] at hl
 by_cases hb:b<g
 ·left
  unfold ace at h
  rw [List.getElem?_append_left (by simpa using hb)] at h
  simp [hb] at h
  exact ⟨hb,h.symm⟩
 ·obtain rfl:b=g:=by omega
  rw [amX] at h; cases h
  exact .inr ⟨rfl,rfl⟩
def akD (g room:Nat):l5:=fun b=>if b<=g then some ⟨b,0,if b=g then room else 0,1⟩ else none
def abo (ss:List (List UInt8)):List Value:=ss.map fun s => .string ⟨s.toArray⟩
theorem Q3.ayB {w:World} {g:Nat} {cs:Array Value} {el:TypeId} {fr:Nat × Nat} (hb:w.heap[g]? = some (.cells cs el fr)) {ss:List (List UInt8)} (hc:cs.toList=abo ss) :
 Q3 (akD g cs.size) (ace g (abo ss)) w/\GOk (g+1) (akD g cs.size):=by
 refine ⟨⟨fun b k h=>?_,fun b x h=>?_,fun b x k hx hk=>?_⟩,fun b hb'=>?_⟩
 ·rcases ak2 h with ⟨_,rfl⟩ | ⟨rfl,rfl⟩
  ·exact ⟨.inr rfl,rfl,rfl⟩
  ·exact ⟨.inl rfl,rfl,rfl⟩
 ·unfold akD at h
  rw [agu]
  split at h
  ·omega
  ·cases h
 ·unfold akD at hx
  split at hx
  ·cases hx
   rcases ak2 hk with ⟨hlt,rfl⟩ | ⟨rfl,rfl⟩
   ·exact ⟨fun q=>absurd rfl q,rfl⟩
   ·refine ⟨fun _=>⟨cs,el,fr,hb,by simp,?_,fun i v hv=>?_,fun q=>by cases q⟩,rfl⟩
    ·simp only [if_true]
     have:=congrArg List.length hc
     simp at this; simp [this]
    ·simp only at hv ⊢
     rw [<-hc] at hv
     have hv':cs[i]? = some v:=by simpa using hv
     have hm:v ∈ abo ss:=by rw [<-hc]; exact List.mem_of_getElem? hv
     unfold abo at hm
     obtain ⟨s,_,rfl⟩:=List.mem_map.1 hm
     exact ⟨rfl,_,by rw [Nat.zero_add]; exact hv',.str _⟩
  ·cases hx
 ·exact ⟨⟨b,0,if b=g then cs.size else 0,1⟩,by unfold akD; rw [if_pos (by omega)],rfl,rfl⟩
def akO (g:Nat) (ss:List (List UInt8)):Nat->Option (List V):=fun k=>match Nat.beq k g with | true=>some (ss.map .str) | false=>none
theorem aoc {w:Wd}:∀ ss:List (List UInt8),c9 w (ss.map .str) (abo ss) (fun _=>0)
 | []=>by simp [c9,abo]
 | s::ss=>⟨_,_,fun _=>0,fun _=>0,rfl,by simp [RV],aoc ss,by simp⟩
theorem arH {g:Nat} {ss:List (List UInt8)} {k:Nat} {cs:List V} (h:akO g ss k=some cs):B9 cs=true:=by
 unfold akO at h
 split at h
 ·cases h
  induction ss with
  | nil=>rfl
  | cons s ss ih=>simp only [List.map_cons,B9,data,Bool.true_and]; exact ih
 ·cases h
theorem I1.start {X:XV} {g:Nat} {ss:List (List UInt8)} (hx:X.G5=akO g ss) (hi:X.gi=fun _=>false) (new:Heap):I1 X ⟨ace g (abo ss)++new,[],[]⟩:=⟨(fun k cs h=>by
 rw [hx] at h
 unfold akO at h
 split at h
 ·rename_i hk
  cases h
  obtain rfl:=Nat.eq_of_beq_eq_true hk
  refine ⟨⟨abo ss,1,.ro,k,true⟩,?_,w9.nil,aoc ss,by simp,rfl⟩
  show l6 (ace k (abo ss)++new) k=_
  unfold l6
  rw [List.getElem?_append_left (by rw [agu]; omega),amX]
  rfl
 ·cases h),fun k h=>by rw [hi] at h; cases h⟩
theorem asn {P:Program} {w:World} {n:String} {d:DataW Unit} {g:Nat} {t e:TypeId} {k:Nat} {ss:List (List UInt8)} :
 ∀ {laid:List (String × DataW Unit)},laidMetH P laid w->(n,d) ∈ laid->d.handleName?.isNone=true->P.globalNamed n=some g->(P.globals[g]?).map (·.type)=some t->P.underlying t=some (.array k e)->P.underlying e=some .string →
 P.cellsOf e=1->P.cellsOf t=k->d = .agg (ss.map fun s => .lit (.string s))->∃ cs el fr,w.heap[g]? = some (.cells cs el fr)/\cs.toList=abo ss:=by
 intro laid h hm hh hg ht hu he h1 hk hd
 obtain ⟨h2,_⟩:=laidMetH_iff.1 h
 obtain ⟨ps,hv,-⟩:=h2
 have hm':(n,d) ∈ laid.filter fun x=>x.2.handleName?.isNone:=List.mem_filter.2 ⟨hm,hh⟩
 clear h hm hh
 generalize (laid.filter fun x=>x.2.handleName?.isNone)=l at hv hm'
 induction l generalizing ps with
 | nil=>cases hm'
 | cons y l ih =>
   obtain ⟨n',d'⟩:=y
   obtain ⟨g',t',cs,fuel,p,q,a1,a2,a3,a4,a5,a6⟩:=hv
   rcases List.mem_cons.1 hm' with e' | e'
   ·cases e'
    rw [hg] at a1; cases a1
    rw [ht] at a2; cases a2
    obtain ⟨cs',el,fr,b1,b2⟩:∃ cs' el fr,w.heap[g]? = some (.cells cs' el fr)/\cs'=cs:=by
     unfold World.var? at a3
     rw [hg] at a3
     simp only [Option.bind_some] at a3
     split at a3
     ·rename_i c el fr hc
      cases a3
      exact ⟨_,el,fr,hc,rfl⟩
     ·cases a3
    subst b2
    refine ⟨cs',el,fr,b1,?_⟩
    subst hd
    obtain ⟨xs,m,_,hx,hl,hxl,hf⟩:=DataW.trod_array hu a4
    simp only [Prod.mk.injEq,DataW.agg.injEq] at hx
    have hxs:=hx.1
    have hsl:ss.length=xs.length:=by simpa using congrArg List.length hxs
    rw [h1] at hf
    apply List.ext_getElem?
    intro i
    by_cases hi:i<k
    ·have hfi:=hf i hi
     have hxi:xs[i]? = some (xs[i]'(by omega)):=List.getElem?_eq_getElem (by omega)
     rw [hxi] at hfi
     obtain ⟨s,e1,e2,_⟩:=DataW.trod_string he hfi
     have e3:(ss.map fun s=>(DataW.lit (.string s):DataW Unit))[i]? = some (.lit (.string s.data.toList)):=by
      rw [hxs,List.getElem?_map,hxi,Option.map_some,e2]
     rw [List.getElem?_map] at e3
     have hsi:ss[i]? = some (ss[i]'(by omega)):=List.getElem?_eq_getElem (by omega)
     rw [hsi] at e3
     simp only [Option.map_some,Option.some.injEq,DataW.lit.injEq,Lit.string.injEq] at e3
     have e4:cs'.toList[i]? = some (.string s):=by
      rw [Nat.mul_one] at e1
      have:((cs'.toList.drop i).take 1)[0]? = some (.string s):=by rw [e1]; rfl
      rw [List.getElem?_take] at this
      simpa using this
     rw [e4]
     unfold abo
     rw [List.getElem?_map,hsi,Option.map_some,e3]
    ·rw [List.getElem?_eq_none (by omega),List.getElem?_eq_none (by unfold abo; simp; omega)]
   ·exact ih q a5 e'
end Go.AM

/- Objects: loading and storing through known pointers; the block that draws. -/
namespace Go.AM
set_option linter.unusedSimpArgs false
set_option linter.unusedVariables false
theorem at5 {α:Type} {l:List α} {k:Nat} {a:α} (h:l[k]? = some a):l.set k a=l:=by
 apply List.ext_getElem?
 intro i
 rw [List.getElem?_set]
 split
 ·rename_i e
  subst e
  rw [h,if_pos (List.getElem?_eq_some_iff.1 h).1]
 ·rfl
theorem aiW {g:Nat->Option (List V)} {n k off:Nat} {H:VH} {cs:List V} {v u:V} (h:H[k]? = some cs) (hv:cs[off]? = some v) (hu:strip v=u):E3 g false false n (.ptr k off) H=some (u,H):=by
 rw [<-hu]
 simp only [E3,h,adH,hv,Option.bind_some,Option.map_some,at5 h]
theorem aqC {k off:Nat} {H:VH} {cs:List V} {v:V} (h:H[k]? = some cs) (ho:off<cs.length):stO (.ptr k off) [v] H=some (H.set k (cs.set off v)):=by
 have hb:Nat.ble (off+[v].length) cs.length=true:=Nat.ble_eq_true_of_le (by simp; omega)
 simp only [stO,h,hb]
 have:O2 cs off [v]=cs.set off v:=by
  simp only [O2]
  rw [List.set_eq_take_append_cons_drop,if_pos ho]; simp
 rw [this]
def M7 (xs:List UInt8) (p n:Nat):Nat :=
 if xs.length=0 then 0
 else if p<xs.length then (xs.getD p 0).toNat % n
 else
  let x:=(xs.getD (p % xs.length) 0).toNat*131+(xs.getD ((p*7+3) % xs.length) 0).toNat*1117+p*29+p / xs.length*53
  (x ^^^ x / 64) % n
theorem aeC (xs:List UInt8) (p n:Nat) (h:1<=n):M7 xs p n<n:=by
 unfold M7
 split
 ·omega
 ·split
  ·exact Nat.mod_lt _ (by omega)
  ·exact Nat.mod_lt _ (by omega)
def rdr (o:Bool) (xs:List UInt8) (p:Nat):List V:=[.sl o (vB xs),.int .i64 (p:Int)]
end Go.AM

/- Arguments: each az a value of the machines. -/
namespace Go.AM
open Go.WideShapes
set_option linter.unusedSimpArgs false
set_option linter.unusedVariables false
def af3:Ty->V->Prop
 | .st fs,u=>∃ vs,u = .agg vs/\Y9 fs vs
 | τ,u=>J2 τ [u]
theorem axV {H:Type} {enc:TypeId × Value->H} {P:Program} {w:World} {τ:Ty} {t:TypeId} {v:Value} {d:DataW H} {ps:List MemPlace} {base:Nat} {r:Reach} {hp:Heap} {ι:l5} (ht:abT P τ t=true)
 (h:DataW.Trod enc P w 0 (fun _=>true) true t v d ps) (hv:Value.okWide P w r base t v) (hi:Q3 ι hp w) :
 ∃ new ι' x u,Q3 ι' (hp++new) w/\Sub ι ι'/\VR ι' x v/\RV ⟨hp++new,[],[]⟩ u x (fun _=>0)/\af3 τ u:=by
 obtain ⟨fuel,hf⟩:=h
 obtain ⟨new,ι',xs,vs,h1,h2,h3,h4,h5,h6⟩:=conv τ ht hf hi
 have single:∀ {c:Value},v.cells.toList=[c]->c=v->(∀ u,J2 τ [u]->af3 τ u)->∃ new ι' x u,Q3 ι' (hp++new) w/\Sub ι ι'/\VR ι' x v/\RV ⟨hp++new,[],[]⟩ u x (fun _=>0)/\af3 τ u:=by
  intro c hc hcv hA
  rw [hc] at h3
  cases h3 with
  | cons g1 g2 =>
    cases g2
    rename_i x
    match vs,h5 with
    | [u],h5 =>
      simp only [c9] at h5
      obtain ⟨x',ys,c1,c2,e1,k1,⟨e2,k2⟩,k3⟩:=h5
      cases e1
      exact ⟨new,ι',x,u,h1,h2,by rw [<-hcv]; exact g1,k1.congr (fun i=>by have:=k3 i; omega),hA u h6⟩
    | [],h5=>simp only [c9] at h5; exact absurd h5.1 (by simp)
    | u::u2::l,h5 =>
      simp only [c9] at h5
      obtain ⟨x',ys,c1,c2,e1,k1,⟨x2,ys2,d1,d2,e2,_⟩,k3⟩:=h5
      cases e1; cases e2
 cases τ with
 | bool =>
   simp only [abT] at ht
   split at ht
   ·rename_i hu
    obtain ⟨b,rfl⟩:=okWide_bool hu hv
    exact single rfl rfl (fun _ h=>h)
   ·cases ht
 | int k =>
   simp only [abT] at ht
   split at ht
   ·rename_i hu
    obtain ⟨b,rfl⟩:=okWide_int hu hv
    exact single rfl rfl (fun _ h=>h)
   ·cases ht
 | str =>
   simp only [abT] at ht
   split at ht
   ·rename_i hu
    obtain ⟨b,rfl⟩:=okWide_string hu hv
    exact single rfl rfl (fun _ h=>h)
   ·cases ht
 | sl e =>
   simp only [abT] at ht
   split at ht
   ·rename_i hu
    obtain ⟨a,l,c,rfl⟩:=okWide_slice hu hv
    exact single rfl rfl (fun _ h=>h)
   ·cases ht
 | st fs =>
   simp only [abT] at ht
   split at ht
   ·rename_i hu
    obtain ⟨⟨cs⟩,rfl,hsz⟩:=okWide_struct hu hv
    have h3':C8 ι' xs cs:=h3
    refine ⟨new,ι',.agg ⟨xs⟩,.agg vs,h1,h2,?_,?_,?_⟩
    ·refine .agg (by simp [h3'.awJ]) (fun i a b ha hb=>?_) (fun i a ha=>h4 a (List.mem_of_getElem? (by simpa using ha)))
     obtain ⟨y,g1,g2⟩:=h3'.get' i a (by simpa using ha)
     have:cs[i]? = some b:=by simpa using hb
     rw [this] at g1; cases g1; exact g2
    ·simp only [RV]; exact ⟨xs,rfl,h5⟩
    ·simp only [J2] at h6; exact ⟨vs,rfl,h6⟩
   ·cases ht
theorem asu {u:V} (h:af3 (.sl (.int .u8)) u):∃ xs:List UInt8,u = .sl false (vB xs)/\xs.length<=maxLen:=by
 simp only [af3,J2] at h
 obtain ⟨ys,h1,h2,h3⟩:=h
 cases h1
 have:∀ {l:List (List V)},(∀ x ∈ l,∃ n,x=[.int .u8 n]/\(Lit.int .u8 n).wf=true)->∃ xs:List UInt8,l=vB xs:=by
  intro l
  induction l with
  | nil=>intro _; exact ⟨[],rfl⟩
  | cons a l ih =>
    intro hl
    obtain ⟨n,rfl,hn⟩:=hl a (by simp)
    obtain ⟨xs,rfl⟩:=ih (fun x hx=>hl x (by simp [hx]))
    have hn':0<=n/\n<=255:=by
     simp [Lit.wf,IntKind.min,IntKind.max,IntKind.signed,IntKind.bits] at hn
     omega
    refine ⟨UInt8.ofNat n.toNat::xs,?_⟩
    simp only [vB,List.map_cons]
    congr 2
    have e:(UInt8.ofNat n.toNat).toNat=n.toNat:=by rw [UInt8.toNat_ofNat']; omega
    rw [e,Int.toNat_of_nonneg hn'.1]
 obtain ⟨xs,rfl⟩:=this h3
 exact ⟨xs,rfl,by rw [abk] at h2; exact h2⟩
theorem RV.more {hp new:Heap} {u:V} {x:Value} (h:RV ⟨hp,[],[]⟩ u x (fun _=>0)):RV ⟨hp++new,[],[]⟩ u x (fun _=>0) :=
 RV.mono (al5 hp new) u h (fun _ _=>trivial)
end Go.AM

/- Rows of values of a kind; mails, sessions, mailboxes az values. -/
namespace Go.AM
set_option linter.unusedSimpArgs false
set_option linter.unusedVariables false
abbrev Bs:=List UInt8
structure Ec (α:Type) where
 e:α->List V
 n:Nat
 len:∀ a,(e a).length=n
 st:∀ a,m8 (e a)=e a
 np:∀ a,u1 (e a)=true
 dt:∀ a,B9 (e a)=true
def vR {α:Type} (E:Ec α) (l:List α):List (List V):=l.map E.e
section
variable {α:Type} (E:Ec α) (l m:List α)
theorem ato:(vR E l).length=l.length:=by simp [vR]
theorem aeu:m6 (vR E l)=vR E l:=by
 induction l with
 | nil=>rfl
 | cons a l ih=>simp only [vR,List.map_cons,m6,E.st] at ih ⊢; rw [ih]
theorem anK:D9 (vR E l)=true:=by
 induction l with
 | nil=>rfl
 | cons a l ih=>simp only [vR,List.map_cons,D9,E.np,Bool.true_and] at ih ⊢; exact ih
theorem afS:I8 (vR E l)=true:=by
 induction l with
 | nil=>rfl
 | cons a l ih=>simp only [vR,List.map_cons,I8,E.dt,Bool.true_and] at ih ⊢; exact ih
theorem asJ:C6 E.n (vR E l)=true:=by simp [C6,vR,E.len]
end
def eT:Ec Bs:=⟨fun s=>[.str s],1,fun _=>rfl,fun _=>rfl,fun _=>rfl,fun _=>rfl⟩
structure abe where
 from_:Bs
 to:List Bs
 lines:List Bs
 deriving DecidableEq
structure acy where
 state:Int
 host:Bs
 X0:abe
 done:List abe
 deriving DecidableEq
structure Box where
 path:Bs
 abK:List abe
 deriving DecidableEq
def cM (m:abe):List V:=[.str m.from_,.sl false (vT m.to),.sl false (vT m.lines)]
def eM:Ec abe where
 e:=cM
 n:=3
 len:=fun _=>rfl
 st:=fun m=>by simp only [cM,m8,strip,acz]
 np:=fun m=>by simp only [cM,u1,A3,anI,Bool.and_self]
 dt:=fun m=>by simp only [cM,B9,data,aiF,Bool.and_self]
def cS (s:acy):List V:=[.int .i64 s.state,.str s.host,.str s.X0.from_,.sl false (vT s.X0.to),.sl false (vT s.X0.lines),.sl false (vR eM s.done)]
def eS:Ec acy where
 e:=cS
 n:=6
 len:=fun _=>rfl
 st:=fun m=>by simp only [cS,m8,strip,acz,aeu]
 np:=fun m=>by simp only [cS,u1,A3,anI,anK,Bool.and_self]
 dt:=fun m=>by simp only [cS,B9,data,aiF,afS,Bool.and_self]
def cX (b:Box):List V:=[.str b.path,.sl false (vR eM b.abK)]
def eX:Ec Box where
 e:=cX
 n:=2
 len:=fun _=>rfl
 st:=fun m=>by simp only [cX,m8,strip,aeu]
 np:=fun m=>by simp only [cX,u1,A3,anK,Bool.and_self]
 dt:=fun m=>by simp only [cX,B9,data,afS,Bool.and_self]
theorem axX (a b:V):E6 2 (.agg [a,b])=some [a,b]:=by exact id rfl
theorem axp (a b c:V):E6 3 (.agg [a,b,c])=some [a,b,c]:=by exact id rfl
theorem awL (a b c d e f:V):E6 6 (.agg [a,b,c,d,e,f])=some [a,b,c,d,e,f]:=by exact id rfl
theorem axg (a b c d e f g:V):E6 7 (.agg [a,b,c,d,e,f,g])=some [a,b,c,d,e,f,g]:=by exact id rfl
theorem awZ (g:Nat->Option (List V)) (t:Bool) (a b:V) (H:VH):E3 g t true 2 (.D3 [a,b] 0) H=some (.agg [a,b],H):=by exact id rfl
theorem ayk (g:Nat->Option (List V)) (t:Bool) (a b c:V) (H:VH):E3 g t true 3 (.D3 [a,b,c] 0) H=some (.agg [a,b,c],H):=by exact id rfl
theorem aw7 (g:Nat->Option (List V)) (t:Bool) (a b c d e f:V) (H:VH):E3 g t true 6 (.D3 [a,b,c,d,e,f] 0) H=some (.agg [a,b,c,d,e,f],H):=by exact id rfl
theorem atL (g:Nat->Option (List V)) (t:Bool) (n:Nat) (a:V) (l:List V) (H:VH):E3 g t false n (.D3 (a::l) 0) H=some (a,H):=by exact id rfl
theorem aty (g:Nat->Option (List V)) (t:Bool) (n:Nat) (a b:V) (l:List V) (H:VH):E3 g t false n (.D3 (a::b::l) 1) H=some (b,H):=by exact id rfl
theorem asp (g:Nat->Option (List V)) (t:Bool) (n:Nat) (a b c:V) (l:List V) (H:VH):E3 g t false n (.D3 (a::b::c::l) 2) H=some (c,H):=by exact id rfl
theorem ax0 (m:abe):eM.e m=[.str m.from_,.sl false (vT m.to),.sl false (vT m.lines)]:=by exact id rfl
theorem axF (s:acy):eS.e s=[.int .i64 s.state,.str s.host,.str s.X0.from_,.sl false (vT s.X0.to),.sl false (vT s.X0.lines),.sl false (vR eM s.done)]:=by exact id rfl
theorem ayl (b:Box):eX.e b=[.str b.path,.sl false (vR eM b.abK)]:=by exact id rfl
theorem axz (m:abe):cM m=[.str m.from_,.sl false (vT m.to),.sl false (vT m.lines)]:=by exact id rfl
theorem axa (s:acy):cS s=[.int .i64 s.state,.str s.host,.str s.X0.from_,.sl false (vT s.X0.to),.sl false (vT s.X0.lines),.sl false (vR eM s.done)]:=by exact id rfl
theorem axu (b:Box):cX b=[.str b.path,.sl false (vR eM b.abK)]:=by exact id rfl
theorem aqd (l:List abe):C6 3 (vR eM l)=true:=asJ eM l
theorem aqE (l:List Box):C6 2 (vR eX l)=true:=asJ eX l
def J1 {α:Type} (E:Ec α) (l:List α) (z:List V) (i:Nat):List V:=(vR E (l.take i)).flatten++aaq (l.length-i) z
theorem ag9 {α:Type} (E:Ec α):∀ l:List α,(vR E l).flatten.length=l.length*E.n
 | []=>by simp [vR]
 | a::l=>by
   have:=ag9 E l
   simp only [vR,List.map_cons,List.flatten_cons,List.length_append,E.len,List.length_cons,Nat.succ_mul] at this ⊢
   omega
theorem atK {α:Type} (E:Ec α) {l:List α} {z:List V} (hz:z.length=E.n) {i:Nat} (h:i<l.length):O2 (J1 E l z i) (i*E.n) (E.e l[i])=J1 E l z (i+1)/\i*E.n+E.n<=(J1 E l z i).length:=by
 have h1:(vR E (l.take i)).flatten.length=i*E.n:=by rw [ag9,List.length_take,Nat.min_eq_left (by omega)]
 obtain ⟨k,hk⟩:∃ k,l.length-i=k+1:=⟨l.length-i-1,by omega⟩
 have hk2:l.length-(i+1)=k:=by omega
 have e1:J1 E l z i=(vR E (l.take i)).flatten++z++aaq k z:=by simp only [J1,hk,aaq,List.append_assoc]
 have e2:J1 E l z (i+1)=(vR E (l.take i)).flatten++E.e l[i]++aaq k z:=by
  simp only [J1,hk2]
  rw [List.take_succ_eq_append_getElem h]
  simp only [vR,List.map_append,List.map_cons,List.map_nil,List.flatten_append,List.flatten_cons,List.flatten_nil,List.append_nil]
 constructor
 ·rw [e1,e2,<-h1]
  exact agO _ _ _ _ (by rw [hz,E.len])
 ·rw [e1]; simp only [List.length_append,h1,hz]; omega
theorem atW {α:Type} (E:Ec α) (l:List α) (z:List V):J1 E l z l.length=(vR E l).flatten:=by simp [J1,aaq]
theorem alu {α:Type} (E:Ec α):∀ l:List α,y6 E.n l.length (vR E l).flatten=vR E l
 | []=>rfl
 | a::l=>by
   have:=alu E l
   simp only [vR,List.map_cons,List.flatten_cons,List.length_cons,y6] at this ⊢
   have h:=E.len a
   rw [<-h,List.take_left,List.drop_left,h,this]
theorem arU {α:Type} (E:Ec α) {H:VH} {k:Nat} {l:List α} (h:H[k]? = some (vR E l).flatten):akR H (.z7 k 0 l.length E.n)=some (.sl false (vR E l)):=by
 simp only [akR,afB,h,Option.bind_some]
 rw [M1 (by rw [ag9]; omega),List.drop_zero,List.take_of_length_le (by rw [ag9]; omega)]
 simp only [Option.map_some,alu,aeu]
theorem as1 (k o n e:Nat):y0 (.z7 k o n e)=some (.int .i64 n):=by exact id rfl
theorem akJ (k off n e:Nat) (q:IntKind) (i:Nat) (h:i<n):A1 e (.z7 k off n e) (.int q (i:Int))=some (.ptr k (off+i*e)):=by
 have hc:(0:Int)<=(i:Int)/\(i:Int)<(n:Int)/\e=e:=⟨by omega,by omega,rfl⟩
 simp only [A1]
 rw [if_pos (by simpa using hc)]; simp
theorem as7 (k o n e:Nat):strip (.z7 k o n e) = .z7 k o n e:=by exact id rfl
theorem asd (k o n e:Nat):A3 (.z7 k o n e)=false:=by exact id rfl
theorem axE (b:Nat) (n:Nat) (h:n*b<=140737488355328) (h2:n<=9223372036854775807):ah7 b (.int .i64 (n:Int)) (.int .i64 (n:Int))=some (n,n):=by
 simp only [ah7]
 rw [if_pos ⟨by omega,by omega,by simpa using h,by omega⟩]; simp
theorem awH {k off:Nat} {H:VH} {cs c:List V} (h:H[k]? = some cs) (ho:off+c.length<=cs.length):stO (.ptr k off) c H=some (H.set k (O2 cs off c)):=by
 have hb:Nat.ble (off+c.length) cs.length=true:=Nat.ble_eq_true_of_le ho
 simp only [stO,h,hb]
theorem alc {α:Type} (E:Ec α) {H:VH} {k:Nat} {l:List α} {z:List V} (hz:z.length=E.n) {i:Nat} (hi:i<l.length) (h:H[k]? = some (J1 E l z i)):stO (.ptr k (0+i*E.n)) (E.e l[i]) H=some (H.set k (J1 E l z (i+1))):=by
 obtain ⟨h1,h2⟩:=atK E hz hi
 rw [Nat.zero_add,awH h (by rw [E.len]; exact h2),h1]
theorem awN {α:Type} (E:Ec α) {call:u5} {f:FuncId} {args:List V} {H:VH} {k:Nat} {l:List α} (h:call f args []=some (.z7 k 0 l.length E.n,H)) (h1:u1 args=true) (hk:H[k]? = some (vR E l).flatten):aac call f args=some (.sl false (vR E l)):=by
 simp only [aac,h1,h,Option.bind_some,data,arU E hk,afS]
end Go.AM

/- Loops of common kinds. -/
namespace Go.AM
set_option linter.unusedSimpArgs false
set_option linter.unusedVariables false
abbrev LB:=List V->VH->Option (Option Nat × List V × VH)
section
variable {B:LB} {S:Nat->List V} {H:VH}
theorem afu {α:Type} {m0 m1:Nat} {vs0 vs1:List V} (xs:List α) (p:α->Bool) (hr:∀ (i:Nat) (h:i<xs.length),B (S i) H=if p xs[i]=true then some (some m1,vs1,H) else some (none,S (i+1),H))
 (he:B (S xs.length) H=some (some m0,vs0,H)):l3 B (S 0) H=if xs.any p=true then some (m1,vs1,H) else some (m0,vs0,H):=by
 have key:∀ (n i:Nat),xs.length-i=n->i<=xs.length->l3 B (S i) H=if (xs.drop i).any p=true then some (m1,vs1,H) else some (m0,vs0,H):=by
  intro n
  induction n with
  | zero =>
    intro i hn hi
    have:i=xs.length:=by omega
    subst this
    rw [adT he,List.drop_eq_nil_of_le (Nat.le_refl _)]; rfl
  | succ n ih =>
    intro i hn hi
    have h1:i<xs.length:=by omega
    have hb:=hr i h1
    rw [List.drop_eq_getElem_cons h1,List.any_cons]
    by_cases e:p xs[i]=true
    ·rw [if_pos e] at hb
     rw [adT hb,e]; rfl
    ·rw [if_neg e] at hb
     rw [aiN hb,ih (i+1) (by omega) (by omega)]
     have:p xs[i]=false:=by simpa using e
     rw [this,Bool.false_or]
 have:=key xs.length 0 (by omega) (by omega)
 simpa using this
def ahn {α:Type} (f:α->Int->Int):List α->Int->Int
 | [],n=>n
 | a::l,n=>if f a n<0 then -1 else ahn f l (f a n)
theorem aqV {α:Type} {f:α->Int->Int} {l:List α} (hf:∀ a ∈ l,∀ n,0<=n->f a n<=n):∀ {n:Int},0<=n->ahn f l n<=n:=by
 induction l with
 | nil=>intro n _; exact Int.le_refl _
 | cons a l ih =>
   intro n hn
   simp only [ahn]
   have:=hf a (by simp) n hn
   split
   ·omega
   ·have:=ih (fun b hb=>hf b (by simp [hb])) (n:=f a n) (by omega)
    omega
theorem aki {α:Type} {f:α->Int->Int} {l:List α} (hf:∀ a ∈ l,∀ n,0<=n->f a n<=n):∀ {n:Int},0<=n->0<=ahn f l n->∀ a ∈ l,∃ k,0<=k/\k<=n/\0<=f a k:=by
 induction l with
 | nil=>intro n _ _ a ha; cases ha
 | cons b l ih =>
   intro n hn h a ha
   simp only [ahn] at h
   split at h
   ·omega
   ·rename_i hb
    rcases List.mem_cons.1 ha with rfl | ha
    ·exact ⟨n,hn,Int.le_refl _,by omega⟩
    ·have:=hf b (by simp) n hn
     obtain ⟨k,h1,h2,h3⟩:=ih (fun b hb=>hf b (by simp [hb])) (n:=f b n) (by omega) h a ha
     exact ⟨k,h1,by omega,h3⟩
end
end Go.AM

/- More loops of common kinds, texts cut at a byte, and runs of which a part is known. -/
namespace Go.AM
set_option linter.unusedSimpArgs false
set_option linter.unusedVariables false
set_option maxRecDepth 10000
theorem aoz {α:Type} {c:Prop} [Decidable c] {x y z:α} (h1:c->x=z) (h2:¬ c->y=z):(if c then x else y)=z:=by
 by_cases h:c
 ·rw [if_pos h]; exact h1 h
 ·rw [if_neg h]; exact h2 h
section
variable {B:LB} {S:Nat->List V} {H:VH}
theorem aov {α:Type} {m0 m1:Nat} {vs0:List V} (xs:List α) (p:α->Bool) (hr:∀ (i:Nat) (h:i<xs.length),B (S i) H=if p xs[i]=true then some (some m1,[.int .i64 (i:Nat)],H) else some (none,S (i+1),H))
 (he:B (S xs.length) H=some (some m0,vs0,H)):l3 B (S 0) H=if xs.any p=true then some (m1,[.int .i64 (xs.findIdx p:Nat)],H) else some (m0,vs0,H):=by
 have key:∀ (n i:Nat),xs.length-i=n->i<=xs.length->l3 B (S i) H=if (xs.drop i).any p=true then some (m1,[.int .i64 (i+(xs.drop i).findIdx p:Nat)],H) else some (m0,vs0,H):=by
  intro n
  induction n with
  | zero =>
    intro i hn hi
    have:i=xs.length:=by omega
    subst this
    rw [adT he,List.drop_eq_nil_of_le (Nat.le_refl _)]; rfl
  | succ n ih =>
    intro i hn hi
    have h1:i<xs.length:=by omega
    have hb:=hr i h1
    rw [List.drop_eq_getElem_cons h1,List.any_cons,List.findIdx_cons]
    by_cases e:p xs[i]=true
    ·rw [if_pos e] at hb
     rw [adT hb,e]; rfl
    ·rw [if_neg e] at hb
     rw [aiN hb,ih (i+1) (by omega) (by omega)]
     have:p xs[i]=false:=by simpa using e
     rw [this,Bool.false_or]
     simp only [cond_false,Nat.add_assoc,Nat.add_comm 1]
 have:=key xs.length 0 (by omega) (by omega)
 simpa using this
theorem asL {α:Type} (E:Ec α) {l:List α} {k t:Nat} {z:List V} {H0:VH} {m:Nat} {vs:List V} (ht:t<=l.length) (h0:H0[k]? = some (J1 E l z 0)) (hr:∀ (i:Nat) (h:i<t) (H:VH),H[k]? = some (J1 E l z i)->B (S i) H=some (none,S (i+1),H.set k (J1 E l z (i+1))))
 (he:∀ H,H[k]? = some (J1 E l z t)->B (S t) H=some (some m,vs,H)):∃ H1,l3 B (S 0) H0=some (m,vs,H1)/\H1[k]? = some (J1 E l z t):=by
 have key:∀ (n i:Nat) (H:VH),t-i=n->i<=t->H[k]? = some (J1 E l z i)->∃ H1,l3 B (S i) H=some (m,vs,H1)/\H1[k]? = some (J1 E l z t):=by
  intro n
  induction n with
  | zero =>
    intro i H hn hi hk
    have:i=t:=by omega
    subst this
    exact ⟨H,adT (he H hk),hk⟩
  | succ n ih =>
    intro i H hn hi hk
    have h1:i<t:=by omega
    rw [aiN (hr i h1 H hk)]
    exact ih (i+1) _ (by omega) (by omega) (by rw [List.getElem?_set,if_pos rfl,if_pos (List.getElem?_eq_some_iff.1 hk).1])
 exact key t 0 H0 (by omega) (by omega) h0
end
theorem awX (b9 k o n h:Nat) (q:IntKind) (hh:h<=n):F1 b9 (.z7 k o n b9) none (some (.int q (h:Int)))=some (.z7 k o h b9):=by
 simp only [F1,abQ,Option.bind_some]
 rw [if_pos ⟨trivial,by omega,by omega,by omega⟩]
 simp
theorem ayA (k:IntKind) (a b:Int) (h:a<=b):aiV (.int k a) (.int k b)=some (.int k a):=by
 simp only [aiV,if_true]
 rw [if_neg (by omega)]
def cB (s:Bs):List V:=s.map fun b => .int .u8 (b.toNat:Int)
theorem avq (s:Bs):an4 (.str s)=some (cB s):=rfl
theorem ah3 (s:Bs):(cB s).length=s.length:=by simp [cB]
theorem afF:∀ s:Bs,abM (vB s)=some s
 | []=>rfl
 | b::l=>by
   have ih:=afF l
   show (abM (vB l)).map _=_
   rw [ih]; simp
theorem an5:∀ s:Bs,y6 1 s.length (cB s)=vB s
 | []=>rfl
 | b::l=>by
   have ih:=an5 l
   show [V.int .u8 (b.toNat:Int)]::y6 1 l.length (cB l)=_
   rw [ih]; rfl
theorem avS {H:VH} {k:Nat} {t:Bs} (h:H[k]? = some (cB t)):aan (.z7 k 0 t.length 1) H=some (.str t):=by
 simp only [aan,if_true,h,Option.bind_some]
 rw [M1 (by rw [ah3]; omega),List.drop_zero,List.take_of_length_le (by rw [ah3]; omega)]
 simp only [Option.bind_some,an5,afF,Option.map_some]
theorem ayg {g:Nat->Option (List V)} {H:VH} {k i:Nat} {t:Bs} (h:H[k]? = some (cB t)) (hi:i<t.length):E3 g false false 1 (.ptr k i) H=some (.int .u8 (t[i].toNat:Int),H) :=
 aiW (v := .int .u8 (t[i].toNat:Int)) h (by simp [cB,List.getElem?_eq_getElem hi]) rfl
theorem aya {H:VH} {k i:Nat} {t:Bs} (b:UInt8) (h:H[k]? = some (cB t)) (hi:i<t.length):stO (.ptr k i) [.int .u8 (b.toNat:Int)] H=some (H.set k (cB (t.set i b))):=by
 rw [aqC h (by rw [ah3]; exact hi)]
 simp [cB,List.map_set]
theorem asm (tk:TK) (a b:Int) (h1:0<=a+b) (h2:a+b<=255):a8 tk .add (.int .u8 a) (.int .u8 b)=some (.int .u8 (a+b)):=by
 simp [a8,Z0,Q4,R7,Z9,IntWalk.u8_in _ ⟨h1,h2⟩]
def j2 {R:Type} (e:Option R) (Q:R->Prop):Prop:=∃ r,e=some r/\Q r
theorem j2.here {R:Type} {Q:R->Prop} {r:R} (h:Q r):j2 (some r) Q:=⟨r,rfl,h⟩
theorem j2.bind {R T:Type} {e:Option R} {P:R->Prop} {K:R->Option T} {Q:T->Prop} (h:j2 e P) (k:∀ r,P r->j2 (K r) Q):j2 (e.bind K) Q:=by
 obtain ⟨r,rfl,hr⟩:=h
 exact k r hr
theorem j2.mono {R:Type} {e:Option R} {P Q:R->Prop} (h:j2 e P) (k:∀ r,P r->Q r):j2 e Q:=by
 obtain ⟨r,e,hr⟩:=h
 exact ⟨r,e,k r hr⟩
theorem j2.ite {R:Type} {c:Prop} [Decidable c] {x y:Option R} {Q:R->Prop} (h1:c->j2 x Q) (h2:¬ c->j2 y Q):j2 (if c then x else y) Q:=by
 split
 ·exact h1 ‹_›
 ·exact h2 ‹_›
theorem j2.loop {B:LB} {I:Nat->List V->VH->Prop} {Q:Nat × List V × VH->Prop}
 (hr:∀ n s H,I n s H->j2 (B s H) fun r=>match r.1 with | some m=>Q (m,r.2) | none=>∃ n',n'<n/\I n' r.2.1 r.2.2) :
 ∀ (n:Nat) (s:List V) (H:VH),I n s H->j2 (l3 B s H) Q:=by
 intro n
 induction n using Nat.strongRecOn with
 | _ n ih =>
   intro s H hI
   obtain ⟨⟨m,vs,H'⟩,e,hq⟩:=hr n s H hI
   cases m with
   | some m=>exact ⟨_,adT e,hq⟩
   | none =>
     obtain ⟨n',hn,hI'⟩:=hq
     rw [aiN e]
     exact ih n' hn _ _ hI'
def aa2 (e:Option (V × VH)) (P:V->VH->Prop):Prop:=∃ v H,e=some (v,H)/\P v H
theorem aa2.bind {T:Type} {e:Option (V × VH)} {P:V->VH->Prop} {K:V × VH->Option T} {Q:T->Prop} (h:aa2 e P) (k:∀ v H,P v H->j2 (K (v,H)) Q):j2 (e.bind K) Q:=by
 obtain ⟨v,H,rfl,hr⟩:=h
 exact k v H hr
theorem aa2.of {e:Option (V × VH)} {P:V->VH->Prop} (h:j2 e fun r=>P r.1 r.2):aa2 e P:=by
 obtain ⟨⟨v,H⟩,h1,h2⟩:=h
 exact ⟨v,H,h1,h2⟩
theorem j2.H5 {B:LB} {T:Type} {I:Nat->List V->VH->Prop} {P:Nat->List V->VH->Prop} {n:Nat} {s:List V} {H:VH} {K:Nat × List V × VH->Option T} {Q:T->Prop}
 (hr:∀ n s H,I n s H->j2 (B s H) fun r=>(∃ m,r.1=some m/\P m r.2.1 r.2.2)\/(r.1=none/\∃ n',n'<n/\I n' r.2.1 r.2.2))
 (h0:I n s H) (k:∀ m vs H',P m vs H'->j2 (K (m,vs,H')) Q):j2 ((l3 B s H).bind K) Q:=by
 refine (j2.loop (I:=I) (Q:=fun r=>P r.1 r.2.1 r.2.2) (fun n s H hI=>(hr n s H hI).mono fun r h=>?_) n s H h0).bind fun r h=>k r.1 r.2.1 r.2.2 h
 obtain ⟨r1,r2⟩:=r
 rcases h with ⟨m,h1,h2⟩ | ⟨h1,h2⟩
 ·cases h1; exact h2
 ·cases h1; exact h2
def Rd (k b:Nat) (H:VH):Prop:=∃ o xs p,H[k]? = some (rdr o xs p)/\p<=b/\xs.length<=2000
theorem Rd.le {k b b':Nat} {H:VH} (h:Rd k b H) (hb:b<=b'):Rd k b' H:=by
 obtain ⟨o,xs,p,h1,h2,h3⟩:=h
 exact ⟨o,xs,p,h1,by omega,h3⟩
def unT:List (List V)->List Bs
 | [.str s]::l=>s::unT l
 | _=>[]
def okT (xs:List (List V)):Bool:=(unT xs).length==xs.length&&(unT xs).all (fun s=>decide (s.length<=200))&&decide (1<=xs.length)&&decide (xs.length<=1000)
theorem anX:∀ {xs:List (List V)},(unT xs).length=xs.length->vT (unT xs)=xs
 | [],_=>rfl
 | x::l,h=>by
   unfold unT at h ⊢
   split at h
   ·rename_i s l' e
    cases e
    have:=anX (xs:=l) (by simpa using h)
    show [V.str s]::vT (unT l)=_
    rw [this]
   ·simp at h
def unI:List (List V)->List Int
 | [.int .i64 s]::l=>s::unI l
 | _=>[]
def okI (xs:List (List V)):Bool:=(unI xs).length==xs.length&&decide (1<=xs.length)&&decide (xs.length<=1000)
theorem as5:∀ {xs:List (List V)},(unI xs).length=xs.length->vI .i64 (unI xs)=xs
 | [],_=>rfl
 | x::l,h=>by
   unfold unI at h ⊢
   split at h
   ·rename_i s l' e
    cases e
    have:=as5 (xs:=l) (by simpa using h)
    show [V.int .i64 s]::vI .i64 (unI l)=_
    rw [this]
   ·simp at h
theorem ayt (s:Bs) (c:UInt8):Go.Lib.indexByte s c=if c ∈ s then ((s.idxOf c:Nat):Int) else -1:=by
 induction s with
 | nil=>rfl
 | cons b l ih =>
   unfold Go.Lib.indexByte
   rw [ih,List.idxOf_cons]
   by_cases h:b=c
   ·subst h; simp
   ·have h':¬ c=b:=fun e=>h e.symm
    by_cases hm:c ∈ l
    ·have:(b==c)=false:=by simpa using h
     simp only [this,hm,if_true,List.mem_cons,or_true,cond_false]
     have hn:((l.idxOf c:Nat):Int) ≠ -1:=by omega
     simp [hn]
    ·have:(b==c)=false:=by simpa using h
     simp [this,hm,h',h]
def C3 (c:UInt8) (s:Bs):Bs:=if c ∈ s then s.take (s.idxOf c) else s
def H7 (c:UInt8) (s:Bs):Bs:=if c ∈ s then s.drop (s.idxOf c+1) else []
def p7 (c:UInt8):Bs->List Bs
 | []=>[[]]
 | b::l=>if b=c then []::p7 c l else match p7 c l with | []=>[[b]] | x::r=>(b::x)::r
theorem ahz (c:UInt8) (s:Bs):p7 c s ≠ []:=by
 cases s with
 | nil=>simp [p7]
 | cons b l =>
   unfold p7
   split
   ·simp
   ·split<;>simp
theorem arM (c:UInt8) (s:Bs):(p7 c s).length=s.count c+1:=by
 induction s with
 | nil=>rfl
 | cons b l ih =>
   unfold p7
   rw [List.count_cons]
   by_cases h:b=c
   ·simp [h,ih]
   ·have:(b==c)=false:=by simpa using h
    rw [if_neg h,this]
    split
    ·rename_i e; exact absurd e (ahz c l)
    ·rename_i x r e; rw [e] at ih; simpa using ih
theorem ae6 (c:UInt8) (s:Bs) (h:c ∉ s):p7 c s=[s]:=by
 induction s with
 | nil=>rfl
 | cons b l ih =>
   unfold p7
   have h1:¬ b=c:=fun e=>h (by simp [e])
   rw [if_neg h1,ih (fun e=>h (by simp [e]))]
theorem adG (c:UInt8) (s:Bs) (h:c ∈ s):p7 c s=s.take (s.idxOf c)::p7 c (s.drop (s.idxOf c+1)):=by
 induction s with
 | nil=>cases h
 | cons b l ih =>
   rw [List.idxOf_cons]
   conv=>lhs; unfold p7
   by_cases h1:b=c
   ·subst h1; simp
   ·have h2:c ∈ l:=by rcases List.mem_cons.1 h with e | e; exact absurd e.symm h1; exact e
    have:(b==c)=false:=by simpa using h1
    rw [if_neg h1,ih h2,this]
    simp
def F3 (c:UInt8) (s:Bs):Nat->Bs
 | 0=>s
 | i+1=>(F3 c s i).drop ((F3 c s i).idxOf c+1)
theorem afl (c:UInt8) (s:Bs):∀ i,i<(p7 c s).length->p7 c (F3 c s i)=(p7 c s).drop i
 | 0,_=>rfl
 | i+1,h=>by
   have ih:=afl c s i (by omega)
   have hm:c ∈ F3 c s i:=by
    by_cases hm:c ∈ F3 c s i
    ·exact hm
    ·rw [ae6 c _ hm] at ih
     have:=congrArg List.length ih
     simp at this; omega
   rw [adG c _ hm] at ih
   have:=congrArg List.tail ih
   simpa [F3] using this
theorem am9 (c:UInt8) (s:Bs):∀ i,(F3 c s i).length<=s.length
 | 0=>Nat.le_refl _
 | i+1=>by have:=am9 c s i; simp only [F3,List.length_drop]; omega
theorem b8:type_of% (And.intro @Nat.zero_add (And.intro @if_true.{1} (And.intro @if_false.{1} (And.intro @decide_true (And.intro @decide_false (And.intro @Bool.false_eq_true (And.intro @Bool.not_true (And.intro @Bool.not_false (And.intro @au6 (And.intro @aqM (And.intro @aw5 (And.intro @awE (And.intro @avi (And.intro @aq3 (And.intro @atz (And.intro @ass (And.intro @aqO (And.intro @atN (And.intro @asc (And.intro @avI (And.intro @avb (And.intro @asO (And.intro @atn (And.intro @ap8 (And.intro @aoj (And.intro @aot (And.intro @ank (And.intro @acD (And.intro @K9 (And.intro @aad (And.intro @aqW (And.intro @asE (And.intro @asD (And.intro @avH (And.intro @asg (And.intro @asH (And.intro @avr (And.intro @as8 (And.intro @asy (And.intro @aqG (And.intro @aoP (And.intro @apw (And.intro @amS (And.intro @aek (And.intro @ac0 (And.intro @aqR (And.intro @atB (And.intro @ar4 (And.intro @avX (And.intro @atH (And.intro @atl (And.intro @avu (And.intro @aqI (And.intro @an7 (And.intro @aoR (And.intro @amR (And.intro @ase (And.intro @avE (And.intro @avp (And.intro @awP (And.intro @avZ (And.intro @avO (And.intro @ata (And.intro @aqX (And.intro @aqr (And.intro @api (And.intro @aqn (And.intro @atF (And.intro @asa (And.intro @atM (And.intro @aqJ (And.intro @ats (And.intro @asU (And.intro @asr (And.intro @aqS (And.intro @avD (And.intro @asz (And.intro @axA (And.intro @aqP (And.intro @axw (And.intro @axO (And.intro @axs (And.intro @in_1 (And.intro @awG (And.intro @aw0 (And.intro @awV (And.intro @axY (And.intro @aw9 (And.intro @axe (And.intro @axC (And.intro @ax9 (And.intro @aw8 (And.intro @awF (And.intro @ax3 (And.intro @axT (And.intro @ax8 (And.intro @avV (And.intro @axi (And.intro @axH (And.intro @axq (And.intro @ax7 (And.intro @aw4 (And.intro @ayf (And.intro @ayp (And.intro @awQ (And.intro @awK (And.intro @awT (And.intro @avG (And.intro @avx (And.intro @avd (And.intro @avB (And.intro @avU (And.intro @avY (And.intro @au7 (And.intro @au4 (And.intro @avn (And.intro @avk (And.intro @avM (And.intro @avA (And.intro @avo (And.intro @avN (And.intro @avh (And.intro @avj (And.intro @avL (And.intro @avC (And.intro @avg (And.intro @avw (And.intro @avQ (And.intro @au3 (And.intro @avv (And.intro @avF (And.intro @avJ (And.intro @atr (And.intro @akW (And.intro @alL (And.intro @asZ (And.intro @as2 (And.intro @asF (And.intro @asG (And.intro @atd (And.intro @ava (And.intro @ar5 (And.intro @avz (And.intro @axt (And.intro @avK (And.intro @axc (And.intro @axQ (And.intro @avf (And.intro @ax2 (And.intro @ayc (And.intro @axj (And.intro @axy (And.intro @axv (And.intro @axD (And.intro @abW (And.intro @abk (And.intro @as0 (And.intro @acz (And.intro @agB (And.intro @apn (And.intro @anI (And.intro @avm (And.intro @au5 (And.intro @aiF (And.intro @aqc (And.intro @aqx (And.intro @abS (And.intro @abJ (And.intro @atE (And.intro @axX (And.intro @axp (And.intro @awL (And.intro @axg (And.intro @awZ (And.intro @ayk (And.intro @aw7 (And.intro @atL (And.intro @aty (And.intro @asp (And.intro @ax0 (And.intro @axF (And.intro @ayl (And.intro @axz (And.intro @axa (And.intro @axu (And.intro @ato (And.intro @aeu (And.intro @anK (And.intro @afS (And.intro @aqd (And.intro @aqE (And.intro @as1 (And.intro @as7 @asd))))))))))))))))))))))))))))))))))))))))))))))))))))))))))))))))))))))))))))))))))))))))))))))))))))))))))))))))))))))))))))))))))))))))))))))))))))))))))))))))))))))))))))))))))))))))))))))))):=And.intro @Nat.zero_add (And.intro @if_true.{1} (And.intro @if_false.{1} (And.intro @decide_true (And.intro @decide_false (And.intro @Bool.false_eq_true (And.intro @Bool.not_true (And.intro @Bool.not_false (And.intro @au6 (And.intro @aqM (And.intro @aw5 (And.intro @awE (And.intro @avi (And.intro @aq3 (And.intro @atz (And.intro @ass (And.intro @aqO (And.intro @atN (And.intro @asc (And.intro @avI (And.intro @avb (And.intro @asO (And.intro @atn (And.intro @ap8 (And.intro @aoj (And.intro @aot (And.intro @ank (And.intro @acD (And.intro @K9 (And.intro @aad (And.intro @aqW (And.intro @asE (And.intro @asD (And.intro @avH (And.intro @asg (And.intro @asH (And.intro @avr (And.intro @as8 (And.intro @asy (And.intro @aqG (And.intro @aoP (And.intro @apw (And.intro @amS (And.intro @aek (And.intro @ac0 (And.intro @aqR (And.intro @atB (And.intro @ar4 (And.intro @avX (And.intro @atH (And.intro @atl (And.intro @avu (And.intro @aqI (And.intro @an7 (And.intro @aoR (And.intro @amR (And.intro @ase (And.intro @avE (And.intro @avp (And.intro @awP (And.intro @avZ (And.intro @avO (And.intro @ata (And.intro @aqX (And.intro @aqr (And.intro @api (And.intro @aqn (And.intro @atF (And.intro @asa (And.intro @atM (And.intro @aqJ (And.intro @ats (And.intro @asU (And.intro @asr (And.intro @aqS (And.intro @avD (And.intro @asz (And.intro @axA (And.intro @aqP (And.intro @axw (And.intro @axO (And.intro @axs (And.intro @in_1 (And.intro @awG (And.intro @aw0 (And.intro @awV (And.intro @axY (And.intro @aw9 (And.intro @axe (And.intro @axC (And.intro @ax9 (And.intro @aw8 (And.intro @awF (And.intro @ax3 (And.intro @axT (And.intro @ax8 (And.intro @avV (And.intro @axi (And.intro @axH (And.intro @axq (And.intro @ax7 (And.intro @aw4 (And.intro @ayf (And.intro @ayp (And.intro @awQ (And.intro @awK (And.intro @awT (And.intro @avG (And.intro @avx (And.intro @avd (And.intro @avB (And.intro @avU (And.intro @avY (And.intro @au7 (And.intro @au4 (And.intro @avn (And.intro @avk (And.intro @avM (And.intro @avA (And.intro @avo (And.intro @avN (And.intro @avh (And.intro @avj (And.intro @avL (And.intro @avC (And.intro @avg (And.intro @avw (And.intro @avQ (And.intro @au3 (And.intro @avv (And.intro @avF (And.intro @avJ (And.intro @atr (And.intro @akW (And.intro @alL (And.intro @asZ (And.intro @as2 (And.intro @asF (And.intro @asG (And.intro @atd (And.intro @ava (And.intro @ar5 (And.intro @avz (And.intro @axt (And.intro @avK (And.intro @axc (And.intro @axQ (And.intro @avf (And.intro @ax2 (And.intro @ayc (And.intro @axj (And.intro @axy (And.intro @axv (And.intro @axD (And.intro @abW (And.intro @abk (And.intro @as0 (And.intro @acz (And.intro @agB (And.intro @apn (And.intro @anI (And.intro @avm (And.intro @au5 (And.intro @aiF (And.intro @aqc (And.intro @aqx (And.intro @abS (And.intro @abJ (And.intro @atE (And.intro @axX (And.intro @axp (And.intro @awL (And.intro @axg (And.intro @awZ (And.intro @ayk (And.intro @aw7 (And.intro @atL (And.intro @aty (And.intro @asp (And.intro @ax0 (And.intro @axF (And.intro @ayl (And.intro @axz (And.intro @axa (And.intro @axu (And.intro @ato (And.intro @aeu (And.intro @anK (And.intro @afS (And.intro @aqd (And.intro @aqE (And.intro @as1 (And.intro @as7 @asd))))))))))))))))))))))))))))))))))))))))))))))))))))))))))))))))))))))))))))))))))))))))))))))))))))))))))))))))))))))))))))))))))))))))))))))))))))))))))))))))))))))))))))))))))))))))))))))))
end Go.AM

/- Rows in objects: what calls see of them, what becomes of rows that calls give. -/
namespace Go.AM
set_option linter.unusedSimpArgs false
set_option linter.unusedVariables false
mutual
theorem ajU (G:VH):∀ v:V,data v=true->S1 G v=strip v
 | .bool b,_=>rfl
 | .int k n,_=>rfl
 | .str s,_=>rfl
 | .b7,_=>rfl
 | .T7,_=>rfl
 | .ub,_=>rfl
 | .gp g off,h=>by simp only [data] at h; cases h
 | .D3 cs off,h=>by simp only [data] at h; cases h
 | .ptr k off,h=>by simp only [data] at h; cases h
 | .z7 k off n e,h=>by simp only [data] at h; cases h
 | .fn f cs,h=>by simp only [data] at h; cases h
 | .sl ow xs,h=>by simp only [data] at h; simp only [S1,strip,alA G xs h]
 | .agg cs,h=>by simp only [data] at h; simp only [S1,strip,aeT G cs h]
 | .n8 cs,h=>by simp only [data] at h; simp only [S1,strip,aeT G cs h]
theorem aeT (G:VH):∀ l:List V,B9 l=true->abd G l=m8 l
 | [],_=>rfl
 | v::l,h=>by
   simp only [B9,Bool.and_eq_true] at h
   simp only [abd,m8,ajU G v h.1,aeT G l h.2]
theorem alA (G:VH):∀ l:List (List V),I8 l=true->aaW G l=m6 l
 | [],_=>rfl
 | v::l,h=>by
   simp only [I8,Bool.and_eq_true] at h
   simp only [aaW,m6,aeT G v h.1,alA G l h.2]
end
theorem au1 (d:Nat) (H:VH) (v:V) (h:data v=true):frD d H v=strip v:=by
 cases d with
 | zero=>exact ajU _ v h
 | succ d=>exact ajU _ v h
def Rows (e:Nat) (r:List (List V)):Prop:=∀ x ∈ r,x.length=e
theorem Rows.flat {e:Nat}:∀ {r:List (List V)},Rows e r->r.flatten.length=r.length*e
 | [],_=>by simp
 | x::r,h=>by
   have h1:=h x (by simp)
   have h2:=Rows.flat (r:=r) (fun y hy=>h y (by simp [hy]))
   rw [List.flatten_cons,List.length_append,h1,h2,List.length_cons,Nat.succ_mul,Nat.add_comm]
theorem Rows.strip {e:Nat} {r:List (List V)} (h:Rows e r):Rows e (m6 r):=fun x hx=>by
 rw [ajI] at hx
 obtain ⟨y,hy,rfl⟩:=List.mem_map.1 hx
 rw [List.length_map]; exact h y hy
theorem Rows.get {e:Nat} {j:Nat} (hj:j<e):∀ {r:List (List V)} {i:Nat} {x:List V},Rows e r->r[i]? = some x->r.flatten[i*e+j]? = x[j]?
 | [],i,x,_,h=>by simp at h
 | y::r,0,x,hr,h=>by
   simp at h; subst h
   have h1:=hr y (by simp)
   rw [List.flatten_cons,Nat.zero_mul,Nat.zero_add,List.getElem?_append_left (by omega)]
 | y::r,i+1,x,hr,h=>by
   have h1:=hr y (by simp)
   simp at h
   rw [List.flatten_cons,List.getElem?_append_right (by rw [h1,Nat.succ_mul]; omega),h1]
   have:(i+1)*e+j-e=i*e+j:=by rw [Nat.succ_mul]; omega
   rw [this]
   exact Rows.get hj (fun z hz=>hr z (by simp [hz])) h
theorem Rows.set {e:Nat} {j:Nat} (hj:j<e) {v:V}:∀ {r:List (List V)} {i:Nat} {x:List V},Rows e r->r[i]? = some x->O2 r.flatten (i*e+j) [v]=(r.set i (x.set j v)).flatten
 | [],i,x,_,h=>by simp at h
 | y::r,0,x,hr,h=>by
   simp at h; subst h
   have h1:=hr y (by simp)
   simp only [List.flatten_cons,Nat.zero_mul,Nat.zero_add,List.set_cons_zero,O2,List.length_singleton]
   rw [List.take_append_of_le_length (by omega),List.drop_append_of_le_length (by omega),<-List.append_assoc]
   congr 1
   rw [List.set_eq_take_append_cons_drop,if_pos (by omega)]; simp
 | y::r,i+1,x,hr,h=>by
   have h1:=hr y (by simp)
   simp at h
   have ih:=Rows.set hj (v:=v) (r:=r) (i:=i) (fun z hz=>hr z (by simp [hz])) h
   simp only [O2,List.length_singleton] at ih
   simp only [List.flatten_cons,List.set_cons_succ,O2,List.length_singleton]
   have e1:(i+1)*e+j=y.length+(i*e+j):=by rw [Nat.succ_mul]; omega
   rw [e1,List.take_length_add_append,Nat.add_assoc,List.drop_length_add_append,List.append_assoc,List.append_assoc,<-ih,List.append_assoc]
theorem aqf {d:Nat} {H:VH}:∀ {vs:List V},B9 vs=true->vs.map (frD d H)=vs.map strip
 | [],_=>rfl
 | v::vs,h=>by
   simp only [B9,Bool.and_eq_true] at h
   simp only [List.map_cons,au1 d H v h.1,aqf h.2]
end Go.AM

/- Runs of the machine of values whose arguments are written out: reckoned by the kernel. -/
namespace Go.AM
set_option linter.unusedSimpArgs false
set_option linter.unusedVariables false
mutual
def eqW:V->V->Bool
 | .bool a,.bool b=>a==b
 | .int k n,.int k' n'=>decide (k=k')&&decide (n=n')
 | .str s,.str t=>decide (s=t)
 | .b7,.b7=>true
 | .T7,.T7=>true
 | .ub,.ub=>true
 | .ptr k o,.ptr k' o'=>Nat.beq k k'&&Nat.beq o o'
 | .gp k o,.gp k' o'=>Nat.beq k k'&&Nat.beq o o'
 | .D3 c o,.D3 c' o'=>al0 c c'&&Nat.beq o o'
 | .sl w xs,.sl w' ys=>w==w'&&avR xs ys
 | .agg c,.agg c'=>al0 c c'
 | .n8 c,.n8 c'=>al0 c c'
 | .fn f c,.fn f' c'=>decide (f=f')&&al0 c c'
 | .z7 k o n e,.z7 k' o' n' e'=>Nat.beq k k'&&Nat.beq o o'&&Nat.beq n n'&&Nat.beq e e'
 | _,_=>false
termination_by structural v=>v
def al0:List V->List V->Bool
 | [],[]=>true
 | a::l,b::m=>eqW a b&&al0 l m
 | _,_=>false
termination_by structural l=>l
def avR:List (List V)->List (List V)->Bool
 | [],[]=>true
 | a::l,b::m=>al0 a b&&avR l m
 | _,_=>false
termination_by structural l=>l
end
section
variable (X:XV) (A:P8) (T:List Nat)
end
section
variable {X:XV} {c:u5} {l:T3} {A:P8} {T:List Nat}
end
end Go.AM

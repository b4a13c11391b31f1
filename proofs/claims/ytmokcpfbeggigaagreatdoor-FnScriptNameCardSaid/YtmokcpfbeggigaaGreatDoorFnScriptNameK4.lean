/- Part 4 of the machines: what is proved is told at each theorem; no condition. -/
import Derived.Test.YtmokcpfbeggigaaGreatDoorFnScriptNameK3
import Derived.Test.YtmokcpfbeggigaaGreatDoorFnScriptNameK2
import Derived.IntWalk
import Derived.Laws.Strings
import Derived.Lib.Bytealg
import Derived.ChangeArms
import Derived.DataReads
import Derived.LaidSub
import Derived.OpenShut
import Derived.Handed
import Derived.Clock
import Derived.WideShapes
/- One operation: the machine of values and the abstract machine side by side. -/
namespace Go.AM
set_option linter.unusedSimpArgs false
set_option linter.unusedVariables false
structure Z3 (X:XV):Prop where
 zero:∀ t ti,look X.tab t=some ti->∀ u ∈ ti.zero,E4 u=true
 sl:∀ t e b8 eb z ag n zz,look X.tab t=some ⟨.slice e b8 eb z,ag,n,zz⟩->(∀ u ∈ z,E4 u=true)/\z.length=b8/\0<b8
 gd:ahO X
 pos:∀ t ti,look X.tab t=some ti->0<ti.size
theorem aq0 {n:Nat} {l:List V}:(X8 n l).length=n*l.length:=by
 induction n with
 | zero=>simp [X8]
 | succ n ih=>simp only [X8,List.length_append,ih,Nat.succ_mul]; omega
theorem akp {w:Wd} {l:List V} {xs:List Value} (h:b9 w l xs (fun _=>0)):∀ n,b9 w (X8 n l) (rep n xs) (fun _=>0)
 | 0=>by simp [X8,rep,b9]
 | n+1=>by
   simp only [X8,rep]
   exact h.app (akp h n)
theorem apT {w:Wd} {r:V} {x:Value} {c:j2} (h:RV w r x c) (hs:abb r=true):ad3 x=true/\∀ i,c i=0:=by
 have one:∀ {r:V} {x:Value} {c:j2},RV w r x c->Q0 r=true->abj x=true/\∀ i,c i=0:=by
  intro r x c h hs
  cases r<;>simp only [Q0] at hs<;>try (cases hs; done)
  all_goals simp only [RV] at h; rw [h.1]; exact ⟨rfl,h.2⟩
 by_cases ht:∃ vs,r = .o8 vs
 rotate_left
 ·have hs1:Q0 r=true:=by cases r<;>first | exact hs | exact absurd ⟨_,rfl⟩ ht
  obtain ⟨h1,h2⟩:=one h hs1
  refine ⟨?_,h2⟩
  cases x<;>first | exact h1 | cases h1
 obtain ⟨vs,rfl⟩:=ht
 simp only [abb] at hs
 simp only [RV] at h
 obtain ⟨ws,rfl,hw⟩:=h
 have:∀ {vs:List V} {ws:List Value} {c:j2},b9 w vs ws c->vs.all Q0=true->ws.all abj=true/\∀ i,c i=0:=by
  intro vs
  induction vs with
  | nil=>intro ws c h _; simp only [b9] at h; rw [h.1]; exact ⟨rfl,h.2⟩
  | cons v vs ih =>
    intro ws c h hs
    simp only [b9] at h
    obtain ⟨x,ys,c1,c2,rfl,h2,h3,h4⟩:=h
    simp only [List.all_cons,Bool.and_eq_true] at hs ⊢
    obtain ⟨a1,a2⟩:=one h2 hs.1
    obtain ⟨b1,b2⟩:=ih h3 hs.2
    exact ⟨⟨a1,b1⟩,fun i=>by rw [h4,a2,b2]⟩
 obtain ⟨a,b⟩:=this hw hs
 refine ⟨?_,b⟩
 simp only [ad3]
 simpa using a
theorem amj {take agg:Bool} {size off:Nat} {cs:List V} {r:V × List V} (h:acr take agg size cs off=some r) (hp:0<size):cs ≠ []:=by
 intro e
 subst e
 cases agg with
 | true =>
   simp only [acr] at h
   obtain ⟨c,h1,_⟩:=a7 h
   have:=(C4 h1).1
   simp at this; omega
 | false =>
   simp [acr] at h
theorem aqL {X:XV} {E:En} {w:Wd} {s:VS} {s':St} {ce cl ch cx c:j2} (g:StC X E w s s' ce cl ch cx) {k off:Nat} {p7 cs:List V} {p:Value} {xs:List Value} {cp:j2}
 (hp:RV w (.ptr k off) p cp) (hk:s.H[k]? = some p7) (hcs:b9 w cs xs c) (hc:∀ i,c i<=cx i) (hb:off+cs.length<=p7.length) (hne:cs ≠ []) :
 ∃ w2,aet w.hp p xs=some w2.hp/\C9 X E w2 { s with H:=s.H.set k (L6 p7 off cs) } { s' with hp:=w2.hp } (fun _=>0):=by
 simp only [RV] at hp
 obtain ⟨⟨b,h1,rfl⟩,_⟩:=hp
 obtain ⟨kb,c1,c2,g2,g3,g4,o2,g5⟩:=g.obj.store g.hw.nd hk (fun e=>by subst e; cases cs with | nil=>exact hne rfl | cons a l=>simp at hb) h1
 have hbm:=List.mem_of_getElem? h1
 obtain ⟨c',k1,k2⟩:=g3.seg hcs hb
 have hl:=g3.len
 have hst:aet w.hp (.pointer (some ⟨b,off,none⟩)) xs=some (setW w b { kb with cells:=D1 kb.cells off xs }).hp:=by
  simp only [aet,y3 g2 (by rw [o2]; simp),Option.bind_some]
  rw [if_pos ⟨o2,by rw [<-hcs.len,<-hl]; exact hb⟩]
  rfl
 have hx:Ext w (setW w b { kb with cells:=D1 kb.cells off xs }) (fun _=>True):=as9 (k:={ kb with cells:=D1 kb.cells off xs }) g.hw hbm g2 rfl rfl _
 have hset:(setW w b { kb with cells:=D1 kb.cells off xs }).hp[b]? = some { kb with cells:=D1 kb.cells off xs }:=by
  exact ajJ (List.getElem?_eq_some_iff.1 g2).1
 have hobj:=g5 _ (L6 p7 off cs) _ c' hx (fun e he hne ke hke=>by
  obtain ⟨q',a1,_⟩:=adu (b:=b) (k:={ kb with cells:=D1 kb.cells off xs }) g2 rfl rfl hke
  refine ⟨q',a1,fun hm=>?_⟩
  have:=agV (k:={ kb with cells:=D1 kb.cells off xs }) hke (show ke.j1 ≠ kb.j1 from g.hw.av5 hke g2 hm o2 hne) hne
  rw [this] at a1; cases a1; rfl) hset (.inr ⟨o2,b9.mono hx _ k1 (fun _ _=>trivial)⟩)
 have hlen:(setW w b { kb with cells:=D1 kb.cells off xs }).hp.length=w.hp.length:=afb
 refine ⟨_,hst,ce,cl,_,rfl,g.hw.set hbm g2 rfl rfl rfl,g.gl.mono hx,g.fr.set g.hw hbm g2 rfl rfl,g.env.mono hx (fun _ _=>trivial),g.loc.mono hx (fun _ _=>trivial),g.W3,hobj,fun i=>?_,fun i hi=>?_,fun i hi=>?_⟩
 ·have:=g.I6 i; have:=k2 i; have:=hc i; have:=g4 i; omega
 ·have:=g.L9 i hi; have:=k2 i; have:=hc i; have:=g4 i; omega
 ·rw [hlen] at hi; have:=g.J6 i hi; have:=k2 i; have:=hc i; have:=g4 i; omega
theorem abV {X:XV} {E:En} {w:Wd} {s:VS} {s':St} {ce cl ch cx c:j2} (g:StC X E w s s' ce cl ch cx) {cs:List V} {xs:List Value} (hcs:b9 w cs xs c) (hc:∀ i,c i<=cx i) (n:Nat) (p:Bool) (hpl:p=false->n=1) :
 ∃ w2,w2.hp=w.hp++[⟨xs,n,.rw,w.hp.length,p⟩]/\C9 X E w2 { s with H:=s.H++[cs] } { s' with hp:=w2.hp } (fun _=>0)/\RV w2 (.ptr s.H.length 0) (.pointer (some ⟨w.hp.length,0,none⟩)) (fun _=>0):=by
 have hx:=anU (k:=⟨xs,n,.rw,w.hp.length,p⟩) g.hw rfl (fun _=>True)
 refine ⟨{ hp:=w.hp++[⟨xs,n,.rw,w.hp.length,p⟩],c9:=w.c9++[w.hp.length],fb:=w.hp.length::w.fb },rfl,⟨ce,cl,fun i=>ch i+c i,rfl,g.hw.ad5 rfl hpl,g.gl.mono hx,g.fr.ad5 g.hw rfl,g.env.mono hx (fun _ _=>trivial),g.loc.mono hx (fun _ _=>trivial),g.W3,?_,fun i=>?_,fun i hi=>?_,fun i hi=>?_⟩,?_⟩
 ·refine p6.snoc (kb:=⟨xs,n,.rw,w.hp.length,p⟩) (by simp) rfl (b9.mono hx _ hcs (fun _ _=>trivial)) (g.obj.mono hx (fun b hb => .eq ?_) (fun _ _=>trivial))
  show (w.hp++_)[b]? = _
  rw [List.getElem?_append_left (g.hw.S9 _ (g.hw.sub _ hb))]
 ·have:=g.I6 i; have:=hc i; omega
 ·have:=g.L9 i hi; have:=hc i; omega
 ·simp at hi; have:=g.J6 i (by omega); have:=hc i; omega
 ·simp only [RV]
  exact ⟨⟨w.hp.length,by rw [<-g.obj.len]; simp,rfl⟩,by simp⟩
theorem ajB {w w2:Wd} {p:Bool} {k m b8 cc:Nat} {xs:List Value} (h1:w2.hp=w.hp++[⟨xs,b8,.rw,w.hp.length,p⟩]) (h2:RV w2 (.ptr k 0) (.pointer (some ⟨w.hp.length,0,none⟩)) (fun _=>0)) (h0:0<b8) :
 RV w2 (.A9 k 0 m b8) (K3 w.hp m cc) (fun _=>0):=by
 simp only [RV] at h2 ⊢
 obtain ⟨⟨b,g1,g2⟩,g3⟩:=h2
 cases g2
 exact ⟨⟨w.hp.length,cc,⟨xs,b8,.rw,w.hp.length,p⟩,g1,by rw [h1]; simp,rfl,h0,rfl⟩,by simp⟩
theorem arT {X:XV} {E:En} {w:Wd} {s:VS} {s':St} {ce cl ch cx c1 c2:j2} {fl b:Bool} {b8 bytes:Nat} {sv yv r:V} {x z:Value} {H':VH}
 (g:StC X E w s s' ce cl ch cx) (hx:RV w sv x c1) (hy:RV w yv z c2) (hc:∀ i,c1 i+c2 i<=cx i) (h:arC fl b b8 bytes sv yv s.H=some (r,H')) (h0:0<b8) :
 ∃ w2 x' c',N8 false w.hp b8 bytes x z=some (x',w2.hp)/\ace b z=some z/\C9 X E w2 { s with H:=H' } { s' with hp:=w2.hp } c'/\RV w2 r x' c':=by
 unfold arC at h
 split at h
 ·-- the row lies in an object
  rename_i k off n e
  split at h
  ·rename_i ow ys
   obtain ⟨cs,hk,hq⟩:=a7 h
   clear h
   have h:=hq
   clear hq
   split at h
   ·rename_i hcond
    obtain ⟨rfl,rfl,hn,hcl,hesz,hbt⟩:=hcond
    obtain ⟨new,d,hnew,hys,hd,hlen,_,a2,cc2,rfl⟩:=hy.read hesz
    have hvs:ace false (Value.slice a2 ys.length cc2)=some (Value.slice a2 ys.length cc2):=rfl
    simp only [RV] at hx
    obtain ⟨⟨bk,cc,kb,hr,hkb,hsz,_,rfl⟩,hx0⟩:=hx
    have hne:cs ≠ []:=fun e=>by subst e; simp only [List.length_nil] at hcl; have:=Nat.mul_pos hn h0; omega
    obtain ⟨kb',d1,d2,g2,g3,g4,hrw,g5⟩:=g.obj.store g.hw.nd hk hne hr
    rw [hkb] at g2; cases g2
    have hbm:=List.mem_of_getElem? hr
    have adb:n*e=kb.cells.length:=by rw [<-g3.len]; exact hcl.symm
    have hw:=g.hw
    have hbl:=(List.getElem?_eq_some_iff.1 hkb).1
    have hcut:cut kb.cells 0 (n*e)=some kb.cells:=by
     show J0 kb.cells 0 (n*e)=some kb.cells
     rw [L2 (by omega),adb]; simp
    have hold:B6 w.hp e (.slice (some ⟨bk,0,none⟩) n cc)=some kb.cells:=by
     simp only [B6]
     rw [if_neg (by omega),y3 hkb (by rw [hrw]; simp)]
     simp only [Option.bind_some,hsz,if_true,hcut]
    cases ys with
    | nil =>
      cases h
      simp only [List.length_nil] at hlen hnew ⊢
      refine ⟨w,.slice (some ⟨bk,0,none⟩) n cc,fun _=>0,?_,hvs,⟨ce,cl,ch,{ g with hp:=rfl,I6:=fun i=>by have:=g.I6 i; omega,L9:=fun i hi=>by have:=g.L9 i hi; omega,J6:=fun i hi=>by have:=g.J6 i hi; omega }⟩,?_⟩
      rotate_left
      ·simp only [RV]
       exact ⟨⟨bk,cc,kb,hr,hkb,hsz,h0,rfl⟩,by simp⟩
      ·simp only [N8,acg]
       split
       ·simp only [H7,hnew,Option.bind_some,hlen,if_true,List.length_nil]
       ·simp only [hnew,Option.bind_some,hlen,if_true,List.length_nil]
    | cons y l =>
      cases h
      have hll:A4 (Value.slice a2 (y::l).length cc2)=l.length+1:=hlen
      have hfl:=g.fr.len
      have fin:∀ (w2:Wd) (f:Nat) (p:Bool),w2.hp[w.hp.length]? = some ⟨kb.cells++new,e,.rw,f,p⟩->w2.c9=w.c9++[w.hp.length]->w2.hp.length=w.hp.length+1->Ext w w2 (fun _=>True)->HW w2->B8 E w2 →
       (∀ c ∈ w.c9,c ≠ bk->acD w w2 c)->(∃ kb':j4,w2.hp[bk]? = some kb') →
       C9 X E w2 { s with H:=s.H.set k []++[cs++(y::l).flatten] } { s' with hp:=w2.hp } (fun _=>0)/\RV w2 (.A9 s.H.length 0 (n+(l.length+1)) e) (K3 w.hp (n+(l.length+1)) (n+(l.length+1)+1)) (fun _=>0):=by
       intro w2 f p hat hrho hlen2 hE hw2 hfr hkeep ⟨kb2,hkb2⟩
       refine ⟨⟨ce,cl,fun i=>(0+d2 i)+(d1 i+d i),rfl,hw2,g.gl.mono hE,hfr,g.env.mono hE (fun _ _=>trivial),g.loc.mono hE (fun _ _=>trivial),g.W3,?_,fun i=>?_,fun i hi=>?_,fun i hi=>?_⟩,?_⟩
       ·rw [hrho]
        exact p6.snoc (kb:=⟨kb.cells++new,e,.rw,f,p⟩) hat rfl ((b9.mono hE _ g3 (fun _ _=>trivial)).app (b9.mono hE _ hys.flat (fun _ _=>trivial))) (g5 w2 [] kb2 (fun _=>0) hE hkeep hkb2 (.inl ⟨rfl,by simp⟩))
       ·have:=g.I6 i; have:=g4 i; have:=hd i; have:=hc i; omega
       ·have:=g.L9 i hi; have:=g4 i; have:=hd i; have:=hc i; omega
       ·have:=g.J6 i (by omega); have:=g4 i; have:=hd i; have:=hc i; omega
       ·simp only [RV,K3]
        refine ⟨⟨w.hp.length,_,_,?_,hat,rfl,h0,rfl⟩,by simp⟩
        rw [hrho,<-g.obj.len]; simp
      by_cases hcc:cc=n
      ·obtain ⟨f1,f2⟩:=fin ⟨w.hp++[⟨kb.cells++new,e,.rw,w.hp.length,true⟩],w.c9++[w.hp.length],w.hp.length::w.fb⟩ w.hp.length true (by simp) rfl (by simp) (anU hw rfl _) (hw.ad5 rfl (fun h=>by cases h)) (g.fr.ad5 hw rfl)
        (fun c hc _ => .eq (by show (w.hp++_)[c]? = _; rw [List.getElem?_append_left (hw.X6 c hc)])) ⟨kb,by show (w.hp++_)[bk]? = _; rw [List.getElem?_append_left hbl]; exact hkb⟩
       refine ⟨_,_,_,?_,hvs,f1,f2⟩
       simp only [N8,acg]
       rw [if_pos hcc]
       simp only [H7,hnew,Option.bind_some,hll]
       rw [if_neg (by omega),if_pos ⟨hcc,by simpa using hbt⟩,hold]; rfl
      ·obtain ⟨f1,f2⟩:=fin (acX w bk kb ⟨kb.cells++new,e,.rw,kb.j1,kb.pl⟩) kb.j1 kb.pl (by simp [acX,F4]) rfl (by simp [acX,F4]) (art (k:=⟨kb.cells++new,e,.rw,kb.j1,kb.pl⟩) hw hkb hbm rfl _) (hw.acX (k:=⟨kb.cells++new,e,.rw,kb.j1,kb.pl⟩) hkb hrw hbm rfl (fun h=>by show e=1; rw [<-hsz]; exact hw.mrk bk kb hkb h)) (g.fr.acX (k:=⟨kb.cells++new,e,.rw,kb.j1,kb.pl⟩) hw hkb hbm rfl hsz.symm)
        (fun c hc hne => .eq (I5 (hw.X6 c hc) hne)) ⟨_,acP hbl⟩
       have huse:Z2 w.hp bk kb (0+n*e)=w.hp.set bk { kb with md := .ro }:=by unfold Z2; rw [if_pos (by omega)]
       refine ⟨_,_,_,?_,hvs,f1,f2⟩
       simp only [N8,acg]
       rw [if_neg hcc]
       simp only [hnew,Option.bind_some,hll]
       rw [if_neg (by omega),if_pos ⟨hn,by simpa using hbt⟩,hold]
       simp only [Option.bind_some,y3 hkb (by rw [hrw]; simp),hrw,if_true,huse]
       rfl
   ·cases h
  ·cases h
 ·-- an own row
  obtain ⟨xs,hxs,hq⟩:=a7 h
  clear h
  obtain ⟨rv,ha,h⟩:=a7 hq
  clear hq
  have hsv:sv = .sl true xs:=by
   unfold afi at hxs
   split at hxs
   ·cases hxs; rfl
   ·cases hxs
  subst hsv
  have plain:r=rv->H'=s.H->∃ w2 x' c',N8 false w.hp b8 bytes x z=some (x',w2.hp)/\ace b z=some z/\C9 X E w2 { s with H:=H' } { s' with hp:=w2.hp } c'/\RV w2 r x' c':=by
   rintro rfl rfl
   obtain ⟨w2,x',c',k1,k2,k3,k4⟩:=anV (full:=false) g hx (fun q=>by cases q) hy hc ha h0
   exact ⟨w2,x',c',k1,k2,⟨ce,cl,ch,k3⟩,k4⟩
  split at h
  ·rename_i hfl
   split at h
   ·rename_i y l
    cases h
    obtain ⟨ys,new,d,hrv,hnew,hys,hd,hlen,hesz,hb,hst⟩:=al4 ha hy
    have hxe:xs=[]:=by simp at hfl; exact hfl.2
    subst hxe
    injection hrv with _ hrv
    simp only [List.nil_append] at hrv
    subst hrv
    simp only [RV] at hx
    rcases hx with ⟨_,⟨a,cc,rfl,hcc⟩,hx0⟩ | ⟨h',_⟩
    ·have hcc:=hcc trivial
     subst hcc
     obtain ⟨w2,k1,k2,k3⟩:=abV g (cs:=(y::l).flatten) hys.flat (fun i=>by have:=hd i; have:=hc i; omega) b8 true (fun h=>by cases h)
     refine ⟨w2,K3 w.hp (l.length+1) (l.length+1+1),fun _=>0,?_,hst,k2,ajB k1 k3 h0⟩
     have hlen':A4 z=l.length+1:=hlen
     simp only [N8,acg,List.length_nil,if_true]
     simp only [H7,hnew,Option.bind_some,hlen']
     rw [if_neg (by omega),if_pos ⟨trivial,by simpa using hb⟩]
     have hold:B6 w.hp b8 (.slice a 0 0)=some []:=by
      cases a with
      | none=>rfl
      | some a =>
        obtain ⟨b0,o0,s0⟩:=a
        cases s0<;>simp [B6]
     rw [hold,k1]
     simp [K3]
    ·exact absurd rfl h'
   ·cases h; exact plain rfl rfl
  ·cases h; exact plain rfl rfl
theorem aoN {X:XV} {w:Wd} {n b8:Nat} {a v:V} {x:Value} {c:j2} (hg:E6 X w) (h:ahJ X.D0 n b8 a=some v) (ha:RV w a x c):∃ z,aee w.hp n b8 x=some z/\RV w v z (fun _=>0):=by
 unfold ahJ at h
 split at h
 ·rename_i g
  obtain ⟨cs,hcs,hq⟩:=a7 h
  split at hq
  ·rename_i hc
   obtain ⟨hn,rfl,hl⟩:=hc
   cases hq
   obtain ⟨kb,b1,b2,b3,b4,b5⟩:=hg.1 g cs hcs
   simp only [RV] at ha
   obtain ⟨rfl,_⟩:=ha
   have hlen:kb.cells.length=n:=by rw [<-b3.len,hl]
   refine ⟨.slice (some ⟨g,0,none⟩) n n,?_,?_⟩
   ·simp only [aee,b1,Option.bind_some]
    rw [if_pos ⟨hn,trivial,b5,by omega⟩]
   ·have hch:=W0 (sz:=1) (n:=n) b3 (by omega)
    have hcl:(y9 1 n cs).length=n:=by have:=hch.len; omega
    simp only [RV]
    refine .inr ⟨fun q=>by rw [q] at hcl; simp at hcl; omega,g,0,kb,kb.cells,n,fun _=>0,b1,b4,b2,by rw [hcl],by omega,?_,by rw [b5]; exact hch,.inl ⟨trivial,by simp,by simp⟩⟩
    rw [hcl,b5,L2 (by omega)]
    rw [List.drop_zero,List.take_of_length_le (by omega)]
  ·cases hq
 ·cases h
theorem aqa {w:Wd} (l:List UInt8):b9 w (l.map fun b=>V.int .u8 b.toNat) (l.map fun b=>Value.int .u8 b.toNat) (fun _=>0):=by
 induction l with
 | nil=>simp [b9]
 | cons b l ih =>
   simp only [List.map_cons,b9]
   exact ⟨_,_,fun _=>0,fun _=>0,rfl,by simp [RV],ih,by simp⟩
section
variable {X:XV} {Y:Ctx} {A:M5} {T:List Nat} {E:En} {w:Wd} {s:VS} {s':St} {R R':Type} {r:R} {o:Oper}
 {K:VE->VS->A8->Option R} {K':EV->List (Nat × List Value)->Heap->A8->Option R'} {Q:R'->Prop}
def ah7 (X:XV) (E:En) (env:List (Nat × EV)) (K:VE->VS->A8->Option R) (K':EV->List (Nat × List Value)->Heap->A8->Option R') (r:R) (Q:R'->Prop):Prop :=
 ∀ (w2:Wd) (e:VE) (e':EV) (s2:VS) (loc:List (Nat × List Value)) (c:A8) (ce:j2),K e s2 c=some r->RE w2 e e' ce->C9 X E w2 s2 ⟨env,loc,w2.hp⟩ ce->∃ r',K' e' loc w2.hp c=some r'/\Q r'
theorem C9.hp {cx:j2} (hs:C9 X E w s s' cx):s'.hp=w.hp:=by
 obtain ⟨_,_,_,g⟩:=hs; exact g.hp
theorem C9.self {cx:j2} (hs:C9 X E w s s' cx):C9 X E w s ⟨s'.env,s'.loc,w.hp⟩ cx:=by
 have:=hs.hp
 obtain ⟨env,loc,hp⟩:=s'
 simp only at this
 subst this
 exact hs
theorem ah7.pure (hK:ah7 X E s'.env K K' r Q) {v:V} {x:Value} {s2:VS} {c:A8} {cx:j2} (h:K (.val v) s2 c=some r) (hr:RV w v x (fun _=>0)) (hs:C9 X E w s2 s' cx):∃ r',K' (.val x) s'.loc s'.hp c=some r'/\Q r':=by
 rw [hs.hp]
 exact hK w (.val v) (.val x) s2 s'.loc c (fun _=>0) h hr (hs.less (by simp)).self
theorem anQ {hp:Heap} {k:j4} (h:k.md ≠ .gone):j7 (hp++[k]) hp.length=some k:=by
 unfold j7
 rw [List.getElem?_append_right (Nat.le_refl _)]
 simp [h]
def aur (full:Bool):A8:=match full with | true => .A | false => .W
theorem StC.ao9 {ce cl ch cx c:j2} (g:StC X E w s s' ce cl ch cx) {d:Nat} (hl:look s.loc d=none) {cs:List V} {xs:List Value} (hcs:b9 w cs xs c) (hc:∀ i,c i<=cx i) :
 C9 X E w { s with loc:=(d,cs)::s.loc } ⟨s'.env,(d,xs)::s'.loc,w.hp⟩ (fun _=>0):=by
 refine ⟨ce,fun i=>c i+cl i,ch,rfl,g.hw,g.gl,g.fr,g.env,?_,fun k hk=>?_,g.obj,fun i=>?_,fun i hi=>?_,fun i hi=>?_⟩
 ·simp only [I3]
  refine ⟨xs,c,cl,by rw [j3,if_pos rfl],hcs,hl,?_,by simp⟩
  have:∀ {l:List (Nat × List V)} {c:j2},I3 w l s'.loc c->look l d=none->I3 w l ((d,xs)::s'.loc) c:=by
   intro l
   induction l with
   | nil=>intro c h _; simpa [I3] using h
   | cons p l ih =>
     intro c h hn
     obtain ⟨q,v⟩:=p
     simp only [I3] at h ⊢
     obtain ⟨ws,d1,d2,h1,h2,h0,h3,h4⟩:=h
     rw [j3] at hn
     split at hn
     ·cases hn
     ·rename_i hq
      exact ⟨ws,d1,d2,by rw [j3,if_neg (Ne.symm hq)]; exact h1,h2,h0,ih h3 hn,h4⟩
  exact this g.loc hl
 ·rw [j3] at hk ⊢
  split at hk
  ·cases hk
  ·rename_i hq; rw [if_neg hq]; exact g.W3 k hk
 ·have:=g.I6 i; have:=hc i; omega
 ·have:=g.L9 i hi; have:=hc i; omega
 ·have:=g.J6 i hi; have:=hc i; omega
theorem b9.one {w:Wd} {v:V} {x:Value} {c:j2} (h:RV w v x c):b9 w [v] [x] c:=⟨x,[],c,fun _=>0,rfl,h,by simp [b9],by simp⟩
theorem akQ (hcall:∀ f args H r H',X.call f args H=some (r,H')->A7 X Y.call f args H r H') {cx:j2} (hs:C9 X E w s s' cx) {f:FuncId} {vs:List V} {xs:List Value} {c1:j2} (h2:b9 w vs xs c1) (hc:∀ i,c1 i<=cx i) {rv:V} {H':VH} (hr:X.call f vs s.H=some (rv,H')) :
 ∃ x w2 cr,Y.call f xs w.hp=some (x,w2.hp)/\RV w2 rv x cr/\C9 X E w2 { s with H:=H' } ⟨s'.env,s'.loc,w2.hp⟩ cr:=by
 obtain ⟨ce,cl,ch,g⟩:=hs
 obtain ⟨x,w2,cr,ch',q1,q2,q3,q4,q5,q6,q7,q8,q9⟩:=hcall f vs s.H rv H' hr w xs c1 ch g.hw g.gl h2 g.obj (fun i=>by have:=g.I6 i; have:=hc i; omega) (fun i hi=>by have:=g.J6 i hi; have:=hc i; omega)
 have hx:=q4.ext
 refine ⟨x,w2,cr,q1,q5,ce,cl,ch',rfl,q2,q3,?_,g.env.mono hx (fun b hb=>by have:=g.I6 b; have:=hc b; show c1 b+ch b=0; omega),g.loc.mono hx (fun b hb=>by have:=g.I6 b; have:=hc b; show c1 b+ch b=0; omega),g.W3,q6,fun i=>?_,fun i hi=>?_,fun i hi=>?_⟩
 ·refine g.fr.trans q4 g.hw q2 (fun b hb=>hb) (fun i hi=>by have:=g.L9 i hi; have:=hc i; omega) rfl ?_ ?_
  ·obtain ⟨r1,a1,a2⟩:=g.fr.c9
   obtain ⟨r2,b1,b2⟩:=q4.c9
   simp only at b1 b2
   refine ⟨r1++r2,by rw [b1,a1,List.append_assoc],fun b hb=>?_⟩
   have hl:=g.fr.len
   rcases List.mem_append.1 hb with hb | hb
   ·have hbw:b<w.hp.length:=g.hw.X6 b (by rw [a1]; exact List.mem_append.2 (.inr hb))
    refine ⟨(a2 b hb).1,fun k hk=>?_⟩
    rw [q4.keep b _ k (List.getElem?_eq_getElem hbw) hk]
    exact (a2 b hb).2 _ (List.getElem?_eq_getElem hbw)
   ·have:=(b2 b hb).1
    refine ⟨by omega,fun k hk=>?_⟩
    rcases (b2 b hb).2 k hk with q | ⟨b0,q1,k0,q2,q3⟩
    ·left; simp only at q; omega
    ·rw [<-q3]; exact g.fr.ac6 q1 q2
  ·obtain ⟨r1,a1,a2⟩:=g.fr.fb
   obtain ⟨r2,b1,b2⟩:=q4.fb
   simp only at b1 b2
   refine ⟨r2++r1,by rw [b1,a1,List.append_assoc],fun b hb=>?_⟩
   rcases List.mem_append.1 hb with hb | hb
   ·have:=b2 b hb; have:=g.fr.len; omega
   ·exact a2 b hb
 ·by_cases hi:i<w.hp.length
  ·have:=q8 i hi; have:=g.I6 i; have:=hc i; omega
  ·have:=g.J6 i (by omega); have:=q7 i; omega
 ·have:=q8 i (by have:=g.fr.len; omega); have:=g.L9 i hi; have:=hc i; omega
 ·have:=q9 i hi
  have hl:=q4.len
  simp only at hl
  have:=g.J6 i (by omega); omega
theorem afZ (hT:Z3 X) (hcall:∀ f args H r H',X.call f args H=some (r,H')->A7 X Y.call f args H r H') {cx:j2} (hs:C9 X E w s s' cx) {f:FuncId} {vs:List V} {xs:List Value} (fb:List Nat) (hfb:∀ b ∈ fb,b ∈ w.fb) (h2:w4 vs=true->b9 ⟨w.hp,[],fb⟩ vs xs (fun _=>0)) {rv:V} (hr:P7 X.call f vs=some rv) :
 ∃ x,R8 Y.call f xs s'.hp=some x/\RV w rv x (fun _=>0):=by
 have hhp:=hs.hp
 obtain ⟨ce,cl,ch,g⟩:=hs
 unfold P7 at hr
 split at hr
 ·rename_i hn
  obtain ⟨⟨rv',H'⟩,hr1,hr2⟩:=a7 hr
  simp only at hr2
  split at hr2
  ·rename_i hsc
   cases hr2
   obtain ⟨x,hp2,fb2,rho2,cr,q1,q2,q3,q4,q5,q6,q7,q8,q9,q10,_⟩:=abl g.hw g.gl hT.gd fb hfb (h2 hn) (hcall _ _ _ _ _ hr1)
   obtain ⟨t1,t2⟩:=apT q3 hsc
   have hq:R8 Y.call f xs s'.hp=some x:=by
    unfold R8
    rw [hhp,q1]
    simp only [Option.bind_some]
    rw [if_pos ⟨q2,t1⟩]
   have hdat:data rv=true:=by
    cases rv<;>first | rfl | (simp only [abb,Q0] at hsc; cases hsc; done) | skip
    rename_i l
    simp only [abb] at hsc
    simp only [data]
    have:∀ {l:List V},l.all Q0=true->C1 l=true:=by
     intro l
     induction l with
     | nil=>intro _; rfl
     | cons a l ih =>
       intro h
       simp only [List.all_cons,Bool.and_eq_true] at h
       simp only [C1,Bool.and_eq_true]
       refine ⟨?_,ih h.2⟩
       cases a<;>first | rfl | (simp only [Q0] at h; exact absurd h.1 (by simp))
    exact this hsc
   have hxw:RV w rv x (fun _=>0):=by
    have:∀ {v:V} {x:Value} {c:j2},RV ⟨hp2,rho2,fb2⟩ v x c->Q0 v=true->RV w v x (fun _=>0):=by
     intro v x c h hs
     cases v<;>simp only [Q0] at hs<;>first | (cases hs; done) | skip
     all_goals simp only [RV] at h ⊢; exact ⟨h.1,by simp⟩
    by_cases ht2:∃ l,rv = .o8 l
    ·obtain ⟨l,rfl⟩:=ht2
     simp only [abb] at hsc
     simp only [RV] at q3 ⊢
     obtain ⟨ws,rfl,q3⟩:=q3
     refine ⟨ws,rfl,?_⟩
     have all:∀ {l:List V} {ws:List Value} {c:j2},b9 ⟨hp2,rho2,fb2⟩ l ws c->l.all Q0=true->b9 w l ws (fun _=>0):=by
      intro l
      induction l with
      | nil=>intro ws c h _; simp only [b9] at h ⊢; exact ⟨h.1,by simp⟩
      | cons a l ih =>
        intro ws c h hs
        simp only [b9] at h ⊢
        obtain ⟨x,ys,c1,c2,rfl,h2,h3,h4⟩:=h
        simp only [List.all_cons,Bool.and_eq_true] at hs
        exact ⟨x,ys,_,_,rfl,this h2 hs.1,ih h3 hs.2,by simp⟩
     exact all q3 hsc
    ·have hs1:Q0 rv=true:=by cases rv<;>first | exact hsc | exact absurd ⟨_,rfl⟩ ht2
     exact this q3 hs1
   exact ⟨x,hq,hxw⟩
  ·cases hr2
 ·cases hr
theorem aeO (hT:Z3 X) (hcall:∀ f args H r H',X.call f args H=some (r,H')->A7 X Y.call f args H r H') {cx:j2} (hs:C9 X E w s s' cx) {f:FuncId} {vs:List V} {xs:List Value} {c1:j2} (h2:b9 w vs xs c1) {rv:V} (hr:P7 X.call f (vs.map (l4 s.H))=some rv) :
 ∃ x,R8 Y.call f xs s'.hp=some x/\RV w rv x (fun _=>0):=by
 have hs':=hs
 obtain ⟨ce,cl,ch,g⟩:=hs'
 exact afZ hT hcall hs w.fb (fun _ h=>h) (fun hn=>ahG (wc:=⟨w.hp,[],w.fb⟩) g.hw g.obj rfl rfl rfl h2 hn) hr
theorem amV (hT:Z3 X) (hcall:∀ f args H r H',X.call f args H=some (r,H')->A7 X Y.call f args H r H') {cx:j2} (hs:C9 X E w s s' cx) {f:FuncId} {vs:List V} {xs:List Value} {c1:j2} (h2:b9 w vs xs c1) {rv:V} (hr:aaH X.call f s.H vs=some rv) :
 ∃ x,R8 Y.call f xs s'.hp=some x/\RV w rv x (fun _=>0):=by
 unfold aaH at hr
 split at hr
 ·exact aeO hT hcall hs h2 hr
 ·have hs':=hs
  obtain ⟨ce,cl,ch,g⟩:=hs'
  exact afZ hT hcall hs [] (by simp) (fun hn=>aaG (w:=w) (wc:=⟨w.hp,[],[]⟩) rfl rfl rfl g.hw g.obj 3 h2 hn) hr
theorem anc (hT:Z3 X) (hcall:∀ f args H r H',X.call f args H=some (r,H')->A7 X Y.call f args H r H') {cx:j2} (hs:C9 X E w s s' cx) {f:FuncId} {vs:List V} {xs:List Value} {c1:j2} (h2:b9 w vs xs c1) {rv:V} (hr:abi X.call f s.H vs=some rv) :
 ∃ x,R8 Y.call f xs s'.hp=some x/\RV w rv x (fun _=>0):=by
 unfold abi at hr
 have hs':=hs
 obtain ⟨ce,cl,ch,g⟩:=hs'
 exact afZ hT hcall hs [] (by simp) (fun hn=>aaG (w:=w) (wc:=⟨w.hp,[],[]⟩) rfl rfl rfl g.hw g.obj 3 h2 hn) hr
def amc (Y:Ctx) (w:Wd) (f:FuncId) (xs:List Value) (rv:V):Prop :=
 ∃ (x:Value) (hp2:Heap) (fb fb2 rho2:List Nat) (cr:j2),Y.call f xs w.hp=some (x,hp2)/\hp2.take w.hp.length=w.hp/\RV ⟨hp2,w.c9,w.fb⟩ rv x cr/\(∀ i,cr i<=1)/\(∀ i,i<w.hp.length->cr i=0)/\(∀ i,hp2.length<=i->cr i=0) ∧
   HW ⟨hp2,w.c9,w.fb⟩/\B8 ⟨w.hp,[],fb,fun _=>0⟩ ⟨hp2,rho2,fb2⟩/\HW ⟨hp2,rho2,fb2⟩
theorem ajV {w:Wd} {f:FuncId} {xs:List Value} {rv rv':V} {x:Value} {hp2:Heap} {fb fb2 rho2:List Nat} {cr ch':j2} {H':VH} (q1:Y.call f xs w.hp=some (x,hp2)) (q2:hp2.take w.hp.length=w.hp) (q3:RV ⟨hp2,rho2,fb2⟩ rv' x cr)
 (q7:HW ⟨hp2,w.c9,w.fb⟩) (q9:B8 ⟨w.hp,[],fb,fun _=>0⟩ ⟨hp2,rho2,fb2⟩) (q10:HW ⟨hp2,rho2,fb2⟩) (hq:∀ (b:Nat) (k:j4),w.hp.length<=b->hp2[b]? = some k->b ∉ w.fb/\y0 hp2 w.c9 k.j1)
 (ho:p6 ⟨hp2,rho2,fb2⟩ H' rho2 ch') (c1:∀ i,cr i+ch' i<=1) (c2:∀ i,i<w.hp.length->cr i+ch' i=0) (c3:∀ i,hp2.length<=i->cr i+ch' i=0) (hr:ouR H' rv'=some rv):amc Y w f xs rv:=by
 unfold ouR at hr
 obtain ⟨⟨v,H2⟩,e1,e2⟩:=a7 hr
 simp only at e2
 split at e2
 ·cases e2
  have hge:∀ b ∈ rho2,w.hp.length<=b:=fun b hb=>q9.ai0 (w:=⟨hp2,rho2,fb2⟩) hb (by simp)
  obtain ⟨c',ch2,p1,p2,p3⟩:=alc (w:=⟨hp2,rho2,fb2⟩) (w':=⟨hp2,w.c9,w.fb⟩) (n0:=w.hp.length) rfl hq q10 hge 6 ho q3 c2 e1
  have hlo:=fun i=>aoJ (H:=H') i q10.nd
  have hin:∀ i,1<=LO H' rho2 i->cr i=0/\ch' i=0/\w.hp.length<=i/\i<hp2.length:=fun i hi=>by
   have hm:i ∈ rho2:=by
    by_cases q:i ∈ rho2
    ·exact q
    ·rw [ac7 q] at hi; omega
   refine ⟨?_,?_,hge i hm,q10.X6 i hm⟩
   ·by_cases q:1<=cr i
    ·exact absurd hm (RV.owned _ q3 i q).2.1
    ·omega
   ·by_cases q:1<=ch' i
    ·obtain ⟨kb,a1,a2⟩:=p6.afF ho i q
     exact absurd hm (a2.nin a1)
    ·omega
  refine ⟨x,hp2,fb,fb2,rho2,c',q1,q2,p1,fun i=>?_,fun i hi=>?_,fun i hi=>?_,q7,q9,q10⟩
  ·have:=p3 i; have:=c1 i; have:=hlo i
   by_cases q:1<=LO H' rho2 i
   ·have:=hin i q; simp only at *; omega
   ·simp only at *; omega
  ·have:=p3 i; have:=c2 i hi
   by_cases q:1<=LO H' rho2 i
   ·have:=hin i q; omega
   ·simp only at *; omega
  ·have:=p3 i; have:=c3 i hi
   by_cases q:1<=LO H' rho2 i
   ·have:=hin i q; omega
   ·simp only at *; omega
 ·cases e2
theorem aiu (hT:Z3 X) (hcall:∀ f args H r H',X.call f args H=some (r,H')->A7 X Y.call f args H r H') {cx:j2} (hs:C9 X E w s s' cx) {f:FuncId} {vs:List V} {xs:List Value} {c1:j2} (h2:b9 w vs xs c1) {rv:V} (hr:V7 X.call f (vs.map (l4 s.H))=some rv):amc Y w f xs rv:=by
 obtain ⟨ce,cl,ch,g⟩:=hs
 unfold V7 at hr
 split at hr
 ·rename_i hn
  obtain ⟨⟨rv',H'⟩,hr1,hr2⟩:=a7 hr
  simp only at hr2
  split at hr2
  ·rename_i hdat
   cases hr2
   obtain ⟨x,hp2,fb2,rho2,cr,q1,q2,q3,q4,q5,q6,q7,q8,q9,q10,q11,q12,_⟩:=afc g.hw g.obj g.gl hT.gd h2 hn (hcall _ _ _ _ _ hr1)
   exact ⟨x,hp2,_,fb2,rho2,cr,q1,q2,RV.data (w:=⟨hp2,rho2,fb2⟩) (w':=⟨hp2,w.c9,w.fb⟩) rfl q8 rv hdat q3,q4,q5,q6,q7,q9,q10⟩
  ·obtain ⟨v2,hv2,hr3⟩:=a7 hr2
   split at hr3
   ·rename_i hdat
    cases hr3
    obtain ⟨x,hp2,fb2,rho2,cr,q1,q2,q3,q4,q5,q6,q7,q8,q9,q10,q11,_,ch',q12,_⟩:=afc g.hw g.obj g.gl hT.gd h2 hn (hcall _ _ _ _ _ hr1)
    obtain ⟨c',p1,p2⟩:=akz (w:=⟨hp2,rho2,fb2⟩) (w':=⟨hp2,w.c9,w.fb⟩) rfl q8 q11 q10 q12 q3 hv2 hdat
    exact ⟨x,hp2,_,fb2,rho2,c',q1,q2,p1,fun i=>Nat.le_trans (p2 i) (q4 i),fun i hi=>by have:=p2 i; have:=q5 i hi; omega,fun i hi=>by have:=p2 i; have:=q6 i hi; omega,q7,q9,q10⟩
   ·unfold ouD at hr3
    split at hr3
    ·rename_i u hu
     cases hr3
     obtain ⟨x,hp2,fb2,rho2,cr,q1,q2,q3,q4,q5,q6,q7,q8,q9,q10,q11,q12,ch',q13,q14,q15,q16⟩:=afc g.hw g.obj g.gl hT.gd h2 hn (hcall _ _ _ _ _ hr1)
     exact ajV q1 q2 q3 q7 q9 q10 q12 q13 q14 q15 q16 hu
    ·obtain ⟨v3,hv3,hr4⟩:=a7 hr3
     split at hr4
     ·rename_i hdat
      cases hr4
      obtain ⟨x,hp2,fb2,rho2,cr,q1,q2,q3,q4,q5,q6,q7,q8,q9,q10,q11,_,ch',q12,_⟩:=afc g.hw g.obj g.gl hT.gd h2 hn (hcall _ _ _ _ _ hr1)
      obtain ⟨c',p1,p2⟩:=aiU (w:=⟨hp2,rho2,fb2⟩) (w':=⟨hp2,w.c9,w.fb⟩) rfl q8 q11 q10 q12 q3 hv3 hdat
      exact ⟨x,hp2,_,fb2,rho2,c',q1,q2,p1,fun i=>Nat.le_trans (p2 i) (q4 i),fun i hi=>by have:=p2 i; have:=q5 i hi; omega,fun i hi=>by have:=p2 i; have:=q6 i hi; omega,q7,q9,q10⟩
     ·cases hr4
 ·cases hr
theorem amX (hT:Z3 X) (hcall:∀ f args H r H',X.call f args H=some (r,H')->A7 X Y.call f args H r H') {cx:j2} (hs:C9 X E w s s' cx) {f:FuncId} {vs:List V} {xs:List Value} {c1:j2} (h2:b9 w vs xs c1) {rv:V} (hr:ajt X.call f s.H vs=some rv):amc Y w f xs rv:=by
 obtain ⟨ce,cl,ch,g⟩:=hs
 unfold ajt at hr
 split at hr
 ·rename_i hn
  obtain ⟨⟨rv',H'⟩,hr1,hr2⟩:=a7 hr
  simp only at hr2
  obtain ⟨x,hp2,fb2,rho2,cr,q1,q2,q3,q4,q5,q6,q7,q8,q9,q10,ch',q13,q14,q15,q16⟩:=abl g.hw g.gl hT.gd [] (by simp) (aaG (w:=w) (wc:=⟨w.hp,[],[]⟩) rfl rfl rfl g.hw g.obj 3 h2 hn) (hcall _ _ _ _ _ hr1)
  exact ajV q1 q2 q3 q7 q8 q9 q10 q13 q14 q15 q16 hr2
 ·cases hr
theorem anb (hT:Z3 X) (hcall:∀ f args H r H',X.call f args H=some (r,H')->A7 X Y.call f args H r H') {cx:j2} (hs:C9 X E w s s' cx) {f:FuncId} {vs:List V} {xs:List Value} {c1:j2} (h2:b9 w vs xs c1) {rv:V} (hr:ab6 X.call f s.H vs=some rv):amc Y w f xs rv:=by
 unfold ab6 at hr
 split at hr
 ·exact aiu hT hcall hs h2 hr
 ·obtain ⟨v,hr,hown⟩:=a7 hr
  split at hown
  ·rename_i ho
   cases hown
   obtain ⟨ce,cl,ch,g⟩:=hs
   unfold V7 at hr
   split at hr
   ·rename_i hn
    obtain ⟨⟨rv',H'⟩,hr1,hr2⟩:=a7 hr
    simp only at hr2
    obtain ⟨x,hp2,fb2,rho2,cr,q1,q2,q3,q4,q5,q6,q7,q8,q9,q10,ch',q12,q13⟩:=abl g.hw g.gl hT.gd [] (by simp) (aaG (w:=w) (wc:=⟨w.hp,[],[]⟩) rfl rfl rfl g.hw g.obj 3 h2 hn) (hcall _ _ _ _ _ hr1)
    have fin:∀ {v:V} {c:j2},RV ⟨hp2,rho2,fb2⟩ v x c->(∀ i,c i<=cr i)->H4 v=true->RV ⟨hp2,w.c9,w.fb⟩ v x c:=fun h hc ho=>RV.own (w:=⟨hp2,rho2,fb2⟩) (w':=⟨hp2,w.c9,w.fb⟩) rfl _ ho h (fun b k hb hk=>q10 b k (by
     have:=hc b
     by_cases hlt:b<w.hp.length
     ·have:=q5 b hlt; omega
     ·omega) hk)
    split at hr2
    ·cases hr2
     exact ⟨x,hp2,_,fb2,rho2,cr,q1,q2,fin q3 (fun _=>Nat.le_refl _) ho,q4,q5,q6,q7,q8,q9⟩
    ·obtain ⟨v2,hv2,hr3⟩:=a7 hr2
     split at hr3
     ·rename_i hdat
      cases hr3
      obtain ⟨c',p1,p2⟩:=akz (w:=⟨hp2,rho2,fb2⟩) (w':=⟨hp2,[],[]⟩) rfl (fun b k _ _=>⟨by simp,y0.nil⟩) (fun b _ k _=>⟨by simp,y0.nil⟩) q9 q12 q3 hv2 hdat
      have:=RV.own (w:=⟨hp2,[],[]⟩) (w':=⟨hp2,w.c9,w.fb⟩) rfl _ ho p1 (fun b k hb hk=>q10 b k (by
       have:=p2 b
       by_cases hlt:b<w.hp.length
       ·have:=q5 b hlt; omega
       ·omega) hk)
      exact ⟨x,hp2,_,fb2,rho2,c',q1,q2,this,fun i=>Nat.le_trans (p2 i) (q4 i),fun i hi=>by have:=p2 i; have:=q5 i hi; omega,fun i hi=>by have:=p2 i; have:=q6 i hi; omega,q7,q8,q9⟩
     ·unfold ouD at hr3
      split at hr3
      ·rename_i u hu
       cases hr3
       exact ajV q1 q2 q3 q7 q8 q9 q10 q12 q13.1 q13.2.1 q13.2.2 hu
      ·obtain ⟨v3,hv3,hr4⟩:=a7 hr3
       split at hr4
       ·rename_i hdat
        cases hr4
        obtain ⟨c',p1,p2⟩:=aiU (w:=⟨hp2,rho2,fb2⟩) (w':=⟨hp2,[],[]⟩) rfl (fun b k _ _=>⟨by simp,y0.nil⟩) (fun b _ k _=>⟨by simp,y0.nil⟩) q9 q12 q3 hv3 hdat
        have:=RV.own (w:=⟨hp2,[],[]⟩) (w':=⟨hp2,w.c9,w.fb⟩) rfl _ ho p1 (fun b k hb hk=>q10 b k (by
         have:=p2 b
         by_cases hlt:b<w.hp.length
         ·have:=q5 b hlt; omega
         ·omega) hk)
        exact ⟨x,hp2,_,fb2,rho2,c',q1,q2,this,fun i=>Nat.le_trans (p2 i) (q4 i),fun i hi=>by have:=p2 i; have:=q5 i hi; omega,fun i hi=>by have:=p2 i; have:=q6 i hi; omega,q7,q8,q9⟩
       ·cases hr4
   ·cases hr
  ·cases hown
theorem amx {cx:j2} (hK:ah7 X E s'.env K K' r Q) (hs:C9 X E w s s' cx) {f:FuncId} {xs:List Value} {x:Value} {hp2:Heap} {fb fb2 rho2:List Nat} {rv:V} {cr:j2} (h1:K (.val rv) s .A=some r) (q1:Y.call f xs w.hp=some (x,hp2)) (q2:hp2.take w.hp.length=w.hp)
 (q3:RV ⟨hp2,w.c9,w.fb⟩ rv x cr) (q4:∀ i,cr i<=1) (q5:∀ i,i<w.hp.length->cr i=0) (q6:∀ i,hp2.length<=i->cr i=0) (q7:HW ⟨hp2,w.c9,w.fb⟩) (q9:B8 ⟨w.hp,[],fb,fun _=>0⟩ ⟨hp2,rho2,fb2⟩) (q10:HW ⟨hp2,rho2,fb2⟩) :
 ∃ r',((R2 Y.call f xs s'.hp).bind fun r=>K' (.val r.1) s'.loc r.2 .A)=some r'/\Q r':=by
 have hhp:=hs.hp
 obtain ⟨ce,cl,ch,g⟩:=hs
 have hq:R2 Y.call f xs s'.hp=some (x,hp2):=by
  unfold R2
  rw [hhp,q1]
  simp only [Option.bind_some]
  rw [if_pos q2]
 rw [hq]
 simp only [Option.bind_some]
 have hlen:=q9.len
 simp only at hlen
 have same:∀ b,b<w.hp.length->hp2[b]? = w.hp[b]?:=fun b hb=>by
  rw [List.getElem?_eq_getElem hb]
  exact q9.same b _ (List.getElem?_eq_getElem hb) y0.nil rfl
 have hx:Ext w ⟨hp2,w.c9,w.fb⟩ (fun _=>True):=by
  refine ⟨fun b kb hb hn=>?_,fun k b h=>h,fun j b kb _ hb=>⟨kb,by show hp2[b]? = _; rw [same b (List.getElem?_eq_some_iff.1 hb).1]; exact hb,rfl⟩⟩
  obtain ⟨a1,a2,a3⟩:=j5 hb
  exact ⟨kb,y3 (by show hp2[b]? = _; rw [same b a3]; exact a1) a2,fun c hc q hq=>hn c hc q (by rw [<-same c (g.hw.X6 c hc)]; exact hq),fun h=>h,rfl,rfl,fun _=>⟨rfl,rfl⟩⟩
 have hfr:B8 E ⟨hp2,w.c9,w.fb⟩:=g.fr.trans q9 g.hw q10 (by simp) (by simp) rfl (by
  obtain ⟨r0,a1,a2⟩:=g.fr.c9
  refine ⟨r0,a1,fun b hb=>⟨(a2 b hb).1,fun k hk=>?_⟩⟩
  have hk':hp2[b]? = some k:=hk
  rw [same b (g.hw.X6 b (by rw [a1]; exact List.mem_append.2 (.inr hb)))] at hk'
  exact (a2 b hb).2 k hk') g.fr.fb
 have g':=g.move hx (fun _ _=>trivial) q7 hfr (fun b hb => .eq (same b (g.hw.S9 _ (g.hw.sub _ hb)))) rfl hlen
 refine hK ⟨hp2,w.c9,w.fb⟩ (.val rv) (.val x) _ _ _ cr h1 (by simp only [RE]; exact q3) ⟨ce,cl,ch,{ g' with I6:=fun i=>?_,L9:=fun i hi=>?_,J6:=fun i hi=>?_ }⟩
 ·by_cases hi:i<w.hp.length
  ·have:=q5 i hi; have:=g.I6 i; omega
  ·have:=g.J6 i (by omega); have:=q4 i; omega
 ·have:=q5 i (by have:=g.fr.len; omega); have:=g.L9 i hi; omega
 ·have:=q6 i hi; have:=g.J6 i (by simp only at hi; omega); omega
open Classical in
theorem afE {cx:j2} (hK:ah7 X E s'.env K K' r Q) (hs:C9 X E w s s' cx) {f:FuncId} {xs:List Value} {x:Value} {hp2:Heap} {fb fb2 rho2:List Nat} {ov:V} {oH:VH} {cr:j2} (own:∀ b,1<=cr b->b ∉ w.fb/\b ∉ w.c9/\∃ kb:j4,j7 hp2 b=some kb/\kb.md = .rw/\y0 hp2 w.c9 kb.j1)
 (hP:Prm ⟨hp2,w.c9,w.fb⟩ s.H oH cr (fun W c'=>RV W ov x c')) (h1:K (.val ov) { s with H:=oH } .A=some r) (q1:Y.call f xs w.hp=some (x,hp2)) (q2:hp2.take w.hp.length=w.hp)
 (q4:∀ i,cr i<=1) (q5:∀ i,i<w.hp.length->cr i=0) (q6:∀ i,hp2.length<=i->cr i=0) (q7:HW ⟨hp2,w.c9,w.fb⟩) (q9:B8 ⟨w.hp,[],fb,fun _=>0⟩ ⟨hp2,rho2,fb2⟩) (q10:HW ⟨hp2,rho2,fb2⟩) :
 ∃ r',((R2 Y.call f xs s'.hp).bind fun r=>K' (.val r.1) s'.loc r.2 .A)=some r'/\Q r':=by
 have hhp:=hs.hp
 obtain ⟨ce,cl,ch,g⟩:=hs
 have hq:R2 Y.call f xs s'.hp=some (x,hp2):=by
  unfold R2
  rw [hhp,q1]
  simp only [Option.bind_some]
  rw [if_pos q2]
 rw [hq]
 simp only [Option.bind_some]
 have hlen:=q9.len
 simp only at hlen
 have same:∀ b,b<w.hp.length->hp2[b]? = w.hp[b]?:=fun b hb=>by
  rw [List.getElem?_eq_getElem hb]
  exact q9.same b _ (List.getElem?_eq_getElem hb) y0.nil rfl
 have newf:∀ (b:Nat) (k:j4),w.hp.length<=b->hp2[b]? = some k->w.hp.length<=k.j1:=fun b k hb hk=>by
  rcases q9.j1 b k hb hk with (q | ⟨_,q,_⟩) | ⟨_,_,_,q,_⟩
  ·exact q
  ·cases q
  ·simp at q
 obtain ⟨ps,Hs,c',ch',e1,e2,e3,e4,e5,e6⟩:=hP.ex
 let FB:List Nat:=(List.range hp2.length).filter fun b=>decide (∃ p ∈ ps,∃ kp kb:j4,hp2[p]? = some kp/\hp2[b]? = some kb/\kb.j1=kp.j1)
 have hFB:∀ b,b ∈ FB<->b<hp2.length/\∃ p ∈ ps,∃ kp kb:j4,hp2[p]? = some kp/\hp2[b]? = some kb/\kb.j1=kp.j1:=fun b=>by
  simp only [FB,List.mem_filter,List.mem_range,decide_eq_true_eq]
 have pnew:∀ p ∈ ps,w.hp.length<=p:=fun p hp=>by
  have:=e4 p hp
  by_cases hlt:p<w.hp.length
  ·have:=q5 p hlt; omega
  ·omega
 have pown:∀ p ∈ ps,∃ kp:j4,hp2[p]? = some kp/\kp.md = .rw/\w.hp.length<=kp.j1/\p<hp2.length:=fun p hp=>by
  obtain ⟨_,_,kp,a1,a2,_⟩:=own p (e4 p hp)
  obtain ⟨b1,b2,b3⟩:=j5 a1
  exact ⟨kp,b1,a2,newf p kp (pnew p hp) b1,b3⟩
 have FBnew:∀ b ∈ FB,w.hp.length<=b:=fun b hb=>by
  obtain ⟨_,p,hp,kp,kb,a1,a2,a3⟩:=(hFB b).1 hb
  obtain ⟨kp',b1,_,b3,_⟩:=pown p hp
  rw [a1] at b1; cases b1
  by_cases hlt:b<w.hp.length
  ·rw [same b hlt] at a2
   have:=g.hw.j1 b kb a2; omega
  ·omega
 have hW:HW ⟨hp2,w.c9++ps,FB++w.fb⟩:=by
  refine ⟨fun b hb=>?_,q7.one,q7.j1,fun b hb=>?_,fun b hb=>?_,?_,fun b c kb kc hb hk hk' hff=>?_,q7.mrk⟩
  ·rcases List.mem_append.1 hb with hb | hb
   ·exact q7.obj b hb
   ·obtain ⟨kp,a1,a2,_⟩:=pown b hb
    exact ⟨kp,a1⟩
  ·rcases List.mem_append.1 hb with hb | hb
   ·exact ((hFB b).1 hb).1
   ·exact q7.S9 b hb
  ·rcases List.mem_append.1 hb with hb | hb
   ·exact List.mem_append.2 (.inr (q7.sub b hb))
   ·obtain ⟨kp,a1,a2,_,a4⟩:=pown b hb
    exact List.mem_append.2 (.inl ((hFB b).2 ⟨a4,b,hb,kp,kp,a1,a1,rfl⟩))
  ·rw [List.nodup_append]
   exact ⟨q7.nd,e3,fun a ha b hb e=>by subst e; have:=g.hw.X6 a ha; have:=pnew a hb; omega⟩
  ·rcases List.mem_append.1 hb with hb | hb
   ·exact List.mem_append.2 (.inr (q7.fbf b c kb kc hb hk hk' hff))
   ·exact List.mem_append.2 (.inl ((hFB c).2 ⟨(List.getElem?_eq_some_iff.1 hk').1,b,hb,kb,kc,hk,hk',hff⟩))
 have hx:Ext w ⟨hp2,w.c9++ps,FB++w.fb⟩ (fun _=>True):=by
  refine ⟨fun b kb hb hn=>?_,fun k b h=>?_,fun j b kb _ hb=>⟨kb,by show hp2[b]? = _; rw [same b (List.getElem?_eq_some_iff.1 hb).1]; exact hb,rfl⟩⟩
  ·obtain ⟨a1,a2,a3⟩:=j5 hb
   refine ⟨kb,y3 (by show hp2[b]? = _; rw [same b a3]; exact a1) a2,fun c hc q hq=>?_,fun h h'=>?_,rfl,rfl,fun _=>⟨rfl,rfl⟩⟩
   ·have hq':hp2[c]? = some q:=hq
    rcases List.mem_append.1 hc with hc | hc
    ·exact hn c hc q (by rw [<-same c (g.hw.X6 c hc)]; exact hq')
    ·have:=newf c q (pnew c hc) hq'
     have:=g.hw.j1 b kb a1
     omega
   ·rcases List.mem_append.1 h' with h' | h'
    ·have:=FBnew b h'; omega
    ·exact h h'
  ·show (w.c9++ps)[k]? = _
   rw [List.getElem?_append_left (List.getElem?_eq_some_iff.1 h).1]; exact h
 have hfr:B8 E ⟨hp2,w.c9++ps,FB++w.fb⟩:=g.fr.trans q9 g.hw q10 (by simp) (by simp) rfl (by
  obtain ⟨r0,a1,a2⟩:=g.fr.c9
  have hl:=g.fr.len
  refine ⟨r0++ps,by show w.c9++ps=_; rw [a1,List.append_assoc],fun b hb=>?_⟩
  rcases List.mem_append.1 hb with hb | hb
  ·refine ⟨(a2 b hb).1,fun k hk=>?_⟩
   have hk':hp2[b]? = some k:=hk
   rw [same b (g.hw.X6 b (by rw [a1]; exact List.mem_append.2 (.inr hb)))] at hk'
   exact (a2 b hb).2 k hk'
  ·have:=pnew b hb
   refine ⟨by omega,fun k hk=>?_⟩
   have:=newf b k this hk; left; omega) (by
  obtain ⟨r0,a1,a2⟩:=g.fr.fb
  have hl:=g.fr.len
  refine ⟨FB++r0,by show FB++w.fb=_; rw [a1,List.append_assoc],fun b hb=>?_⟩
  rcases List.mem_append.1 hb with hb | hb
  ·have:=FBnew b hb; omega
  ·exact a2 b hb)
 obtain ⟨p1,o1⟩:=e6 ⟨hp2,w.c9++ps,FB++w.fb⟩ rfl (fun j hj=>by
  show (w.c9++ps)[_]? = _
  rw [<-g.obj.len,List.getElem?_append_right (by omega)]
  congr 1; omega) (fun b k hb hk=>by
  have hcb:=e5 b
  have hnb:b ∉ ps:=fun hp=>by rw [if_pos hp] at hcb; have:=q4 b; omega
  rw [if_neg hnb] at hcb
  obtain ⟨a1,_,kb,a3,a4,a5⟩:=own b (by omega)
  have hkb:=(j5 a3).1
  have hk':hp2[b]? = some k:=hk
  have hkb':hp2[b]? = some kb:=hkb
  rw [hk'] at hkb'; cases hkb'
  have ne:∀ p ∈ ps,∀ kp:j4,hp2[p]? = some kp->kp.j1 ≠ k.j1:=fun p hp kp hkp e=>by
   obtain ⟨kp',b1,b2,_⟩:=pown p hp
   rw [hkp] at b1; cases b1
   exact hnb (q7.one p b kp k hkp hk' b2 a4 e ▸ hp)
  refine ⟨fun h=>?_,fun c hc q hq=>?_⟩
  ·rcases List.mem_append.1 h with h | h
   ·obtain ⟨_,p,hp,kp,kb,b1,b2,b3⟩:=(hFB b).1 h
    rw [hk'] at b2; cases b2
    exact ne p hp kp b1 b3.symm
   ·exact a1 h
  ·rcases List.mem_append.1 hc with hc | hc
   ·exact a5 c hc q hq
   ·exact ne c hc q hq)
 have hobj:p6 ⟨hp2,w.c9++ps,FB++w.fb⟩ oH (w.c9++ps) (fun i=>ch i+ch' i):=by
  rw [e1]
  exact (g.obj.mono hx (fun b hb => .eq (same b (g.hw.X6 b hb))) (fun _ _=>trivial)).app o1
 have cnt:∀ i,c' i+ch' i<=cr i:=fun i=>by have:=e5 i; omega
 refine hK ⟨hp2,w.c9++ps,FB++w.fb⟩ (.val ov) (.val x) _ _ _ c' h1 (by simp only [RE]; exact p1) ⟨ce,cl,_,rfl,hW,g.gl.mono hx,hfr,g.env.mono hx (fun _ _=>trivial),g.loc.mono hx (fun _ _=>trivial),g.W3,hobj,fun i=>?_,fun i hi=>?_,fun i hi=>?_⟩
 ·have:=cnt i
  by_cases hi:i<w.hp.length
  ·have:=q5 i hi; have:=g.I6 i; omega
  ·have:=g.J6 i (by omega); have:=q4 i; omega
 ·have:=cnt i; have:=q5 i (by have:=g.fr.len; omega); have:=g.L9 i hi; omega
 ·have:=cnt i; have:=q6 i hi; have:=g.J6 i (by simp only at hi; omega); omega
theorem alY {cx:j2} (hK:ah7 X E s'.env K K' r Q) (hs:C9 X E w s s' cx) {f:FuncId} {xs:List Value} {x:Value} {hp2:Heap} {fb fb2 rho2:List Nat} {rv:V} {cr:j2} {d:Nat} (ho:H4 rv=true) (h1:K (.val (prom d s.H rv).1) { s with H:=(prom d s.H rv).2 } .A=some r) (q1:Y.call f xs w.hp=some (x,hp2)) (q2:hp2.take w.hp.length=w.hp)
 (q3:RV ⟨hp2,w.c9,w.fb⟩ rv x cr) (q4:∀ i,cr i<=1) (q5:∀ i,i<w.hp.length->cr i=0) (q6:∀ i,hp2.length<=i->cr i=0) (q7:HW ⟨hp2,w.c9,w.fb⟩) (q9:B8 ⟨w.hp,[],fb,fun _=>0⟩ ⟨hp2,rho2,fb2⟩) (q10:HW ⟨hp2,rho2,fb2⟩) :
 ∃ r',((R2 Y.call f xs s'.hp).bind fun r=>K' (.val r.1) s'.loc r.2 .A)=some r'/\Q r' :=
 afE hK hs (fun b hb=>RV.owned rv q3 b hb) (ahL rv d s.H ho q3 q4) h1 q1 q2 q4 q5 q6 q7 q9 q10
theorem b9.text {w w':Wd}:∀ {cs:List V} {xs:List Value} {c:j2},afe cs=true->b9 w cs xs c->b9 w' cs xs (fun _=>0)
 | [],xs,c,ht,h=>by simp only [b9] at *; exact ⟨h.1,by simp⟩
 | v::cs,xs,c,ht,h=>by
   cases v with
   | str s =>
     simp only [b9,RV] at h ⊢
     obtain ⟨x,ys,c1,c2,h1,⟨h2,_⟩,h3,_⟩:=h
     exact ⟨x,ys,fun _=>0,fun _=>0,h1,⟨h2,by simp⟩,b9.text (cs:=cs) ht h3,by simp⟩
   | _=>simp [afe] at ht
theorem ark (hT:Z3 X) (hcall:∀ f args H r H',X.call f args H=some (r,H')->A7 X Y.call f args H r H') {cx:j2} (hK:ah7 X E s'.env K K' r Q) (hs:C9 X E w s s' cx) {f:FuncId} {vs:List V} {xs:List Value} {c1:j2} (h2:b9 w vs xs c1) {rv:V × VH} (hr:aaV X.call f s.H vs=some rv) (h1:K (.val rv.1) { s with H:=rv.2 } .A=some r) :
 ∃ r',((R2 Y.call f xs s'.hp).bind fun r=>K' (.val r.1) s'.loc r.2 .A)=some r'/\Q r':=by
 have hs':=hs
 obtain ⟨ce,cl,ch,g⟩:=hs'
 unfold aaV at hr
 split at hr
 ·rename_i hn
  obtain ⟨⟨rv',H'⟩,hr1,hr2⟩:=a7 hr
  simp only at hr2
  split at hr2
  ·rename_i k off n e
   obtain ⟨cs,hcs,hr3⟩:=a7 hr2
   split at hr3
   ·rename_i htx
    cases hr3
    simp only [Bool.and_eq_true] at htx
    obtain ⟨x,hp2,fb2,rho2,cr,q1,q2,q3,q4,q5,q6,q7,q8,q9,q10,ch',q13,q14,q15,q16⟩:=abl g.hw g.gl hT.gd [] (by simp) (aaG (w:=w) (wc:=⟨w.hp,[],[]⟩) rfl rfl rfl g.hw g.obj 3 h2 hn) (hcall _ _ _ _ _ hr1)
    simp only [RV] at q3
    obtain ⟨⟨b,cc,kb,b1,b2,b3,b4,rfl⟩,_⟩:=q3
    have hne:cs ≠ []:=fun e=>by subst e; simp at htx
    obtain ⟨b',kb',d1,d2,a1,a2,a3,a4,a5,a6⟩:=q13.get hcs hne
    rw [b1] at a1; cases a1
    have b2':hp2[b]? = some kb:=b2
    have a2':hp2[b]? = some kb':=a2
    rw [b2'] at a2'; cases a2'
    have hbm:=List.mem_of_getElem? b1
    have hge:w.hp.length<=b:=q8.ai0 (w:=⟨hp2,rho2,fb2⟩) hbm (by simp)
    have hlt:=(List.getElem?_eq_some_iff.1 b2').1
    obtain ⟨n1,n2⟩:=q10 b kb hge b2'
    refine afE hK hs (cr:=fun i=>if i=b then 1 else 0) (fun i hi=>?_) ⟨[b],[cs],fun _=>0,fun _=>0,rfl,rfl,by simp,fun p hp=>by simp at hp; subst hp; simp,fun i=>by by_cases q:i=b<;>simp [q],fun W hW hr hb=>⟨?_,?_⟩⟩ h1 q1 q2 (fun i=>by show (if i=b then 1 else 0)<=1; split<;>omega) (fun i hi=>by show (if i=b then 1 else 0)=0; rw [if_neg (by omega)]) (fun i hi=>by show (if i=b then 1 else 0)=0; rw [if_neg (by omega)]) q7 q8 q9
    ·have:i=b:=by
      by_cases q:i=b
      ·exact q
      ·simp only [if_neg q] at hi; omega
     subst this
     exact ⟨n1,fun h=>by have:=g.hw.X6 _ h; omega,kb,y3 b2' (by rw [a6]; simp),a6,n2⟩
    ·have:=hr 0 (by simp)
     simp only [Nat.add_zero,List.getElem?_cons_zero] at this
     simp only [RV]
     exact ⟨⟨b,cc,kb,this,by rw [hW]; exact b2',b3,b4,rfl⟩,by simp⟩
    ·simp only [p6]
     exact ⟨b,[],kb,fun _=>0,fun _=>0,rfl,by rw [hW]; exact b2',.inr ⟨a6,b9.text htx.1 a3⟩,⟨rfl,by simp⟩,by simp⟩
   ·cases hr3
  ·obtain ⟨⟨v',G',H2⟩,hr3,rfl⟩:=Option.map_eq_some_iff.1 hr2
   obtain ⟨x,hp2,fb2,rho2,cr,q1,q2,q3,q4,q5,q6,q7,q8,q9,q10,ch',q13,q14,q15,q16⟩:=abl g.hw g.gl hT.gd [] (by simp) (aaG (w:=w) (wc:=⟨w.hp,[],[]⟩) rfl rfl rfl g.hw g.obj 3 h2 hn) (hcall _ _ _ _ _ hr1)
   have hge:∀ b ∈ rho2,w.hp.length<=b:=fun b hb=>q8.ai0 (w:=⟨hp2,rho2,fb2⟩) hb (by simp)
   have hlo:∀ i,cr i+ch' i+LO H' rho2 i<=1:=fun i=>auY (w:=⟨hp2,rho2,fb2⟩) q9 q13 q3 q14 i
   obtain ⟨c',ch2,p1,p2,p3,p4⟩:=aiX (w:=⟨hp2,rho2,fb2⟩) q9 5 (H:=s.H) q13 q3 hlo hr3
   have z5:∀ i,i<w.hp.length->c' i=0:=fun i hi=>by
    have:=p3 i; have:=q15 i hi
    have:LO H' rho2 i=0:=ac7 (fun hm=>by have:=hge i hm; omega)
    simp only at *
    omega
   have z6:∀ i,hp2.length<=i->c' i=0:=fun i hi=>by
    have:=p3 i; have:=q16 i hi
    have:LO H' rho2 i=0:=ac7 (fun hm=>by
     obtain ⟨kb,o1⟩:=q9.obj i hm
     have:=(List.getElem?_eq_some_iff.1 o1).1
     simp only at this
     omega)
    simp only at *
    omega
   refine afE hK hs (cr:=c') (fun i hi=>?_) ⟨p2.ex⟩ h1 q1 q2 (fun i=>by have:=p3 i; have:=hlo i; simp only at *; omega) z5 z6 q7 q8 q9
   obtain ⟨kb,k1,k2⟩:=p4 i hi
   have hge2:w.hp.length<=i:=by
    by_cases q:i<w.hp.length
    ·have:=z5 i q; omega
    ·omega
   obtain ⟨n1,n2⟩:=q10 i kb hge2 k1
   exact ⟨n1,fun h=>by have:=g.hw.X6 _ h; omega,kb,y3 k1 (by rw [k2]; simp),k2,n2⟩
 ·cases hr
set_option maxHeartbeats 4000000 in
theorem auu (ht:Twin X Y) (hT:Z3 X) (hcall:∀ f args H r H',X.call f args H=some (r,H')->A7 X Y.call f args H r H')
 (hs:C9 X E w s s' (fun _=>0)) (h:y8 X A T o s K=some r) (hK:ah7 X E s'.env K K' r Q):∃ r',A2 Y A o s' K'=some r'/\Q r':=by
 have hhp:=hs.hp
 unfold y8 at h
 unfold A2
 cases hop:o.op with
 | move x =>
   simp only [hop] at h ⊢
   split at h
   ·obtain ⟨e,e',c,h1,h2,h3,h4⟩:=U6 ht hs h
    rw [h4,hhp]
    exact hK w e e' _ _ _ c h1 h2 (h3.less (by simp)).self
   ·obtain ⟨e,e',c,h1,h2,h3,h4⟩:=U6 ht hs h
    rw [h4,hhp]
    exact hK w (U8 e) e' _ _ _ (fun _=>0) h1 h2.U8 (hs.less (by simp)).self
 | assign x =>
   simp only [hop] at h ⊢
   split at h
   ·obtain ⟨e,e',c,h1,h2,h3,h4⟩:=U6 ht hs h
    rw [h4,hhp]
    exact hK w e e' _ _ _ c h1 h2 (h3.less (by simp)).self
   ·obtain ⟨e,e',c,h1,h2,h3,h4⟩:=U6 ht hs h
    rw [h4,hhp]
    exact hK w (U8 e) e' _ _ _ (fun _=>0) h1 h2.U8 (hs.less (by simp)).self
 | pick cc x y =>
   simp only [hop] at h ⊢
   obtain ⟨vc,xc,c0,h1,h2,_,h4⟩:=z8 ht hs h
   obtain ⟨ea,ea',ca,g1,g2,g3,g4⟩:=U6 ht hs h1
   obtain ⟨eb,eb',cb,k1,k2,k3,k4⟩:=U6 ht g3 g1
   rw [h4,g4,k4]
   have hb:∀ {S:Type} {p q:Option S} {a:S},l9 vc p q=some a->(vc = .bool true/\p=some a)\/(vc = .bool false/\q=some a):=by
    intro S p q a hh
    unfold l9 at hh
    split at hh
    ·exact .inl ⟨rfl,hh⟩
    ·exact .inr ⟨rfl,hh⟩
    ·cases hh
   split at k1
   ·-- B4,val
    cases ea'<;>simp only [RE] at g2
    cases eb'<;>simp only [RE] at k2
    rcases hb k1 with ⟨rfl,hh⟩ | ⟨rfl,hh⟩
    ·cases hh
    ·simp only [RV] at h2
     simp only [h2.1,O0,hhp]
     exact hK w _ _ _ _ _ cb hh (by simpa only [RE] using k2) (k3.less (by simp)).self
   ·-- val,B4
    cases ea'<;>simp only [RE] at g2
    cases eb'<;>simp only [RE] at k2
    rcases hb k1 with ⟨rfl,hh⟩ | ⟨rfl,hh⟩
    ·simp only [RV] at h2
     simp only [h2.1,O0,hhp]
     exact hK w _ _ _ _ _ ca hh (by simpa only [RE] using g2) (k3.less (by simp)).self
    ·cases hh
   ·-- val,val
    cases ea'<;>simp only [RE] at g2
    cases eb'<;>simp only [RE] at k2
    obtain ⟨v,hv,k1⟩:=a7 k1
    unfold aqO at hv
    split at hv
    ·cases hv
     simp only [RV] at h2
     simp only [h2.1,ak8,Option.bind_some,hhp]
     exact hK w _ _ _ _ _ ca k1 (by simpa only [RE] using g2) (k3.less (by simp)).self
    ·cases hv
     simp only [RV] at h2
     simp only [h2.1,ak8,Option.bind_some,hhp]
     exact hK w _ _ _ _ _ cb k1 (by simpa only [RE] using k2) (k3.less (by simp)).self
    ·cases hv
   ·cases k1
 | alloc elem =>
   simp only [hop] at h ⊢
   rw [ht.tab]
   split at h
   ·rename_i ti d hti hd
    simp only [hti,hd]
    have hz:=T4 (w:=w) (hT.zero _ _ hti)
    split at h
    ·rename_i hm
     simp only [hm]
     split at h
     ·rename_i hl
      obtain ⟨ce,cl,ch,g⟩:=hs
      simp only [g.W3 d hl,hhp]
      exact hK w _ (.loc d 0) _ _ _ (fun _=>0) h (by simp [RE]) (g.ao9 hl hz (by simp))
     ·cases h
    ·rename_i hm
     simp only [hm]
     obtain ⟨ce,cl,ch,g⟩:=hs
     obtain ⟨w2,h1,h2,h3⟩:=abV g hz (by simp) ti.size true (fun h=>by cases h)
     rw [hhp,<-h1]
     exact hK w2 _ _ _ _ _ (fun _=>0) h h3 h2.self
   ·cases h
 | box elem x =>
   simp only [hop] at h ⊢
   rw [ht.tab]
   split at h
   ·rename_i ti d hti hd
    simp only [hti,hd]
    obtain ⟨v,x',c,h1,h2,h3,h4⟩:=aaY ht hs h
    obtain ⟨cs,xs,g1,g2,g3,_⟩:=afz h1 h2
    rw [h4,g3]
    obtain ⟨ce,cl,ch,g⟩:=h3
    split at g1
    ·rename_i hm
     simp only [hm]
     split at g1
     ·rename_i hl
      have hl':look (used s x).loc d=none:=hl
      simp only [g.W3 d hl',hhp]
      exact hK w _ (.loc d 0) _ _ _ (fun _=>0) g1 (by simp [RE]) (g.ao9 hl' g2 (by simp))
     ·cases g1
    ·rename_i hm
     simp only [hm]
     obtain ⟨w2,k1,k2,k3⟩:=abV g g2 (by simp) ti.size true (fun h=>by cases h)
     rw [hhp,<-k1]
     exact hK w2 _ _ _ _ _ (fun _=>0) g1 k3 k2.self
   ·cases h
 | build t parts =>
   simp only [hop] at h ⊢
   rw [ht.tab]
   split at h
   ·rename_i fs z ag n hti
    simp only [hti]
    have hz:=T4 (w:=w) (hT.zero _ _ hti)
    obtain ⟨cs,s2,ys,c,h1,h2,h3,h4,h5⟩:=adD ht hs hz h
    rw [h5,hhp]
    exact hK w (.val (.agg cs)) (.val (.agg ys.toArray)) _ _ _ c h1 (by simp only [RE,RV]; exact ⟨ys,rfl,h2⟩) h3.self
   ·rename_i na b8 z ag n hti
    simp only [hti]
    have hz:=T4 (w:=w) (hT.zero _ _ hti)
    obtain ⟨cs,s2,ys,c,h1,h2,h3,h4,h5⟩:=adD ht hs hz h
    rw [h5,hhp]
    exact hK w (.val (.agg cs)) (.val (.agg ys.toArray)) _ _ _ c h1 (by simp only [RE,RV]; exact ⟨ys,rfl,h2⟩) h3.self
   ·cases h
 | buildSlice t len parts =>
   simp only [hop] at h ⊢
   rw [ht.tab]
   split at h
   ·rename_i e b8 eb z ag n zz hti
    simp only [hti]
    split at h
    ·rename_i te hte
     simp only [hte]
     split at h
     ·rename_i hb
      simp only [hb]
      obtain ⟨q1,q2,q3⟩:=hT.sl _ _ _ _ _ _ _ _ hti
      have hz:=akp (T4 (w:=w) q1) len
      obtain ⟨cs,s2,ys,c,h1,h2,h3,h4,h5⟩:=adD ht hs hz h
      rw [h5,hhp]
      have hlen:cs.length=len*b8:=by rw [h4,aq0,List.length_map,q2]
      have hch:=W0 h2 hlen
      obtain ⟨ce,cl,ch,g⟩:=h3
      have hx:=amP g.hw ⟨ys,b8,.rw,w.hp.length,true⟩ (fun _=>True)
      have g':=g.move hx (fun _ _=>trivial) (g.hw.push rfl (fun h=>by cases h)) (g.fr.push g.hw rfl) (fun b hb => .eq (by show (w.hp++_)[b]? = _; rw [List.getElem?_append_left (g.hw.S9 _ (g.hw.sub _ hb))])) rfl (by simp)
      have hcl:(y9 b8 len cs).length=len:=by
       have:∀ (n:Nat) (l:List V),(y9 b8 n l).length=n:=by
        intro n; induction n with
        | zero=>intro l; rfl
        | succ n ih=>intro l; simp only [y9,List.length_cons,ih]
       exact this _ _
      by_cases h0:y9 b8 len cs=[]
      ·refine hK { w with hp:=w.hp++[⟨ys,b8,.rw,w.hp.length,true⟩] } (.fl (y9 b8 len cs)) _ _ _ _ c h1 ?_ ⟨ce,cl,ch,g'⟩
       simp only [RE,RV,K3]
       refine ⟨?_,_,by rw [hcl]⟩
       left
       have hl0:len=0:=by rw [h0] at hcl; simpa using hcl.symm
       refine ⟨h0,⟨_,_,by rw [hl0],fun _=>rfl⟩,?_⟩
       rw [h0] at hch
       simp only [j6] at hch; exact hch.2
      ·have hfl:=g.fr.len
       refine hK { w with hp:=w.hp++[⟨ys,b8,.rw,w.hp.length,true⟩] } (.fl (y9 b8 len cs)) _ _ _ _ (fun i=>c i+if i=w.hp.length then 1 else 0) h1 ?_ ⟨ce,cl,ch,{ g' with I6:=fun i=>?_,L9:=fun i hi=>?_,J6:=fun i hi=>?_ }⟩
       rotate_left
       ·have:=g.I6 i
        by_cases e:i=w.hp.length
        ·have:=g.J6 i (by omega); rw [if_pos e]; omega
        ·rw [if_neg e]; omega
       ·have:=g.L9 i hi
        rw [if_neg (by omega)]; omega
       ·have hi':(w.hp++[(⟨ys,b8,.rw,w.hp.length,true⟩:j4)]).length<=i:=hi
        simp at hi'
        have:=g.J6 i (by omega)
        rw [if_neg (by omega)]; omega
       simp only [RE,RV,K3]
       refine ⟨?_,_,by rw [hcl]⟩
       right
       have hyl:=hch.len
       refine ⟨h0,w.hp.length,0,⟨ys,b8,.rw,w.hp.length,true⟩,ys,len,c,anQ (by simp),?_,?_,by rw [hcl],q3,?_,j6.mono hx _ hch (fun _ _=>trivial),.inr ⟨trivial,⟨rfl,rfl⟩,rfl,hyl.symm,fun i=>rfl⟩⟩
       ·intro hb; have:=g.hw.S9 _ hb; omega
       ·exact (show y0 w.hp w.c9 w.hp.length from fun b hb q hq=>by have:=g.hw.j1 b q hq; omega).push g.hw.X6
       ·have hyl':ys.length=(y9 b8 len cs).length*b8:=hyl
        show J0 ys 0 ((y9 b8 len cs).length*b8)=some ys
        rw [L2 (by omega)]
        simp only [List.drop_zero]
        rw [List.take_of_length_le (by omega)]
     ·cases h
    ·cases h
   ·cases h
 | load t x =>
   simp only [hop] at h ⊢
   rw [ht.tab]
   split at h
   ·rename_i ti hti
    simp only [hti]
    obtain ⟨e,e',c,h1,h2,h3,h4⟩:=U6 ht hs h
    rw [h4]
    split at h1
    ·-- a local
     rename_i k off
     cases e'<;>simp only [RE] at h2
     obtain ⟨rfl,rfl,_⟩:=h2
     split at h1
     ·rename_i cs hl
      obtain ⟨⟨v,cs2⟩,hld,h1⟩:=a7 h1
      obtain ⟨ce,cl,ch,g⟩:=hs
      obtain ⟨ws,c1,c2,g1,g2,g3,g4⟩:=g.loc.look hl
      obtain ⟨z,d1,d2,k1,k2,k3,k4⟩:=aip hld g2
      have hset:=g4 cs2 ws d2 k3
      have hsame:U1 s'.loc k ws=s'.loc:=by
       have:∀ {l:List (Nat × List Value)},look l k=some ws->U1 l k ws=l:=by
        intro l
        induction l with
        | nil=>intro h; rfl
        | cons p l ih =>
          intro h
          obtain ⟨q,v⟩:=p
          by_cases e:q=k
          ·subst e
           have hb:Nat.beq q q=true:=Nat.beq_refl q
           simp only [look,hb] at h
           cases h; simp only [U1,hb]
          ·simp only [look,S6 e] at h
           simp only [U1,S6 e,ih h]
       exact this g1
      rw [hsame] at hset
      have hst:C9 X E w { s with loc:=L1 s.loc k cs2 } s' d1:=by
       refine ⟨ce,fun i=>d2 i+c2 i,ch,g.hp,g.hw,g.gl,g.fr,g.env,hset,fun j hj=>g.W3 j (acB hj),g.obj,fun i=>?_,fun i hi=>?_,fun i hi=>?_⟩
       ·have:=g.I6 i; have:=g3 i; have:=k4 i; omega
       ·have:=g.L9 i hi; have:=g3 i; have:=k4 i; omega
       ·have:=g.J6 i hi; have:=g3 i; have:=k4 i; omega
      simp only [g1,hhp]
      cases hag:ti.agg with
      | true =>
        rw [hag] at k1
        simp only at k1
        cases hcut:cut ws off ti.size with
        | none=>rw [hcut] at k1; cases k1
        | some m =>
          rw [hcut] at k1; cases k1
          simp only [Option.bind_some]
          exact hK w _ _ _ _ _ d1 h1 (by simp only [RE]; exact k2) hst.self
      | false =>
        rw [hag] at k1
        simp only at k1
        simp only [k1,Option.bind_some]
        exact hK w _ _ _ _ _ d1 h1 (by simp only [RE]; exact k2) hst.self
     ·cases h1
    ·rename_i p
     obtain ⟨⟨v,H2⟩,hld,h1⟩:=a7 h1
     cases e'<;>simp only [RE] at h2
     rename_i x'
     unfold L8 at hld
     split at hld
     ·-- an object
      rename_i k off
      simp only [RV] at h2
      obtain ⟨⟨b,hb1,rfl⟩,_⟩:=h2
      split at hld
      ·rename_i cs hl
       obtain ⟨⟨v',cs2⟩,hlc,heq⟩:=Option.map_eq_some_iff.1 hld
       cases heq
       obtain ⟨ce,cl,ch,g⟩:=hs
       obtain ⟨b',kb,c1,c2,g1,g2,g3,g4,g5,o2⟩:=g.obj.get hl (amj hlc (hT.pos _ _ hti))
       rw [hb1] at g1; cases g1
       obtain ⟨z,d1,d2,k1,k2,k3,k4⟩:=aip hlc g3
       have hst:C9 X E w { s with H:=s.H.set k cs2 } s' d1:=by
        refine ⟨ce,cl,fun i=>d2 i+c2 i,g.hp,g.hw,g.gl,g.fr,g.env,g.loc,g.W3,g5 cs2 d2 k3,fun i=>?_,fun i hi=>?_,fun i hi=>?_⟩
        ·have:=g.I6 i; have:=g4 i; have:=k4 i; omega
        ·have:=g.L9 i hi; have:=g4 i; have:=k4 i; omega
        ·have:=g.J6 i hi; have:=g4 i; have:=k4 i; omega
       have hload:Y7 s'.hp ti.agg ti.size (.pointer (some ⟨b,off,none⟩))=some z:=by
        simp only [Y7,hhp,y3 g2 (by rw [o2]; simp),Option.bind_some]; exact k1
       simp only [hload,Option.bind_some]
       rw [hhp]
       exact hK w _ _ _ _ _ d1 h1 (by simp only [RE]; exact k2) hst.self
      ·cases hld
     ·-- an element
      rename_i cs off
      simp only [RV] at h2
      obtain ⟨⟨b,o',kb,ws,b1,b2,rfl,b3,b4⟩,_⟩:=h2
      cases hv:agS ti.agg ti.size cs off with
      | none=>rw [hv] at hld; cases hld
      | some v' =>
        rw [hv] at hld
        cases hld
        obtain ⟨z,k1,k2⟩:=akA hv b4
        have hload:Y7 s'.hp ti.agg ti.size (.pointer (some ⟨b,o'+off,none⟩))=some z:=by
         simp only [Y7,hhp,b1,Option.bind_some]
         cases hag:ti.agg with
         | true =>
           rw [hag] at k1
           simp only at k1 ⊢
           cases hcut:cut ws off ti.size with
           | none=>rw [hcut] at k1; cases k1
           | some m =>
             rw [hcut] at k1; cases k1
             have:cut kb.cells (o'+off) ti.size=some m:=adx b3 hcut
             rw [this]; rfl
         | false =>
           rw [hag] at k1
           simp only at k1 ⊢
           exact abu (adx b3 (abm k1))
        simp only [hload,Option.bind_some]
        exact hK.pure h1 k2 hs
     ·-- a package variable
      rename_i g0 off
      simp only [RV] at h2
      obtain ⟨rfl,_⟩:=h2
      split at hld
      ·rename_i cs hg
       cases hv:agS ti.agg ti.size cs off with
       | none=>rw [hv] at hld; cases hld
       | some v' =>
         rw [hv] at hld
         cases hld
         have hgl:E6 X w:=by obtain ⟨_,_,_,g⟩:=hs; exact g.gl
         obtain ⟨kb,b1,b2,b3,_⟩:=hgl.1 g0 cs hg
         obtain ⟨z,k1,k2⟩:=akA hv b3
         have hload:Y7 s'.hp ti.agg ti.size (.pointer (some ⟨g0,off,none⟩))=some z:=by
          simp only [Y7,hhp,b1,Option.bind_some]; exact k1
         simp only [hload,Option.bind_some]
         exact hK.pure h1 k2 hs
      ·cases hld
     ·cases hld
    ·cases h1
   ·cases h
 | store t x y =>
   simp only [hop] at h ⊢
   rw [ht.tab]
   split at h
   ·rename_i ti hti
    simp only [hti]
    obtain ⟨e,e',c,h1,h2,_,h4⟩:=U6 ht hs h
    obtain ⟨v,x',cv,g1,g2,g3,g4⟩:=aaY ht hs h1
    obtain ⟨cs,xs,k1,k2,k3,k5⟩:=afz g1 g2
    rw [h4,g4,k3]
    obtain ⟨ce,cl,ch,g⟩:=g3
    split at k1
    ·rename_i k off
     cases e'<;>simp only [RE] at h2
     obtain ⟨rfl,rfl,_⟩:=h2
     split at k1
     ·rename_i p7 hl
      split at k1
      ·rename_i hb
       have hle:=Nat.le_of_ble_eq_true hb
       obtain ⟨ws,c1,c2,m1,m2,m3,m4⟩:=g.loc.look hl
       obtain ⟨c',n1,n2⟩:=m2.seg k2 hle
       have hb':Nat.ble (off+xs.length) ws.length=true:=by rw [<-k2.len,<-m2.len]; exact hb
       simp only [m1,hb',hhp]
       refine hK w .B4 .B4 _ _ _ (fun _=>0) k1 (by simp [RE]) ⟨ce,fun i=>c' i+c2 i,ch,rfl,g.hw,g.gl,g.fr,g.env,m4 _ _ c' n1,fun j hj=>ap8 (g.W3 j (acB hj)),g.obj,fun i=>?_,fun i hi=>?_,fun i hi=>?_⟩
       ·have:=g.I6 i; have:=m3 i; have:=n2 i; omega
       ·have:=g.L9 i hi; have:=m3 i; have:=n2 i; omega
       ·have:=g.J6 i hi; have:=m3 i; have:=n2 i; omega
      ·cases k1
     ·cases k1
    ·rename_i p0
     cases e'<;>simp only [RE] at h2
     rename_i p
     obtain ⟨H2,hst,k1⟩:=a7 k1
     unfold stO at hst
     split at hst
     ·rename_i k off
      split at hst
      ·rename_i p7 hl
       split at hst
       ·rename_i hb
        cases hst
        have hle:=Nat.le_of_ble_eq_true hb
        obtain ⟨w2,n1,n2⟩:=aqL g h2 hl k2 (by simp) hle (k5 (hT.pos _ _ hti))
        simp only [hhp,n1,Option.bind_some]
        exact hK w2 .B4 .B4 _ _ _ (fun _=>0) k1 (by simp [RE]) n2.self
       ·cases hst
      ·cases hst
     ·cases hst
    ·cases k1
   ·cases h
 | nilCheck x =>
   simp only [hop] at h ⊢
   obtain ⟨e,e',c,h1,h2,_,h4⟩:=U6 ht hs h
   rw [h4]
   split at h1
   ·cases e'<;>simp only [RE] at h2
    obtain ⟨rfl,rfl,_⟩:=h2
    rw [hhp]
    exact hK w _ _ _ _ _ (fun _=>0) h1 (by simp [RE]) hs.self
   ·rename_i p0
    cases e'<;>simp only [RE] at h2
    obtain ⟨v,hv,h1⟩:=a7 h1
    have h2':=h2
    unfold M3 at hv
    split at hv
    ·cases hv
     simp only [RV] at h2
     obtain ⟨⟨b,hb1,rfl⟩,h0⟩:=h2
     simp only [akm,Option.bind_some]
     exact hK.pure h1 (h2'.congr (fun i=>(h0 i).symm)) hs
    ·cases hv
     simp only [RV] at h2
     obtain ⟨rfl,h0⟩:=h2
     simp only [akm,Option.bind_some]
     exact hK.pure h1 (h2'.congr (fun i=>(h0 i).symm)) hs
    ·cases hv
     simp only [RV] at h2
     obtain ⟨⟨b,o',kb,ws,b1,b2,rfl,b3,b4⟩,h0⟩:=h2
     simp only [akm,Option.bind_some]
     exact hK.pure h1 (h2'.congr (fun i=>(h0 i).symm)) hs
    ·cases hv
     simp only [RV] at h2
     obtain ⟨⟨ws,rfl,b1⟩,h0⟩:=h2
     simp only [akm,Option.bind_some]
     exact hK.pure h1 (h2'.congr (fun i=>(h0 i).symm)) hs
    ·cases hv
   ·cases h1
 | binOp op t x y yt =>
   simp only [hop] at h ⊢
   rw [ht.tab]
   split at h
   ·rename_i ti hti
    simp only [hti]
    split at h
    ·rename_i hn
     rw [Bool.and_eq_true,Bool.not_eq_true'] at hn
     obtain ⟨hn,he⟩:=hn
     have e2:∀ a b,ae9 ti op a b=O2 ti.k op a b:=fun a b=>by unfold ae9; rw [he]
     obtain ⟨hk,rfl⟩:=ang hn
     obtain ⟨a,x',c,h1,h2,_,h4⟩:=z8 ht hs h
     obtain ⟨v,hv,h1⟩:=a7 h1
     obtain ⟨z,k1,k2⟩:=atx hk hv h2
     rw [h4]
     have e:∀ (K2:Value->Option R'),D3 Y s' (.const (.slice none 0 0)) K2=K2 (.slice none 0 0):=fun K2=>rfl
     rw [e,e2,k1]
     exact hK.pure h1 k2 hs
    ·obtain ⟨a,x',c,h1,h2,_,h4⟩:=z8 ht hs h
     obtain ⟨b,y',d,g1,g2,_,g4⟩:=z8 ht hs h1
     obtain ⟨v,hv,g1⟩:=a7 g1
     obtain ⟨z,k1,k2⟩:=arP hv h2 g2
     rw [h4,g4,k1]
     exact hK.pure g1 k2 hs
   ·cases h
 | unOp op t x =>
   simp only [hop] at h ⊢
   obtain ⟨a,x',c,h1,h2,_,h4⟩:=z8 ht hs h
   obtain ⟨v,hv,h1⟩:=a7 h1
   obtain ⟨z,k1,k2⟩:=avt hv h2
   rw [h4,k1]
   exact hK.pure h1 k2 hs
 | convert src dst x =>
   simp only [hop] at h ⊢
   rw [ht.tab]
   split at h
   ·rename_i ts td hts htd
    simp only [hts,htd]
    obtain ⟨a,x',c,h1,h2,_,h4⟩:=z8 ht hs h
    rw [h4]
    split at h1
    ·rename_i k k' hk hk'
     obtain ⟨v,hv,h1⟩:=a7 h1
     obtain ⟨z,k1,k2⟩:=aq9 hv h2
     simp only [hk,hk',k1,Option.bind_some]
     exact hK.pure h1 k2 hs
    ·rename_i hk hk'
     obtain ⟨v,hv,h1⟩:=a7 h1
     obtain ⟨z,k1,k2⟩:=arA hv h2
     simp only [hk,hk',k1,Option.bind_some]
     exact hK.pure h1 k2 hs
    ·rename_i e b8 eb zz hk hk'
     split at h1
     ·rename_i ti4 hti4
      obtain ⟨v,hv,h1⟩:=a7 h1
      unfold aui at hv
      split at hv
      ·rename_i l
       cases hv
       simp only [RV] at h2
       obtain ⟨rfl,_⟩:=h2
       simp only [hk,hk',hti4,hhp]
       have hsz:(ByteArray.mk l.toArray).size=l.length:=by simp [ByteArray.size]
       obtain ⟨ce,cl,ch,g⟩:=hs
       obtain ⟨w2,q1,q2,q3⟩:=abV g (aqa l) (by simp) 1 false (fun _=>rfl)
       have hb:X0 ⟨l.toArray⟩=l.map fun b=>Value.int .u8 b.toNat:=rfl
       rw [hb,<-q1,hsz]
       refine hK w2 _ _ _ _ _ (fun _=>0) h1 ?_ q2.self
       have e:(l.map fun b=>V.int .u8 (b.toNat:Int)).length=l.length:=by simp
       simp only [RE]
       have:=ajB (m:=l.length) (cc:=l.length+1) q1 q3 (by omega)
       rw [<-e] at this ⊢
       simpa using this
      ·cases hv
     ·cases h1
    ·rename_i e b8 eb zz hk hk'
     split at h1
     ·rename_i ti4 hti4
      obtain ⟨v,hv,h1⟩:=a7 h1
      have hs0:=hs
      obtain ⟨ce,cl,ch,g⟩:=hs0
      obtain ⟨z,k1,k2⟩:=atJ g.hw g.obj hv h2
      simp only [hk,hk',hti4,hhp,k1,Option.bind_some]
      rw [<-hhp]
      exact hK.pure h1 k2 hs
     ·cases h1
    ·cases h1
   ·cases h
 | makeFunc fn first captured =>
   simp only [hop] at h ⊢
   cases hz:first.size with
   | zero =>
     simp only [hz] at h ⊢
     split at h
     ·rename_i f
      obtain ⟨vs,xs,c,h1,h2,h4⟩:=acL ht hs h
      simp only [h4]
      exact hK.pure h1 (by simp only [RV]; exact ⟨⟨xs,rfl,b9.strip _ h2⟩,by simp⟩) hs
     ·cases h
   | succ n=>simp only [hz] at h; cases h
 | slice t x lo hi mx =>
   simp only [hop] at h ⊢
   rw [ht.tab]
   split at h
   ·rename_i hti
    simp only [hti]
    obtain ⟨a,x',c,h1,h2,_,h4⟩:=z8 ht hs h
    obtain ⟨l,l',g1,g2,g3⟩:=ai9 ht hs h1
    obtain ⟨k,k',m1,m2,m3⟩:=ai9 ht hs g1
    rw [h4,g3,m3]
    split at m1
    ·obtain ⟨v,hv,m1⟩:=a7 m1
     obtain ⟨z,k1,k2⟩:=aom hv h2 g2 m2
     simp only [k1,Option.bind_some]
     exact hK.pure m1 k2 hs
    ·cases m1
   ·rename_i e b8 eb zz ag n z2 hti
    simp only [hti]
    obtain ⟨a,x',c,h1,h2,_,h4⟩:=z8 ht hs h
    rw [h4]
    split at h1
    ·obtain ⟨l,l',g1,g2,g3⟩:=ai9 ht hs h1
     obtain ⟨k,k',m1,m2,m3⟩:=ai9 ht hs g1
     obtain ⟨v,hv,m1⟩:=a7 m1
     obtain ⟨z,k1,k2⟩:=ao0 hv h2 g2 m2
     rw [g3,m3]
     simp only [voK,hhp,k1,Option.bind_some]
     rw [<-hhp]
     exact hK.pure m1 k2 hs
    ·obtain ⟨l,l',cl',g1,g2,_,g3⟩:=z8 ht hs h1
     obtain ⟨k,k',ck',m1,m2,_,m3⟩:=z8 ht hs g1
     obtain ⟨u,u',cu',n1,n2,_,n3⟩:=z8 ht hs m1
     obtain ⟨xs,hv,n1⟩:=a7 n1
     obtain ⟨z,k1,k2⟩:=aoi hv h2 g2 m2 n2
     simp only [voK,g3,m3,n3,hhp,k1,Option.bind_some]
     exact hK w _ _ _ _ _ (fun _=>0) n1 k2 hs.self
    ·cases h1
   ·rename_i na ag n2 z2 hti
    simp only [hti]
    split at h
    ·obtain ⟨a,x',c,h1,h2,_,h4⟩:=z8 ht hs h
     obtain ⟨v,hv,h1⟩:=a7 h1
     have hgl:E6 X w:=by obtain ⟨_,_,_,g⟩:=hs; exact g.gl
     obtain ⟨z,k1,k2⟩:=aoN hgl hv h2
     rw [h4]
     simp only [hhp,k1,Option.bind_some]
     rw [<-hhp]
     exact hK.pure h1 k2 hs
    ·cases h
   ·cases h
 | fieldAddr t x f =>
   simp only [hop] at h ⊢
   rw [ht.tab]
   split at h
   ·rename_i fs ag n zz hti
    simp only [hti]
    split at h
    ·rename_i off m ag2 hf
     simp only [hf]
     obtain ⟨e,e',c,h1,h2,_,h4⟩:=U6 ht hs h
     rw [h4]
     split at h1
     ·cases e'<;>simp only [RE] at h2
      obtain ⟨rfl,rfl,_⟩:=h2
      rw [hhp]
      exact hK w _ _ _ _ _ (fun _=>0) h1 (by simp [RE]) hs.self
     ·cases e'<;>simp only [RE] at h2
      obtain ⟨v,hv,h1⟩:=a7 h1
      obtain ⟨z,k1,k2⟩:=anW hv h2
      simp only [k1,Option.bind_some]
      exact hK.pure h1 k2 hs
     ·cases h1
    ·cases h
   ·cases h
 | field t x f =>
   simp only [hop] at h ⊢
   rw [ht.tab]
   split at h
   ·rename_i fs ag n zz hti
    simp only [hti]
    split at h
    ·rename_i off m ag2 hf
     simp only [hf]
     obtain ⟨a,x',c,h1,h2,_,h4⟩:=z8 ht hs h
     obtain ⟨cs,hcs,h7⟩:=a7 h1
     clear h1
     rw [h4]
     unfold P9 at hcs
     split at hcs
     ·split at hcs
      ·rename_i hn
       cases hcs
       simp only [RV] at h2
       obtain ⟨ws,rfl,h2⟩:=h2
       have hl:=h2.len
       have hag:afR n (.agg ⟨ws⟩)=some ws:=by simp only [afR]; rw [if_pos (by simp; omega)]
       simp only [hag,Option.bind_some]
       split at h7
       ·obtain ⟨m',hm,h8⟩:=a7 h7
        obtain ⟨ys,p,q,k1,k2,_,_⟩:=h2.cut hm
        have k1':cut ws off m=some ys:=k1
        simp only [k1',Option.bind_some]
        exact hK.pure h8 (by simp only [RV]; exact ⟨ys,rfl,b9.strip _ k2⟩) hs
       ·obtain ⟨m',hm,h8⟩:=a7 h7
        obtain ⟨ys,p,q,k1,k2,_,_⟩:=h2.cut (abm hm)
        simp only [b9] at k2
        obtain ⟨z,zs,p1,p2,rfl,h5,⟨rfl,h6⟩,h9⟩:=k2
        simp only [abu k1,Option.bind_some]
        exact hK.pure h8 (RV.strip _ h5) hs
      ·cases hcs
     ·cases hcs
    ·cases h
   ·cases h
 | indexAddr t x i =>
   simp only [hop] at h ⊢
   rw [ht.tab]
   split at h
   ·rename_i e b8 eb zz ag n z2 hti
    simp only [hti]
    obtain ⟨a,x',c,h1,h2,_,h4⟩:=z8 ht hs h
    obtain ⟨b,y',d,g1,g2,_,g4⟩:=z8 ht hs h1
    obtain ⟨v,hv,g1⟩:=a7 g1
    obtain ⟨z,k1,k2⟩:=atr hv h2 g2
    rw [h4,g4,k1]
    exact hK.pure g1 k2 hs
   ·rename_i n b8 ag n2 z2 hti
    simp only [hti]
    obtain ⟨a,x',c,h1,h2,_,h4⟩:=z8 ht hs h
    obtain ⟨b,y',d,g1,g2,_,g4⟩:=z8 ht hs h1
    obtain ⟨v,hv,g1⟩:=a7 g1
    obtain ⟨z,k1,k2⟩:=arq hv h2 g2
    rw [h4,g4,k1]
    exact hK.pure g1 k2 hs
   ·cases h
 | index t x i =>
   simp only [hop] at h ⊢
   rw [ht.tab]
   split at h
   ·rename_i hti
    simp only [hti]
    obtain ⟨a,x',c,h1,h2,_,h4⟩:=z8 ht hs h
    obtain ⟨b,y',d,g1,g2,_,g4⟩:=z8 ht hs h1
    obtain ⟨v,hv,g1⟩:=a7 g1
    obtain ⟨z,k1,k2⟩:=aoy hv h2 g2
    rw [h4,g4,k1]
    exact hK.pure g1 k2 hs
   ·rename_i n b8 ag n2 z2 hti
    simp only [hti]
    obtain ⟨a,x',c,h1,h2,_,h4⟩:=z8 ht hs h
    obtain ⟨b,y',d,g1,g2,_,g4⟩:=z8 ht hs h1
    obtain ⟨v,hv,g1⟩:=a7 g1
    obtain ⟨z,k1,k2⟩:=aov hv h2 g2
    rw [h4,g4,k1]
    exact hK.pure g1 k2 hs
   ·cases h
 | extract x i =>
   simp only [hop] at h ⊢
   split at h
   ·rename_i t
    obtain ⟨a,x',c,h1,h2,h3,h4⟩:=z8 ht hs h
    obtain ⟨u,hu,h1⟩:=a7 h1
    obtain ⟨z,c1,c2,k1,k2,k3,k4⟩:=atF hu h2
    rw [h4,k1]
    split at h1
    ·obtain ⟨ce,cl,ch,g⟩:=h3
     have hlook:∃ xx,look s'.env t=some (.val xx)/\xx=x':=by
      have:=h4 (EV) (fun v=>some (.val v))
      simp only [D3,S2] at this
      cases e:look s'.env t with
      | none=>rw [e] at this; cases this
      | some q =>
        rw [e] at this
        cases q<;>simp only at this<;>first | (cases this; done) | skip
        cases this; exact ⟨_,rfl,rfl⟩
     obtain ⟨xx,hl,rfl⟩:=hlook
     obtain ⟨c3,m1,m2⟩:=g.env.auo (d:=t)
     have hdel:∀ {l:List (Nat × VE)},O1 (S7 l t) t=O1 l t:=by
      intro l
      induction l with
      | nil=>rfl
      | cons p l ih =>
        obtain ⟨q,v⟩:=p
        by_cases e:q=t
        ·subst e
         have hb:Nat.beq q q=true:=Nat.beq_refl q
         simp only [S7,O1,hb]
        ·simp only [S7,O1,S6 e,ih]
     simp only [Option.bind_some]
     rw [hhp]
     refine hK w (.val u) (.val z) _ _ _ c1 h1 (by simpa only [RE] using k2) ?_
     have m1':B3 w (O1 s.env t) s'.env c3:=by rw [<-hdel]; exact m1
     refine ⟨fun i=>c2 i+c3 i,cl,ch,rfl,g.hw,g.gl,g.fr,?_,g.loc,g.W3,g.obj,fun i=>?_,fun i hi=>?_,fun i hi=>?_⟩
     ·simp only [B3]
      exact ⟨_,c2,c3,hl,by simpa only [RE] using k3,m1',by simp⟩
     ·have:=g.I6 i; have:=k4 i; have:=m2 i; omega
     ·have:=g.L9 i hi; have:=k4 i; have:=m2 i; omega
     ·have:=g.J6 i hi; have:=k4 i; have:=m2 i; omega
    ·exact hK.pure h1 (RV.strip _ k2) hs
   ·cases h
 | call c =>
   simp only [hop] at h ⊢
   rw [ht.tab,ht.kind,ht.ext]
   split at h
   ·-- len
    rename_i hcal
    simp only [hcal]
    split at h
    ·rename_i x t hargs htys
     simp only [hargs,htys]
     split at h
     ·rename_i hti
      simp only [hti]
      obtain ⟨a,x',c',h1,h2,_,h4⟩:=z8 ht hs h
      obtain ⟨v,hv,h1⟩:=a7 h1
      obtain ⟨z,k1,k2⟩:=aq5 hv h2
      rw [h4,k1]
      exact hK.pure h1 k2 hs
     ·rename_i hti
      simp only [hti]
      obtain ⟨a,x',c',h1,h2,_,h4⟩:=z8 ht hs h
      obtain ⟨v,hv,h1⟩:=a7 h1
      obtain ⟨z,k1,k2⟩:=aq1 hv h2
      rw [h4,k1]
      exact hK.pure h1 k2 hs
     ·cases h
    ·cases h
   ·-- min
    rename_i hcal
    simp only [hcal]
    split at h
    ·rename_i x y hargs
     simp only [hargs]
     obtain ⟨a,x',c',h1,h2,_,h4⟩:=z8 ht hs h
     obtain ⟨b,y',d,g1,g2,_,g4⟩:=z8 ht hs h1
     obtain ⟨v,hv,g1⟩:=a7 g1
     obtain ⟨z,k1,k2⟩:=atD hv h2 g2
     rw [h4,g4,k1]
     exact hK.pure g1 k2 hs
    ·cases h
   ·-- append
    rename_i hcal
    simp only [hcal]
    split at h
    ·rename_i x y t u d hargs htys hd
     simp only [hargs,htys,hd]
     split at h
     ·rename_i e b8 eb z ag n zz ku ag2 n2 zz2 hti hui
      obtain ⟨_,_,h0⟩:=hT.sl _ _ _ _ _ _ _ _ hti
      simp only [hti,hui]
      split at h
      ·rename_i b hku
       have fin:∀ {c1 c2 cx:j2} {s2:VS} {xs:List (List V)} {x' y':Value} {yv rv:V} {ce cl ch:j2} {full:Bool},StC X E w s2 s' ce cl ch cx->RV w (.sl true xs) x' c1->(full=true->∃ a,x' = .slice a xs.length xs.length)->RV w yv y' c2->(∀ i,c1 i+c2 i<=cx i) →
        W8 b b8 eb xs yv=some rv->K (.val rv) s2 (aur full)=some r →
        ∃ w2 x2,N8 full s'.hp b8 eb x' y'=some (x2,w2)/\ace b y'=some y'/\∃ r',K' (.val x2) s'.loc w2 (aur full)=some r'/\Q r':=by
        intro c1 c2 cx s2 xs x' y' yv rv ce cl ch full g hx hf hy hc ha hk
        obtain ⟨w2,x2,c',k1,k2,k3,k4⟩:=anV g hx hf hy hc ha h0
        rw [hhp]
        exact ⟨w2.hp,x2,k1,k2,hK w2 (.val rv) (.val x2) s2 s'.loc _ c' hk (by simpa only [RE] using k4) ⟨ce,cl,ch,k3⟩⟩
       split at h
       ·rename_i hm
        simp only [hm]
        obtain ⟨e1,e1',c1,h1,h2,h3,h4⟩:=U6 ht hs h
        obtain ⟨yv,y',c2,g1,g2,g3,g4⟩:=aaY ht h3 h1
        split at g1
        ·rename_i xs
         cases e1'<;>simp only [RE] at h2
         rename_i x'
         obtain ⟨rv,ha,g1⟩:=a7 g1
         obtain ⟨ce,cl,ch,g⟩:=g3
         obtain ⟨w2,x2,k1,k2,r',k3,k4⟩:=fin (full:=true) g h2.1 (fun _=>h2.2) g2 (by simp) ha g1
         have g4':∀ (R':Type) (K':Value->Option R'),D3 Y s' y K'=K' y':=g4
         have h4':∀ (K':Value->Option R'),D3 Y s' x K'=K' x':=fun K'=>by unfold D3; rw [h4]
         cases ku<;>simp only at hku<;>first | (cases hku; done) | skip
         ·cases hku
          dsimp only
          rw [h4',g4']
          simp only [ace] at k2
          simp only [N8] at k1
          simp only [k2,Option.bind_some,k1]
          exact ⟨r',k3,k4⟩
         ·cases hku
          dsimp only
          rw [h4',g4']
          simp only [ace] at k2
          simp only [N8] at k1
          simp only [k2,Option.bind_some,k1]
          exact ⟨r',k3,k4⟩
        ·cases g1
       ·rename_i hm
        simp only [hm]
        split at h
        ·obtain ⟨sv,x',c1,h1,h2,h3,h4⟩:=aaY ht hs h
         obtain ⟨yv,y',c2,g1,g2,g3,g4⟩:=aaY ht h3 h1
         obtain ⟨⟨rv,H2⟩,ha,g6⟩:=a7 g1
         obtain ⟨ce,cl,ch,g⟩:=g3
         obtain ⟨w2,x2,c',k1,k2,k3,k4⟩:=arT g h2 g2 (by simp) ha h0
         have hfin:=hK w2 (.val rv) (.val x2) _ s'.loc _ c' g6 (by simpa only [RE] using k4) k3
         obtain ⟨r',q3,q4⟩:=hfin
         cases ku<;>simp only at hku<;>first | (cases hku; done) | skip
         ·cases hku
          dsimp only
          rw [h4,g4]
          simp only [ace] at k2
          simp only [N8] at k1
          simp only [k2,Option.bind_some,hhp,k1]
          exact ⟨r',q3,q4⟩
         ·cases hku
          dsimp only
          rw [h4,g4]
          simp only [ace] at k2
          simp only [N8] at k1
          simp only [k2,Option.bind_some,hhp,k1]
          exact ⟨r',q3,q4⟩
        obtain ⟨sv,x',c1,h1,h2,h3,h4⟩:=aaY ht hs h
        obtain ⟨yv,y',c2,g1,g2,g3,g4⟩:=aaY ht h3 h1
        obtain ⟨xs,hxs,g5⟩:=a7 g1
        obtain ⟨rv,ha,g6⟩:=a7 g5
        clear g5 g1
        have hsv:sv = .sl true xs:=by
         unfold afi at hxs
         split at hxs
         ·cases hxs; rfl
         ·cases hxs
        subst hsv
        obtain ⟨ce,cl,ch,g⟩:=g3
        obtain ⟨w2,x2,k1,k2,r',k3,k4⟩:=fin (full:=false) g h2 (fun q=>by cases q) g2 (by simp) ha g6
        cases ku<;>simp only at hku<;>first | (cases hku; done) | skip
        ·cases hku
         dsimp only
         rw [h4,g4]
         simp only [ace] at k2
         simp only [N8] at k1
         simp only [k2,Option.bind_some,k1]
         exact ⟨r',k3,k4⟩
        ·cases hku
         dsimp only
         rw [h4,g4]
         simp only [ace] at k2
         simp only [N8] at k1
         simp only [k2,Option.bind_some,k1]
         exact ⟨r',k3,k4⟩
      ·cases h
     ·cases h
    ·cases h
   ·-- a known function
    rename_i f hcal
    simp only [hcal]
    split at h
    ·rename_i hk
     simp only [hk]
     obtain ⟨vs,s2,xs,c1,h1,h2,h3,h4⟩:=aii ht hs h
     obtain ⟨⟨rv,H'⟩,hr,h1⟩:=a7 h1
     obtain ⟨x,w2,cr,q1,q2,q3⟩:=akQ hcall h3 h2 (by simp) hr
     rw [h4,hhp,q1]
     exact hK w2 _ _ _ _ _ cr h1 (by simp only [RE]; exact q2) q3
    ·rename_i hk
     simp only [hk]
     obtain ⟨vs,xs,c1,h1,h2,h4⟩:=acL ht hs h
     split at h1
     ·split at h1
      ·obtain ⟨rv,hr,h1⟩:=a7 h1
       obtain ⟨x,q1,q2⟩:=anc hT hcall hs h2 hr
       rw [h4,q1]
       exact hK.pure h1 q2 hs
      ·obtain ⟨rv,hr,h1⟩:=a7 h1
       obtain ⟨x,q1,q2⟩:=amV hT hcall hs h2 hr
       rw [h4,q1]
       exact hK.pure h1 q2 hs
     ·obtain ⟨rv,hr,h1⟩:=a7 h1
      obtain ⟨x,q1,q2⟩:=aeO hT hcall hs h2 hr
      rw [h4,q1]
      exact hK.pure h1 q2 hs
    ·rename_i hk
     simp only [hk]
     obtain ⟨vs,xs,c1,h1,h2,h4⟩:=acL ht hs h
     rw [h4]
     split at h1
     ·split at h1
      ·obtain ⟨rv,hr,h1⟩:=a7 h1
       exact ark hT hcall hK hs h2 hr h1
      obtain ⟨rv,hr,h1⟩:=a7 h1
      have came:amc Y w f xs rv:=by
       unfold agt at hr
       split at hr
       ·exact amX hT hcall hs h2 hr
       ·exact anb hT hcall hs h2 hr
      obtain ⟨x,hp2,fb,fb2,rho2,cr,q1,q2,q3,q4,q5,q6,q7,q9,q10⟩:=came
      split at h1
      ·unfold ae4 at h1
       split at h1
       ·rename_i hown
        exact alY hK hs hown h1 q1 q2 q3 q4 q5 q6 q7 q9 q10
       ·cases h1
      ·split at h1
       ·unfold ae4 at h1
        split at h1
        ·rename_i hown
         exact alY hK hs hown h1 q1 q2 q3 q4 q5 q6 q7 q9 q10
        ·cases h1
       ·exact amx hK hs h1 q1 q2 q3 q4 q5 q6 q7 q9 q10
     ·obtain ⟨rv,hr,h1⟩:=a7 h1
      obtain ⟨x,hp2,fb,fb2,rho2,cr,q1,q2,q3,q4,q5,q6,q7,q9,q10⟩:=aiu hT hcall hs h2 hr
      exact amx hK hs h1 q1 q2 q3 q4 q5 q6 q7 q9 q10
    ·rename_i n hk
     simp only [hk]
     obtain ⟨vs,xs,c1,h1,h2,h4⟩:=acL ht hs h
     obtain ⟨az,has,h5⟩:=a7 h1
     obtain ⟨y,hy,h6⟩:=a7 h5
     obtain ⟨v,hv,h7⟩:=a7 h6
     clear h1 h5 h6
     rw [h4]
     have:xs=az:=by
      have:∀ {vs:List V} {xs az:List Value} {c:j2},b9 w vs xs c->vs.mapM V4=some az->xs=az:=by
       intro vs
       induction vs with
       | nil=>intro xs az c h h2; simp only [b9] at h; simp at h2; rw [h.1,h2]
       | cons a vs ih =>
         intro xs az c h h2
         simp only [b9] at h
         obtain ⟨x,ys,c1,c2,rfl,k1,k2,k3⟩:=h
         rw [List.mapM_cons] at h2
         obtain ⟨p,p1,h2⟩:=a7 h2
         obtain ⟨q,q1,h2⟩:=a7 h2
         cases h2
         rw [ajv k1 p1,ih k2 q1]
      exact this h2 has
     subst this
     rw [hy]
     exact hK.pure h7 (amS hv) hs
   ·-- a function value
    rename_i x hne hcal
    obtain ⟨fv,fv',cf,h1,h2,_,h4⟩:=z8 ht hs h
    obtain ⟨vs,xs,c1,g1,g2,g4⟩:=acL ht hs h1
    obtain ⟨⟨f,caps⟩,hf,g5⟩:=a7 g1
    have hfv:fv = .fn f caps:=by
     unfold akk at hf
     split at hf
     ·cases hf; rfl
     ·cases hf
    clear g1 h1 h
    subst hfv
    simp only [RV] at h2
    obtain ⟨⟨ws,rfl,hcap⟩,_⟩:=h2
    have hcal':callee (.func (.func f) #[] ⟨ws⟩)=some (f,ws):=rfl
    have key:∃ r',(D3 Y s' x fun fv=>aaR Y s' c.args.toList fun vs=>(callee fv).bind fun p=>match A.y2 with
     | true=>(R8 Y.call p.1 (vs++p.2) s'.hp).bind fun v=>K' (.val v) s'.loc s'.hp .H
     | false=>(Y.call p.1 (vs++p.2) s'.hp).bind fun r=>K' (.val r.1) s'.loc r.2 .W)=some r'/\Q r':=by
     rw [h4,g4]
     simp only [hcal',Option.bind_some]
     have hall:=g2.app hcap
     split at g5
     ·rename_i hq
      obtain ⟨rv,hr,g6⟩:=a7 g5
      obtain ⟨x2,q1,q2⟩:=aeO hT hcall hs hall hr
      simp only [hq,q1,Option.bind_some]
      exact hK.pure g6 q2 hs
     ·rename_i hq
      obtain ⟨⟨rv,H'⟩,hr,g6⟩:=a7 g5
      obtain ⟨x2,w2,cr,q1,q2,q3⟩:=akQ hcall hs (b9.strip _ hall) (by simp) hr
      try simp only [hq]
      rw [hhp,q1]
      exact hK w2 _ _ _ _ _ cr g6 (by simp only [RE]; exact q2) q3
    cases x with
    | func f=>exact absurd rfl (hne f)
    | _=>simp only [hcal]; exact key
   ·cases h
 | makeSlice t l c =>
   simp only [hop] at h ⊢
   rw [ht.tab]
   split at h
   ·rename_i e b8 eb z ag n zz hti
    simp only [hti]
    obtain ⟨q1,q2,q3⟩:=hT.sl _ _ _ _ _ _ _ _ hti
    obtain ⟨vl,xl,cl',h1,h2,_,h4⟩:=z8 ht hs h
    obtain ⟨vc,xc,cc',g1,g2,_,g4⟩:=z8 ht hs h1
    obtain ⟨m,hm,g5⟩:=a7 g1
    clear g1 h1 h
    rw [h4,g4]
    have hm':ak7 eb xl xc=some m:=by
     unfold afM at hm
     split at hm
     ·simp only [RV] at h2 g2
      rw [h2.1,g2.1]
      exact hm
     ·cases hm
    simp only [hm',Option.bind_some]
    obtain ⟨ce,cl,ch,g⟩:=hs
    obtain ⟨w2,k1,k2,k3⟩:=abV g (akp (T4 (w:=w) q1) m.2) (by simp) b8 true (fun h=>by cases h)
    rw [hhp,<-k1]
    exact hK w2 _ _ _ _ _ (fun _=>0) g5 (by simp only [RE]; exact ajB k1 k3 q3) k2.self
   ·cases h
 | _=>simp only [hop] at h; cases h
end
end Go.AM

/- Code: the machine of values and the abstract machine side by side. -/
namespace Go.AM
set_option linter.unusedSimpArgs false
set_option linter.unusedVariables false
def St0 (X:XV) (E:En) (s:VS) (s':St):Prop:=∃ w,C9 X E w s s' (fun _=>0)
def acz (X:XV) (E:En) (vs:List V) (H:VH) (xs:List Value) (hp:Heap):Prop :=
 ∃ (w:Wd) (cv ch:j2),hp=w.hp/\HW w/\E6 X w/\B8 E w/\b9 w vs xs cv/\p6 w H w.c9 ch/\(∀ i,cv i+ch i<=1)/\(∀ i,i<E.hp.length->cv i+ch i<=E.c0 i)/\(∀ i,w.hp.length<=i->cv i+ch i=0)
theorem ake {X:XV} {E:En} {w:Wd} {s:VS} {env:List (Nat × EV)} {loc:List (Nat × List Value)} {ce:j2} {e:VE} {e':EV} (hs:C9 X E w s ⟨env,loc,w.hp⟩ ce) (hr:RE w e e' ce) (d:Option Nat) :
 C9 X E w { s with env:=ams s.env d e } ⟨acb env d e',loc,w.hp⟩ (fun _=>0):=by
 cases d with
 | none=>exact hs.less (by simp)
 | some d =>
   obtain ⟨c1,cl,ch,g⟩:=hs
   obtain ⟨c2,h1,h2⟩:=g.env.del (d:=d) (x:=e')
   refine ⟨fun i=>ce i+c2 i,cl,ch,rfl,g.hw,g.gl,g.fr,?_,g.loc,g.W3,g.obj,fun i=>?_,fun i hi=>?_,fun i hi=>?_⟩
   ·simp only [ams,acb,B3]
    exact ⟨e',ce,c2,by rw [j3,if_pos rfl],hr,h1,by simp⟩
   ·have:=g.I6 i; have:=h2 i; omega
   ·have:=g.L9 i hi; have:=h2 i; omega
   ·have:=g.J6 i hi; have:=h2 i; omega
theorem akV {S:Type} {v:V} {p q:Option S} {a:S} (hh:l3 v p q=some a):(v = .bool true/\p=some a)\/(v = .bool false/\q=some a)\/(v = .ub/\p=some a/\q=some a):=by
 unfold l3 at hh
 split at hh
 ·exact .inl ⟨rfl,hh⟩
 ·exact .inr (.inl ⟨rfl,hh⟩)
 ·unfold agQ at hh
  split at hh
  ·rename_i e; exact .inr (.inr ⟨rfl,hh,by rw [<-e]; exact hh⟩)
  ·cases hh
 ·cases hh
theorem aaI {S:Type} {v:V} {p q:Option S} {a:S} (hh:l9 v p q=some a):(v = .bool true/\p=some a)\/(v = .bool false/\q=some a):=by
 unfold l9 at hh
 split at hh
 ·exact .inl ⟨rfl,hh⟩
 ·exact .inr ⟨rfl,hh⟩
 ·cases hh
section
variable {X:XV} {Y:Ctx} {A:M5} {T:List Nat} {E:En}
theorem St0.bool {s:VS} {s':St} (hs:St0 X E s s') (d:Nat) (b:Bool):St0 X E { s with env:=(d,.val (.bool b))::O1 s.env d } { s' with env:=(d,.val (.bool b))::s'.env }:=by
 obtain ⟨w,h⟩:=hs
 have:=ake (e := .val (.bool b)) (e' := .val (.bool b)) h.self (by simp [RE,RV]) (some d)
 refine ⟨w,?_⟩
 have hh:=h.hp
 obtain ⟨env,loc,hp⟩:=s'
 simp only at hh
 subst hh
 exact this
theorem apS {R R':Type} {r:R} {Q:R'->Prop} {ops:Array Oper} {o:Oper} {s:VS} {s':St} (hs:St0 X E s s') {run pass:List (Nat × VE)->Option R} {run' pass':List (Nat × EV)->Option R'}
 (h:S8 ops o s.env run pass=some r) (h1:∀ e e',run e=some r->St0 X E { s with env:=e } { s' with env:=e' }->∃ r',run' e'=some r'/\Q r') (h2:∀ e e',pass e=some r->St0 X E { s with env:=e } { s' with env:=e' }->∃ r',pass' e'=some r'/\Q r') :
 ∃ r',K9 ops o s'.env run' pass'=some r'/\Q r':=by
 unfold S8 at h
 unfold K9
 split at h
 ·rename_i hg
  simp only [hg]
  exact h1 _ _ h hs
 ·rename_i j want hg
  simp only [hg]
  split at h
  ·cases h
  ·rename_i d hd
   simp only [hd]
   split at h
   ·rename_i v hl
    obtain ⟨w,ce,cl,ch,g⟩:=hs
    obtain ⟨x,c1,c2,k1,k2,_,_⟩:=g.env.look hl
    cases x<;>simp only [RE] at k2
    rename_i x
    have hs':St0 X E s s':=⟨w,ce,cl,ch,g⟩
    rw [k1]
    split at h
    ·rcases aaI h with ⟨rfl,h⟩ | ⟨rfl,h⟩
     ·simp only [RV] at k2
      simp only [k2.1,O0]
      exact h1 _ _ h (hs'.bool d true)
     ·simp only [RV] at k2
      simp only [k2.1,O0]
      exact h2 _ _ h (hs'.bool d false)
    ·rcases aaI h with ⟨rfl,h⟩ | ⟨rfl,h⟩
     ·simp only [RV] at k2
      simp only [k2.1,O0]
      exact h2 _ _ h (hs'.bool d true)
     ·simp only [RV] at k2
      simp only [k2.1,O0]
      exact h1 _ _ h (hs'.bool d false)
   ·rename_i hl
    obtain ⟨w,ce,cl,ch,g⟩:=hs
    obtain ⟨x,c1,c2,k1,k2,_,_⟩:=g.env.look hl
    cases x<;>simp only [RE] at k2
    rw [k1]
    exact h2 _ _ h ⟨w,ce,cl,ch,g⟩
   ·cases h
theorem agZ (ht:Twin X Y) (hT:Z3 X) (hcall:∀ f args H r H',X.call f args H=some (r,H')->A7 X Y.call f args H r H') {R R':Type} {r:R} {Q:R'->Prop} {ops:Array Oper} :
 ∀ {os:List Oper} {cl:List A8} {s:VS} {s':St} {K:List A8->VS->Option R} {K':List A8->St->Option R'},St0 X E s s'->adT X A T ops os cl s K=some r →
   (∀ cl s s',K cl s=some r->St0 X E s s'->∃ r',K' cl s'=some r'/\Q r')->∃ r',X4 Y A ops os cl s' K'=some r'/\Q r'
 | [],cl,s,s',K,K',hs,h,hK=>hK _ _ _ h hs
 | o::os,cl,s,s',K,K',hs,h,hK=>by
   simp only [adT] at h
   simp only [X4]
   refine apS hs h (fun e e' hr hs2=>?_) (fun e e' hp hs2=>?_)
   ·obtain ⟨w,hs2⟩:=hs2
    refine auu ht hT hcall hs2 hr ?_
    intro w2 ev ev' s2 loc c ce hk hre hst
    exact agZ ht hT hcall ⟨w2,ake hst hre o.dst⟩ hk hK
   ·refine agZ ht hT hcall ?_ hp hK
    obtain ⟨w,hs2⟩:=hs2
    have hh:=hs2.hp
    simp only at hh
    have:=ake (e := .B4) (e' := .B4) hs2.self (by simp [RE]) o.dst
    refine ⟨w,?_⟩
    rw [<-hh] at this
    exact this
theorem aiZ {t u:Nat} (h:u ≠ t):∀ {l:List (Nat × VE)},look (S7 l t) u=look l u
 | []=>rfl
 | (k,v)::l=>by
   by_cases e:k=t
   ·subst e
    have hb:Nat.beq k k=true:=Nat.beq_refl k
    simp only [S7,hb]
    rw [j3,j3,if_neg h,if_neg h]
   ·simp only [S7,S6 e]
    rw [j3,j3]
    split
    ·rfl
    ·exact aiZ h
theorem aeH {R:Type} {t:Nat} {l:List (Nat × VE)}:∀ {ss:List Nat} {K:List V->Option R},t ∉ ss->V3 (S7 l t) ss K=V3 l ss K
 | [],K,h=>rfl
 | s::ss,K,h=>by
   simp only [V3]
   rw [aiZ (fun e=>h (by simp [e]))]
   split
   ·exact aeH (fun hm=>h (by simp [hm]))
   ·exact aeH (fun hm=>h (by simp [hm]))
   ·rfl
theorem amv {w:Wd} {ae:List (Nat × EV)} {R:Type} {r:R}:∀ {ss:List Nat} {l:List (Nat × VE)} {ce:j2} {K:List V->Option R},ss.Nodup->B3 w l ae ce->V3 l ss K=some r →
 ∃ vs xs c,K vs=some r/\b9 w vs xs c/\(∀ i,c i<=ce i)/\vs.length=ss.length/\∀ (R':Type) (K':List Value->Option R'),aa7 ae ss K'=K' xs
 | [],l,ce,K,nd,he,h=>⟨[],[],fun _=>0,h,by simp [b9],by simp,rfl,fun _ _=>rfl⟩
 | s::ss,l,ce,K,nd,he,h=>by
   simp only [V3] at h
   simp at nd
   have key:∀ {v:V} {x:Value} {e:VE} {c1 c2:j2} {K2:List V->Option R},look ae s=some (.val x)->RV w v x c1->B3 w (S7 l s) ae c2->(∀ i,ce i=c1 i+c2 i)->V3 l ss (fun vs=>K (v::vs))=some r →
    ∃ vs xs c,K vs=some r/\b9 w vs xs c/\(∀ i,c i<=ce i)/\vs.length=(s::ss).length/\∀ (R':Type) (K':List Value->Option R'),aa7 ae (s::ss) K'=K' xs:=by
    intro v x e c1 c2 K2 h1 h2 h3 h4 h5
    rw [<-aeH (t:=s) nd.1] at h5
    obtain ⟨vs,xs,c,g1,g2,g3,g4,g5⟩:=amv nd.2 h3 h5
    refine ⟨v::vs,x::xs,fun i=>c1 i+c i,g1,⟨x,xs,c1,c,rfl,h2,g2,by simp⟩,fun i=>by have:=g3 i; have:=h4 i; show c1 i+c i<=ce i; omega,by simp [g4],fun R' K'=>by simp only [aa7,h1,g5]⟩
   split at h
   ·rename_i v hl
    obtain ⟨x,c1,c2,h1,h2,h3,h4⟩:=he.look hl
    cases x<;>simp only [RE] at h2
    exact key (e := .B4) (K2:=K) h1 h2 h3 h4 h
   ·rename_i ys hl
    obtain ⟨x,c1,c2,h1,h2,h3,h4⟩:=he.look hl
    cases x<;>simp only [RE] at h2
    exact key (e := .B4) (K2:=K) h1 h2.1 h3 h4 h
   ·cases h
theorem apv {w:Wd} {ae:List (Nat × EV)}:∀ {ls:List (Nat × Nat × Nat)} {l:List (Nat × VE)} {ce:j2},B3 w l ae ce->alj l ls=true->ajO ae ls=true
 | [],l,ce,he,h=>rfl
 | (s,k,o)::ls,l,ce,he,h=>by
   simp only [alj] at h
   split at h
   ·rename_i k' o' hl
    obtain ⟨x,c1,c2,h1,h2,h3,h4⟩:=he.look hl
    cases x<;>simp only [RE] at h2
    obtain ⟨rfl,rfl,_⟩:=h2
    simp only [Bool.and_eq_true] at h
    simp only [ajO,h1,Bool.and_eq_true]
    exact ⟨h.1,apv he h.2⟩
   ·cases h
theorem ajg {k j:Nat} (h:j ≠ k) {cs:List V}:∀ {l:List (Nat × List V)},look (L1 l k cs) j=look l j
 | []=>rfl
 | (q,v)::l=>by
   by_cases e:q=k
   ·subst e
    have hb:Nat.beq q q=true:=Nat.beq_refl q
    simp only [L1,hb]
    rw [j3,j3,if_neg h,if_neg h]
   ·simp only [L1,S6 e]
    rw [j3,j3]
    split
    ·rfl
    ·exact ajg h
theorem apd {R:Type} {k:Nat} {d:List V} {l:List (Nat × List V)}:∀ {ks:List (Nat × Nat)} {K:List V->Option R},k ∉ ks.map (·.1)->csV (L1 l k d) ks K=csV l ks K
 | [],K,h=>rfl
 | (j,n)::ks,K,h=>by
   simp only [csV]
   rw [ajg (fun e=>h (by simp [e]))]
   split
   ·split
    ·exact apd (fun hm=>h (by simp at hm ⊢; exact .inr hm))
    ·rfl
   ·rfl
theorem afD {k:Nat} {ws:List Value}:∀ {l:List (Nat × List Value)},look l k=some ws->U1 l k ws=l
 | [],h=>rfl
 | (q,v)::l,h=>by
   by_cases e:q=k
   ·subst e
    have hb:Nat.beq q q=true:=Nat.beq_refl q
    simp only [look,hb] at h
    cases h; simp only [U1,hb]
   ·simp only [look,S6 e] at h
    simp only [U1,S6 e,afD h]
theorem ap2 {w:Wd} {al:List (Nat × List Value)} {R:Type} {r:R}:∀ {ks:List (Nat × Nat)} {l:List (Nat × List V)} {cl:j2} {K:List V->Option R},(ks.map (·.1)).Nodup->I3 w l al cl->csV l ks K=some r →
 ∃ vs xs c,K vs=some r/\b9 w vs xs c/\(∀ i,c i<=cl i)/\vs.length=total ks/\∀ (R':Type) (K':List Value->Option R'),csK al ks K'=K' xs
 | [],l,cl,K,nd,he,h=>⟨[],[],fun _=>0,h,by simp [b9],by simp,rfl,fun _ _=>rfl⟩
 | (k,n)::ks,l,cl,K,nd,he,h=>by
   simp only [csV] at h
   simp only [List.map_cons,List.nodup_cons] at nd
   split at h
   ·rename_i cs hl
    split at h
    ·rename_i hb
     obtain ⟨ws,c1,c2,h1,h2,h3,h4⟩:=he.look hl
     have h5:=h4 _ _ _ (b9.strip _ h2)
     rw [afD h1] at h5
     rw [<-apd (k:=k) (d:=l7 cs) nd.1] at h
     obtain ⟨vs,xs,c,g1,g2,g3,g4,g5⟩:=ap2 nd.2 h5 h
     have hn:=Nat.eq_of_beq_eq_true hb
     have hb':Nat.beq ws.length n=true:=by rw [<-h2.len]; exact hb
     exact ⟨cs++vs,ws++xs,_,g1,h2.app g2,fun i=>by have:=g3 i; have:=h3 i; omega,by simp only [List.length_append,total,g4]; omega,fun R' K'=>by simp only [csK,h1,hb',g5]⟩
    ·cases h
   ·cases h
theorem aht {kp:E9} (h:agF kp=true):abS kp=true/\(kp.cs.map (·.1)).Nodup/\kp.vs.Nodup/\(kp.ls.map (·.1)).Nodup/\∀ x ∈ kp.ls,mem kp.vs x.1=false:=by
 unfold agF at h
 simp only [Bool.and_eq_true,decide_eq_true_eq,List.all_eq_true] at h
 obtain ⟨⟨⟨⟨h1,h2⟩,h3⟩,h4⟩,h5⟩:=h
 refine ⟨?_,h2,h3,h4,fun x hx=>by have:=h5 x hx; simpa using this⟩
 unfold abS
 simp only [Bool.and_eq_true]
 exact ⟨h1,by simpa using h2⟩
theorem aeM {R:Type} {r:R} {kp:E9} {s:VS} {s':St} (hs:St0 X E s s') {K:List V->VH->Option R} (h:Z4 kp s K=some r) :
 ∃ vs xs,K vs s.H=some r/\acz X E vs s.H xs s'.hp/\∀ (R':Type) (K':List Value->Heap->Option R'),L4 kp s' K'=K' xs s'.hp:=by
 unfold Z4 at h
 split at h
 ·rename_i hk
  simp only [Bool.and_eq_true] at hk
  obtain ⟨k1,k2,k3,k4,k5⟩:=aht hk.1
  obtain ⟨w,ce,cl,ch,g⟩:=hs
  obtain ⟨vs,xs,c,h1,h2,h3,h4,h5⟩:=amv k3 g.env h
  obtain ⟨us,ys,d,g1,g2,g3,g4,g5⟩:=ap2 k2 g.loc h1
  refine ⟨vs++us,xs++ys,g1,⟨w,_,ch,g.hp,g.hw,g.gl,g.fr,h2.app g2,g.obj,fun i=>?_,fun i hi=>?_,fun i hi=>?_⟩,fun R' K'=>?_⟩
  ·have:=g.I6 i; have:=h3 i; have:=g3 i; omega
  ·have:=g.L9 i hi; have:=h3 i; have:=g3 i; omega
  ·have:=g.J6 i hi; have:=h3 i; have:=g3 i; omega
  ·simp only [L4,apv g.env hk.2,h5,g5]
 ·cases h
theorem akw {a:Nat}:∀ {l:List Nat},mem l a=false->a ∉ l
 | [],_=>by simp
 | b::l,h=>by
   simp only [mem] at h
   split at h
   ·cases h
   ·rename_i hb
    intro hm
    rcases List.mem_cons.1 hm with e | hm
    ·rw [e,Nat.beq_refl] at hb; cases hb
    ·exact akw h hm
theorem b9.head {w:Wd} {vs:List V} {xs:List Value} {d:j2} {i:Nat} (hi:i<vs.length) (h:b9 w (vs.drop i) (xs.drop i) d):∃ a b,RV w (vs.getD i .b7) (xs.getD i undef) a/\b9 w (vs.drop (i+1)) (xs.drop (i+1)) b/\∀ j,d j=a j+b j:=by
 rw [List.drop_eq_getElem_cons hi] at h
 simp only [b9] at h
 obtain ⟨x,ys,a,b,h1,h2,h3,h4⟩:=h
 have hx:xs[i]? = some x:=by
  have:(xs.drop i)[0]? = some x:=by rw [h1]; rfl
  simpa using this
 have hy:xs.drop (i+1)=ys:=by rw [<-List.drop_drop,h1]; rfl
 refine ⟨a,b,?_,by rw [hy]; exact h3,h4⟩
 rw [List.getD_eq_getElem?_getD,List.getD_eq_getElem?_getD,hx,List.getElem?_eq_getElem hi]; exact h2
theorem alK {w:Wd} {vs:List V} {xs:List Value} {ae:List (Nat × EV)}:∀ {ss:List Nat} {i:Nat} {d:j2},b9 w (vs.drop i) (xs.drop i) d->i+ss.length<=vs.length->(∀ (j s:Nat),ss[j]? = some s->look ae s=some (.val (xs.getD (i+j) undef))) →
 ∃ c1 c2,B3 w (afQ i ss vs) ae c1/\b9 w (vs.drop (i+ss.length)) (xs.drop (i+ss.length)) c2/\∀ j,c1 j+c2 j=d j
 | [],i,d,hd,hl,ha=>⟨fun _=>0,d,by simp [afQ,B3],by simpa using hd,by simp⟩
 | s::ss,i,d,hd,hl,ha=>by
   simp at hl
   obtain ⟨a,b,h1,h2,h3⟩:=hd.head (i:=i) (by omega)
   obtain ⟨c1,c2,g1,g2,g3⟩:=alK (ss:=ss) (i:=i+1) h2 (by omega) (fun j t ht=>by have:=ha (j+1) t (by simpa using ht); rw [this]; congr 3; omega)
   refine ⟨fun j=>a j+c1 j,c2,?_,by rw [List.length_cons,show i+(ss.length+1)=i+1+ss.length by omega]; exact g2,fun j=>by have:=g3 j; have:=h3 j; show a j+c1 j+c2 j=d j; omega⟩
   simp only [afQ,B3]
   exact ⟨_,a,c1,ha 0 s (by simp),by simp only [RE]; exact h1,g1,by simp⟩
theorem ama {w:Wd} {vs:List V} {xs:List Value}:∀ {ks:List (Nat × Nat)} {i:Nat} {d:j2} {al:List (Nat × List Value)},(ks.map (·.1)).Nodup->b9 w (vs.drop i) (xs.drop i) d->i+total ks<=vs.length->i+total ks<=xs.length->(∀ k n,look (J2 i ks xs) k=some n->look al k=some n)->(∀ p ∈ ks,(look (J2 i ks xs) p.1).isSome=true) →
 ∃ c1,I3 w (aa9 i ks vs) al c1/\∀ j,c1 j<=d j
 | [],i,d,al,nd,hd,hl,hl2,ha,hm=>⟨fun _=>0,by simp [aa9,I3],by simp⟩
 | (k,n)::ks,i,d,al,nd,hd,hl,hl2,ha,hm=>by
   simp only [List.map_cons,List.nodup_cons] at nd
   simp only [total] at hl hl2
   have e1:vs.drop i=(vs.drop i).take n++vs.drop (i+n):=by rw [<-List.drop_drop,List.take_append_drop]
   rw [e1] at hd
   obtain ⟨ys,zs,a,b,h1,h2,h3,h4⟩:=hd.split
   have hyl:=h2.len
   rw [List.length_take,List.length_drop,Nat.min_eq_left (by omega)] at hyl
   have hys:ys=(xs.drop i).take n:=by rw [h1,hyl,List.take_left]
   have hzs:zs=xs.drop (i+n):=by rw [<-List.drop_drop,h1,hyl,List.drop_left]
   subst hzs
   have hne:∀ k' v,look (J2 (i+n) ks xs) k'=some v->k' ≠ k:=fun k' v h e=>by
    subst e
    have:∀ {ks:List (Nat × Nat)} {i:Nat},k' ∉ ks.map (·.1)->look (J2 i ks xs) k'=none:=by
     intro ks
     induction ks with
     | nil=>intro i _; rfl
     | cons p ks ih =>
       intro i hn
       obtain ⟨q,m⟩:=p
       simp only [List.map_cons,List.mem_cons,not_or] at hn
       simp only [J2]
       rw [j3,if_neg hn.1]; exact ih hn.2
    rw [this nd.1] at h; cases h
   have memv:∀ {ks:List (Nat × Nat)} {i:Nat},k ∉ ks.map (·.1)->look (aa9 i ks vs) k=none:=by
    intro ks
    induction ks with
    | nil=>intro i _; rfl
    | cons p ks ih =>
      intro i hn
      obtain ⟨q,m⟩:=p
      simp only [List.map_cons,List.mem_cons,not_or] at hn
      simp only [aa9]
      rw [j3,if_neg hn.1]; exact ih hn.2
   have somev:∀ {ks:List (Nat × Nat)} {i:Nat},∀ p ∈ ks,(look (J2 i ks xs) p.1).isSome=true:=by
    intro ks
    induction ks with
    | nil=>intro i p hp; cases hp
    | cons q ks ih =>
      intro i p hp
      obtain ⟨q,m⟩:=q
      simp only [J2]
      rw [j3]
      split
      ·rfl
      ·rename_i hq
       rcases List.mem_cons.1 hp with rfl | hp
       ·exact absurd rfl hq
       ·exact ih p hp
   obtain ⟨c1,g1,g2⟩:=ama (ks:=ks) (i:=i+n) (al:=al) nd.2 h3 (by omega) (by omega) (fun k' v h=>ha k' v (by simp only [J2]; rw [j3,if_neg (hne k' v h)]; exact h)) somev
   refine ⟨fun j=>a j+c1 j,?_,fun j=>by have:=g2 j; have:=h4 j; show a j+c1 j<=d j; omega⟩
   simp only [aa9,I3]
   refine ⟨aaz i n xs,a,c1,ha k _ (by simp only [J2]; rw [j3,if_pos rfl]),?_,memv nd.1,g1,by simp⟩
   rw [aih (by omega),afV (by omega),<-hys]; exact h2
theorem af3 {R:Type} {r:R} {kp:E9} {vs:List V} {H:VH} {xs:List Value} {hp:Heap} (hs:acz X E vs H xs hp) {K:VS->Option R} (h:aaZ kp vs H K=some r) :
 ∃ s s',K s=some r/\St0 X E s s'/\∀ (R':Type) (K':St->Option R'),Y2 kp xs hp K'=K' s':=by
 unfold aaZ at h
 split at h
 ·rename_i hk
  obtain ⟨k1,k2,k3,k4,k5⟩:=aht hk
  split at h
  ·rename_i hl
   obtain ⟨w,cv,ch,rfl,hw,hg,hf,hv,ho,l1,l0,lb⟩:=hs
   have hlen:=hv.len
   have hlook:∀ (j s:Nat),kp.vs[j]? = some s->look (U0 kp.ls++V8 0 kp.vs xs) s=some (.val (xs.getD (0+j) undef)):=by
    intro j s hj
    have hnl:∀ {ls:List (Nat × Nat × Nat)} {m:List (Nat × EV)},(∀ x ∈ ls,x.1 ≠ s)->look (U0 ls++m) s=look m s:=by
     intro ls
     induction ls with
     | nil=>intro m _; rfl
     | cons p ls ih =>
       intro m hn
       obtain ⟨q,k,o⟩:=p
       simp only [U0,List.cons_append]
       rw [j3,if_neg (fun e=>hn (q,k,o) (by simp) e.symm)]
       exact ih (fun x hx=>hn x (by simp [hx]))
    rw [hnl (fun x hx e=>akw (k5 x hx) (by rw [e]; exact List.mem_of_getElem? hj))]
    have hev:∀ {ss:List Nat} {i j:Nat},ss.Nodup->ss[j]? = some s->look (V8 i ss xs) s=some (.val (xs.getD (i+j) undef)):=by
     intro ss
     induction ss with
     | nil=>intro i j _ h; simp at h
     | cons t ss ih =>
       intro i j nd h
       simp at nd
       simp only [V8]
       rw [j3]
       cases j with
       | zero=>simp at h; subst h; rw [if_pos rfl]; rfl
       | succ j =>
         simp at h
         rw [if_neg (fun e=>nd.1 (by subst e; exact List.mem_of_getElem? h)),ih nd.2 h]
         congr 3; omega
    exact hev k3 hj
   obtain ⟨c1,c2,e1,e2,e3⟩:=alK (ss:=kp.vs) (i:=0) (ae:=U0 kp.ls++V8 0 kp.vs xs) (by simpa using hv) (by omega) hlook
   have hls:∀ {ls:List (Nat × Nat × Nat)} {pre:List (Nat × EV)} {rest:List (Nat × VE)} {c:j2},(ls.map (·.1)).Nodup->B3 w rest (pre++(U0 ls++V8 0 kp.vs xs)) c->(∀ x ∈ ls,look pre x.1=none)->B3 w (alg ls++rest) (pre++(U0 ls++V8 0 kp.vs xs)) c:=by
    intro ls
    induction ls with
    | nil=>intro pre rest c _ h _; exact h
    | cons p ls ih =>
      intro pre rest c nd h hn
      obtain ⟨q,k,o⟩:=p
      simp only [List.map_cons,List.nodup_cons] at nd
      simp only [alg,List.cons_append,B3]
      have hpre:∀ {m:List (Nat × EV)} {t:Nat},look pre t=none->look (pre++m) t=look m t:=by
       intro m t
       have:∀ {pre:List (Nat × EV)},look pre t=none->look (pre++m) t=look m t:=by
        intro pre
        induction pre with
        | nil=>intro _; rfl
        | cons a pre ih2 =>
          intro hh
          obtain ⟨a1,a2⟩:=a
          rw [j3] at hh
          split at hh
          ·cases hh
          ·rename_i hq
           simp only [List.cons_append]
           rw [j3,if_neg hq]; exact ih2 hh
       exact this
      refine ⟨.loc k o,fun _=>0,c,?_,by simp [RE],?_,by simp⟩
      ·have hq:look pre q=none:=hn (q,k,o) (by simp)
       rw [hpre hq]
       simp only [U0,List.cons_append]
       rw [j3,if_pos rfl]
      ·have e:pre++(U0 ((q,k,o)::ls)++V8 0 kp.vs xs)=(pre++[(q,EV.loc k o)])++(U0 ls++V8 0 kp.vs xs):=by simp [U0]
       rw [e] at h ⊢
       refine ih nd.2 h (fun x hx=>?_)
       have:look pre x.1=none:=hn x (by simp [hx])
       rw [hpre this,j3,if_neg (fun e=>nd.1 (by rw [<-e]; exact List.mem_map_of_mem hx))]
       rfl
   have henv:=hls (pre:=[]) k4 e1 (fun _ _=>rfl)
   simp only [List.nil_append] at henv
   obtain ⟨c3,f1,f2⟩:=ama (ks:=kp.cs) (i:=kp.vs.length) (al:=J2 kp.vs.length kp.cs xs) k2 (by simpa using e2) (by omega) (by omega) (fun k n h=>h) (by
    intro p hp
    have somev:∀ {ks:List (Nat × Nat)} {i:Nat},∀ p ∈ ks,(look (J2 i ks xs) p.1).isSome=true:=by
     intro ks
     induction ks with
     | nil=>intro i p hp; cases hp
     | cons q ks ih =>
       intro i p hp
       obtain ⟨q,m⟩:=q
       simp only [J2]
       rw [j3]
       split
       ·rfl
       ·rename_i hq
        rcases List.mem_cons.1 hp with rfl | hp
        ·exact absurd rfl hq
        ·exact ih p hp
    exact somev p hp)
   refine ⟨_,X1 kp xs w.hp,h,⟨w,c1,c3,ch,rfl,hw,hg,hf,henv,f1,fun k hk=>?_,ho,fun i=>?_,fun i hi=>?_,fun i hi=>?_⟩,fun R' K'=>?_⟩
   ·have:∀ {ks:List (Nat × Nat)} {i:Nat},look (aa9 i ks vs) k=none->look (J2 i ks xs) k=none:=by
     intro ks
     induction ks with
     | nil=>intro i _; rfl
     | cons p ks ih =>
       intro i hh
       obtain ⟨q,m⟩:=p
       simp only [aa9] at hh
       simp only [J2]
       rw [j3] at hh ⊢
       split at hh
       ·cases hh
       ·rename_i hq; rw [if_neg hq]; exact ih hh
    exact this hk
   ·have:=l1 i; have:=e3 i; have:=f2 i; omega
   ·have:=l0 i hi; have:=e3 i; have:=f2 i; omega
   ·have:=lb i hi; have:=e3 i; have:=f2 i; omega
   ·unfold Y2
    rw [k1]
    simp only
    rw [if_pos (by omega)]; rfl
  ·cases h
 ·cases h
theorem agE {R:Type} {r:R} {e:Exit} {s:VS} {s':St} (hs:St0 X E s s'):∀ {outs:List (Exit × E9)} {K:Nat->List V->VH->Option R},adR outs e s K=some r →
 ∃ n vs xs,K n vs s.H=some r/\acz X E vs s.H xs s'.hp/\∀ (R':Type) (K':Nat->List Value->Heap->Option R'),V1 outs e s' K'=K' n xs s'.hp
 | [],K,h=>by cases h
 | (x,kp)::l,K,h=>by
   simp only [adR] at h
   split at h
   ·rename_i hx
    obtain ⟨vs,xs,h1,h2,h3⟩:=aeM hs h
    exact ⟨0,vs,xs,h1,h2,fun R' K'=>by simp only [V1,hx,h3]⟩
   ·rename_i hx
    obtain ⟨n,vs,xs,h1,h2,h3⟩:=agE hs h
    exact ⟨n+1,vs,xs,h1,h2,fun R' K'=>by simp only [V1,hx,h3]⟩
theorem alD {R:Type} {r:R} {vs:List V} {H:VH} {xs:List Value} {hp:Heap} (hs:acz X E vs H xs hp) {K:Exit->VS->Option R}:∀ {outs:List (Exit × E9)} {n:Nat},inV outs n vs H K=some r →
 ∃ e s s',K e s=some r/\St0 X E s s'/\∀ (R':Type) (K':Exit->St->Option R'),inK outs n xs hp K'=K' e s'
 | [],n,h=>by cases h
 | (x,kp)::l,0,h=>by
   simp only [inV] at h
   obtain ⟨s,s',h1,h2,h3⟩:=af3 hs h
   exact ⟨x,s,s',h1,h2,fun R' K'=>by simp only [inK,h3]⟩
 | (x,kp)::l,n+1,h=>by
   simp only [inV] at h
   obtain ⟨e,s,s',h1,h2,h3⟩:=alD hs h
   exact ⟨e,s,s',h1,h2,fun R' K'=>by simp only [inK,h3]⟩
inductive aik (B:List V->VH->Option (Option Nat × List V × VH)):Nat->List V->VH->(Nat × List V × VH)->Prop
 | stop {vs:List V} {hp:VH} {m:Nat} {vs':List V} {hp':VH}:B vs hp=some (some m,vs',hp')->aik B 0 vs hp (m,vs',hp')
 | more {n:Nat} {vs:List V} {hp:VH} {vs1:List V} {hp1:VH} {res:Nat × List V × VH}:B vs hp=some (none,vs1,hp1)->aik B n vs1 hp1 res->aik B (n+1) vs hp res
def aou (lp:O6):Prop:=∀ B vs hp res,lp B vs hp=some res->∃ n,aik B n vs hp res
def auV (lp:Z7):Prop:=∀ B vs hp,lp B vs hp=match B vs hp with | none=>none | some (none,vs,hp)=>lp B vs hp | some (some m,vs,hp)=>some (m,vs,hp)
theorem N3 (ht:Twin X Y) (hT:Z3 X) (hcall:∀ f args H r H',X.call f args H=some (r,H')->A7 X Y.call f args H r H') (hlp:aou X.lp) (hlq:auV Y.lp) :
 ∀ (x:Code) {R R':Type} {r:R} {Q:R'->Prop} {s:VS} {s':St} {K:Exit->VS->Option R} {K':Exit->St->Option R'},St0 X E s s'->C7 X A T x s K=some r →
   (∀ e s s',K e s=some r->St0 X E s s'->∃ r',K' e s'=some r'/\Q r')->∃ r',w7 Y A x s' K'=some r'/\Q r'
 | .skip,R,R',r,Q,s,s',K,K',hs,h,hK=>hK _ _ _ h hs
 | .exit id,R,R',r,Q,s,s',K,K',hs,h,hK=>hK _ _ _ h hs
 | .ret,R,R',r,Q,s,s',K,K',hs,h,hK=>hK _ _ _ h hs
 | .region id ops draw,R,R',r,Q,s,s',K,K',hs,h,hK=>by
   cases draw with
   | false =>
     simp only [C7] at h
     simp only [w7]
     exact agZ ht hT hcall hs h fun cl s s' h hs=>hK _ _ _ h hs
   | true =>
     simp only [C7] at h
     simp only [w7]
     refine agZ ht hT hcall hs h fun cl s s' h hs=>?_
     split at h
     ·rename_i ho; simp only [ho]; exact hK _ _ _ h hs
     ·cases h
 | .cond y a b,R,R',r,Q,s,s',K,K',hs,h,hK=>by
   simp only [C7] at h
   simp only [w7]
   obtain ⟨w,hs⟩:=hs
   obtain ⟨v,x',c,h1,h2,_,h4⟩:=z8 ht hs h
   rw [h4]
   rcases akV h1 with ⟨rfl,h⟩ | ⟨rfl,h⟩ | ⟨rfl,h,h'⟩
   ·simp only [RV] at h2
    simp only [h2.1,O0]
    exact N3 ht hT hcall hlp hlq a ⟨w,hs⟩ h hK
   ·simp only [RV] at h2
    simp only [h2.1,O0]
    exact N3 ht hT hcall hlp hlq b ⟨w,hs⟩ h hK
   ·simp only [RV] at h2
    obtain ⟨⟨bb,hb⟩,_⟩:=h2
    subst hb
    cases bb with
    | true=>exact N3 ht hT hcall hlp hlq a ⟨w,hs⟩ h hK
    | false=>exact N3 ht hT hcall hlp hlq b ⟨w,hs⟩ h' hK
 | .block id a,R,R',r,Q,s,s',K,K',hs,h,hK=>by
   simp only [C7] at h
   simp only [w7]
   refine N3 ht hT hcall hlp hlq a hs h fun e s s' h hs=>?_
   cases e with
   | exit i =>
     simp only at h ⊢
     split at h
     ·rename_i hb; simp only [hb]; exact hK _ _ _ h hs
     ·rename_i hb; simp only [hb]; exact hK _ _ _ h hs
   | _=>exact hK _ _ _ h hs
 | .seq a b,R,R',r,Q,s,s',K,K',hs,h,hK=>by
   simp only [C7] at h
   simp only [w7]
   have behind:∀ (e:Exit) (s:VS) (s':St),(match e with | .normal=>C7 X A T b s K | e=>K e s)=some r->St0 X E s s'->∃ r',(fun (e:Exit) (st:St)=>match e with | .normal=>w7 Y A b st K' | e=>K' e st) e s'=some r'/\Q r':=by
    intro e s s' h hs
    cases e with
    | normal=>exact N3 ht hT hcall hlp hlq b hs h hK
    | _=>exact hK _ _ _ h hs
   split at h
   ·rename_i hj
    split
    ·exact N3 ht hT hcall hlp hlq a (K':=fun e st=>match e with | .normal=>w7 Y A b st K' | e=>K' e st) hs h behind
    ·rename_i hj2
     have:=hj.symm.trans hj2
     cases this
   ·rename_i outs hj
    split
    ·rename_i hj2
     have:=hj.symm.trans hj2
     cases this
    rename_i outs' hj2
    have:=hj.symm.trans hj2
    cases this
    obtain ⟨⟨n,vs,H⟩,h1,h2⟩:=a7 h
    obtain ⟨⟨n',xs,hp⟩,g1,g2⟩:=N3 ht hT hcall hlp hlq a (K':=fun e st=>V1 outs e st fun n vs hp=>some (n,vs,hp)) (Q:=fun q=>q.1=n/\acz X E vs H q.2.1 q.2.2) hs h1 (fun e s s' h hs=>by
     obtain ⟨m,us,xs,k1,k2,k3⟩:=agE hs h
     cases k1
     exact ⟨_,k3 _ _,rfl,k2⟩)
    simp only at g2
    obtain ⟨rfl,g2⟩:=g2
    rw [g1]
    simp only [Option.bind_some]
    obtain ⟨e,s2,s2',k1,k2,k3⟩:=alD g2 h2
    rw [k3]
    exact behind e s2 s2' k1 k2
 | .loop a,R,R',r,Q,s,s',K,K',hs,h,hK=>by
   simp only [C7] at h
   simp only [w7]
   split at h
   ·cases h
   ·rename_i li hli
    obtain ⟨vs,xs,h1,h2,h3⟩:=aeM hs h
    obtain ⟨⟨n,us,H⟩,h4,h5⟩:=a7 h1
    simp only [hli]
    rw [h3]
    obtain ⟨m,hm⟩:=hlp _ _ _ _ h4
    have loop:∀ {m:Nat} {vs:List V} {H:VH} {res:Nat × List V × VH} {xs:List Value} {hp:Heap},aik (fun vs hp=>aaZ li.ks vs hp fun st=>C7 X A T a st fun e st=>match e with
     | .normal=>Z4 li.ks st fun vs hp=>some (none,vs,hp)
     | e=>adR li.outs e st fun n vs hp=>some (some n,vs,hp)) m vs H res->acz X E vs H xs hp →
     ∃ ys hp',Y.lp (fun vs hp=>Y2 li.ks vs hp fun st=>w7 Y A a st fun e st=>match e with
       | .normal=>L4 li.ks st fun vs hp=>some (none,vs,hp)
       | e=>V1 li.outs e st fun n vs hp=>some (some n,vs,hp)) xs hp=some (res.1,ys,hp')/\acz X E res.2.1 res.2.2 ys hp':=by
     intro m vs H res xs hp hl
     induction hl generalizing xs hp with
     | @stop vs0 H0 m0 vs1 H1 hB =>
       intro hsv
       obtain ⟨s,s',k1,k2,k3⟩:=af3 hsv hB
       obtain ⟨⟨o,ys,hp'⟩,k4,k5⟩:=N3 ht hT hcall hlp hlq a (K':=fun e st=>match e with
        | .normal=>L4 li.ks st fun vs hp=>some (none,vs,hp)
        | e=>V1 li.outs e st fun n vs hp=>some (some n,vs,hp)) (Q:=fun q=>q.1=some m0/\acz X E vs1 H1 q.2.1 q.2.2) k2 k1 (fun e s s' h hs=>by
          cases e with
          | normal =>
            obtain ⟨us,xs,a1,a2,a3⟩:=aeM hs h
            cases a1
          | _ =>
            obtain ⟨m,us,xs,a1,a2,a3⟩:=agE hs h
            cases a1
            exact ⟨_,a3 _ _,rfl,a2⟩)
       simp only at k5
       obtain ⟨rfl,k5⟩:=k5
       refine ⟨ys,hp',?_,k5⟩
       rw [hlq,k3,k4]
     | @more n0 vs0 H0 vs1 H1 res0 hB _ ih =>
       intro hsv
       obtain ⟨s,s',k1,k2,k3⟩:=af3 hsv hB
       obtain ⟨⟨o,ys,hp'⟩,k4,k5⟩:=N3 ht hT hcall hlp hlq a (K':=fun e st=>match e with
        | .normal=>L4 li.ks st fun vs hp=>some (none,vs,hp)
        | e=>V1 li.outs e st fun n vs hp=>some (some n,vs,hp)) (Q:=fun q=>q.1=none/\acz X E vs1 H1 q.2.1 q.2.2) k2 k1 (fun e s s' h hs=>by
          cases e with
          | normal =>
            obtain ⟨us,xs,a1,a2,a3⟩:=aeM hs h
            cases a1
            exact ⟨_,a3 _ _,rfl,a2⟩
          | _ =>
            obtain ⟨m,us,xs,a1,a2,a3⟩:=agE hs h
            cases a1)
       simp only at k5
       obtain ⟨rfl,k5⟩:=k5
       obtain ⟨zs,hp2,k6,k7⟩:=ih k5
       refine ⟨zs,hp2,?_,k7⟩
       rw [hlq,k3,k4]
       exact k6
    obtain ⟨ys,hp',k1,k2⟩:=loop hm h2
    obtain ⟨e,s2,s2',k3,k4,k5⟩:=alD k2 h5
    obtain ⟨r',q1,q2⟩:=hK _ _ _ k3 k4
    exact ⟨r',(congrArg (fun (o:Option (Nat × List Value × Heap))=>o.bind fun q=>inK li.outs q.1 q.2.1 q.2.2 K') k1).trans ((k5 R' K').trans q1),q2⟩
 | .rangeFunc ..,R,R',r,Q,s,s',K,K',hs,h,hK=>by cases h
 | .scope ..,R,R',r,Q,s,s',K,K',hs,h,hK=>by cases h
 | .label ..,R,R',r,Q,s,s',K,K',hs,h,hK=>by cases h
 | .goto ..,R,R',r,Q,s,s',K,K',hs,h,hK=>by cases h
 | .refuse ..,R,R',r,Q,s,s',K,K',hs,h,hK=>by cases h
theorem aex (ht:Twin X Y) (hT:Z3 X) {w:Wd} {R R':Type} {r:R} {Q:R'->Prop} {s':St}:∀ {rs:List ResultVar} {s:VS} {cx:j2} {K:List V->VS->Option R} {K':List Value->Option R'},C9 X E w s s' cx->aa2 X rs s K=some r →
 (∀ vs s2 xs c,K vs s2=some r->b9 w vs xs c->C9 X E w s2 s' (fun i=>cx i+c i)->∃ r',K' xs=some r'/\Q r')->∃ r',H6 Y rs s' K'=some r'/\Q r'
 | [],s,cx,K,K',hs,h,hK=>hK [] s [] (fun _=>0) h (by simp [b9]) (hs.less (by simp))
 | .tmp t::l,s,cx,K,K',hs,h,hK=>by
   simp only [aa2] at h
   simp only [H6]
   obtain ⟨v,x,c,h1,h2,h3,h4⟩:=aaY ht hs h
   have hl:look s'.env t=some (.val x):=by
    have:=h4 Value (fun v=>some v)
    simp only [D3,S2] at this
    cases e:look s'.env t with
    | none=>rw [e] at this; cases this
    | some q =>
      rw [e] at this
      cases q<;>simp only at this<;>first | (cases this; done) | skip
      cases this; rfl
   simp only [hl]
   exact aex ht hT h3 h1 fun vs s2 xs d k1 k2 k3=>hK (v::vs) s2 (x::xs) (fun i=>c i+d i) k1 ⟨x,xs,c,d,rfl,h2,k2,by simp⟩ (k3.less (fun i=>by omega))
 | .cell a t::l,s,cx,K,K',hs,h,hK=>by
   simp only [aa2] at h
   simp only [H6]
   rw [ht.tab]
   split at h
   ·rename_i ti hti
    simp only [hti]
    obtain ⟨ce,cl,ch,g⟩:=hs
    split at h
    ·rename_i k hl
     obtain ⟨x,c1,c2,h1,h2,_,_⟩:=g.env.look hl
     cases x<;>simp only [RE] at h2
     obtain ⟨rfl,rfl,_⟩:=h2
     simp only [h1]
     split at h
     ·rename_i cs hcs
      obtain ⟨ws,d1,d2,k1,k2,k3,k4⟩:=g.loc.look hcs
      simp only [k1]
      split at h
      ·rename_i hb
       have hb':Nat.beq ws.length ti.size=true:=by rw [<-k2.len]; exact hb
       simp only [hb']
       have hset:=k4 _ _ _ (b9.strip _ k2)
       rw [afD k1] at hset
       have hst:C9 X E w { s with loc:=L1 s.loc k (l7 cs) } s' (fun i=>cx i+d1 i):=by
        refine ⟨ce,fun i=>0+d2 i,ch,g.hp,g.hw,g.gl,g.fr,g.env,hset,fun j hj=>g.W3 j (acB hj),g.obj,fun i=>?_,fun i hi=>?_,fun i hi=>?_⟩
        ·have:=g.I6 i; have:=k3 i; omega
        ·have:=g.L9 i hi; have:=k3 i; omega
        ·have:=g.J6 i hi; have:=k3 i; omega
       split at h
       ·rename_i hag
        simp only [hag]
        exact aex ht hT hst h fun vs s2 xs d q1 q2 q3=>hK (.agg cs::vs) s2 (.agg ws.toArray::xs) (fun i=>d1 i+d i) q1 ⟨_,xs,d1,d,rfl,by simp only [RV]; exact ⟨ws,rfl,k2⟩,q2,by simp⟩ (q3.less (fun i=>by omega))
       ·rename_i hag
        simp only [hag]
        split at h
        ·rename_i v
         simp only [b9] at k2
         obtain ⟨x,ys,e1,e2,rfl,m1,⟨rfl,m2⟩,m3⟩:=k2
         simp only
         exact aex ht hT hst h fun vs s2 xs d q1 q2 q3=>hK (v::vs) s2 (x::xs) (fun i=>d1 i+d i) q1 ⟨x,xs,d1,d,rfl,m1.congr (fun i=>by rw [m3,m2]; rfl),q2,by simp⟩ (q3.less (fun i=>by omega))
        ·cases h
      ·cases h
     ·cases h
    ·rename_i k off hl
     obtain ⟨x,c1,c2,h1,h2,_,_⟩:=g.env.look hl
     cases x<;>simp only [RE] at h2
     simp only [RV] at h2
     obtain ⟨⟨b,hb1,rfl⟩,_⟩:=h2
     simp only [h1]
     split at h
     ·rename_i cs hcs
      obtain ⟨⟨v,cs2⟩,hld,h⟩:=a7 h
      obtain ⟨b',kb,d1,d2,g1,g2,g3,g4,g5,o2⟩:=g.obj.get hcs (amj hld (hT.pos _ _ hti))
      rw [hb1] at g1; cases g1
      obtain ⟨z,e1,e2,k1,k2,k3,k4⟩:=aip hld g3
      have hload:Y7 s'.hp ti.agg ti.size (.pointer (some ⟨b,off,none⟩))=some z:=by
       simp only [Y7,g.hp,y3 g2 (by rw [o2]; simp),Option.bind_some]; exact k1
      simp only [hload,Option.bind_some]
      have hst:C9 X E w { s with H:=s.H.set k cs2 } s' (fun i=>cx i+e1 i):=by
       refine ⟨ce,cl,fun i=>e2 i+d2 i,g.hp,g.hw,g.gl,g.fr,g.env,g.loc,g.W3,g5 cs2 e2 k3,fun i=>?_,fun i hi=>?_,fun i hi=>?_⟩
       ·have:=g.I6 i; have:=g4 i; have:=k4 i; omega
       ·have:=g.L9 i hi; have:=g4 i; have:=k4 i; omega
       ·have:=g.J6 i hi; have:=g4 i; have:=k4 i; omega
      exact aex ht hT hst h fun vs s2 xs d q1 q2 q3=>hK (v::vs) s2 (z::xs) (fun i=>e1 i+d i) q1 ⟨z,xs,e1,d,rfl,k2,q2,by simp⟩ (q3.less (fun i=>by omega))
     ·cases h
    ·cases h
   ·cases h
theorem alZ {w:Wd}:∀ {args:List V} {xs:List Value} {i:Nat} {pre:List (Nat × EV)} {c:j2},b9 w args xs c->(∀ j,i<=j->look pre j=none)->B3 w (adh i args) (pre++Y5 i xs) c
 | [],xs,i,pre,c,h,hp=>by simp only [b9] at h; simp only [adh,B3]; exact h.2
 | v::args,xs,i,pre,c,h,hp=>by
   simp only [b9] at h
   obtain ⟨x,ys,c1,c2,rfl,h1,h2,h3⟩:=h
   have hpre:∀ {m:List (Nat × EV)} {t:Nat} {pre:List (Nat × EV)},look pre t=none->look (pre++m) t=look m t:=by
    intro m t pre
    induction pre with
    | nil=>intro _; rfl
    | cons a pre ih2 =>
      intro hh
      obtain ⟨a1,a2⟩:=a
      rw [j3] at hh
      split at hh
      ·cases hh
      ·rename_i hq
       simp only [List.cons_append]
       rw [j3,if_neg hq]; exact ih2 hh
   simp only [adh,B3]
   refine ⟨.val x,c1,c2,?_,by simp only [RE]; exact h1,?_,h3⟩
   ·rw [hpre (hp i (Nat.le_refl _))]
    simp only [Y5]
    rw [j3,if_pos rfl]
   ·have e:pre++Y5 i (x::ys)=(pre++[(i,EV.val x)])++Y5 (i+1) ys:=by simp [Y5]
    rw [e]
    refine alZ h2 fun j hj=>?_
    rw [hpre (hp j (by omega)),j3,if_neg (by omega)]; rfl
def aqS (X:XV) (E:En) (r:V) (H':VH) (q:Value × Heap):Prop :=
 ∃ (w2:Wd) (cr ch':j2),q.2=w2.hp/\HW w2/\E6 X w2/\B8 E w2/\RV w2 r q.1 cr/\p6 w2 H' w2.c9 ch'/\(∀ i,cr i+ch' i<=1)/\(∀ i,i<E.hp.length->cr i+ch' i<=E.c0 i)/\(∀ i,w2.hp.length<=i->cr i+ch' i=0)
theorem arQ (ht:Twin X Y) (hT:Z3 X) (hcall:∀ f args H r H',X.call f args H=some (r,H')->A7 X Y.call f args H r H') (hlp:aou X.lp) (hlq:auV Y.lp)
 {f:FuncId} {args:List V} {H H':VH} {r:V} (h:abH X f args H=some (r,H')):A7 X (aau Y) f args H r H':=by
 intro w args' ca ch hw hg hv ho hle hbig
 unfold abH at h
 unfold aau
 rw [ht.fn,ht.I8]
 split at h
 ·cases h
 ·rename_i fn hfn
  simp only [hfn]
  split at h
  ·cases h
  ·rename_i c hc
   simp only [hc]
   split at h
   ·rename_i hd
    simp only [hd]
    have hfr:B8 ⟨w.hp,w.c9,w.fb,fun i=>ca i+ch i⟩ w:=by
     refine ⟨Nat.le_refl _,fun _ _ h _ _=>h,fun b k hk _=>⟨k,hk,rfl,rfl,rfl,.inl rfl⟩,fun c k hc hk=>?_,⟨[],by simp,by simp⟩,⟨[],by simp,by simp⟩,fun b k hb hk=>?_,fun b kb hk=>⟨kb,hk,rfl,rfl⟩,hw.X6,hw.j1⟩
     ·have:=(List.getElem?_eq_some_iff.1 hk).1; simp only at hc; omega
     ·simp only at hb
      by_cases q:1<=ca b
      ·obtain ⟨_,_,kb,a1,_,a3⟩:=b9.owned _ hv b q
       have a1':=(j5 a1).1
       rw [hk] at a1'; cases a1'; exact a3
      ·obtain ⟨kb,a1,a3⟩:=p6.afF ho b (by omega)
       rw [hk] at a1; cases a1; exact a3
    have henv:B3 w (adh 0 args) (Y5 0 args') ca:=by
     have:=alZ (pre:=[]) (i:=0) hv (fun _ _=>rfl)
     simpa using this
    have hst:St0 X ⟨w.hp,w.c9,w.fb,fun i=>ca i+ch i⟩ ⟨adh 0 args,[],H⟩ ⟨Y5 0 args',[],w.hp⟩ :=
     ⟨w,ca,fun _=>0,ch,rfl,hw,hg,hfr,henv,by simp [I3],fun _ _=>rfl,ho,fun i=>by have:=hle i; omega,fun i hi=>by simp,fun i hi=>by have:=hbig i hi; omega⟩
    obtain ⟨⟨x,hp2⟩,h1,w2,cr,ch',q2,p2,q3,q4,q5,q6,q7,q8,q9⟩:=N3 ht hT hcall hlp hlq c (Y:=Y) (K':=fun e st=>match e with
     | .normal | .ret=>H6 Y fn.results.toList st fun vs=>some (one vs,st.hp)
     | _=>none) (Q:=aqS X ⟨w.hp,w.c9,w.fb,fun i=>ca i+ch i⟩ r H') hst h (fun e s s' h hs=>by
       have fin:aa2 X fn.results.toList s (fun vs st=>some (amm vs,st.H))=some (r,H')->∃ r',(H6 Y fn.results.toList s' fun vs=>some (one vs,s'.hp))=some r'/\aqS X ⟨w.hp,w.c9,w.fb,fun i=>ca i+ch i⟩ r H' r':=by
        intro h
        obtain ⟨w2,hs⟩:=hs
        refine aex ht hT hs h fun vs s2 xs c k1 k2 k3=>?_
        cases k1
        obtain ⟨ce,cl,ch2,g⟩:=k3
        refine ⟨_,rfl,w2,c,ch2,g.hp,g.hw,g.gl,g.fr,?_,g.obj,fun i=>by have:=g.I6 i; omega,fun i hi=>by have:=g.L9 i hi; show c i+ch2 i<=ca i+ch i; simp only at this; omega,fun i hi=>by have:=g.J6 i hi; omega⟩
        have hl:=k2.len
        match vs,xs,k2,hl with
        | [],[],k2,_=>simp only [amm,one,RV]; exact ⟨[],rfl,k2⟩
        | [v],[x],k2,_ =>
          simp only [b9] at k2
          obtain ⟨x',ys,e1,e2,h1,m1,⟨rfl,m2⟩,m3⟩:=k2
          cases h1
          exact m1.congr (fun i=>by rw [m3,m2]; rfl)
        | a::b::l,x::y::m,k2,_=>simp only [amm,one,RV]; exact ⟨_,rfl,k2⟩
       cases e<;>simp only at h ⊢<;>first | exact fin h | cases h)
    simp only at q2
    subst q2
    exact ⟨x,w2,cr,ch',h1,p2,q3,q4,q5,q6,q7,q8,q9⟩
   ·cases h
end
end Go.AM

/- What an operation of the machine of values asks of the calls behind it. -/
namespace Go.AM
set_option linter.unusedSimpArgs false
set_option linter.unusedVariables false
def XV.over (X:XV) (call:w6) (lp:O6):XV:={ X with call:=call,lp:=lp }
section
variable {R:Type} {X:XV} {st:VS} {r:R}
theorem aax {x:Operand} {K:VE->Option R} (h:X7 X st x K=some r):∃ e,K e=some r/\∀ (c:w6) (l:O6) (R':Type) (K':VE->Option R'),X7 (X.over c l) st x K'=K' e:=by
 cases x with
 | tmp t =>
   simp only [X7] at h
   cases e:look st.env t with
   | none=>rw [e] at h; cases h
   | some e'=>rw [e] at h; exact ⟨e',h,fun c l R' K'=>by simp only [X7,e]⟩
 | const v =>
   simp only [X7] at h
   split at h
   ·exact ⟨_,h,fun c l R' K'=>rfl⟩
   ·rename_i hv
    split at h
    ·rename_i hp
     refine ⟨_,h,fun c l R' K'=>?_⟩
     simp only [X7,hp]
    ·cases h
 | global g =>
   simp only [X7] at h
   cases e:Nat.blt g X.ng with
   | true=>rw [e] at h; exact ⟨_,h,fun c l R' K'=>by show X7 _ _ _ _=_; simp only [X7,XV.over,e]⟩
   | false=>rw [e] at h; cases h
 | func f=>exact ⟨_,h,fun c l R' K'=>rfl⟩
theorem B7 {x:Operand} {K:V->Option R} (h:I0 X st x K=some r):∃ v,K v=some r/\∀ (c:w6) (l:O6) (R':Type) (K':V->Option R'),I0 (X.over c l) st x K'=K' v:=by
 obtain ⟨e,hk,he⟩:=aax h
 cases e with
 | val v=>exact ⟨v,hk,fun c l R' K'=>by unfold I0; rw [he]⟩
 | fl xs=>exact ⟨_,hk,fun c l R' K'=>by unfold I0; rw [he]⟩
 | loc k o=>cases hk
 | B4=>cases hk
theorem adr {x:Operand} {K:V->VS->Option R} (h:vtV X st x K=some r):∃ v,K v (used st x)=some r/\∀ (c:w6) (l:O6) (R':Type) (K':V->VS->Option R'),vtV (X.over c l) st x K'=K' v (used st x):=by
 obtain ⟨v,h1,h2⟩:=B7 (K:=fun v=>K v (used st x)) h
 exact ⟨v,h1,fun c l R' K'=>h2 c l R' fun v=>K' v (used st x)⟩
theorem ad2:∀ {xs:List Operand} {K:List V->Option R},adM X st xs K=some r->∃ vs,K vs=some r/\∀ (c:w6) (l:O6) (R':Type) (K':List V->Option R'),adM (X.over c l) st xs K'=K' vs
 | [],K,h=>⟨[],h,fun _ _ _ _=>rfl⟩
 | x::xs,K,h=>by
   obtain ⟨v,h,hv⟩:=B7 h
   obtain ⟨vs,h,hvs⟩:=ad2 h
   exact ⟨v::vs,h,fun c l R' K'=>by simp only [adM,hv,hvs]⟩
theorem ak5 {x:Option Operand} {K:Option V->Option R} (h:voV X st x K=some r):∃ v,K v=some r/\∀ (c:w6) (l:O6) (R':Type) (K':Option V->Option R'),voV (X.over c l) st x K'=K' v:=by
 cases x with
 | none=>exact ⟨none,h,fun _ _ _ _=>rfl⟩
 | some x =>
   obtain ⟨v,h,hv⟩:=B7 h
   exact ⟨some v,h,fun c l R' K'=>by simp only [voV,hv]⟩
theorem ajA {mv:List Nat}:∀ {xs:List Operand} {i:Nat} {st:VS} {K:List V->VS->Option R},abJ X mv i xs st K=some r->∃ vs s2,K vs s2=some r/\∀ (c:w6) (l:O6) (R':Type) (K':List V->VS->Option R'),abJ (X.over c l) mv i xs st K'=K' vs s2
 | [],i,st,K,h=>⟨[],st,h,fun _ _ _ _=>rfl⟩
 | x::xs,i,st,K,h=>by
   simp only [abJ] at h
   obtain ⟨v,h,hv⟩:=B7 h
   split at h
   ·rename_i hm
    obtain ⟨vs,s2,h,hvs⟩:=ajA h
    exact ⟨v::vs,s2,h,fun c l R' K'=>by simp only [abJ,hv,hm,hvs]⟩
   ·rename_i hm
    obtain ⟨vs,s2,h,hvs⟩:=ajA h
    exact ⟨strip v::vs,s2,h,fun c l R' K'=>by simp only [abJ,hv,hm,hvs]⟩
theorem af1 {agg:Bool} {n:Nat} {v:V} {K:List V->Option R} (h:U7 agg n v K=some r):∃ cs,K cs=some r/\∀ (R':Type) (K':List V->Option R'),U7 agg n v K'=K' cs:=by
 cases agg with
 | true =>
   simp only [U7] at h
   obtain ⟨cs,h1,h⟩:=a7 h
   exact ⟨_,h,fun R' K'=>by simp only [U7,h1,Option.bind_some]⟩
 | false =>
   simp only [U7] at h
   obtain ⟨u,h1,h⟩:=a7 h
   exact ⟨_,h,fun R' K'=>by simp only [U7,h1,Option.bind_some]⟩
theorem adF {place:Nat->Option (Nat × Nat × Bool)}:∀ {ps:List (Nat × Operand)} {cells:List V} {st:VS} {K:List V->VS->Option R},aar X place ps cells st K=some r →
 ∃ cs s2,K cs s2=some r/\∀ (c:w6) (l:O6) (R':Type) (K':List V->VS->Option R'),aar (X.over c l) place ps cells st K'=K' cs s2
 | [],cells,st,K,h=>⟨cells,st,h,fun _ _ _ _=>rfl⟩
 | (i,x)::rest,cells,st,K,h=>by
   simp only [aar] at h
   cases e:place i with
   | none=>rw [e] at h; cases h
   | some p =>
     obtain ⟨off,n,agg⟩:=p
     rw [e] at h
     simp only at h
     cases hb:Nat.ble (off+n) cells.length with
     | false=>rw [hb] at h; cases h
     | true =>
       rw [hb] at h
       obtain ⟨v,h,hv⟩:=adr h
       obtain ⟨cs,h,hcs⟩:=af1 h
       cases hb2:Nat.ble (off+cs.length) cells.length with
       | false=>rw [hb2] at h; cases h
       | true =>
         rw [hb2] at h
         obtain ⟨cells',s2,h,hp⟩:=adF h
         exact ⟨cells',s2,h,fun c l R' K'=>by simp only [aar,e,hb,hv,hcs,hb2,hp]⟩
end
def atl (X:XV) (A:M5) (T:List Nat) (o:Oper) (st:VS) {R:Type} (K:VE->VS->A8->Option R) (r:R):Prop :=
 (∃ e s2 c,K e s2 c=some r/\∀ (cl:w6) (l:O6) (R':Type) (K':VE->VS->A8->Option R'),y8 (X.over cl l) A T o st K'=K' e s2 c) ∨
 (∃ (f:FuncId) (vs:List V) (s2:VS) (res:V × VH),X.call f vs s2.H=some res/\K (.val res.1) { s2 with H:=res.2 } .W=some r/\∀ (cl:w6) (l:O6) (R':Type) (K':VE->VS->A8->Option R'),y8 (X.over cl l) A T o st K'=(cl f vs s2.H).bind fun r=>K' (.val r.1) { s2 with H:=r.2 } .W) ∨
 (∃ (f:FuncId) (vs:List V) (res:V × VH) (e:VE) (s2:VS) (c:A8),X.call f vs []=some res/\K e s2 c=some r/\∀ (cl:w6) (l:O6) (R':Type) (K':VE->VS->A8->Option R'),cl f vs []=some res->y8 (X.over cl l) A T o st K'=K' e s2 c)
theorem abO {c:w6} {f:FuncId} {vs:List V} {v:V} (h:P7 c f vs=some v):∃ res,c f vs []=some res/\∀ c':w6,c' f vs []=some res->P7 c' f vs=some v:=by
 unfold P7 at h ⊢
 split at h
 ·rename_i hn
  obtain ⟨res,h1,h2⟩:=a7 h
  exact ⟨res,h1,fun c' h3=>by rw [h3]; exact h2⟩
 ·cases h
theorem ah5 {c:w6} {f:FuncId} {vs:List V} {v:V} (h:V7 c f vs=some v):∃ res,c f vs []=some res/\∀ c':w6,c' f vs []=some res->V7 c' f vs=some v:=by
 unfold V7 at h ⊢
 split at h
 ·rename_i hn
  obtain ⟨res,h1,h2⟩:=a7 h
  exact ⟨res,h1,fun c' h3=>by rw [h3]; exact h2⟩
 ·cases h
theorem aof {c:w6} {f:FuncId} {H:VH} {vs:List V} {v:V} (h:aaH c f H vs=some v):∃ az res,c f az []=some res/\∀ c':w6,c' f az []=some res->aaH c' f H vs=some v:=by
 unfold aaH at h
 split at h
 ·rename_i hn
  obtain ⟨res,h1,h2⟩:=abO h
  exact ⟨_,res,h1,fun c' h3=>by unfold aaH; rw [hn]; exact h2 c' h3⟩
 ·rename_i hn
  obtain ⟨res,h1,h2⟩:=abO h
  exact ⟨_,res,h1,fun c' h3=>by unfold aaH; rw [hn]; exact h2 c' h3⟩
theorem aoj {c:w6} {f:FuncId} {H:VH} {vs:List V} {v:V} (h:abi c f H vs=some v):∃ az res,c f az []=some res/\∀ c':w6,c' f az []=some res->abi c' f H vs=some v:=by
 unfold abi at h
 obtain ⟨res,h1,h2⟩:=abO h
 exact ⟨_,res,h1,fun c' h3=>by unfold abi; exact h2 c' h3⟩
theorem aqf {c:w6} {f:FuncId} {H:VH} {vs:List V} {v:V} (h:ab6 c f H vs=some v):∃ az res,c f az []=some res/\∀ c':w6,c' f az []=some res->ab6 c' f H vs=some v:=by
 unfold ab6 at h
 split at h
 ·rename_i hn
  obtain ⟨res,h1,h2⟩:=ah5 h
  exact ⟨_,res,h1,fun c' h3=>by unfold ab6; rw [hn]; exact h2 c' h3⟩
 ·rename_i hn
  obtain ⟨u,hu,h⟩:=a7 h
  obtain ⟨res,h1,h2⟩:=ah5 hu
  exact ⟨_,res,h1,fun c' h3=>by unfold ab6; rw [hn]; simp only [h2 c' h3,Option.bind_some]; exact h⟩
theorem aqp {u:Bool} {c:w6} {f:FuncId} {H:VH} {vs:List V} {v:V} (h:agt u c f H vs=some v):∃ az res,c f az []=some res/\∀ c':w6,c' f az []=some res->agt u c' f H vs=some v:=by
 cases u with
 | false=>exact aqf h
 | true =>
   simp only [agt,ajt] at h ⊢
   split at h
   ·rename_i hn
    obtain ⟨res,h1,h2⟩:=a7 h
    exact ⟨_,res,h1,fun c' h3=>by rw [h3]; exact h2⟩
   ·cases h
theorem aqM {c:w6} {f:FuncId} {H:VH} {vs:List V} {v:V × VH} (h:aaV c f H vs=some v):∃ az res,c f az []=some res/\∀ c':w6,c' f az []=some res->aaV c' f H vs=some v:=by
 unfold aaV at h ⊢
 split at h
 ·obtain ⟨res,h1,h2⟩:=a7 h
  exact ⟨_,res,h1,fun c' h3=>by rw [h3]; exact h2⟩
 ·cases h
theorem alN {R:Type} {d:Nat} {v:V} {H:VH} {K:V->VH->Option R} {r:R} (h:ae4 d v H K=some r):K (prom d H v).1 (prom d H v).2=some r/\∀ (R':Type) (K':V->VH->Option R'),ae4 d v H K'=K' (prom d H v).1 (prom d H v).2:=by
 unfold ae4 at h ⊢
 split at h
 ·rename_i ho
  exact ⟨h,fun R' K'=>rfl⟩
 ·cases h
section
variable {X:XV} {A:M5} {T:List Nat} {R:Type} {K:VE->VS->A8->Option R} {r:R} {o:Oper} {st:VS}
theorem o6 (X:XV) (c:w6) (l:O6):(X.over c l).tab=X.tab:=rfl
theorem K1 (X:XV) (c:w6) (l:O6):(X.over c l).kind=X.kind:=rfl
theorem apJ (X:XV) (c:w6) (l:O6):(X.over c l).ext=X.ext:=rfl
theorem arX (X:XV) (c:w6) (l:O6):(X.over c l).mv=X.mv:=rfl
theorem ajr (X:XV) (c:w6) (l:O6):(X.over c l).D0=X.D0:=rfl
theorem H8 (X:XV) (c:w6) (l:O6):(X.over c l).call=c:=rfl
set_option maxHeartbeats 4000000 in
theorem arS (h:y8 X A T o st K=some r):atl X A T o st K r:=by
 unfold y8 at h
 cases hop:o.op with
 | move x =>
   simp only [hop] at h
   split at h
   ·rename_i ht
    obtain ⟨e,h,he⟩:=aax h
    exact .inl ⟨_,_,_,h,fun cl l R' K'=>by unfold y8; simp only [hop,ht,he]⟩
   ·rename_i ht
    obtain ⟨e,h,he⟩:=aax h
    exact .inl ⟨_,_,_,h,fun cl l R' K'=>by unfold y8; simp only [hop,ht,he]⟩
 | assign x =>
   simp only [hop] at h
   split at h
   ·rename_i ht
    obtain ⟨e,h,he⟩:=aax h
    exact .inl ⟨_,_,_,h,fun cl l R' K'=>by unfold y8; simp only [hop,ht,he]⟩
   ·rename_i ht
    obtain ⟨e,h,he⟩:=aax h
    exact .inl ⟨_,_,_,h,fun cl l R' K'=>by unfold y8; simp only [hop,ht,he]⟩
 | pick c x y =>
   simp only [hop] at h
   obtain ⟨vc,h,hc⟩:=B7 h
   obtain ⟨ex,h,hx⟩:=aax h
   obtain ⟨ey,h,hy⟩:=aax h
   split at h
   ·rcases aaI h with ⟨rfl,h⟩ | ⟨rfl,h⟩
    ·cases h
    ·exact .inl ⟨_,_,_,h,fun cl l R' K'=>by unfold y8; simp only [hop,hc,hx,hy,l9]⟩
   ·rcases aaI h with ⟨rfl,h⟩ | ⟨rfl,h⟩
    ·exact .inl ⟨_,_,_,h,fun cl l R' K'=>by unfold y8; simp only [hop,hc,hx,hy,l9]⟩
    ·cases h
   ·obtain ⟨v,hv,h⟩:=a7 h
    exact .inl ⟨_,_,_,h,fun cl l R' K'=>by unfold y8; simp only [hop,hc,hx,hy,hv,Option.bind_some]⟩
   ·cases h
 | alloc elem =>
   simp only [hop] at h
   split at h
   ·rename_i ti d ht hd
    split at h
    ·rename_i hm
     split at h
     ·rename_i hl
      exact .inl ⟨_,_,_,h,fun cl l R' K'=>by unfold y8; simp only [hop,o6,ht,hd,hm,hl]⟩
     ·cases h
    ·rename_i hm
     exact .inl ⟨_,_,_,h,fun cl l R' K'=>by unfold y8; simp only [hop,o6,ht,hd,hm]⟩
   ·cases h
 | box elem x =>
   simp only [hop] at h
   split at h
   ·rename_i ti d ht hd
    obtain ⟨v,h,hv⟩:=adr h
    obtain ⟨cs,h,hcs⟩:=af1 h
    split at h
    ·rename_i hm
     split at h
     ·rename_i hl
      exact .inl ⟨_,_,_,h,fun cl l R' K'=>by unfold y8; simp only [hop,o6,ht,hd,hm,hl,hv,hcs]⟩
     ·cases h
    ·rename_i hm
     exact .inl ⟨_,_,_,h,fun cl l R' K'=>by unfold y8; simp only [hop,o6,ht,hd,hm,hv,hcs]⟩
   ·cases h
 | build t parts =>
   simp only [hop] at h
   split at h
   ·rename_i ht
    obtain ⟨cells',s2,h,hp⟩:=adF h
    exact .inl ⟨_,_,_,h,fun cl l R' K'=>by unfold y8; simp only [hop,o6,ht,hp]⟩
   ·rename_i ht
    obtain ⟨cells',s2,h,hp⟩:=adF h
    exact .inl ⟨_,_,_,h,fun cl l R' K'=>by unfold y8; simp only [hop,o6,ht,hp]⟩
   ·cases h
 | buildSlice t len parts =>
   simp only [hop] at h
   split at h
   ·rename_i ht
    split at h
    ·rename_i te hte
     split at h
     ·rename_i hb
      obtain ⟨cells',s2,h,hp⟩:=adF h
      exact .inl ⟨_,_,_,h,fun cl l R' K'=>by unfold y8; simp only [hop,o6,ht,hte,hb,hp]⟩
     ·cases h
    ·cases h
   ·cases h
 | load t x =>
   simp only [hop] at h
   split at h
   ·rename_i ti ht
    obtain ⟨e,h,he⟩:=aax h
    split at h
    ·split at h
     ·rename_i cs hk
      obtain ⟨c,hc,h⟩:=a7 h
      exact .inl ⟨_,_,_,h,fun cl l R' K'=>by unfold y8; simp only [hop,o6,ht,he,hk,hc,Option.bind_some]⟩
     ·cases h
    ·obtain ⟨c,hc,h⟩:=a7 h
     exact .inl ⟨_,_,_,h,fun cl l R' K'=>by unfold y8; simp only [hop,o6,ajr,ht,he,hc,Option.bind_some]⟩
    ·cases h
   ·cases h
 | store t x y =>
   simp only [hop] at h
   split at h
   ·rename_i ti ht
    obtain ⟨e,h,he⟩:=aax h
    obtain ⟨v,h,hv⟩:=adr h
    obtain ⟨cs,h,hcs⟩:=af1 h
    split at h
    ·split at h
     ·rename_i p7 hk
      split at h
      ·rename_i hb
       exact .inl ⟨_,_,_,h,fun cl l R' K'=>by unfold y8; simp only [hop,o6,ht,he,hv,hcs,hk,hb]⟩
      ·cases h
     ·cases h
    ·obtain ⟨H2,hh,h⟩:=a7 h
     exact .inl ⟨_,_,_,h,fun cl l R' K'=>by unfold y8; simp only [hop,o6,ht,he,hv,hcs,hh,Option.bind_some]⟩
    ·cases h
   ·cases h
 | nilCheck x =>
   simp only [hop] at h
   obtain ⟨e,h,he⟩:=aax h
   split at h
   ·exact .inl ⟨_,_,_,h,fun cl l R' K'=>by unfold y8; simp only [hop,he]⟩
   ·obtain ⟨v,hv,h⟩:=a7 h
    exact .inl ⟨_,_,_,h,fun cl l R' K'=>by unfold y8; simp only [hop,he,hv,Option.bind_some]⟩
   ·cases h
 | binOp op t x y yt =>
   simp only [hop] at h
   split at h
   ·rename_i ti ht
    split at h
    ·rename_i hn
     obtain ⟨a,h,ha⟩:=B7 h
     obtain ⟨v,hv,h⟩:=a7 h
     exact .inl ⟨_,_,_,h,fun cl l R' K'=>by unfold y8; simp only [hop,o6,ht,hn,ha,hv,Option.bind_some]⟩
    ·rename_i hn
     obtain ⟨a,h,ha⟩:=B7 h
     obtain ⟨b,h,hb⟩:=B7 h
     obtain ⟨v,hv,h⟩:=a7 h
     exact .inl ⟨_,_,_,h,fun cl l R' K'=>by unfold y8; simp only [hop,o6,ht,hn,ha,hb,hv,Option.bind_some]⟩
   ·cases h
 | unOp op t x =>
   simp only [hop] at h
   obtain ⟨a,h,ha⟩:=B7 h
   obtain ⟨v,hv,h⟩:=a7 h
   exact .inl ⟨_,_,_,h,fun cl l R' K'=>by unfold y8; simp only [hop,ha,hv,Option.bind_some]⟩
 | convert src dst x =>
   simp only [hop] at h
   split at h
   ·rename_i ts td hts htd
    obtain ⟨va,h,ha⟩:=B7 h
    split at h
    ·rename_i k k' hk hk'
     obtain ⟨v,hv,h⟩:=a7 h
     exact .inl ⟨_,_,_,h,fun cl l R' K'=>by unfold y8; simp only [hop,o6,hts,htd,ha,hk,hk',hv,Option.bind_some]⟩
    ·rename_i hk hk'
     obtain ⟨v,hv,h⟩:=a7 h
     exact .inl ⟨_,_,_,h,fun cl l R' K'=>by unfold y8; simp only [hop,o6,hts,htd,ha,hk,hk',hv,Option.bind_some]⟩
    ·rename_i hk hk'
     split at h
     ·rename_i hte
      obtain ⟨v,hv,h⟩:=a7 h
      exact .inl ⟨_,_,_,h,fun cl l R' K'=>by unfold y8; simp only [hop,o6,hts,htd,ha,hk,hk',hte,hv,Option.bind_some]⟩
     ·cases h
    ·rename_i hk hk'
     split at h
     ·rename_i hte
      obtain ⟨v,hv,h⟩:=a7 h
      exact .inl ⟨_,_,_,h,fun cl l R' K'=>by unfold y8; simp only [hop,o6,hts,htd,ha,hk,hk',hte,hv,Option.bind_some]⟩
     ·cases h
    ·cases h
   ·cases h
 | makeFunc fn first captured =>
   simp only [hop] at h
   cases hz:first.size with
   | zero =>
     simp only [hz] at h
     split at h
     ·obtain ⟨vs,h,hvs⟩:=ad2 h
      exact .inl ⟨_,_,_,h,fun cl l R' K'=>by unfold y8; simp only [hop,hz,hvs]⟩
     ·cases h
   | succ n=>simp only [hz] at h; cases h
 | makeSlice t l c =>
   simp only [hop] at h
   split at h
   ·rename_i ht
    obtain ⟨vl,h,hl⟩:=B7 h
    obtain ⟨vc,h,hc⟩:=B7 h
    obtain ⟨n,hn,h⟩:=a7 h
    exact .inl ⟨_,_,_,h,fun cl l R' K'=>by unfold y8; simp only [hop,o6,ht,hl,hc,hn,Option.bind_some]⟩
   ·cases h
 | slice t x lo hi mx =>
   simp only [hop] at h
   split at h
   ·rename_i ht
    obtain ⟨v,h,hv⟩:=B7 h
    obtain ⟨l,h,hl⟩:=ak5 h
    obtain ⟨k,h,hk⟩:=ak5 h
    split at h
    ·obtain ⟨u,hu,h⟩:=a7 h
     exact .inl ⟨_,_,_,h,fun cl l R' K'=>by unfold y8; simp only [hop,o6,ht,hv,hl,hk,hu,Option.bind_some]⟩
    ·cases h
   ·rename_i ht
    obtain ⟨v,h,hv⟩:=B7 h
    split at h
    ·obtain ⟨l,h,hl⟩:=ak5 h
     obtain ⟨k,h,hk⟩:=ak5 h
     obtain ⟨u,hu,h⟩:=a7 h
     exact .inl ⟨_,_,_,h,fun cl l R' K'=>by unfold y8; simp only [hop,o6,ht,hv,hl,hk,hu,Option.bind_some]⟩
    ·obtain ⟨l,h,hl⟩:=B7 h
     obtain ⟨k,h,hk⟩:=B7 h
     obtain ⟨m,h,hm⟩:=B7 h
     obtain ⟨u,hu,h⟩:=a7 h
     exact .inl ⟨_,_,_,h,fun cl l R' K'=>by unfold y8; simp only [hop,o6,ht,hv,hl,hk,hm,hu,Option.bind_some]⟩
    ·cases h
   ·rename_i ht
    split at h
    ·obtain ⟨v,h,hv⟩:=B7 h
     obtain ⟨u,hu,h⟩:=a7 h
     exact .inl ⟨_,_,_,h,fun cl l R' K'=>by unfold y8; simp only [hop,o6,ajr,ht,hv,hu,Option.bind_some]⟩
    ·cases h
   ·cases h
 | fieldAddr t x f =>
   simp only [hop] at h
   split at h
   ·rename_i ht
    split at h
    ·rename_i off n agg hf
     obtain ⟨e,h,he⟩:=aax h
     split at h
     ·exact .inl ⟨_,_,_,h,fun cl l R' K'=>by unfold y8; simp only [hop,o6,ht,hf,he]⟩
     ·obtain ⟨v,hv,h⟩:=a7 h
      exact .inl ⟨_,_,_,h,fun cl l R' K'=>by unfold y8; simp only [hop,o6,ht,hf,he,hv,Option.bind_some]⟩
     ·cases h
    ·cases h
   ·cases h
 | field t x f =>
   simp only [hop] at h
   split at h
   ·rename_i ht
    split at h
    ·rename_i off m agg hf
     obtain ⟨v,h,hv⟩:=B7 h
     obtain ⟨cs,hcs,h⟩:=a7 h
     split at h
     ·obtain ⟨c,hc,h⟩:=a7 h
      exact .inl ⟨_,_,_,h,fun cl l R' K'=>by unfold y8; simp only [hop,o6,ht,hf,hv,hcs,hc,Option.bind_some]⟩
     ·obtain ⟨c,hc,h⟩:=a7 h
      exact .inl ⟨_,_,_,h,fun cl l R' K'=>by unfold y8; simp only [hop,o6,ht,hf,hv,hcs,hc,Option.bind_some]⟩
    ·cases h
   ·cases h
 | indexAddr t x i =>
   simp only [hop] at h
   split at h
   ·rename_i ht
    obtain ⟨v,h,hv⟩:=B7 h
    obtain ⟨j,h,hj⟩:=B7 h
    obtain ⟨u,hu,h⟩:=a7 h
    exact .inl ⟨_,_,_,h,fun cl l R' K'=>by unfold y8; simp only [hop,o6,ht,hv,hj,hu,Option.bind_some]⟩
   ·rename_i ht
    obtain ⟨v,h,hv⟩:=B7 h
    obtain ⟨j,h,hj⟩:=B7 h
    obtain ⟨u,hu,h⟩:=a7 h
    exact .inl ⟨_,_,_,h,fun cl l R' K'=>by unfold y8; simp only [hop,o6,ht,hv,hj,hu,Option.bind_some]⟩
   ·cases h
 | index t x i =>
   simp only [hop] at h
   split at h
   ·rename_i ht
    obtain ⟨v,h,hv⟩:=B7 h
    obtain ⟨j,h,hj⟩:=B7 h
    obtain ⟨u,hu,h⟩:=a7 h
    exact .inl ⟨_,_,_,h,fun cl l R' K'=>by unfold y8; simp only [hop,o6,ht,hv,hj,hu,Option.bind_some]⟩
   ·rename_i ht
    obtain ⟨v,h,hv⟩:=B7 h
    obtain ⟨j,h,hj⟩:=B7 h
    obtain ⟨u,hu,h⟩:=a7 h
    exact .inl ⟨_,_,_,h,fun cl l R' K'=>by unfold y8; simp only [hop,o6,ht,hv,hj,hu,Option.bind_some]⟩
   ·cases h
 | extract x i =>
   simp only [hop] at h
   split at h
   ·rename_i t
    obtain ⟨v,h,hv⟩:=B7 h
    obtain ⟨u,hu,h⟩:=a7 h
    split at h
    ·rename_i hm
     exact .inl ⟨_,_,_,h,fun cl l R' K'=>by unfold y8; simp only [hop,hv,hu,hm,Option.bind_some]⟩
    ·rename_i hm
     exact .inl ⟨_,_,_,h,fun cl l R' K'=>by unfold y8; simp only [hop,hv,hu,hm,Option.bind_some]⟩
   ·cases h
 | call c =>
   simp only [hop] at h
   split at h
   ·rename_i hcal
    split at h
    ·rename_i x t hargs htys
     split at h
     ·rename_i ht
      obtain ⟨v,h,hv⟩:=B7 h
      obtain ⟨u,hu,h⟩:=a7 h
      exact .inl ⟨_,_,_,h,fun cl l R' K'=>by unfold y8; simp only [hop,o6,hcal,hargs,htys,ht,hv,hu,Option.bind_some]⟩
     ·rename_i ht
      obtain ⟨v,h,hv⟩:=B7 h
      obtain ⟨u,hu,h⟩:=a7 h
      exact .inl ⟨_,_,_,h,fun cl l R' K'=>by unfold y8; simp only [hop,o6,hcal,hargs,htys,ht,hv,hu,Option.bind_some]⟩
     ·cases h
    ·cases h
   ·rename_i hcal
    split at h
    ·rename_i x y hargs
     obtain ⟨v,h,hv⟩:=B7 h
     obtain ⟨u,h,hu⟩:=B7 h
     obtain ⟨m,hm,h⟩:=a7 h
     exact .inl ⟨_,_,_,h,fun cl l R' K'=>by unfold y8; simp only [hop,o6,hcal,hargs,hv,hu,hm,Option.bind_some]⟩
    ·cases h
   ·rename_i hcal
    split at h
    ·rename_i x y t u d hargs htys hdst
     split at h
     ·rename_i ht hu
      split at h
      ·rename_i b hku
       split at h
       ·rename_i hm
        obtain ⟨e,h,he⟩:=aax h
        obtain ⟨v,h,hv⟩:=adr h
        split at h
        ·obtain ⟨q,hq,h⟩:=a7 h
         exact .inl ⟨_,_,_,h,fun cl l R' K'=>by unfold y8; simp only [hop,o6,hcal,hargs,htys,hdst,ht,hu,hku,he,hv,hm,hq,Option.bind_some]⟩
        ·cases h
       ·rename_i hm
        split at h
        ·rename_i hfl
         obtain ⟨s,h,hs⟩:=adr h
         obtain ⟨v,h,hv⟩:=adr h
         obtain ⟨q,hq,h⟩:=a7 h
         rw [hdst] at hfl hq
         exact .inl ⟨_,_,_,h,fun cl l R' K'=>by unfold y8; simp only [hop,o6,hcal,hargs,htys,hdst,ht,hu,hku,hs,hv,hm,hfl,hq,Option.bind_some]⟩
        ·rename_i hfl
         obtain ⟨s,h,hs⟩:=adr h
         obtain ⟨v,h,hv⟩:=adr h
         obtain ⟨xs,hxs,h⟩:=a7 h
         obtain ⟨q,hq,h⟩:=a7 h
         rw [hdst] at hfl
         exact .inl ⟨_,_,_,h,fun cl l R' K'=>by unfold y8; simp only [hop,o6,hcal,hargs,htys,hdst,ht,hu,hku,hs,hv,hxs,hm,hfl,hq,Option.bind_some]⟩
      ·cases h
     ·cases h
    ·cases h
   ·rename_i f hcal
    split at h
    ·rename_i hk
     obtain ⟨vs,s2,h,hvs⟩:=ajA h
     obtain ⟨q,hq,h⟩:=a7 h
     exact .inr (.inl ⟨_,_,_,_,hq,h,fun cl l R' K'=>by unfold y8; simp only [hop,hcal,arX,hvs,K1,hk,H8]⟩)
    ·rename_i hk
     obtain ⟨vs,h,hvs⟩:=ad2 h
     split at h
     ·rename_i hfl
      split at h
      ·rename_i hf7
       obtain ⟨q,hq,h⟩:=a7 h
       obtain ⟨az,res,h1,h2⟩:=aoj hq
       exact .inr (.inr ⟨_,_,_,_,_,_,h1,h,fun cl l R' K' h3=>by unfold y8; simp only [hop,hcal,hvs,K1,hk,H8,hfl,hf7,h2 cl h3,Option.bind_some]⟩)
      ·rename_i hf7
       obtain ⟨q,hq,h⟩:=a7 h
       obtain ⟨az,res,h1,h2⟩:=aof hq
       exact .inr (.inr ⟨_,_,_,_,_,_,h1,h,fun cl l R' K' h3=>by unfold y8; simp only [hop,hcal,hvs,K1,hk,H8,hfl,hf7,h2 cl h3,Option.bind_some]⟩)
     ·rename_i hfl
      obtain ⟨q,hq,h⟩:=a7 h
      obtain ⟨res,h1,h2⟩:=abO hq
      exact .inr (.inr ⟨_,_,_,_,_,_,h1,h,fun cl l R' K' h3=>by unfold y8; simp only [hop,hcal,hvs,K1,hk,H8,hfl,h2 cl h3,Option.bind_some]⟩)
    ·rename_i hk
     obtain ⟨vs,h,hvs⟩:=ad2 h
     split at h
     ·rename_i hfl
      split at h
      ·rename_i hf6
       obtain ⟨q,hq,h⟩:=a7 h
       obtain ⟨az,res,h1,h2⟩:=aqM hq
       exact .inr (.inr ⟨_,_,_,_,_,_,h1,h,fun cl l R' K' h3=>by unfold y8; simp only [hop,hcal,hvs,K1,hk,H8,hfl,hf6,h2 cl h3,Option.bind_some]⟩)
      rename_i hf6
      obtain ⟨q,hq,h⟩:=a7 h
      obtain ⟨az,res,h1,h2⟩:=aqp hq
      split at h
      ·rename_i hf1
       obtain ⟨h,hp⟩:=alN h
       exact .inr (.inr ⟨_,_,_,_,_,_,h1,h,fun cl l R' K' h3=>by unfold y8; simp only [hop,hcal,hvs,K1,hk,H8,hfl,hf6,hf1,h2 cl h3,Option.bind_some,hp]⟩)
      ·rename_i hf1
       split at h
       ·rename_i hf3
        obtain ⟨h,hp⟩:=alN h
        exact .inr (.inr ⟨_,_,_,_,_,_,h1,h,fun cl l R' K' h3=>by unfold y8; simp only [hop,hcal,hvs,K1,hk,H8,hfl,hf6,hf1,hf3,h2 cl h3,Option.bind_some,hp]⟩)
       ·rename_i hf3
        exact .inr (.inr ⟨_,_,_,_,_,_,h1,h,fun cl l R' K' h3=>by unfold y8; simp only [hop,hcal,hvs,K1,hk,H8,hfl,hf6,hf1,hf3,h2 cl h3,Option.bind_some]⟩)
     ·rename_i hfl
      obtain ⟨q,hq,h⟩:=a7 h
      obtain ⟨res,h1,h2⟩:=ah5 hq
      exact .inr (.inr ⟨_,_,_,_,_,_,h1,h,fun cl l R' K' h3=>by unfold y8; simp only [hop,hcal,hvs,K1,hk,H8,hfl,h2 cl h3,Option.bind_some]⟩)
    ·rename_i n hk
     obtain ⟨vs,h,hvs⟩:=ad2 h
     obtain ⟨az,has,h⟩:=a7 h
     obtain ⟨q,hq,h⟩:=a7 h
     obtain ⟨u,hu,h⟩:=a7 h
     exact .inl ⟨_,_,_,h,fun cl l R' K'=>by unfold y8; simp only [hop,hcal,hvs,K1,hk,apJ,has,hq,hu,Option.bind_some]⟩
   ·rename_i fv hne hcal
    obtain ⟨f,h,hf⟩:=B7 h
    obtain ⟨vs,h,hvs⟩:=ad2 h
    obtain ⟨p,hp,h⟩:=a7 h
    split at h
    ·rename_i hq'
     obtain ⟨q,hq,h⟩:=a7 h
     obtain ⟨res,h1,h2⟩:=abO hq
     refine .inr (.inr ⟨_,_,_,_,_,_,h1,h,fun cl l R' K' h3=>?_⟩)
     unfold y8
     cases fv with
     | func f=>exact absurd rfl (hne f)
     | _=>simp only [hop,hcal,hf,hvs,hp,hq',H8,h2 cl h3,Option.bind_some]
    ·rename_i hq'
     obtain ⟨q,hq,h⟩:=a7 h
     refine .inr (.inl ⟨_,_,_,_,hq,h,fun cl l R' K'=>?_⟩)
     unfold y8
     cases fv with
     | func f=>exact absurd rfl (hne f)
     | _=>simp only [hop,hcal,hf,hvs,hp,hq',H8,Option.bind_some]
   ·cases h
 | _=>simp only [hop] at h; cases h
end
end Go.AM

/- Calls of the machine of values without a count of steps; they stand for calls of the abstract machine. -/
namespace Go.AM
open Go.RowKit
set_option linter.unusedSimpArgs false
set_option linter.unusedVariables false
theorem ar1 {R:Type} {kp:E9} {st:VS} {K:List V->VH->Option R} {r:R} (h:Z4 kp st K=some r):∃ vs,K vs st.H=some r/\∀ (R':Type) (K':List V->VH->Option R'),Z4 kp st K'=K' vs st.H:=by
 have hv:∀ {ss:List Nat} {R:Type} {K:List V->Option R} {r:R},V3 st.env ss K=some r->∃ vs,K vs=some r/\∀ (R':Type) (K':List V->Option R'),V3 st.env ss K'=K' vs:=by
  intro ss
  induction ss with
  | nil=>intro R K r h; exact ⟨[],h,fun _ _=>rfl⟩
  | cons s ss ih =>
    intro R K r h
    simp only [V3] at h
    split at h
    ·rename_i v hl
     obtain ⟨vs,h1,h2⟩:=ih h
     exact ⟨v::vs,h1,fun R' K'=>by simp only [V3,hl,h2]⟩
    ·rename_i v hl
     obtain ⟨vs,h1,h2⟩:=ih h
     exact ⟨_,h1,fun R' K'=>by simp only [V3,hl,h2]⟩
    ·cases h
 have hc:∀ {ks:List (Nat × Nat)} {R:Type} {K:List V->Option R} {r:R},csV st.loc ks K=some r->∃ vs,K vs=some r/\∀ (R':Type) (K':List V->Option R'),csV st.loc ks K'=K' vs:=by
  intro ks
  induction ks with
  | nil=>intro R K r h; exact ⟨[],h,fun _ _=>rfl⟩
  | cons s ks ih =>
    intro R K r h
    obtain ⟨k,n⟩:=s
    simp only [csV] at h
    split at h
    ·rename_i cs hl
     split at h
     ·rename_i hb
      obtain ⟨vs,h1,h2⟩:=ih h
      exact ⟨cs++vs,h1,fun R' K'=>by simp only [csV,hl,hb,h2]⟩
     ·cases h
    ·cases h
 unfold Z4 at h
 split at h
 ·rename_i hl
  obtain ⟨vs,h,h1⟩:=hv h
  obtain ⟨cs,h,h2⟩:=hc h
  exact ⟨_,h,fun R' K'=>by simp only [Z4,hl,h1,h2]⟩
 ·cases h
theorem alL {R:Type} {kp:E9} {vs:List V} {H:VH} {K:VS->Option R} {r:R} (h:aaZ kp vs H K=some r):∃ s,K s=some r/\∀ (R':Type) (K':VS->Option R'),aaZ kp vs H K'=K' s:=by
 unfold aaZ at h
 split at h
 ·rename_i hk
  split at h
  ·rename_i hl
   exact ⟨_,h,fun R' K'=>by unfold aaZ; simp only [hk]; rw [if_pos hl]⟩
  ·cases h
 ·cases h
theorem alU {R:Type} {vs:List V} {H:VH} {K:Exit->VS->Option R} {r:R}:∀ {outs:List (Exit × E9)} {n:Nat},inV outs n vs H K=some r->∃ e st,K e st=some r/\∀ (R':Type) (K':Exit->VS->Option R'),inV outs n vs H K'=K' e st
 | [],_,h=>by cases h
 | (x,kp)::l,0,h=>by
   simp only [inV] at h
   obtain ⟨s,h1,h2⟩:=alL h
   exact ⟨x,s,h1,fun R' K'=>by simp only [inV,h2]⟩
 | (x,kp)::l,n+1,h=>by
   simp only [inV] at h
   obtain ⟨e,st,h1,h2⟩:=alU h
   exact ⟨e,st,h1,fun R' K'=>by simp only [inV,h2]⟩
theorem apH {R:Type} {ops:Array Oper} {o:Oper} {env:List (Nat × VE)} {run pass:List (Nat × VE)->Option R} {r:R} (h:S8 ops o env run pass=some r) :
 ∃ env',(run env'=some r/\∀ (R':Type) (run' pass':List (Nat × VE)->Option R'),S8 ops o env run' pass'=run' env')\/(pass env'=some r/\∀ (R':Type) (run' pass':List (Nat × VE)->Option R'),S8 ops o env run' pass'=pass' env'):=by
 unfold S8 at h
 split at h
 ·rename_i hg
  exact ⟨_,.inl ⟨h,fun R' run' pass'=>by simp only [S8,hg]⟩⟩
 ·rename_i j want hg
  split at h
  ·cases h
  ·rename_i d hd
   split at h
   ·rename_i v hl
    split at h
    ·rcases aaI h with ⟨rfl,h⟩ | ⟨rfl,h⟩
     ·exact ⟨_,.inl ⟨h,fun R' run' pass'=>by simp only [S8,hg,hd,hl,l9]⟩⟩
     ·exact ⟨_,.inr ⟨h,fun R' run' pass'=>by simp only [S8,hg,hd,hl,l9]⟩⟩
    ·rcases aaI h with ⟨rfl,h⟩ | ⟨rfl,h⟩
     ·exact ⟨_,.inr ⟨h,fun R' run' pass'=>by simp only [S8,hg,hd,hl,l9]⟩⟩
     ·exact ⟨_,.inl ⟨h,fun R' run' pass'=>by simp only [S8,hg,hd,hl,l9]⟩⟩
   ·rename_i hl
    exact ⟨_,.inr ⟨h,fun R' run' pass'=>by simp only [S8,hg,hd,hl]⟩⟩
   ·cases h
structure aeV (X:XV) (c:Nat->w6) (l:Nat->O6):Prop where
 call:∀ f vs hp res,X.call f vs hp=some res->B9 fun m=>c m f vs hp=some res
 lp:∀ (B:List V->VH->Option (Option Nat × List V × VH)) (Bm:Nat->List V->VH->Option (Option Nat × List V × VH)),(∀ vs hp res,B vs hp=some res->B9 fun m=>Bm m vs hp=some res) →
  ∀ vs hp res,X.lp B vs hp=some res->B9 fun m=>l m (Bm m) vs hp=some res
section
variable {X:XV} {c:Nat->w6} {l:Nat->O6} {A:M5} {T:List Nat}
theorem ato (hN:aeV X c l) {R:Type} {r:R} {o:Oper} {st:VS} {K:VE->VS->A8->Option R} {Km:Nat->VE->VS->A8->Option R}
 (h:y8 X A T o st K=some r) (hK:∀ e s cl,K e s cl=some r->B9 fun m=>Km m e s cl=some r):B9 fun m=>y8 (X.over (c m) (l m)) A T o st (Km m)=some r:=by
 rcases arS h with ⟨e,s,cl,h1,h2⟩ | ⟨f,vs,s,res,h1,h2,h3⟩ | ⟨f,vs,res,e,s,cl,h1,h2,h3⟩
 ·exact (hK _ _ _ h1).imp fun m hm=>by rw [h2]; exact hm
 ·exact ((hN.call _ _ _ _ h1).and (hK _ _ _ h2)).imp fun m ⟨a,b⟩=>by rw [h3,a]; exact b
 ·exact ((hN.call _ _ _ _ h1).and (hK _ _ _ h2)).imp fun m ⟨a,b⟩=>by rw [h3 _ _ _ _ a]; exact b
theorem aeR (hN:aeV X c l) {R:Type} {r:R} {ops:Array Oper}:∀ {os:List Oper} {cl:List A8} {st:VS} {K:List A8->VS->Option R} {Km:Nat->List A8->VS->Option R},
 adT X A T ops os cl st K=some r->(∀ cl st,K cl st=some r->B9 fun m=>Km m cl st=some r)->B9 fun m=>adT (X.over (c m) (l m)) A T ops os cl st (Km m)=some r
 | [],cl,st,K,Km,h,hK=>hK _ _ h
 | o::os,cl,st,K,Km,h,hK=>by
   simp only [adT] at h ⊢
   obtain ⟨env',⟨h1,h2⟩ | ⟨h1,h2⟩⟩:=apH h
   ·refine (ato hN h1 (Km:=fun m e st c'=>adT (X.over (c m) (l m)) A T ops os (c'::cl) { st with env:=ams st.env o.dst e } (Km m)) fun e s cl' h3=>aeR hN h3 hK).imp fun m hm=>?_
    rw [h2]; exact hm
   ·exact (aeR hN h1 hK).imp fun m hm=>by rw [h2]; exact hm
theorem M8 (hN:aeV X c l):∀ (x:Code) {R:Type} {r:R} {st:VS} {K:Exit->VS->Option R} {Km:Nat->Exit->VS->Option R},
 C7 X A T x st K=some r->(∀ e st,K e st=some r->B9 fun m=>Km m e st=some r)->B9 fun m=>C7 (X.over (c m) (l m)) A T x st (Km m)=some r
 | .skip,R,r,st,K,Km,h,hK=>hK _ _ h
 | .exit id,R,r,st,K,Km,h,hK=>hK _ _ h
 | .ret,R,r,st,K,Km,h,hK=>hK _ _ h
 | .region id ops draw,R,r,st,K,Km,h,hK=>by
   cases draw with
   | false =>
     simp only [C7] at h ⊢
     exact aeR hN h fun cl st h=>hK _ _ h
   | true =>
     simp only [C7] at h ⊢
     refine aeR hN h fun cl st h=>?_
     split at h
     ·exact hK _ _ h
     ·cases h
 | .cond y a b,R,r,st,K,Km,h,hK=>by
   simp only [C7] at h ⊢
   obtain ⟨v,h,hv⟩:=B7 h
   rcases akV h with ⟨rfl,h⟩ | ⟨rfl,h⟩ | ⟨rfl,h,h'⟩
   ·exact (M8 hN a h hK).imp fun m hm=>by rw [hv]; exact hm
   ·exact (M8 hN b h hK).imp fun m hm=>by rw [hv]; exact hm
   ·exact ((M8 hN a h hK).and (M8 hN b h' hK)).imp fun m hm=>by rw [hv]; show agQ _ _=_; unfold agQ; rw [hm.1,hm.2,if_pos rfl]
 | .block id a,R,r,st,K,Km,h,hK=>by
   simp only [C7] at h ⊢
   refine M8 hN a h fun e st h=>?_
   cases e with
   | exit i =>
     simp only at h ⊢
     split at h
     ·rename_i hb; exact (hK _ _ h).imp fun m hm=>by first | exact hm | (rw [hb]; exact hm)
     ·rename_i hb; exact (hK _ _ h).imp fun m hm=>by first | exact hm | (rw [hb]; exact hm)
   | _=>exact hK _ _ h
 | .seq a b,R,r,st,K,Km,h,hK=>by
   simp only [C7] at h ⊢
   have behind:∀ (e:Exit) (st:VS),(match e with | .normal=>C7 X A T b st K | e=>K e st)=some r->B9 fun m=>(match e with | .normal=>C7 (X.over (c m) (l m)) A T b st (Km m) | e=>Km m e st)=some r:=by
    intro e st h
    cases e with
    | normal=>exact M8 hN b h hK
    | _=>exact hK _ _ h
   split at h
   ·rename_i hj
    exact (M8 hN a h (Km:=fun m e st=>match e with | .normal=>C7 (X.over (c m) (l m)) A T b st (Km m) | e=>Km m e st) behind).imp fun m hm=>hm
   ·rename_i outs hj
    obtain ⟨s,hs,h⟩:=a7 h
    obtain ⟨e,st',h1,h2⟩:=alU h
    refine ((M8 hN a hs (Km:=fun _ e st=>adR outs e st fun n vs hp=>some (n,vs,hp)) fun e st h=>B9.of fun _=>h).and (behind e st' h1)).imp fun m ⟨g1,g2⟩=>?_
    show (Option.bind _ _)=some r
    rw [g1]
    simp only [Option.bind_some]
    rw [h2]; exact g2
 | .loop a,R,r,st,K,Km,h,hK=>by
   simp only [C7] at h ⊢
   split at h
   ·cases h
   ·rename_i li hli
    obtain ⟨vs,h,h0⟩:=ar1 h
    obtain ⟨res,hres,h⟩:=a7 h
    obtain ⟨e,st',h1,h2⟩:=alU h
    have hB:=hN.lp _ (fun m vs hp=>aaZ li.ks vs hp fun st=>C7 (X.over (c m) (l m)) A T a st fun e st=>match e with
     | .normal=>Z4 li.ks st fun vs hp=>some (none,vs,hp)
     | e=>adR li.outs e st fun n vs hp=>some (some n,vs,hp)) (fun vs hp res hr=>by
     obtain ⟨s,g1,g2⟩:=alL hr
     exact (M8 hN a g1 (Km:=fun _ e st=>match e with
      | .normal=>Z4 li.ks st fun vs hp=>some (none,vs,hp)
      | e=>adR li.outs e st fun n vs hp=>some (some n,vs,hp)) fun e st h=>B9.of fun _=>h).imp fun m hm=>by rw [g2]; exact hm) _ _ _ hres
    refine (hB.and (hK e st' h1)).imp fun m ⟨g1,g2⟩=>?_
    rw [h0]
    exact (congrArg (fun (o:Option (Nat × List V × VH))=>o.bind fun q=>inV li.outs q.1 q.2.1 q.2.2 (Km m)) g1).trans ((h2 R (Km m)).trans g2)
 | .rangeFunc ..,R,r,st,K,Km,h,hK=>by cases h
 | .scope ..,R,r,st,K,Km,h,hK=>by cases h
 | .label ..,R,r,st,K,Km,h,hK=>by cases h
 | .goto ..,R,r,st,K,Km,h,hK=>by cases h
 | .refuse ..,R,r,st,K,Km,h,hK=>by cases h
theorem ary {R:Type} (X:XV) (c:w6) (l:O6) (st:VS) (t:Nat) (K:V->VS->Option R):vtV (X.over c l) st (.tmp t) K=vtV X st (.tmp t) K:=rfl
theorem agw {R:Type} (X:XV) (c:w6) (l:O6):∀ (rs:List ResultVar) (st:VS) (K:List V->VS->Option R),aa2 (X.over c l) rs st K=aa2 X rs st K
 | [],st,K=>rfl
 | .tmp t::rs,st,K=>by
   simp only [aa2,ary]
   congr 1; funext v st
   exact agw X c l rs st _
 | .cell a t::rs,st,K=>by
   simp only [aa2,o6,agw X c l rs]
theorem agy (hN:aeV X c l) {f:FuncId} {args:List V} {H:VH} {r:V × VH} (h:abH X f args H=some r):B9 fun m=>abH (X.over (c m) (l m)) f args H=some r:=by
 unfold abH at h ⊢
 have e1:∀ m,(X.over (c m) (l m)).fn f=X.fn f:=fun _=>rfl
 have e2:∀ m,(X.over (c m) (l m)).I8 f=X.I8 f:=fun _=>rfl
 have e3:∀ m,(X.over (c m) (l m)).D7 f=X.D7 f:=fun _=>rfl
 simp only [e1,e2,e3]
 split at h
 ·cases h
 ·rename_i fn hf
  split at h
  ·cases h
  ·rename_i x hx
   split at h
   ·rename_i hd
    try simp only [hf,hx,hd]
    refine (M8 hN x h (Km:=fun m e st=>match e with
     | .normal | .ret=>aa2 (X.over (c m) (l m)) fn.results.toList st fun vs st=>some (amm vs,st.H)
     | _=>none) fun e st h=>B9.of fun m=>?_).imp fun m hm=>hm
    cases e<;>first | (simp only [agw]; exact h) | exact h
   ·cases h
end
noncomputable def E2 (X:XV) (A:M5) (T:List Nat) (li:aiv) (a:Code) (vs:List V) (H:VH):Option (Option Nat × List V × VH) :=
 aaZ li.ks vs H fun st=>C7 X A T a st fun e st=>match e with
  | .normal=>Z4 li.ks st fun vs hp=>some (none,vs,hp)
  | e=>adR li.outs e st fun n vs hp=>some (some n,vs,hp)
structure O7 where
 b:W7
 D0:Nat->Option (List V)
 gi:Nat->Bool
 D7:FuncId->List Nat
 mv:FuncId->List Nat
 Q8:FuncId->Option (List V->VH->Option (V × VH))
def O7.ctx (b:O7) (call:w6) (lp:O6):XV:=⟨b.b.ng,b.b.tab,b.b.fn,b.b.I8,b.b.kind,b.b.ext,b.D0,b.gi,b.D7,b.mv,call,lp⟩
def L5:Nat->O6
 | 0,_,_,_=>none
 | n+1,B,vs,hp=>match B vs hp with
   | none=>none
   | some (none,vs,hp)=>L5 n B vs hp
   | some (some m,vs,hp)=>some (m,vs,hp)
noncomputable def J5 (b:O7):Nat->w6
 | 0,_,_,_=>none
 | n+1,f,args,H=>match b.Q8 f with
   | some g=>g args H
   | none=>abH (b.ctx (J5 b n) (L5 n)) f args H
noncomputable def p5:O6:=fun B vs hp=>ajT fun n=>L5 n B vs hp
noncomputable def G7 (b:O7):w6:=fun f args H=>ajT fun n=>J5 b n f args H
theorem aej {B:List V->VH->Option (Option Nat × List V × VH)}:∀ {n:Nat} {vs:List V} {hp:VH} {res:Nat × List V × VH},L5 n B vs hp=some res->∃ m,aik B m vs hp res
 | 0,_,_,_,h=>by cases h
 | n+1,vs,hp,res,h=>by
   simp only [L5] at h
   split at h
   ·cases h
   ·rename_i hb
    obtain ⟨m,hm⟩:=aej h
    exact ⟨m+1,.more hb hm⟩
   ·rename_i hb
    cases h
    exact ⟨0,.stop hb⟩
theorem ajU {B:List V->VH->Option (Option Nat × List V × VH)} {Bm:Nat->List V->VH->Option (Option Nat × List V × VH)} (hB:∀ vs hp res,B vs hp=some res->B9 fun m=>Bm m vs hp=some res)
 {n:Nat} {vs:List V} {hp:VH} {res:Nat × List V × VH} (h:aik B n vs hp res):B9 fun m=>∀ k,n<k->L5 k (Bm m) vs hp=some res:=by
 induction h with
 | stop h =>
   refine (hB _ _ _ h).imp fun m hm k hk=>?_
   obtain ⟨k,rfl⟩:∃ j,k=j+1:=⟨k-1,by omega⟩
   simp only [L5,hm]
 | more h _ ih =>
   refine ((hB _ _ _ h).and ih).imp fun m ⟨g1,g2⟩ k hk=>?_
   obtain ⟨k,rfl⟩:∃ j,k=j+1:=⟨k-1,by omega⟩
   simp only [L5,g1]
   exact g2 k (by omega)
theorem atg (n:Nat):aou (L5 n):=fun _ _ _ _ h=>aej h
theorem am7 (b:O7):∀ (n:Nat) (f:FuncId) (args:List V) (H:VH) (r:V × VH),J5 b n f args H=some r->∀ m,n<=m->J5 b m f args H=some r:=by
 intro n
 induction n with
 | zero=>intro f args H r h; cases h
 | succ n ih =>
   intro f args H r h m hm
   obtain ⟨m,rfl⟩:∃ j,m=j+1:=⟨m-1,by omega⟩
   simp only [J5] at h ⊢
   split at h
   ·rename_i g hg; first | exact h | (simp only [hg]; exact h)
   ·rename_i hg
    try simp only [hg]
    have hN:aeV (b.ctx (J5 b n) (L5 n)) (fun _=>J5 b m) (fun _=>L5 m):=by
     refine ⟨fun f vs hp res h=>B9.of fun _=>ih f vs hp res h m (by omega),fun B Bm hB vs hp res h=>?_⟩
     have h':L5 n B vs hp=some res:=h
     clear h
     have:∀ (n m:Nat) (vs:List V) (hp:VH),n<=m->L5 n B vs hp=some res->B9 fun k=>L5 m (Bm k) vs hp=some res:=by
      intro n
      induction n with
      | zero=>intro m vs hp _ h; cases h
      | succ n ihn =>
        intro m vs hp hm h
        obtain ⟨m,rfl⟩:∃ j,m=j+1:=⟨m-1,by omega⟩
        simp only [L5] at h
        split at h
        ·cases h
        ·rename_i hb
         exact ((hB _ _ _ hb).and (ihn m _ _ (by omega) h)).imp fun k ⟨g1,g2⟩=>by simp only [L5,g1]; exact g2
        ·rename_i hb
         cases h
         exact (hB _ _ _ hb).imp fun k g1=>by simp only [L5,g1]
     exact this n m vs hp (by omega) h'
    exact (agy hN h).const
theorem ah3 {b:O7} {n:Nat} {f:FuncId} {args:List V} {H:VH} {r:V × VH} (h:J5 b n f args H=some r):G7 b f args H=some r :=
 B5.2 ⟨n,fun m hm=>am7 b n f args H r h m hm⟩
theorem agK {n:Nat} {B:List V->VH->Option (Option Nat × List V × VH)} {vs:List V} {hp:VH} {r:Nat × List V × VH} (h:L5 n B vs hp=some r):p5 B vs hp=some r:=by
 obtain ⟨m,hm⟩:=aej h
 obtain ⟨n1,h1⟩:=ajU (Bm:=fun _=>B) (fun _ _ _ h=>B9.of fun _=>h) hm
 exact B5.2 ⟨m+1,fun k hk=>h1 n1 (Nat.le_refl _) k (by omega)⟩
theorem l6 (b:O7) (f:FuncId) (args:List V) (H:VH) (hp':b.Q8 f=none):G7 b f args H=abH (b.ctx (G7 b) p5) f args H:=by
 have to:∀ r,G7 b f args H=some r->abH (b.ctx (G7 b) p5) f args H=some r:=by
  intro r h
  obtain ⟨n,hn⟩:=B5.1 h
  have:=hn (n+1) (by omega)
  simp only [J5,hp'] at this
  have hN:aeV (b.ctx (J5 b n) (L5 n)) (fun _=>G7 b) (fun _=>p5):=by
   refine ⟨fun f vs hp res h=>B9.of fun _=>ah3 h,fun B Bm hB vs hp res h=>?_⟩
   obtain ⟨m,hm⟩:=aej (n:=n) h
   exact (ajU hB hm).imp fun k hk=>agK (hk (m+1) (by omega))
  exact (agy hN this).const
 have back:∀ r,abH (b.ctx (G7 b) p5) f args H=some r->G7 b f args H=some r:=by
  intro r h
  have hN:aeV (b.ctx (G7 b) p5) (J5 b) L5:=by
   refine ⟨fun f vs hp res h=>B5.1 h,fun B Bm hB vs hp res h=>?_⟩
   obtain ⟨n,hn⟩:=B5.1 h
   obtain ⟨m,hm⟩:=aej (hn n (Nat.le_refl _))
   obtain ⟨n1,h1⟩:=ajU hB hm
   exact ⟨max n1 (m+1),fun k hk=>h1 k (by omega) k (by omega)⟩
  obtain ⟨n,hn⟩:=agy hN h
  have h1:J5 b (n+1) f args H=some r:=by
   simp only [J5,hp']
   exact hn n (Nat.le_refl _)
  exact ah3 h1
 cases h1:G7 b f args H with
 | some r=>exact (to r h1).symm
 | none =>
   cases h2:abH (b.ctx (G7 b) p5) f args H with
   | none=>rfl
   | some r=>rw [back r h2] at h1; cases h1
theorem aiw (b:O7) (f:FuncId) (args:List V) (H:VH) {g:List V->VH->Option (V × VH)} (hp':b.Q8 f=some g):G7 b f args H=g args H:=by
 cases h:g args H with
 | some r=>exact ah3 (n:=1) (by simp only [J5,hp']; exact h)
 | none =>
   cases h2:G7 b f args H with
   | none=>rfl
   | some r =>
     obtain ⟨n,hn⟩:=B5.1 h2
     have:=hn (n+1) (by omega)
     simp only [J5,hp',h] at this
     cases this
theorem anD (B:List V->VH->Option (Option Nat × List V × VH)) (vs:List V) (hp:VH) :
 p5 B vs hp=match B vs hp with | none=>none | some (none,vs,hp)=>p5 B vs hp | some (some m,vs,hp)=>some (m,vs,hp):=by
 cases hb:B vs hp with
 | none =>
   simp only
   cases h:p5 B vs hp with
   | none=>rfl
   | some r =>
     obtain ⟨n,hn⟩:=B5.1 h
     have:=hn (n+1) (by omega)
     simp only [L5,hb] at this; cases this
 | some x =>
   obtain ⟨o,vs1,hp1⟩:=x
   cases o with
   | some m=>exact agK (n:=1) (by simp only [L5,hb])
   | none =>
     simp only
     cases h:p5 B vs1 hp1 with
     | some r =>
       obtain ⟨n,hn⟩:=B5.1 h
       exact agK (n:=n+1) (by simp only [L5,hb]; exact hn n (Nat.le_refl _))
     | none =>
       cases h2:p5 B vs hp with
       | none=>rfl
       | some r =>
         obtain ⟨n,hn⟩:=B5.1 h2
         have:=hn (n+1) (by omega)
         simp only [L5,hb] at this
         rw [agK this] at h; cases h
structure agO (b:O7):Prop where
 zero:∀ t ti,look b.b.tab t=some ti->∀ u ∈ ti.zero,E4 u=true
 sl:∀ t e b8 eb z ag n zz,look b.b.tab t=some ⟨.slice e b8 eb z,ag,n,zz⟩->(∀ u ∈ z,E4 u=true)/\z.length=b8/\0<b8
 gd:∀ g cs,b.D0 g=some cs->C1 cs=true
 pos:∀ t ti,look b.b.tab t=some ti->0<ti.size
 aqC:∀ f,b.Q8 f=none->b.b.Q8 f=none
 Q8:∀ f g args r H H',b.Q8 f=some g->g args H=some (r,H')->A7 (b.ctx (G7 b) p5) (H5 b.b) f args H r H'
theorem E6.ctx {b:O7} {c c':w6} {l l':O6} {w:Wd} (h:E6 (b.ctx c l) w):E6 (b.ctx c' l') w:=h
theorem A7.ctx {b:O7} {c c':w6} {l l':O6} {call:F2} {f:FuncId} {args:List V} {H H':VH} {r:V} (h:A7 (b.ctx c l) call f args H r H'):A7 (b.ctx c' l') call f args H r H':=h
theorem aiP {b:O7} (hb:agO b):∀ (n:Nat) (f:FuncId) (args:List V) (H:VH) (r:V) (H':VH),J5 b n f args H=some (r,H')->A7 (b.ctx (G7 b) p5) (H5 b.b) f args H r H'
 | 0,f,args,H,r,H',h=>by cases h
 | n+1,f,args,H,r,H',h=>by
   simp only [J5] at h
   split at h
   ·rename_i g hg
    exact hb.Q8 f g args _ _ _ hg h
   ·rename_i hg
    have hs:=arQ (X:=b.ctx (J5 b n) (L5 n)) (Y:=b.b.ctx (H5 b.b) lpW) ⟨rfl,rfl,rfl,rfl,rfl,rfl⟩ ⟨hb.zero,hb.sl,hb.gd,hb.pos⟩ (fun f args H r H' h=>aiP hb n f args H r H' h) (atg n) (fun B vs hp=>atX B vs hp) h
    intro w args' ca ch h1 h2 h3 h4 h5 h6
    obtain ⟨x,w2,cr,ch',q1,q2⟩:=hs w args' ca ch h1 h2 h3 h4 h5 h6
    exact ⟨x,w2,cr,ch',by rw [ars b.b f args' w.hp (hb.aqC f hg)]; exact q1,q2⟩
theorem aps {b:O7} (hb:agO b) {f:FuncId} {args:List V} {H:VH} {r:V} {H':VH} (h:G7 b f args H=some (r,H')):A7 (b.ctx (G7 b) p5) (H5 b.b) f args H r H':=by
 obtain ⟨n,hn⟩:=B5.1 h
 exact aiP hb n f args H r H' (hn n (Nat.le_refl _))
theorem aoE {P:Program} {b:O7} (hb:agO b) (hP:ad1 P b.b) {f:FuncId} {args:List V} {H':VH} (h:G7 b f args []=some (.bool true,H')) {hp:Heap} {vs:List Value}
 (hw:HW ⟨hp,[],[]⟩) (hg:E6 (b.ctx (G7 b) p5) ⟨hp,[],[]⟩) (hv:b9 ⟨hp,[],[]⟩ args vs (fun _=>0)) {ι:j8} {w:World} {args':Array Value}
 (hR:Rel b.b.ng ι hp w w.heap.size) (ha:A0 ι vs args'.toList) (hro:∀ b k,j7 hp b=some k->k.md ≠ .rw) :
 Calls P f args' w fun e w'=>e = .returned (.bool true)/\Below w.heap.size w w':=by
 obtain ⟨x,w2,cr,ch',q1,q2,q3,q4,q5,q6⟩:=aps hb h ⟨hp,[],[]⟩ vs (fun _=>0) (fun _=>0) hw hg hv (by simp [p6]) (by simp) (by simp)
 simp only [RV] at q5
 rw [q5.1] at q1
 exact ajx hP q1 hR ha hro
end Go.AM

/- Words for printed runs of the machine of values, and what the tables owe. -/
namespace Go.AM
set_option linter.unusedSimpArgs false
set_option linter.unusedVariables false
def l5 {R:Type} (n:Nat) (vs:List V) (K:(Nat->V)->Option R):Option R:=if vs.length=n then K (fun i=>vs.getD i .b7) else none
def aqI (l:List (Nat × List Nat)) (f:FuncId):List Nat:=(look l f).getD []
theorem aqY {P:Program} {l:List (Nat × TI)} (h:∀ t ti,look l t=some ti->K8 P t ti):∀ t ti,look l t=some ti->∀ u ∈ ti.zero,E4 u=true:=fun t ti e=>by
 obtain ⟨i,v,_,_,_,_,_,h7⟩:=(h t ti e).info
 exact h7
theorem avv {P:Program} {l:List (Nat × TI)} (h:∀ t ti,look l t=some ti->K8 P t ti):∀ t e b8 eb z ag n zz,look l t=some ⟨.slice e b8 eb z,ag,n,zz⟩->(∀ u ∈ z,E4 u=true)/\z.length=b8/\0<b8:=fun t e b8 eb z ag n zz hl=>by
 obtain ⟨d,_,_,h3⟩:=(h t _ hl).und
 simp only [aoW] at h3
 obtain ⟨_,i,v,_,_,_,_,_,h4,h5,_,h6⟩:=h3
 exact ⟨h6,h4,h5⟩
def arv:List (Nat × TI)->Bool
 | []=>true
 | (_,x)::l=>Nat.blt 0 x.size&&arv l
theorem anp:∀ {l:List (Nat × TI)},arv l=true->∀ t ti,look l t=some ti->0<ti.size
 | [],_,t,ti,h=>by simp [look] at h
 | (k,x)::l,hp,t,ti,h=>by
   simp only [arv,Bool.and_eq_true] at hp
   simp only [look] at h
   split at h
   ·cases h
    exact Nat.le_of_ble_eq_true hp.1
   ·exact anp hp.2 t ti h
end Go.AM

/- What the words of a printed run come to at values that are known. -/
namespace Go.AM
set_option linter.unusedSimpArgs false
set_option linter.unusedVariables false
theorem anm (b:Bool):strip (.bool b) = .bool b:=by exact id rfl
theorem aqJ (k:IntKind) (n:Int):strip (.int k n) = .int k n:=by exact id rfl
theorem apA (s:List UInt8):strip (.str s) = .str s:=by exact id rfl
theorem anO:strip .b7 = .b7:=by exact id rfl
theorem aqN (k o:Nat):strip (.ptr k o) = .ptr k o:=by exact id rfl
theorem aqR (c:List V) (o:Nat):strip (.E7 c o) = .E7 c o:=by exact id rfl
theorem asr (f:FuncId) (c:List V):strip (.fn f c) = .fn f c:=by exact id rfl
theorem asJ (o:Bool) (xs:List (List V)):strip (.sl o xs) = .sl false (o7 xs):=by exact id rfl
theorem apI (cs:List V):strip (.agg cs) = .agg (l7 cs):=by exact id rfl
theorem ap9 (cs:List V):strip (.o8 cs) = .o8 (l7 cs):=by exact id rfl
theorem aob:l7 []=[]:=by exact id rfl
theorem alW (v:V) (l:List V):l7 (v::l)=strip v::l7 l:=by exact id rfl
theorem alT:o7 []=[]:=by exact id rfl
theorem akJ (v:List V) (l:List (List V)):o7 (v::l)=l7 v::o7 l:=by exact id rfl
theorem an5 (H:VH) (b:Bool):l4 H (.bool b) = .bool b:=by exact id rfl
theorem aqV (H:VH) (k:IntKind) (n:Int):l4 H (.int k n) = .int k n:=by exact id rfl
theorem apl (H:VH) (s:List UInt8):l4 H (.str s) = .str s:=by exact id rfl
theorem asQ (H:VH) (o:Bool) (xs:List (List V)):l4 H (.sl o xs) = .sl false (o7 xs):=by exact id rfl
theorem aqg (H:VH) (cs:List V):l4 H (.agg cs) = .agg (l7 cs):=by exact id rfl
theorem asZ (H:VH) (f:FuncId) (cs:List V):l4 H (.fn f cs) = .fn f (cs.map (ada H)):=by exact id rfl
theorem apY (H:VH) (f:FuncId):l4 H (.fn f []) = .fn f []:=by exact id rfl
theorem apc (H:VH) (k o:Nat):l4 H (.ptr k o)=afn (H.getD k []) k o:=by exact id rfl
theorem al2 (c:V) (cs:List V) (k o:Nat):afn (c::cs) k o = .E7 (l7 (c::cs)) o:=by exact id rfl
theorem aqQ (H:VH) (c:List V) (o:Nat):l4 H (.E7 c o) = .E7 c o:=by exact id rfl
theorem anM (H:VH) (k o:Nat):ada H (.ptr k o)=afn (H.getD k []) k o:=by exact id rfl
theorem amy {α β:Type} (f:α->β):([]:List α).map f=[]:=by exact id rfl
theorem akP {α β:Type} (f:α->β) (a:α) (l:List α):(a::l).map f=f a::l.map f:=by exact id rfl
theorem ac1 {α:Type} (l:List α):[]++l=l:=by exact id rfl
theorem ab2 {α:Type} (a:α) (l m:List α):(a::l)++m=a::(l++m):=by exact id rfl
theorem an9 (b:Bool):z7 (.bool b)=true:=by exact id rfl
theorem aqA (k:IntKind) (n:Int):z7 (.int k n)=true:=by exact id rfl
theorem apX (s:List UInt8):z7 (.str s)=true:=by exact id rfl
theorem asD (o:Bool) (xs:List (List V)):z7 (.sl o xs)=D8 xs:=by exact id rfl
theorem apO (cs:List V):z7 (.agg cs)=w4 cs:=by exact id rfl
theorem aqK (cs:List V) (o:Nat):z7 (.E7 cs o)=w4 cs:=by exact id rfl
theorem ar3 (f:FuncId) (cs:List V):z7 (.fn f cs)=w4 cs:=by exact id rfl
theorem anK:w4 []=true:=by exact id rfl
theorem alm (v:V) (l:List V):w4 (v::l)=(z7 v&&w4 l):=by exact id rfl
theorem amU:D8 []=true:=by exact id rfl
theorem akB (v:List V) (l:List (List V)):D8 (v::l)=(w4 v&&D8 l):=by exact id rfl
theorem aqP (b:Bool):data (.bool b)=true:=by exact id rfl
theorem asf (k:IntKind) (n:Int):data (.int k n)=true:=by exact id rfl
theorem as3 (s:List UInt8):data (.str s)=true:=by exact id rfl
theorem au3 (o:Bool) (xs:List (List V)):data (.sl o xs)=J3 xs:=by exact id rfl
theorem ash (cs:List V):data (.agg cs)=C1 cs:=by exact id rfl
theorem ase (cs:List V):data (.o8 cs)=C1 cs:=by exact id rfl
theorem apt:C1 []=true:=by exact id rfl
theorem anv (v:V) (l:List V):C1 (v::l)=(data v&&C1 l):=by exact id rfl
theorem an0:J3 []=true:=by exact id rfl
theorem amg (v:List V) (l:List (List V)):J3 (v::l)=(C1 v&&J3 l):=by exact id rfl
theorem anL (b:Bool):abb (.bool b)=true:=by exact id rfl
theorem apn (k:IntKind) (n:Int):abb (.int k n)=true:=by exact id rfl
theorem apB (s:List UInt8):abb (.str s)=true:=by exact id rfl
theorem apg (l:List V):abb (.o8 l)=l.all Q0:=by exact id rfl
theorem anA (b:Bool):Q0 (.bool b)=true:=by exact id rfl
theorem aqn (k:IntKind) (n:Int):Q0 (.int k n)=true:=by exact id rfl
theorem apV (s:List UInt8):Q0 (.str s)=true:=by exact id rfl
theorem ap6 {α:Type} (p:α->Bool):([]:List α).all p=true:=by exact id rfl
theorem anY {α:Type} (p:α->Bool) (a:α) (l:List α):(a::l).all p=(p a&&l.all p):=by exact id rfl
theorem asR:(true&&true)=true:=by exact id rfl
theorem apm {α β:Type} (a:α) (f:α->Option β):(some a).bind f=f a:=by exact id rfl
theorem auA {α:Type} (a:α):id a=a:=by exact id rfl
theorem ank {R:Type} (b:Bool) (x y:Option R):l3 (.bool b) x y=if b=true then x else y:=by cases b<;>rfl
theorem ar4 {R:Type} (x:Option R):l3 .ub x x=x:=by show agQ x x=x; unfold agQ; rw [if_pos rfl]
theorem an2 {R:Type} (b:Bool) (x y:Option R):l9 (.bool b) x y=if b=true then x else y:=by cases b<;>rfl
theorem avi {R:Type} (x y:Option R):l9 (.bool true) x y=x:=by exact id rfl
theorem aua {R:Type} (x y:Option R):l9 (.bool false) x y=y:=by exact id rfl
theorem asY:strip .ub = .ub:=by exact id rfl
theorem auQ {R:Type} (x y:Option R):l3 (.bool true) x y=x:=by exact id rfl
theorem at4 {R:Type} (x y:Option R):l3 (.bool false) x y=y:=by exact id rfl
theorem atS {R:Type} (a:Option R) (l:List (Option R)):A5 0 (a::l)=a:=by exact id rfl
theorem in_1 {R:Type} (a b:Option R) (l:List (Option R)):A5 1 (a::b::l)=b:=by exact id rfl
theorem auj {R:Type} (a b c:Option R) (l:List (Option R)):A5 2 (a::b::c::l)=c:=by exact id rfl
theorem auq {R:Type} (a b c d:Option R) (l:List (Option R)):A5 3 (a::b::c::d::l)=d:=by exact id rfl
theorem auU {R:Type} (a b c d e:Option R) (l:List (Option R)):A5 4 (a::b::c::d::e::l)=e:=by exact id rfl
theorem avg {R:Type} (K:(Nat->V)->Option R):l5 0 [] K=K fun i=>([]:List V).getD i .b7:=by exact id rfl
theorem atW {R:Type} (a:V) (K:(Nat->V)->Option R):l5 1 [a] K=K fun i=>[a].getD i .b7:=by exact id rfl
theorem auC {R:Type} (a b:V) (K:(Nat->V)->Option R):l5 2 [a,b] K=K fun i=>[a,b].getD i .b7:=by exact id rfl
theorem aum {R:Type} (a b c:V) (K:(Nat->V)->Option R):l5 3 [a,b,c] K=K fun i=>[a,b,c].getD i .b7:=by exact id rfl
theorem au7 {R:Type} (a b c d:V) (K:(Nat->V)->Option R):l5 4 [a,b,c,d] K=K fun i=>[a,b,c,d].getD i .b7:=by exact id rfl
theorem au8 {R:Type} (a b c d e:V) (K:(Nat->V)->Option R):l5 5 [a,b,c,d,e] K=K fun i=>[a,b,c,d,e].getD i .b7:=by exact id rfl
theorem aul {R:Type} (a b c d e f:V) (K:(Nat->V)->Option R):l5 6 [a,b,c,d,e,f] K=K fun i=>[a,b,c,d,e,f].getD i .b7:=by exact id rfl
theorem avs {R:Type} (a b c d e f g:V) (K:(Nat->V)->Option R):l5 7 [a,b,c,d,e,f,g] K=K fun i=>[a,b,c,d,e,f,g].getD i .b7:=by exact id rfl
theorem avx {R:Type} (a b c d e f g h:V) (K:(Nat->V)->Option R):l5 8 [a,b,c,d,e,f,g,h] K=K fun i=>[a,b,c,d,e,f,g,h].getD i .b7:=by exact id rfl
theorem au5 {R:Type} (a b c d e f g h j:V) (K:(Nat->V)->Option R):l5 9 [a,b,c,d,e,f,g,h,j] K=K fun i=>[a,b,c,d,e,f,g,h,j].getD i .b7:=by exact id rfl
theorem ar9 {R:Type} (a b c d e f g h j k:V) (K:(Nat->V)->Option R):l5 10 [a,b,c,d,e,f,g,h,j,k] K=K fun i=>[a,b,c,d,e,f,g,h,j,k].getD i .b7:=by exact id rfl
theorem atN {α:Type} (a d:α) (l:List α):(a::l).getD 0 d=a:=by exact id rfl
theorem auP {α:Type} (a b d:α) (l:List α):(a::b::l).getD 1 d=b:=by exact id rfl
theorem auf {α:Type} (a b c d:α) (l:List α):(a::b::c::l).getD 2 d=c:=by exact id rfl
theorem at5 {α:Type} (a b c e d:α) (l:List α):(a::b::c::e::l).getD 3 d=e:=by exact id rfl
theorem ava {α:Type} (a b c e f d:α) (l:List α):(a::b::c::e::f::l).getD 4 d=f:=by exact id rfl
theorem aud {α:Type} (a b c e f g d:α) (l:List α):(a::b::c::e::f::g::l).getD 5 d=g:=by exact id rfl
theorem auR {α:Type} (a b c e f g h d:α) (l:List α):(a::b::c::e::f::g::h::l).getD 6 d=h:=by exact id rfl
theorem avp {α:Type} (a b c e f g h j d:α) (l:List α):(a::b::c::e::f::g::h::j::l).getD 7 d=j:=by exact id rfl
theorem avc {α:Type} (a b c e f g h j k d:α) (l:List α):(a::b::c::e::f::g::h::j::k::l).getD 8 d=k:=by exact id rfl
theorem auN {α:Type} (a b c e f g h j k m d:α) (l:List α):(a::b::c::e::f::g::h::j::k::m::l).getD 9 d=m:=by exact id rfl
theorem asz {R:Type} (a b c d e f g h j k m:V) (K:(Nat->V)->Option R):l5 11 [a,b,c,d,e,f,g,h,j,k,m] K=K fun i=>[a,b,c,d,e,f,g,h,j,k,m].getD i .b7:=by exact id rfl
theorem asg {R:Type} (a b c d e f g h j k m n:V) (K:(Nat->V)->Option R):l5 12 [a,b,c,d,e,f,g,h,j,k,m,n] K=K fun i=>[a,b,c,d,e,f,g,h,j,k,m,n].getD i .b7:=by exact id rfl
theorem asB {R:Type} (a b c d e f g h j k m n o:V) (K:(Nat->V)->Option R):l5 13 [a,b,c,d,e,f,g,h,j,k,m,n,o] K=K fun i=>[a,b,c,d,e,f,g,h,j,k,m,n,o].getD i .b7:=by exact id rfl
theorem asK {R:Type} (a b c d e f g h j k m n o p:V) (K:(Nat->V)->Option R):l5 14 [a,b,c,d,e,f,g,h,j,k,m,n,o,p] K=K fun i=>[a,b,c,d,e,f,g,h,j,k,m,n,o,p].getD i .b7:=by exact id rfl
theorem ass {R:Type} (a b c d e f g h j k m n o p q:V) (K:(Nat->V)->Option R):l5 15 [a,b,c,d,e,f,g,h,j,k,m,n,o,p,q] K=K fun i=>[a,b,c,d,e,f,g,h,j,k,m,n,o,p,q].getD i .b7:=by exact id rfl
theorem asv {α:Type} (x0 x1 x2 x3 x4 x5 x6 x7 x8 x9 x10 d:α) (l:List α):(x0::x1::x2::x3::x4::x5::x6::x7::x8::x9::x10::l).getD 10 d=x10:=by exact id rfl
theorem asG {α:Type} (x0 x1 x2 x3 x4 x5 x6 x7 x8 x9 x10 x11 d:α) (l:List α):(x0::x1::x2::x3::x4::x5::x6::x7::x8::x9::x10::x11::l).getD 11 d=x11:=by exact id rfl
theorem asT {α:Type} (x0 x1 x2 x3 x4 x5 x6 x7 x8 x9 x10 x11 x12 d:α) (l:List α):(x0::x1::x2::x3::x4::x5::x6::x7::x8::x9::x10::x11::x12::l).getD 12 d=x12:=by exact id rfl
theorem asX {α:Type} (x0 x1 x2 x3 x4 x5 x6 x7 x8 x9 x10 x11 x12 x13 d:α) (l:List α):(x0::x1::x2::x3::x4::x5::x6::x7::x8::x9::x10::x11::x12::x13::l).getD 13 d=x13:=by exact id rfl
theorem asL {α:Type} (x0 x1 x2 x3 x4 x5 x6 x7 x8 x9 x10 x11 x12 x13 x14 d:α) (l:List α):(x0::x1::x2::x3::x4::x5::x6::x7::x8::x9::x10::x11::x12::x13::x14::l).getD 14 d=x14:=by exact id rfl
theorem asW {α:Type} (x0 x1 x2 x3 x4 x5 x6 x7 x8 x9 x10 x11 x12 x13 x14 x15 d:α) (l:List α):(x0::x1::x2::x3::x4::x5::x6::x7::x8::x9::x10::x11::x12::x13::x14::x15::l).getD 15 d=x15:=by exact id rfl
section
variable {B:List V->VH->Option (Option Nat × List V × VH)} {vs vs':List V} {hp hp':VH} {n:Nat}
theorem akq (h:B vs hp=some (none,vs',hp')):p5 B vs hp=p5 B vs' hp':=by rw [anD,h]
theorem agL (h:B vs hp=some (some n,vs',hp')):p5 B vs hp=some (n,vs',hp'):=by rw [anD,h]
end
section
variable (tk:TK) (a b:Int) (k:IntKind)
theorem asA:a8 tk .lss (.int k a) (.int k b)=some (.bool (decide (a<b))):=by simp [a8,V4,O2,O4,X5]
theorem asy:a8 tk .leq (.int k a) (.int k b)=some (.bool (decide (a<=b))):=by simp [a8,V4,O2,O4,X5]
theorem asm:a8 tk .gtr (.int k a) (.int k b)=some (.bool (decide (a>b))):=by simp [a8,V4,O2,O4,X5]
theorem asI:a8 tk .geq (.int k a) (.int k b)=some (.bool (decide (a>=b))):=by simp [a8,V4,O2,O4,X5]
theorem as4:a8 tk .eql (.int k a) (.int k b)=some (.bool (decide (a=b))):=by
 simp only [a8,V4,O2,O4,X5,Option.bind_some,if_true]
 congr 2
theorem asO:a8 tk .neq (.int k a) (.int k b)=some (.bool (!decide (a=b))):=by
 simp only [a8,V4,O2,O4,X5,Option.bind_some,if_true]
 congr 2
theorem acw (h1 : -9223372036854775808<=a+b) (h2:a+b<=9223372036854775807):a8 tk .add (.int .i64 a) (.int .i64 b)=some (.int .i64 (a+b)):=by simp [a8,V4,O2,O4,X5,IntWalk.i64_in _ ⟨h1,h2⟩]
theorem ajj (h1 : -9223372036854775808<=a-b) (h2:a-b<=9223372036854775807):a8 tk .sub (.int .i64 a) (.int .i64 b)=some (.int .i64 (a-b)):=by simp [a8,V4,O2,O4,X5,IntWalk.i64_in _ ⟨h1,h2⟩]
theorem agR (h1 : -9223372036854775808<=a*b) (h2:a*b<=9223372036854775807):a8 tk .mul (.int .i64 a) (.int .i64 b)=some (.int .i64 (a*b)):=by simp [a8,V4,O2,O4,X5,IntWalk.i64_in _ ⟨h1,h2⟩]
theorem aiB (h:b ≠ 0):a8 tk .rem (.int k a) (.int k b)=some (.int k (a.tmod b)):=by simp [a8,V4,O2,O4,X5,h]
theorem avL (h:0<b) (h1:0<=a) (h2:a<=9223372036854775807):a8 tk .quo (.int .i64 a) (.int .i64 b)=some (.int .i64 (a.tdiv b)):=by
 have h3:0<=a.tdiv b:=Int.tdiv_nonneg h1 (by omega)
 have h4:a.tdiv b<=a:=Int.tdiv_le_self b h1
 have h5:=IntWalk.i64_in (a.tdiv b) ⟨by omega,by omega⟩
 simp [a8,V4,X5,O2,O4,show b ≠ 0 by omega,h5]
theorem asP (b:Bool):T3 .not (.bool b)=some (.bool !b):=by exact id rfl
theorem asC (a b:Bool):a8 .bool .eql (.bool a) (.bool b)=some (.bool (decide (a=b))):=by cases a<;>cases b<;>rfl
theorem asH (a b:Bool):a8 .bool .neq (.bool a) (.bool b)=some (.bool (!decide (a=b))):=by cases a<;>cases b<;>rfl
end
theorem avE (tk:TK) (a b:Nat) (h1:a<2 ^ 62) (h2:b<2 ^ 62):a8 tk .xor (.int .i64 a) (.int .i64 b)=some (.int .i64 ((a ^^^ b:Nat):Int))/\a ^^^ b<2 ^ 62:=by
 have hlt:a ^^^ b<2 ^ 62:=Nat.xor_lt_two_pow h1 h2
 refine ⟨?_,hlt⟩
 have e1:BitVec.ofInt 64 (a:Int)=BitVec.ofNat 64 a:=by simp
 have e2:BitVec.ofInt 64 (b:Int)=BitVec.ofNat 64 b:=by simp
 have e3:(BitVec.ofNat 64 a ^^^ BitVec.ofNat 64 b).toNat=a ^^^ b:=by
  rw [BitVec.toNat_xor,BitVec.toNat_ofNat,BitVec.toNat_ofNat,Nat.mod_eq_of_lt (by omega),Nat.mod_eq_of_lt (by omega)]
 have e4:=IntWalk.i64_in ((a ^^^ b:Nat):Int) ⟨by omega,by omega⟩
 show some (V.int .i64 (IntKind.i64.wrap (((BitVec.ofInt 64 (a:Int) ^^^ BitVec.ofInt 64 (b:Int)).toNat:Nat):Int)))=_
 rw [e1,e2,e3,e4]
theorem amQ (a b:Nat):(a:Int).tmod (b:Int)=((a % b:Nat):Int):=by rw [Int.tmod_eq_emod_of_nonneg (by omega)]; simp
theorem aru (a b:Nat):(a:Int).tdiv (b:Int)=((a / b:Nat):Int):=by simp [Int.ofNat_tdiv]
theorem aj4 (n:Nat) (h:n<=255):aai .i64 (.int .u8 (n:Int))=some (.int .i64 (n:Int)):=by simp [aai,IntWalk.i64_in (n:Int) ⟨by omega,by omega⟩]
theorem adV (tk:TK) (a b:Nat) (h:a*b<=9223372036854775807):a8 tk .mul (.int .i64 (a:Int)) (.int .i64 (b:Int))=some (.int .i64 ((a*b:Nat):Int)):=by
 have e:(a:Int)*(b:Int)=((a*b:Nat):Int):=by simp
 rw [agR _ _ _ (by rw [e]; omega) (by rw [e]; omega),e]
theorem C0 (tk:TK) (a b:Nat) (h:a+b<=9223372036854775807):a8 tk .add (.int .i64 (a:Int)) (.int .i64 (b:Int))=some (.int .i64 ((a+b:Nat):Int)):=by
 have e:(a:Int)+(b:Int)=((a+b:Nat):Int):=by simp
 rw [acw _ _ _ (by rw [e]; omega) (by rw [e]; omega),e]
theorem af2 (tk:TK) (a b:Nat) (h:b<=a) (h2:a<=9223372036854775807):a8 tk .sub (.int .i64 (a:Int)) (.int .i64 (b:Int))=some (.int .i64 ((a-b:Nat):Int)):=by
 have e:(a:Int)-(b:Int)=((a-b:Nat):Int):=by omega
 rw [ajj _ _ _ (by rw [e]; omega) (by rw [e]; omega),e]
theorem adY (tk:TK) (a b:Nat) (h:0<b):a8 tk .rem (.int .i64 (a:Int)) (.int .i64 (b:Int))=some (.int .i64 ((a % b:Nat):Int)):=by
 rw [aiB _ _ _ _ (by omega),amQ]
theorem agq (tk:TK) (a b:Nat) (h:0<b) (h2:a<=9223372036854775807):a8 tk .quo (.int .i64 (a:Int)) (.int .i64 (b:Int))=some (.int .i64 ((a / b:Nat):Int)):=by
 rw [avL _ _ _ (by omega) (by omega) (by omega),aru]
theorem asE (s t:List UInt8):((ByteArray.mk s.toArray).toList==(ByteArray.mk t.toArray).toList)=decide (s=t):=by
 rw [ByteArray.toList_eq,ByteArray.toList_eq]
 show (s==t)=_
 rw [Bool.eq_iff_iff,beq_iff_eq,decide_eq_true_iff]
theorem asV (tk:TK) (s t:List UInt8):a8 tk .eql (.str s) (.str t)=some (.bool (decide (s=t))):=by
 simp only [a8,V4,O2,aer,X5,Option.bind_some,asE]
theorem as0 (tk:TK) (s t:List UInt8):a8 tk .neq (.str s) (.str t)=some (.bool (!decide (s=t))):=by
 simp only [a8,V4,O2,aer,X5,Option.bind_some,asE]
theorem F1 (tk:TK) (s t:List UInt8) (h:s.length+t.length<=9223372036854775807):a8 tk .add (.str s) (.str t)=some (.str (s++t)):=by
 simp only [a8,V4,O2,aer,X5,Option.bind_some]
 rw [if_pos (by simpa [ByteArray.size] using h)]
 simp [X5]
theorem R5 (s:List UInt8) (k:IntKind) (i:Nat) (h:i<s.length):p9 (.str s) (.int k (i:Int))=some (.int .u8 ((s[i]'h).toNat:Int)):=by
 simp [p9,List.getElem?_eq_getElem h]
theorem as1 (s:List UInt8):o9 (.str s)=some (.int .i64 s.length):=by exact id rfl
theorem asj (o:Bool) (xs:List (List V)):J7 (.sl o xs)=some (.int .i64 xs.length):=by exact id rfl
theorem ak9 (s:List UInt8) (k k':IntKind) (l h:Nat) (h1:l<=h) (h2:h<=s.length):w8 (.str s) (some (.int k (l:Int))) (some (.int k' (h:Int)))=some (.str ((s.drop l).take (h-l))):=by
 simp only [w8,abz,Option.bind_some]
 rw [if_pos (by omega)]; simp
theorem agP (s:List UInt8) (k:IntKind) (h:Nat) (h2:h<=s.length):w8 (.str s) none (some (.int k (h:Int)))=some (.str (s.take h)):=by
 simp only [w8,abz,Option.bind_some]
 rw [if_pos (by omega)]; simp
theorem agH (s:List UInt8) (k:IntKind) (l:Nat) (h2:l<=s.length):w8 (.str s) (some (.int k (l:Int))) none=some (.str (s.drop l)):=by
 simp only [w8,abz,Option.bind_some]
 rw [if_pos (by omega)]
 simp
 rw [List.take_of_length_le (by simp)]
theorem asS (s:List UInt8):ala (.str s)=some (.str s):=by exact id rfl
theorem aoU (b8:Nat) (o:Bool) (xs:List (List V)) (k:IntKind) (i:Nat) (c:List V) (h:xs[i]? = some c) (hc:c.length=b8):M0 b8 (.sl o xs) (.int k (i:Int))=some (.E7 (l7 c) 0):=by
 simp [M0,h,hc]
theorem aph (g:Nat->Option (List V)) (t:Bool) (n:Nat) (v:V) (H:VH):L8 g t false n (.E7 [v] 0) H=some (v,H):=by exact id rfl
theorem aqt (f:FuncId) (c:List V):M3 (.fn f c)=some (.fn f c):=by exact id rfl
theorem aqm (k o:Nat):M3 (.ptr k o)=some (.ptr k o):=by exact id rfl
theorem aqr (c:List V) (o:Nat):M3 (.E7 c o)=some (.E7 c o):=by exact id rfl
theorem aqb (k o n:Nat):L3 (.ptr k o) n=some (.ptr k (o+n)):=by exact id rfl
theorem aqx (c:List V) (o n:Nat):L3 (.E7 c o) n=some (.E7 c (o+n)):=by exact id rfl
theorem as5 (k:IntKind) (n:Int):C3 (.int k n)=some (.int k n):=by exact id rfl
theorem aqT (b:Bool):C3 (.bool b)=some (.bool b):=by exact id rfl
theorem asu (s:List UInt8):C3 (.str s)=some (.str s):=by exact id rfl
theorem auK (o:Bool) (xs:List (List V)):C3 (.sl o xs)=some (.sl o xs):=by exact id rfl
theorem ast (k o:Nat):C3 (.ptr k o)=some (.ptr k o):=by exact id rfl
theorem atY (f:FuncId) (c:List V):C3 (.fn f c)=some (.fn f c):=by exact id rfl
theorem ave (xs:List (List V)):afi (.sl true xs)=some xs:=by exact id rfl
theorem asa (f:FuncId) (c:List V):akk (.fn f c)=some (f,c):=by exact id rfl
theorem avw (a:V) (l:List V):y4 (.o8 (a::l)) 0=some a:=by exact id rfl
theorem atT (a b:V) (l:List V):y4 (.o8 (a::b::l)) 1=some b:=by exact id rfl
theorem aun (a b c:V) (l:List V):y4 (.o8 (a::b::c::l)) 2=some c:=by exact id rfl
theorem auS (a:V) (l:List V):abw 0 (.o8 (a::l)) = .o8 (strip a::l):=by exact id rfl
theorem avj (a b:V) (l:List V):abw 1 (.o8 (a::b::l)) = .o8 (a::strip b::l):=by exact id rfl
theorem atP (a b c:V) (l:List V):abw 2 (.o8 (a::b::c::l)) = .o8 (a::b::strip c::l):=by exact id rfl
theorem avY (b8:Nat) (o:Bool) (xs:List (List V)) (k:IntKind) (h:Nat) (he:C5 b8 xs=true) (h2:h<=xs.length):Q2 b8 (.sl o xs) none (some (.int k (h:Int)))=some (.sl false (o7 (xs.take h))):=by
 simp only [Q2,abz,Option.bind_some]
 rw [if_pos ⟨he,by omega⟩]; simp
theorem asF (b8 bytes:Nat) (xs:List (List V)) (o:Bool) (ys:List (List V)) (h1:C5 b8 xs=true) (h2:C5 b8 ys=true) (h3:(xs.length+ys.length)*bytes<=140737488355328):W8 false b8 bytes xs (.sl o ys)=some (.sl true (xs++ys)):=by
 simp only [W8]; rw [if_pos ⟨h1,h2,h3⟩]
theorem aog {call:w6} {f:FuncId} {args:List V} {r:V} {H:VH} (h:call f args []=some (r,H)) (h1:w4 args=true) (h2:data r=true):V7 call f args=some r:=by
 simp only [V7,h1,h,Option.bind_some,h2]
theorem y5 {call:w6} {f:FuncId} {args:List V} {r:V} {H:VH} (h:call f args []=some (r,H)) (h1:w4 args=true) (h2:abb r=true):P7 call f args=some r:=by
 simp only [P7,h1,h,Option.bind_some,h2]
def vT (l:List (List UInt8)):List (List V):=l.map fun s=>[.str s]
def vI (k:IntKind) (l:List Int):List (List V):=l.map fun n=>[.int k n]
def vB (l:List UInt8):List (List V):=l.map fun b=>[.int .u8 b.toNat]
theorem agp (l:List (List UInt8)):(vT l).length=l.length:=by simp [vT]
theorem aew (l:List UInt8):(vB l).length=l.length:=by simp [vB]
theorem aqW (k:IntKind) (l:List Int):(vI k l).length=l.length:=by simp [vI]
theorem ac2 (l:List (List UInt8)):o7 (vT l)=vT l:=by
 induction l with
 | nil=>rfl
 | cons a l ih=>simp only [vT,List.map_cons,o7,l7,strip] at ih ⊢; rw [ih]
theorem aeP (l:List UInt8):o7 (vB l)=vB l:=by
 induction l with
 | nil=>rfl
 | cons a l ih=>simp only [vB,List.map_cons,o7,l7,strip] at ih ⊢; rw [ih]
theorem amN (k:IntKind) (l:List Int):o7 (vI k l)=vI k l:=by
 induction l with
 | nil=>rfl
 | cons a l ih=>simp only [vI,List.map_cons,o7,l7,strip] at ih ⊢; rw [ih]
theorem ali (l:List (List UInt8)):D8 (vT l)=true:=by
 induction l with
 | nil=>rfl
 | cons a l ih=>simp only [vT,List.map_cons,D8,w4,z7,Bool.and_self,Bool.true_and] at ih ⊢; exact ih
theorem asU (l:List UInt8):D8 (vB l)=true:=by
 induction l with
 | nil=>rfl
 | cons a l ih=>simp only [vB,List.map_cons,D8,w4,z7,Bool.and_self,Bool.true_and] at ih ⊢; exact ih
theorem asq (k:IntKind) (l:List Int):D8 (vI k l)=true:=by
 induction l with
 | nil=>rfl
 | cons a l ih=>simp only [vI,List.map_cons,D8,w4,z7,Bool.and_self,Bool.true_and] at ih ⊢; exact ih
theorem agG (l:List (List UInt8)):J3 (vT l)=true:=by
 induction l with
 | nil=>rfl
 | cons a l ih=>simp only [vT,List.map_cons,J3,C1,data,Bool.and_self,Bool.true_and] at ih ⊢; exact ih
theorem anR (l:List UInt8):J3 (vB l)=true:=by
 induction l with
 | nil=>rfl
 | cons a l ih=>simp only [vB,List.map_cons,J3,C1,data,Bool.and_self,Bool.true_and] at ih ⊢; exact ih
theorem anN (k:IntKind) (l:List Int):J3 (vI k l)=true:=by
 induction l with
 | nil=>rfl
 | cons a l ih=>simp only [vI,List.map_cons,J3,C1,data,Bool.and_self,Bool.true_and] at ih ⊢; exact ih
theorem ajy (l:List (List UInt8)):C5 1 (vT l)=true:=by simp [C5,vT]
theorem age (l:List UInt8):C5 1 (vB l)=true:=by simp [C5,vB]
theorem apF (k:IntKind) (l:List Int):C5 1 (vI k l)=true:=by simp [C5,vI]
theorem avm (l:List (List UInt8)) (i:Nat) (h:i<l.length):(vT l)[i]? = some [.str l[i]]:=by simp [vT,List.getElem?_eq_getElem h]
theorem auF (l:List UInt8) (i:Nat) (h:i<l.length):(vB l)[i]? = some [.int .u8 (l[i].toNat:Int)]:=by simp [vB,List.getElem?_eq_getElem h]
theorem avr (k:IntKind) (l:List Int) (i:Nat) (h:i<l.length):(vI k l)[i]? = some [.int k l[i]]:=by simp [vI,List.getElem?_eq_getElem h]
theorem atZ (l m:List (List UInt8)):vT l++vT m=vT (l++m):=by simp [vT]
theorem atL (l:List UInt8) (n:Nat):(vB l).take n=vB (l.take n):=by simp [vB]
theorem aiR (o:Bool) (l:List (List UInt8)) (k:IntKind) (i:Nat) (h:i<l.length):M0 1 (.sl o (vT l)) (.int k (i:Int))=some (.E7 [.str l[i]] 0):=by
 rw [aoU 1 o (vT l) k i _ (avm l i h) rfl]; rfl
theorem alQ (o:Bool) (l:List UInt8) (k:IntKind) (i:Nat) (h:i<l.length):M0 1 (.sl o (vB l)) (.int k (i:Int))=some (.E7 [.int .u8 (l[i].toNat:Int)] 0):=by
 rw [aoU 1 o (vB l) k i _ (auF l i h) rfl]; rfl
theorem ap0 (o:Bool) (k':IntKind) (l:List Int) (k:IntKind) (i:Nat) (h:i<l.length):M0 1 (.sl o (vI k' l)) (.int k (i:Int))=some (.E7 [.int k' l[i]] 0):=by
 rw [aoU 1 o (vI k' l) k i _ (avr k' l i h) rfl]; rfl
end Go.AM

/- What Go's assembly functions hand back in the machine of values: the place of a byte in a text, the count of a byte in a text. No condition. -/
namespace Go.AM
set_option linter.unusedSimpArgs false
set_option linter.unusedVariables false
def amJ:Nat->List Value->Option Value
 | 0,[.string s,.int .u8 c]=>some (.int .i64 (Go.Lib.indexByte s.data.toList c.toNat.toUInt8))
 | 1,[.string s,.int .u8 c]=>some (.int .i64 (Go.Lib.countByte s.data.toList c.toNat.toUInt8))
 | _,_=>none
def aib {R:Type} (n:Nat) (vs:List V) (K:V->Option R):Option R :=
 (vs.mapM V4).bind fun az=>(amJ n az).bind fun r=>(X5 r).bind fun v=>K v
theorem aiJ {R:Type} (s:List UInt8) (c:Int) (K:V->Option R):aib 0 [.str s,.int .u8 c] K=K (.int .i64 (Go.Lib.indexByte s c.toNat.toUInt8)):=by
 simp [aib,V4,amJ,X5]
theorem aix {R:Type} (s:List UInt8) (c:Int) (K:V->Option R):aib 1 [.str s,.int .u8 c] K=K (.int .i64 (Go.Lib.countByte s c.toNat.toUInt8)):=by
 simp [aib,V4,amJ,X5]
def aoQ (l m:List Nat) (e:List (Nat × Nat)) (f:FuncId):Nat:=match look e f with | some n=>n+3 | none=>kindOf l m f
def asb (P:Program) (f n:Nat):Prop:=match n with
 | 0=>∀ args w,(callFunc f args).run P w=((Extern.BytealgIndexByte.indexByte args).run P w).andThen fun v w' => .ok (.value v) w'
 | 1=>∀ args w,(callFunc f args).run P w=((Extern.BytealgCount.count args).run P w).andThen fun v w' => .ok (.value v) w'
 | _=>True
def afU (P:Program):List (Nat × Nat)->Prop
 | []=>True
 | (f,n)::l=>asb P f n/\afU P l
theorem afU.at {P:Program}:∀ {l:List (Nat × Nat)} {f n:Nat},afU P l->look l f=some n->asb P f n
 | [],f,n,_,h=>by cases h
 | (g,m)::l,f,n,h,hl=>by
   unfold look at hl
   split at hl
   ·rename_i e
    have:g=f:=by simpa using e
    cases hl
    subst this
    exact h.1
   ·exact h.2.at hl
theorem apL (l m:List Nat) (f:FuncId):kindOf l m f<=2:=by
 unfold kindOf; split
 ·omega
 ·split<;>omega
theorem aug {P:Program} {l m:List Nat} {e:List (Nat × Nat)} (h:afU P e):aoG P (aoQ l m e) amJ:=by
 intro f n vs v hk hx ι vs' w hv
 have hf:look e f=some n:=by
  unfold aoQ at hk
  split at hk
  ·rename_i k hk'; rw [hk']; congr 1; omega
  ·have:=apL l m f; omega
 have hF:=h.at hf
 match n,vs,hx with
 | 0,[.string s,.int .u8 c],hx =>
   cases hx
   obtain ⟨x,y,h1,h2⟩:∃ x y,vs' = #[x,y]/\VR ι (.string s) x/\VR ι (.int .u8 c) y:=by
    rcases vs' with ⟨l⟩
    cases hv with
    | cons a hv=>cases hv with
      | cons b hv=>cases hv; exact ⟨_,_,rfl,a,b⟩
   obtain ⟨h2,h3⟩:=h2
   cases h2; cases h3
   subst h1
   refine ⟨_,?_,.int _ _⟩
   rw [hF,Go.Lib.run_indexByteString]; rfl
 | 1,[.string s,.int .u8 c],hx =>
   cases hx
   obtain ⟨x,y,h1,h2⟩:∃ x y,vs' = #[x,y]/\VR ι (.string s) x/\VR ι (.int .u8 c) y:=by
    rcases vs' with ⟨l⟩
    cases hv with
    | cons a hv=>cases hv with
      | cons b hv=>cases hv; exact ⟨_,_,rfl,a,b⟩
   obtain ⟨h2,h3⟩:=h2
   cases h2; cases h3
   subst h1
   refine ⟨_,?_,.int _ _⟩
   rw [hF,Go.Lib.run_countString]; rfl
end Go.AM

/- slices.Insert and slices.Delete in the machine of values: on rows that lie in objects. -/
namespace Go.AM
set_option linter.unusedSimpArgs false
set_option linter.unusedVariables false
set_option linter.unusedSectionVars false
theorem ahy (b:W7) {f:FuncId} {args:List Value} {hp:Heap} {g:List Value->Heap->Option (Value × Heap)} (hg:b.Q8 f=some g) {r:Value × Heap} (h:g args hp=some r):H5 b f args hp=some r :=
 ah9 (n:=1) (by simp only [P8,hg]; exact h)
theorem Ext.trans {a b c:Wd} (h:Ext a b (fun _=>True)) (g:Ext b c (fun _=>True)):Ext a c (fun _=>True) where
 w5:=fun i k hk hn=>by
  obtain ⟨k1,a1,a2,a3,a4,a5,a6⟩:=h.w5 i k hk hn
  obtain ⟨k2,b1,b2,b3,b4,b5,b6⟩:=g.w5 i k1 a1 a2
  exact ⟨k2,b1,b2,fun q=>b3 (a3 q),by rw [b4,a4],by rw [b5,a5],fun _=>⟨by rw [(b6 trivial).1,(a6 trivial).1],by rw [(b6 trivial).2,(a6 trivial).2]⟩⟩
 c9:=fun k i hk=>g.c9 k i (h.c9 k i hk)
 osz:=fun k i kb hk hb=>by
  obtain ⟨k1,a1,a2⟩:=h.osz k i kb hk hb
  obtain ⟨k2,b1,b2⟩:=g.osz k i k1 (h.c9 k i hk) a1
  exact ⟨k2,b1,by rw [b2,a2]⟩
section
variable {w:Wd} {b:Nat} {kb k:j4} (hw:HW w) (hb:b ∈ w.c9) (hk:w.hp[b]? = some kb) (hf:k.j1=w.hp.length)
include hw hb hk hf
end
theorem RV.built {w:Wd} {y:List V} {l:List (List V)} {x:Value} {c:j2} (h:RV w (.sl true (y::l)) x c) {b8:Nat} (hesz:C5 b8 (y::l)=true) :
 ∃ b kv cc d,j7 w.hp b=some kv/\b ∉ w.fb/\x = .slice (some ⟨b,0,none⟩) (l.length+1) cc/\kv.sz=b8/\kv.md = .rw/\kv.pl=true/\0<b8/\kv.cells.length=(l.length+1)*b8/\j6 w (y::l) kv.cells b8 d/\∀ i,d i<=c i:=by
 simp only [RV] at h
 rcases h with ⟨h,_⟩ | ⟨h0,b,o,kb,ws,cc,d,h1,h2,h3,h4,h5,h6,h7,h8⟩
 ·cases h
 ·rcases h8 with ⟨h8,_⟩ | ⟨_,⟨h9,h9'⟩,rfl,h11,h12⟩
  ·cases h8
  ·have hsz:=h7.b8 hesz h0
   have hws:ws=kb.cells:=by
    have:=(C4 h6).2.1
    rw [this,List.drop_zero,List.take_of_length_le (by omega)]
   subst hws
   rw [hsz] at h7 h11 h5
   exact ⟨b,kb,cc,d,h1,h2,h4,hsz,h9,h9',h5,h11.symm,h7,fun i=>by rw [h12]; omega⟩
theorem B8.start {w:Wd} (hw:HW w) {args:List V} {args':List Value} {H:VH} {ca ch:j2} (hv:b9 w args args' ca) (ho:p6 w H w.c9 ch):B8 ⟨w.hp,w.c9,w.fb,fun i=>ca i+ch i⟩ w:=by
 refine ⟨Nat.le_refl _,fun _ _ h _ _=>h,fun b k hk _=>⟨k,hk,rfl,rfl,rfl,.inl rfl⟩,fun c k hc hk=>?_,⟨[],by simp,by simp⟩,⟨[],by simp,by simp⟩,fun b k hb hk=>?_,fun b kb hk=>⟨kb,hk,rfl,rfl⟩,hw.X6,hw.j1⟩
 ·have:=(List.getElem?_eq_some_iff.1 hk).1; simp only at hc; omega
 ·simp only at hb
  by_cases q:1<=ca b
  ·obtain ⟨_,_,kb,a1,_,a3⟩:=b9.owned _ hv b q
   have a1':=(j5 a1).1
   rw [hk] at a1'; cases a1'; exact a3
  ·obtain ⟨kb,a1,a3⟩:=p6.afF ho b (by omega)
   rw [hk] at a1; cases a1; exact a3
def akn (P:Program) (ng:Nat):List (Nat × (List Value->Heap->Option (Value × Heap)))->Prop
 | []=>True
 | (f,g)::l=>(∀ args hp r hp',g args hp=some (r,hp')->alF P ng f args hp r hp')/\akn P ng l
theorem alV {P:Program} {ng:Nat}:∀ {l:List (Nat × (List Value->Heap->Option (Value × Heap)))},akn P ng l->∀ f g args hp r hp',look l f=some g->g args hp=some (r,hp')->alF P ng f args hp r hp'
 | [],_,f,g,args,hp,r,hp',h,_=>by cases h
 | (k,q)::l,⟨h1,h2⟩,f,g,args,hp,r,hp',h,e=>by
   rw [j3] at h
   split at h
   ·rename_i hk; cases h; rw [hk]; exact h1 args hp r hp' e
   ·exact alV h2 f g args hp r hp' h e
def ahW (b:O7):List (Nat × (List V->VH->Option (V × VH)))->Prop
 | []=>True
 | (f,g)::l=>(∀ args H r H',g args H=some (r,H')->A7 (b.ctx (G7 b) p5) (H5 b.b) f args H r H')/\ahW b l
theorem akG {b:O7}:∀ {l:List (Nat × (List V->VH->Option (V × VH)))},ahW b l->∀ f g args r H H',look l f=some g->g args H=some (r,H')->A7 (b.ctx (G7 b) p5) (H5 b.b) f args H r H'
 | [],_,f,g,args,r,H,H',h,_=>by cases h
 | (k,q)::l,⟨h1,h2⟩,f,g,args,r,H,H',h,e=>by
   rw [j3] at h
   split at h
   ·rename_i hk; cases h; rw [hk]; exact h1 args H r H' e
   ·exact akG h2 f g args r H H' h e
theorem aku {α β:Type}:∀ {l:List (Nat × α)} {l':List (Nat × β)},l.map (·.1)=l'.map (·.1)->∀ {f:Nat},look l f=none->look l' f=none
 | [],[],_,f,_=>rfl
 | [],_::_,h,_,_=>by simp at h
 | _::_,[],h,_,_=>by simp at h
 | (k,a)::l,(k',a')::l',h,f,hn=>by
   simp only [List.map_cons,List.cons.injEq] at h
   obtain ⟨rfl,h⟩:=h
   rw [j3] at hn ⊢
   split at hn
   ·cases hn
   ·rename_i hk; rw [if_neg hk]; exact aku h hn
end Go.AM

/- slices.DeleteFunc in the machine of values: of a row of texts in an object, those that are empty are struck. -/
namespace Go.AM
set_option linter.unusedSimpArgs false
set_option linter.unusedVariables false
set_option linter.unusedSectionVars false
abbrev bsA (s:List UInt8):ByteArray:=⟨s.toArray⟩
theorem amu:∀ (ss:List (List UInt8)),acq (ss.map fun s => .string (bsA s))=some (ss.map bsA)
 | []=>rfl
 | s::ss=>by
   show ((acq (ss.map fun s => .string (bsA s))).map fun t=>bsA s::t)=_
   rw [amu ss]; rfl
end Go.AM

/- strings.Join in the machine of values. -/
namespace Go.AM
set_option linter.unusedSimpArgs false
set_option linter.unusedVariables false
set_option linter.unusedSectionVars false
def abU:List (List V)->Option (List (List UInt8))
 | []=>some []
 | [.str s]::l=>(abU l).map fun t=>s::t
 | _=>none
def C8 (sep:List UInt8):List (List UInt8)->List UInt8
 | []=>[]
 | [a]=>a
 | a::b::l=>a++sep++C8 sep (b::l)
def aiN:List V->VH->Option (V × VH)
 | [.sl _ xs,.str sep],H=>(abU xs).bind fun ss=>if ss.length<=140737488355328/\(C8 sep ss).length<=140737488355328 then some (.str (C8 sep ss),H) else none
 | _,_=>none
theorem akO:∀ (ss:List (List UInt8)),abU (ss.map fun s=>[V.str s])=some ss
 | []=>rfl
 | s::ss=>by
   show ((abU (ss.map fun s=>[V.str s])).map fun t=>s::t)=_
   rw [akO ss]; rfl
theorem akt:∀ {l:List (List V)} {ss:List (List UInt8)},abU l=some ss->l=ss.map fun s=>[V.str s]
 | [],ss,h=>by cases h; rfl
 | v::l,ss,h=>by
   match v,h with
   | [.str s],h =>
     simp only [abU] at h
     cases hs:abU l with
     | none=>rw [hs] at h; cases h
     | some t=>rw [hs] at h; cases h; rw [akt hs]; rfl
theorem amM (sep:List UInt8):∀ (ss:List (List UInt8)),Lib.join ss sep=C8 sep ss
 | []=>rfl
 | [a]=>Lib.join_one a sep
 | a::b::l=>by
   have ih:=amM sep (b::l)
   rw [Lib.join_cons] at ih ⊢
   simp only [Lib.joinTail,List.map_cons,List.flatten_cons,C8] at ih ⊢
   rw [<-ih]
   simp only [List.append_assoc]
theorem akK {w:Wd}:∀ {ss:List (List UInt8)} {xs:List Value} {sz:Nat} {c:j2},j6 w (ss.map fun s=>[V.str s]) xs sz c->xs=ss.map (fun s => .string (bsA s))/\(ss ≠ []->sz=1)/\∀ i,c i=0
 | [],xs,sz,c,h=>by simp only [List.map_nil,j6] at h; exact ⟨h.1,fun q=>absurd rfl q,h.2⟩
 | s::ss,xs,sz,c,h=>by
   simp only [List.map_cons,j6] at h
   obtain ⟨ys,zs,c1,c2,rfl,h1,h2,h3,h4⟩:=h
   simp only [b9,RV] at h2
   obtain ⟨x,_,d1,d2,rfl,⟨rfl,h5⟩,⟨rfl,h6⟩,h7⟩:=h2
   obtain ⟨rfl,_,h8⟩:=akK h3
   exact ⟨rfl,fun _=>h1.symm,fun i=>by rw [h4,h7,h5,h6,h8]⟩
theorem anT:∀ (ss:List (List UInt8)),(ss.map bsA).map (fun x=>x.data.toList)=ss
 | []=>rfl
 | s::ss=>by
   have:=anT ss
   simp only [List.map_cons,this]
theorem apD {X:XV} {b:W7} {f:FuncId} (hg:b.Q8 f=some agY) {args:List V} {H H':VH} {r:V} (h:aiN args H=some (r,H')):A7 X (H5 b) f args H r H':=by
 intro w args' ca ch hw hgl ha ho hle hbig
 unfold aiN at h
 split at h
 ·rename_i ow xs sep
  obtain ⟨ss,hss,h⟩:=a7 h
  split at h
  ·rename_i hc
   obtain ⟨hn,hl⟩:=hc
   cases h
   have hxe:=akt hss
   have hv:=ha
   simp only [b9] at ha
   obtain ⟨x1,_,c1,c2,rfl,h1,⟨x2,_,c3,c4,rfl,h2,⟨rfl,h0⟩,q2⟩,q1⟩:=ha
   simp only [RV] at h2
   obtain ⟨rfl,h20⟩:=h2
   have fin:agY [x1,.string ⟨sep.toArray⟩] w.hp=some (.string (bsA (C8 sep ss)),w.hp):=by
    simp only [RV] at h1
    rcases h1 with ⟨hx,⟨a,cc,rfl,_⟩,_⟩ | ⟨hx,bk,o,kb,ws,cc,d,g1,g2,g3,rfl,g5,g6,g7,g8⟩
    ·have:ss=[]:=by rw [hx] at hxe; simpa using hxe.symm
     subst this
     rfl
    ·rw [hxe] at g7
     obtain ⟨e1,e2,_⟩:=akK g7
     have hne:ss ≠ []:=fun q=>hx (by rw [hxe,q]; rfl)
     have hsz:=e2 hne
     have hxl:xs.length=ss.length:=by rw [hxe,List.length_map]
     have hpos:0<ss.length:=List.length_pos_iff.2 hne
     obtain ⟨n1,n2⟩:∃ n,ss.length=n+1:=⟨ss.length-1,by omega⟩
     obtain ⟨p1,p2,_,_⟩:=C4 g6
     rw [hsz,Nat.mul_one,hxl] at p1 p2
     have hs1:acq ((kb.cells.drop o).take ss.length)=some (ss.map bsA):=by rw [<-p2,e1]; exact amu ss
     rw [hxl]
     have hj:(Lib.join ((ss.map bsA).map fun x=>x.data.toList) sep)=C8 sep ss:=by rw [anT,amM]
     unfold agY
     rw [n2] at hs1 p1 ⊢
     simp only [g1,Option.bind_some,hs1]
     have hj':(Lib.join ((ss.map bsA).map fun x=>x.data.toList) (ByteArray.mk sep.toArray).data.toList)=C8 sep ss:=by simpa using hj
     rw [if_pos ⟨hsz,p1,by omega,by omega,by rw [hj']; exact hl⟩]
     unfold ar7
     rw [hj']
   refine ⟨_,w,fun _=>0,ch,ahy b hg fin,hw,hgl,B8.start hw hv ho,?_,ho,fun m=>?_,fun m hm=>?_,fun m hm=>?_⟩
   ·simp only [RV]; exact ⟨trivial,fun _=>trivial⟩
   ·have:=hle m; show 0+ch m<=1; omega
   ·show 0+ch m<=_; omega
   ·have:=hbig m hm; show 0+ch m=0; omega
  ·cases h
 ·cases h
end Go.AM

/- What comes in: arguments read az data, az values of the machines. -/
namespace Go.AM
set_option linter.unusedSimpArgs false
set_option linter.unusedVariables false
inductive Ty where
 | bool
 | int (k:IntKind)
 | str
 | sl (e:Ty)
 | st (fs:List Ty)
mutual
def L7:Ty->Nat
 | .st fs=>Y8 fs
 | _=>1
termination_by structural t=>t
def Y8:List Ty->Nat
 | []=>0
 | t::ts=>L7 t+Y8 ts
termination_by structural l=>l
end
mutual
def aa6 (P:Program):Ty->TypeId->Bool
 | .bool,t=>(match P.underlying t with | some .bool=>true | _=>false)
 | .int k,t=>(match P.underlying t with | some (.int k')=>decide (k'=k) | _=>false)
 | .str,t=>(match P.underlying t with | some .string=>true | _=>false)
 | .sl e,t=>(match P.underlying t with | some (.slice e')=>aa6 P e e'&&decide (P.cellsOf e'=L7 e)&&decide (0<L7 e) | _=>false)
 | .st fs,t=>(match P.underlying t with | some (.struct fields)=>aja P fs fields.toList 0&&decide (P.cellsOf t=Y8 fs) | _=>false)
termination_by structural t=>t
def aja (P:Program):List Ty->List Field->Nat->Bool
 | [],fs,_=>(match fs with | []=>true | _=>false)
 | t::ts,fs,off=>(match fs with | f::fs=>aa6 P t f.type&&decide (f.offset=off)&&decide (P.cellsOf f.type=L7 t)&&aja P ts fs (off+L7 t) | []=>false)
termination_by structural l=>l
end
mutual
def G5:Ty->List V->Prop
 | .bool,vs=>∃ b,vs=[.bool b]
 | .int k,vs=>∃ n,vs=[.int k n]/\(Lit.int k n).wf=true
 | .str,vs=>∃ s:List UInt8,vs=[.str s]/\s.length<=maxLen
 | .sl e,vs=>∃ xs:List (List V),vs=[.sl false xs]/\xs.length<=maxLen/\∀ x ∈ xs,G5 e x
 | .st fs,vs=>U4 fs vs
termination_by structural t=>t
def U4:List Ty->List V->Prop
 | [],vs=>vs=[]
 | t::ts,vs=>∃ a b,vs=a++b/\G5 t a/\U4 ts b
termination_by structural l=>l
end
structure N1 (ι:j8) (hp:Heap) (w:World):Prop where
 ro:∀ (b:Nat) (k:j4),hp[b]? = some k->(k.md = .ro\/k.md = .gone)/\k.j1=b/\k.pl=true
 B2:∀ b x,ι b=some x->b<hp.length
 ok:∀ b x k,ι b=some x->hp[b]? = some k->(k.md ≠ .gone->S5 ι x k w w.heap.size)/\k.sz=x.sz
theorem GOk.zero (ι:j8):GOk 0 ι:=fun g hg=>by omega
theorem GOk.mono {n:Nat} {ι ι':j8} (h:GOk n ι) (s:Sub ι ι'):GOk n ι':=fun g hg=>by
 obtain ⟨x,h1,h2⟩:=h g hg
 exact ⟨x,s _ _ h1,h2⟩
theorem N1.rel {ι:j8} {hp:Heap} {w:World} (h:N1 ι hp w) {n:Nat} (hg:GOk n ι):Rel n ι hp w w.heap.size where
 D0:=hg
 M6:=fun b x k hx hk=>(h.ok b x k hx hk).2
 B2:=h.B2
 base:=Nat.le_refl _
 ok:=fun b x k hx hk=>(h.ok b x k hx (j5 hk).1).1 (j5 hk).2.1
 sep:=fun b x k b' x' k' hx hk hm=>by
  rcases (h.ro b k (j5 hk).1).1 with q | q<;>(rw [q] at hm; cases hm)
theorem N1.hw {ι:j8} {hp:Heap} {w:World} (h:N1 ι hp w):HW ⟨hp,[],[]⟩ where
 obj:=fun b hb=>by cases hb
 one:=fun b c kb kc hb hc m1 m2 _=>by rcases (h.ro b kb hb).1 with q | q<;>(rw [q] at m1; cases m1)
 j1:=fun c k hk=>by
  rw [(h.ro c k hk).2.1]; exact (List.getElem?_eq_some_iff.1 hk).1
 S9:=fun b hb=>by cases hb
 sub:=fun b hb=>by cases hb
 nd:=List.nodup_nil
 fbf:=fun _ _ _ _ hb=>by cases hb
 mrk:=fun c k hk e=>by rw [(h.ro c k hk).2.2] at e; cases e
theorem N1.av4 {ι:j8} {hp:Heap} {w:World} (h:N1 ι hp w):∀ b k,j7 hp b=some k->k.md ≠ .rw:=fun b k hk e=>by
 rcases (h.ro b k (j5 hk).1).1 with q | q<;>(rw [q] at e; cases e)
theorem N1.nil (w:World):N1 (fun _=>none) [] w where
 ro:=fun b k h=>by simp at h
 B2:=fun b x h=>by cases h
 ok:=fun b x k h=>by cases h
theorem S5.sub {ι ι':j8} (hs:Sub ι ι') {x:Img} {k:j4} {w:World} {B:Nat} (h:S5 ι x k w B):S5 ι' x k w B:=by
 obtain ⟨cs,el,fr,h1,h2,h3,h4,h5⟩:=h
 exact ⟨cs,el,fr,h1,h2,h3,h4.mono hs,h5⟩
theorem N1.push {ι:j8} {hp:Heap} {w:World} (h:N1 ι hp w) {x:Img} {cells:List Value} {sz:Nat} (hb:S5 ι x ⟨cells,sz,.ro,hp.length,true⟩ w w.heap.size) (hsz:sz=x.sz) :
 ∃ ι',N1 ι' (hp++[⟨cells,sz,.ro,hp.length,true⟩]) w/\Sub ι ι'/\ι' hp.length=some x:=by
 have hsub:Sub ι (fun b=>if b=hp.length then some x else ι b):=fun b y hy=>by
  have:=h.B2 b y hy
  show (if b=hp.length then some x else ι b)=some y
  rw [if_neg (by omega)]; exact hy
 refine ⟨fun b=>if b=hp.length then some x else ι b,⟨fun b k hk=>?_,fun b y hy=>?_,fun b y k hy hk=>?_⟩,hsub,by simp⟩
 ·rcases N5 hk with ⟨_,hk⟩ | ⟨rfl,rfl⟩
  ·exact h.ro b k hk
  ·exact ⟨.inl rfl,rfl,rfl⟩
 ·have hy':(if b=hp.length then some x else ι b)=some y:=hy
  simp only [List.length_append,List.length_cons,List.length_nil]
  split at hy'
  ·omega
  ·have:=h.B2 b y hy'; omega
 ·have hy':(if b=hp.length then some x else ι b)=some y:=hy
  rcases N5 hk with ⟨hl,hk⟩ | ⟨rfl,rfl⟩
  ·rw [if_neg (by omega)] at hy'
   obtain ⟨a,b'⟩:=h.ok b y k hy' hk
   exact ⟨fun q=>(a q).sub hsub,b'⟩
  ·rw [if_pos rfl] at hy'
   cases hy'
   exact ⟨fun _=>hb.sub hsub,hsz⟩
theorem A0.at1 {ι:j8} {xs ys:List Value} (h:A0 ι xs ys):xs.length=ys.length:=by
 induction h with
 | nil=>rfl
 | cons _ _ ih=>simp [ih]
theorem A0.get' {ι:j8} {xs ys:List Value} (h:A0 ι xs ys):∀ (i:Nat) (x:Value),xs[i]? = some x->∃ y,ys[i]? = some y/\VR ι x y:=by
 induction h with
 | nil=>intro i x h; simp at h
 | cons h1 _ ih =>
   intro i z hz
   cases i with
   | zero=>simp at hz; subst hz; exact ⟨_,by simp,h1⟩
   | succ i=>simp at hz; simpa using ih i z hz
theorem aj2 (hp new:Heap):Ext ⟨hp,[],[]⟩ ⟨hp++new,[],[]⟩ (fun _=>True):=by
 refine ⟨fun b kb hb hn=>⟨kb,?_,y0.nil,by simp,rfl,rfl,fun _=>⟨rfl,rfl⟩⟩,fun k b h=>h,fun k b kb h=>by simp at h⟩
 show j7 (hp++new) b=_
 have hb':j7 hp b=some kb:=hb
 rw [w9 _ (j5 hb').2.2]; exact hb'
theorem b9.push {hp new:Heap} {vs:List V} {xs:List Value} (h:b9 ⟨hp,[],[]⟩ vs xs (fun _=>0)):b9 ⟨hp++new,[],[]⟩ vs xs (fun _=>0) :=
 b9.mono (aj2 hp new) vs h (fun _ _=>trivial)
theorem j6.push {hp new:Heap} {vs:List (List V)} {xs:List Value} {sz:Nat} (h:j6 ⟨hp,[],[]⟩ vs xs sz (fun _=>0)):j6 ⟨hp++new,[],[]⟩ vs xs sz (fun _=>0) :=
 j6.mono (aj2 hp new) vs h (fun _ _=>trivial)
mutual
theorem G5.len:∀ (τ:Ty) {vs:List V},G5 τ vs->vs.length=L7 τ
 | .bool,vs,h=>by simp only [G5] at h; obtain ⟨_,rfl⟩:=h; rfl
 | .int k,vs,h=>by simp only [G5] at h; obtain ⟨_,rfl,_⟩:=h; rfl
 | .str,vs,h=>by simp only [G5] at h; obtain ⟨_,rfl,_⟩:=h; rfl
 | .sl e,vs,h=>by simp only [G5] at h; obtain ⟨_,rfl,_⟩:=h; rfl
 | .st fs,vs,h=>by simp only [G5] at h; simp only [L7]; exact U4.len fs h
theorem U4.len:∀ (τ:List Ty) {vs:List V},U4 τ vs->vs.length=Y8 τ
 | [],vs,h=>by simp only [U4] at h; rw [h]; rfl
 | t::ts,vs,h=>by
   simp only [U4] at h
   obtain ⟨a,b,rfl,h1,h2⟩:=h
   simp only [List.length_append,Y8,G5.len t h1,U4.len ts h2]
end
section
variable {H:Type} {enc:TypeId × Value->H} {P:Program} {w:World}
theorem ajn {a:Addr} {v:Value} (h:w.cell? a=some v):∃ cs el fr,w.heap[a.block]? = some (.cells cs el fr)/\a.spot=none/\cs[a.off]? = some v:=by
 unfold World.cell? at h
 split at h
 ·rename_i c el fr hc
  split at h
  ·cases h
  ·rename_i hs
   refine ⟨c,el,fr,hc,?_,h⟩
   cases e:a.spot with
   | none=>rfl
   | some _=>rw [e] at hs; simp at hs
 ·cases h
theorem aqX (a:Addr) (n:Nat):(a.add n).block=a.block:=by unfold Addr.add; split<;>rfl
theorem aty (a:Addr) (n:Nat):(a.add n).off=a.off+n:=by
 unfold Addr.add; split
 ·rename_i h; subst h; simp
 ·rfl
theorem add_add (a:Addr) (m n:Nat):(a.add m).add n=a.add (m+n)\/(a.add m).add n=a.add (m+n):=by
 left
 unfold Addr.add
 by_cases hm:m=0
 ·subst hm; simp
 ·by_cases hn:n=0
  ·subst hn; simp
  ·simp only [hm,hn,if_false,Nat.add_eq_zero_iff,and_self,Nat.add_assoc]
mutual
theorem conv:∀ (τ:Ty) {t:TypeId} {n:Nat} {cs:List Value} {x:DataW H × List MemPlace} {hp:Heap} {ι:j8},aa6 P τ t=true->DataW.trod enc P w 0 (fun _=>true) true n t cs=some x->N1 ι hp w →
 ∃ new ι' xs vs,N1 ι' (hp++new) w/\Sub ι ι'/\A0 ι' xs cs/\(∀ u ∈ xs,u.oneCell'=true)/\b9 ⟨hp++new,[],[]⟩ vs xs (fun _=>0)/\G5 τ vs
 | .bool,t,n,cs,x,hp,ι,ht,h,hi=>by
   simp only [aa6] at ht
   split at ht
   ·rename_i hu
    obtain ⟨b,rfl,rfl⟩:=DataW.trod_bool hu h
    exact ⟨[],ι,[.bool b],[.bool b],by simpa using hi,Sub.refl ι,.cons (.bool b) .nil,by simp [Value.oneCell'],b9.one (by simp [RV]),by simp [G5]⟩
   ·cases ht
 | .int k,t,n,cs,x,hp,ι,ht,h,hi=>by
   simp only [aa6] at ht
   split at ht
   ·rename_i k' hu
    have:=of_decide_eq_true ht
    subst this
    obtain ⟨b,rfl,rfl,hw⟩:=DataW.trod_int hu h
    exact ⟨[],ι,[.int k' b],[.int k' b],by simpa using hi,Sub.refl ι,.cons (.int k' b) .nil,by simp [Value.oneCell'],b9.one (by simp [RV]),by simp only [G5]; exact ⟨b,rfl,hw⟩⟩
   ·cases ht
 | .str,t,n,cs,x,hp,ι,ht,h,hi=>by
   simp only [aa6] at ht
   split at ht
   ·rename_i hu
    obtain ⟨b,rfl,rfl,hw⟩:=DataW.trod_string hu h
    exact ⟨[],ι,[.string b],[.str b.data.toList],by simpa using hi,Sub.refl ι,.cons (.str b) .nil,by simp [Value.oneCell'],b9.one (by simp [RV]),by simp only [G5]; exact ⟨_,rfl,by have e:b.data.toList.length=b.size:=rfl; rw [e]; exact hw⟩⟩
   ·cases ht
 | .sl e,t,n,cs,x,hp,ι,ht,h,hi=>by
   simp only [aa6] at ht
   split at ht
   ·rename_i e' hu
    simp only [Bool.and_eq_true,decide_eq_true_eq] at ht
    obtain ⟨⟨hte,hsz⟩,hpos⟩:=ht
    rcases DataW.trod_slice hu h with ⟨rfl,rfl⟩ | ⟨a,len,cap,elems,rest,m,rfl,rfl,rfl,_,hlc,hcap,hel,hget,hsp,_⟩
    ·refine ⟨[],ι,[.slice none 0 0],[.sl false []],by simpa using hi,Sub.refl ι,.cons .abA .nil,by simp [Value.oneCell'],b9.one (by simp only [RV]; exact .inl ⟨trivial,⟨none,0,rfl,by simp⟩,by simp⟩),?_⟩
     simp only [G5]
     exact ⟨[],rfl,by simp,by simp⟩
    ·by_cases h0:len=0
     ·subst h0
      refine ⟨[],ι,[.slice (some ⟨0,0,none⟩) 0 1],[.sl false []],by simpa using hi,Sub.refl ι,.cons (.slz _ _ _ _ (by omega)) .nil,by simp [Value.oneCell'],b9.one (by simp only [RV]; exact .inl ⟨trivial,⟨_,1,rfl,by simp⟩,by simp⟩),?_⟩
      simp only [G5]
      exact ⟨[],rfl,by simp,by simp⟩
     ·-- the elements,one after the other
      have elem:∀ (j:Nat) {hp:Heap} {ι:j8},j<=len->N1 ι hp w->∃ new ι' xs vs,N1 ι' (hp++new) w/\Sub ι ι'/\xs.length=j*L7 e/\(∀ (i:Nat) (v:Value),xs[i]? = some v->v.oneCell'=true/\∃ v',w.cell? (a.add i)=some v'/\VR ι' v v') ∧
       j6 ⟨hp++new,[],[]⟩ vs xs (L7 e) (fun _=>0)/\vs.length=j/\∀ y ∈ vs,G5 e y:=by
       intro j
       induction j with
       | zero=>intro hp ι _ hi; exact ⟨[],ι,[],[],by simpa using hi,Sub.refl ι,by simp,by simp,by simp [j6],rfl,by simp⟩
       | succ j ih =>
         intro hp ι hj hi
         obtain ⟨new1,ι1,xs1,vs1,i1,s1,l1,r1,q1,n1,t1⟩:=ih (by omega) hi
         have hg:=hget j (by omega)
         have hej:∃ y,elems[j]? = some y:=⟨elems[j]'(by omega),List.getElem?_eq_getElem (by omega)⟩
         obtain ⟨y,hy⟩:=hej
         rw [hy,Option.bind_eq_some_iff] at hg
         obtain ⟨ecs,hec,hey⟩:=hg
         obtain ⟨new2,ι2,xs2,vs2,i2,s2,r2,o2,q2,t2⟩:=conv e hte hey i1
         obtain ⟨_,hlen2,hcell⟩:=World.cells?_some hec
         have hx2:xs2.length=L7 e:=by rw [r2.at1,hlen2,hsz]
         refine ⟨new1++new2,ι2,xs1++xs2,vs1++[vs2],by rw [<-List.append_assoc]; exact i2,s1.trans s2,by simp [l1,hx2,Nat.succ_mul],fun i v hv=>?_,?_,by simp [n1],fun z hz=>?_⟩
         ·by_cases hlt:i<xs1.length
          ·rw [List.getElem?_append_left hlt] at hv
           obtain ⟨g1,v',g2,g3⟩:=r1 i v hv
           exact ⟨g1,v',g2,g3.mono s2⟩
          ·rw [List.getElem?_append_right (by omega)] at hv
           obtain ⟨v',g2,g3⟩:=r2.get' _ _ hv
           refine ⟨o2 v (List.mem_of_getElem? hv),v',?_,g3⟩
           have hi2:i-xs1.length<P.cellsOf e':=by
            have:=(List.getElem?_eq_some_iff.1 g2).1; omega
           have:=hcell (i-xs1.length) hi2
           rw [g2] at this
           rw [<-this]
           have e1:(a.add (j*P.cellsOf e')).add (i-xs1.length)=a.add (j*P.cellsOf e'+(i-xs1.length)):=(add_add a _ _).elim id id
           have e2:j*P.cellsOf e'+(i-xs1.length)=i:=by rw [hsz,<-l1]; omega
           rw [e1,e2]
         ·rw [<-List.append_assoc]
          refine (j6.app (j6.push q1) (b:=fun _=>0) ?_).congr (by simp)
          simp only [j6]
          exact ⟨xs2,[],fun _=>0,fun _=>0,by simp,G5.len e t2,q2,⟨rfl,by simp⟩,by simp⟩
         ·rcases List.mem_append.1 hz with hz | hz
          ·exact t1 z hz
          ·simp at hz; subst hz; exact t2
      obtain ⟨new,ι1,xs,vs,i1,s1,l1,r1,q1,n1,t1⟩:=elem len (Nat.le_refl _) hi
      have hxl:0<xs.length:=by rw [l1]; exact Nat.mul_pos (by omega) hpos
      obtain ⟨_,v0,hv0,_⟩:=r1 0 xs[0] (List.getElem?_eq_getElem hxl)
      have ha0:a.add 0=a:=by simp [Addr.add]
      rw [ha0] at hv0
      obtain ⟨c,el,fr,hc,hspot,_⟩:=ajn hv0
      have inb:∀ i v,w.cell? (a.add i)=some v->a.off+i<c.size/\c[a.off+i]? = some v:=fun i v hv=>by
       obtain ⟨c',el',fr',hc',_,hx⟩:=ajn hv
       rw [aqX] at hc'
       rw [hc] at hc'
       cases hc'
       rw [aty] at hx
       exact ⟨(Array.getElem?_eq_some_iff.1 hx).1,hx⟩
      have hroom:a.off+cap*L7 e<=c.size:=by
       have hlast:∃ ecs,w.cells? 0 (a.add ((cap-1)*P.cellsOf e')) (P.cellsOf e')=some ecs:=by
        by_cases hcl:cap=len
        ·have hg:=hget (cap-1) (by omega)
         have:∃ y,elems[cap-1]? = some y:=⟨elems[cap-1]'(by omega),List.getElem?_eq_getElem (by omega)⟩
         obtain ⟨y,hy⟩:=this
         rw [hy,Option.bind_eq_some_iff] at hg
         exact ⟨_,hg.choose_spec.1⟩
        ·obtain ⟨hrl,hr⟩:=hsp rfl
         have hg:=hr (cap-1-len) (by omega)
         have:∃ y,rest[cap-1-len]? = some y:=⟨rest[cap-1-len]'(by omega),List.getElem?_eq_getElem (by omega)⟩
         obtain ⟨y,hy⟩:=this
         rw [show len+(cap-1-len)=cap-1 by omega,hy,Option.bind_eq_some_iff] at hg
         exact ⟨_,hg.choose_spec.1⟩
       obtain ⟨ecs,hec⟩:=hlast
       obtain ⟨_,hl2,hcell⟩:=World.cells?_some hec
       rw [hsz] at *
       have hlt:L7 e-1<ecs.length:=by omega
       have:=hcell (L7 e-1) (by omega)
       rw [List.getElem?_eq_getElem hlt,(add_add a _ _).elim id id] at this
       have:=(inb _ _ this).1
       have hm:(cap-1)*L7 e+L7 e=cap*L7 e:=by
        rw [<-Nat.succ_mul]; congr 1; omega
       omega
      have hblk:S5 ι1 ⟨a.block,a.off,c.size-a.off,L7 e⟩ ⟨xs,L7 e,.ro,(hp++new).length,true⟩ w w.heap.size:=by
       refine ⟨c,el,fr,hc,by simp only; omega,?_,fun i v hv=>?_,fun h=>by cases h⟩
       ·simp only; rw [l1]
        have:=Nat.mul_le_mul_right (L7 e) hlc
        omega
       ·obtain ⟨g1,v',g2,g3⟩:=r1 i v hv
        exact ⟨g1,v',(inb i v' g2).2,g3⟩
      obtain ⟨ι2,i2,s2,hat⟩:=i1.push hblk rfl
      refine ⟨new++[⟨xs,L7 e,.ro,(hp++new).length,true⟩],ι2,[.slice (some ⟨(hp++new).length,0,none⟩) len (len+1)],[.sl false vs],by rw [<-List.append_assoc]; exact i2,s1.trans s2,?_,by simp [Value.oneCell'],?_,?_⟩
      ·refine .cons ?_ .nil
       have:=VR.slc (ι:=ι2) (o:=0) (n:=len) (c:=len+1) (c':=cap) hat (by omega) hlc (by omega) (by simp only; omega)
       have ea:(⟨a.block,a.off+0,none⟩:Addr)=a:=by
        obtain ⟨b,o,s⟩:=a
        simp only at hspot
        subst hspot; rfl
       simp only at this
       rw [ea] at this; exact this
      ·refine b9.one ?_
       rw [<-List.append_assoc]
       have hne:vs ≠ []:=fun e=>by rw [e] at n1; simp at n1; omega
       simp only [RV]
       refine .inr ⟨hne,(hp++new).length,0,⟨xs,L7 e,.ro,(hp++new).length,true⟩,xs,len+1,fun _=>0,anQ (by simp),by simp,y0.nil,by rw [n1],hpos,?_,j6.push q1,.inl ⟨trivial,by simp,by simp⟩⟩
       show J0 xs 0 (vs.length*L7 e)=some xs
       rw [L2 (by rw [n1,l1]; omega),List.drop_zero,List.take_of_length_le (by rw [n1,l1]; omega)]
      ·simp only [G5]
       exact ⟨vs,rfl,by rw [n1]; omega,t1⟩
   ·cases ht
 | .st fs,t,n,cs,x,hp,ι,ht,h,hi=>by
   simp only [aa6] at ht
   split at ht
   ·rename_i fields hu
    simp only [Bool.and_eq_true,decide_eq_true_eq] at ht
    obtain ⟨ht1,ht2⟩:=ht
    obtain ⟨xs,m,rfl,rfl,hlen,hxl,hget⟩:=DataW.trod_struct hu h
    obtain ⟨new,ι',ys,vs,g1,g2,g3,g4,g5,g6⟩:=asw fs (fields:=fields.toList) (off:=0) (cs:=cs) (m:=m) ht1 (by rw [hlen,ht2]; omega) (fun i f hf=>by
     have:=hget i f (by simpa using hf)
     have hi:i<xs.length:=by rw [hxl]; have:=(List.getElem?_eq_some_iff.1 hf).1; simpa using this
     exact ⟨xs[i],by rw [this,List.getElem?_eq_getElem hi]⟩) hi
    refine ⟨new,ι',ys,vs,g1,g2,?_,g4,g5,by simp only [G5]; exact g6⟩
    have:(cs.drop 0).take (Y8 fs)=cs:=by rw [List.drop_zero,List.take_of_length_le (by omega)]
    rw [this] at g3; exact g3
   ·cases ht
theorem asw:∀ (fs:List Ty) {fields:List Field} {off m:Nat} {cs:List Value} {hp:Heap} {ι:j8},aja P fs fields off=true->off+Y8 fs<=cs.length →
 (∀ (i:Nat) (f:Field),fields[i]? = some f->∃ y,DataW.trod enc P w 0 (fun _=>true) true m f.type ((cs.drop f.offset).take (P.cellsOf f.type))=some y)->N1 ι hp w →
 ∃ new ι' xs vs,N1 ι' (hp++new) w/\Sub ι ι'/\A0 ι' xs ((cs.drop off).take (Y8 fs))/\(∀ u ∈ xs,u.oneCell'=true)/\b9 ⟨hp++new,[],[]⟩ vs xs (fun _=>0)/\U4 fs vs
 | [],fields,off,m,cs,hp,ι,ht,hl,hg,hi=>⟨[],ι,[],[],by simpa using hi,Sub.refl ι,by simp [Y8]; exact .nil,by simp,by simp [b9],by simp [U4]⟩
 | t::ts,fields,off,m,cs,hp,ι,ht,hl,hg,hi=>by
   cases fields with
   | nil=>simp only [aja] at ht; cases ht
   | cons f fields =>
     simp only [aja,Bool.and_eq_true,decide_eq_true_eq] at ht
     obtain ⟨⟨⟨h1,h2⟩,h3⟩,h4⟩:=ht
     simp only [Y8] at hl
     obtain ⟨y,hy⟩:=hg 0 f (by simp)
     rw [h2,h3] at hy
     obtain ⟨new1,ι1,xs1,vs1,i1,s1,r1,o1,q1,t1⟩:=conv t h1 hy hi
     obtain ⟨new2,ι2,xs2,vs2,i2,s2,r2,o2,q2,t2⟩:=asw ts (fields:=fields) (off:=off+L7 t) (cs:=cs) (m:=m) h4 (by omega) (fun i g hgi=>hg (i+1) g (by simpa using hgi)) i1
     refine ⟨new1++new2,ι2,xs1++xs2,vs1++vs2,by rw [<-List.append_assoc]; exact i2,s1.trans s2,?_,fun u hu=>?_,?_,by simp only [U4]; exact ⟨vs1,vs2,rfl,t1,t2⟩⟩
     ·have e:(cs.drop off).take (Y8 (t::ts))=(cs.drop off).take (L7 t)++(cs.drop (off+L7 t)).take (Y8 ts):=by
       simp only [Y8]
       rw [<-List.drop_drop,List.take_add]
      rw [e]
      exact (r1.mono s2).append r2
     ·rcases List.mem_append.1 hu with hu | hu
      ·exact o1 u hu
      ·exact o2 u hu
     ·rw [<-List.append_assoc]
      exact ((b9.push q1).app q2).congr (by simp)
end
end
end Go.AM

/- Package variables that are listed az laid: rows of texts. -/
namespace Go.AM
set_option linter.unusedSimpArgs false
set_option linter.unusedVariables false
def W1 (g:Nat) (cells:List Value):Heap:=(List.range g).map (fun b=>⟨[],1,.gone,b,true⟩)++[⟨cells,1,.ro,g,true⟩]
theorem acv (g:Nat) (cells:List Value):(W1 g cells).length=g+1:=by simp [W1]
theorem agn (g:Nat) (cells:List Value):(W1 g cells)[g]? = some ⟨cells,1,.ro,g,true⟩:=by
 unfold W1
 rw [List.getElem?_append_right (by simp)]; simp
theorem ajb {g b:Nat} {cells:List Value} {k:j4} (h:(W1 g cells)[b]? = some k):(b<g/\k=⟨[],1,.gone,b,true⟩)\/(b=g/\k=⟨cells,1,.ro,g,true⟩):=by
 have hl:=(List.getElem?_eq_some_iff.1 h).1
 rw [acv] at hl
 by_cases hb:b<g
 ·left
  unfold W1 at h
  rw [List.getElem?_append_left (by simpa using hb)] at h
  simp [hb] at h
  exact ⟨hb,h.symm⟩
 ·obtain rfl:b=g:=by omega
  rw [agn] at h; cases h
  exact .inr ⟨rfl,rfl⟩
def aiy (g room:Nat):j8:=fun b=>if b<=g then some ⟨b,0,if b=g then room else 0,1⟩ else none
def ajf (ss:List (List UInt8)):List Value:=ss.map fun s => .string ⟨s.toArray⟩
def asn (g:Nat) (ss:List (List UInt8)):Nat->Option (List V):=fun k=>match Nat.beq k g with | true=>some (ss.map .str) | false=>none
theorem al3 {w:Wd}:∀ ss:List (List UInt8),b9 w (ss.map .str) (ajf ss) (fun _=>0)
 | []=>by simp [b9,ajf]
 | s::ss=>⟨_,_,fun _=>0,fun _=>0,rfl,by simp [RV],al3 ss,by simp⟩
theorem E6.start {X:XV} {g:Nat} {ss:List (List UInt8)} (hx:X.D0=asn g ss) (hi:X.gi=fun _=>false) (new:Heap):E6 X ⟨W1 g (ajf ss)++new,[],[]⟩:=⟨(fun k cs h=>by
 rw [hx] at h
 unfold asn at h
 split at h
 ·rename_i hk
  cases h
  obtain rfl:=Nat.eq_of_beq_eq_true hk
  refine ⟨⟨ajf ss,1,.ro,k,true⟩,?_,y0.nil,al3 ss,by simp,rfl⟩
  show j7 (W1 k (ajf ss)++new) k=_
  unfold j7
  rw [List.getElem?_append_left (by rw [acv]; omega),agn]
  rfl
 ·cases h),fun k h=>by rw [hi] at h; cases h⟩
end Go.AM

/- strings.Contains in the machine of values. -/
namespace Go.AM
set_option linter.unusedSimpArgs false
set_option linter.unusedVariables false
set_option linter.unusedSectionVars false
def alw:List V->VH->Option (V × VH)
 | [.str s,.str t],H=>if s.length<4294967281 then some (.bool (Lib.contains s t),H) else none
 | _,_=>none
theorem arb {X:XV} {b:W7} {f:FuncId} {g:Nat} (hi:X.gi g=true) (hg:b.Q8 f=some (ajR g)) {args:List V} {H H':VH} {r:V} (h:alw args H=some (r,H')):A7 X (H5 b) f args H r H':=by
 intro w args' ca ch hw hgl ha ho hle hbig
 unfold alw at h
 split at h
 ·rename_i s t
  split at h
  ·rename_i hs
   cases h
   have hv:=ha
   simp only [b9] at ha
   obtain ⟨x1,_,c1,c2,rfl,h1,⟨x2,_,c3,c4,rfl,h2,⟨rfl,h0⟩,q2⟩,q1⟩:=ha
   simp only [RV] at h1 h2
   obtain ⟨rfl,h10⟩:=h1
   obtain ⟨rfl,h20⟩:=h2
   obtain ⟨kb,m,k1,k2,k3,k4,k5⟩:=hgl.2 g hi
   have fin:ajR g [.string ⟨s.toArray⟩,.string ⟨t.toArray⟩] w.hp=some (.bool (Lib.contains s t),w.hp):=by
    unfold ajR
    simp only [k1,Option.bind_some,k3]
    rw [if_pos (by show s.toArray.size<_; simpa using hs)]
   refine ⟨_,w,fun _=>0,ch,ahy b hg fin,hw,hgl,B8.start hw hv ho,?_,ho,fun m=>?_,fun m hm=>?_,fun m hm=>?_⟩
   ·simp only [RV]; exact ⟨trivial,fun _=>trivial⟩
   ·have:=hle m; show 0+ch m<=1; omega
   ·show 0+ch m<=_; omega
   ·have:=hbig m hm; show 0+ch m=0; omega
  ·cases h
 ·cases h
theorem N1.avI {w:World} {g:Nat} {cs:Array Value} {el:TypeId} {fr:Nat × Nat} {m:Int} (hb:w.heap[g]? = some (.cells cs el fr)) (hc:cs.toList=[.int .i64 m]) :
 N1 (aiy g cs.size) (W1 g [.int .i64 m]) w/\GOk (g+1) (aiy g cs.size):=by
 refine ⟨⟨fun b k h=>?_,fun b x h=>?_,fun b x k hx hk=>?_⟩,fun b hb'=>?_⟩
 ·rcases ajb h with ⟨_,rfl⟩ | ⟨rfl,rfl⟩
  ·exact ⟨.inr rfl,rfl,rfl⟩
  ·exact ⟨.inl rfl,rfl,rfl⟩
 ·unfold aiy at h
  rw [acv]
  split at h
  ·omega
  ·cases h
 ·unfold aiy at hx
  split at hx
  ·cases hx
   rcases ajb hk with ⟨hlt,rfl⟩ | ⟨rfl,rfl⟩
   ·exact ⟨fun q=>absurd rfl q,rfl⟩
   ·refine ⟨fun _=>⟨cs,el,fr,hb,by simp,?_,fun i v hv=>?_,fun q=>by cases q⟩,rfl⟩
    ·simp only [if_true]
     have:=congrArg List.length hc
     simp at this; simp [this]
    ·simp only at hv ⊢
     rw [<-hc] at hv
     have hv':cs[i]? = some v:=by simpa using hv
     have hm:v ∈ [Value.int .i64 m]:=by rw [<-hc]; exact List.mem_of_getElem? hv
     rw [List.mem_singleton] at hm
     subst hm
     exact ⟨rfl,_,by rw [Nat.zero_add]; exact hv',.int _ _⟩
  ·cases hx
 ·exact ⟨⟨b,0,if b=g then cs.size else 0,1⟩,by unfold aiy; rw [if_pos (by omega)],rfl,rfl⟩
def au2 (g:Nat):Nat->Bool:=fun k=>Nat.beq k g
theorem E6.avo {X:XV} {g:Nat} {m:Int} (hx:X.D0=fun _=>none) (hi:X.gi=au2 g) (new:Heap):E6 X ⟨W1 g [.int .i64 m]++new,[],[]⟩:=⟨(fun k cs h=>by rw [hx] at h; cases h),fun k h=>by
 rw [hi] at h
 obtain rfl:=Nat.eq_of_beq_eq_true h
 refine ⟨⟨[.int .i64 m],1,.ro,k,true⟩,m,?_,y0.nil,rfl,by simp,rfl⟩
 show j7 (W1 k [.int .i64 m]++new) k=_
 unfold j7
 rw [List.getElem?_append_left (by rw [acv]; omega),agn]
 rfl⟩
theorem alz {P:Program} {w:World} {g:Nat} {t:TypeId} {zero:Array Value} (h:w.ShapedOpen P) (hg:g<P.globals.size)
 (h0:((begin P (fun _ _=>0) default).world.heap[g]?).bind Obj.row? = some (zero,t)) (hz:zero.size=1)
 (hb:P.buildable t=true) (hc:P.cellTypes P.depth t=some [t]) (hu:P.underlying t=some (.int .i64)):∃ (cs:Array Value) (el:TypeId) (fr:Nat × Nat) (m:Int),w.heap[g]? = some (.cells cs el fr)/\cs.toList=[.int .i64 m]:=by
 obtain ⟨cs,hh,hs,hr⟩:=h.1 g zero t hg h0
 obtain ⟨ts,hts,_,hall⟩:=hr hb
 rw [hc] at hts
 cases hts
 have h1:0<cs.size:=by omega
 obtain ⟨u,hu',hok⟩:=hall 0 cs[0] (by simp [h1])
 have:u=t:=by simpa using hu'.symm
 subst this
 unfold Cell.ok at hok
 rw [hu] at hok
 have hl:cs.toList=[cs[0]]:=by
  apply List.ext_getElem?
  intro i
  by_cases hi:i=0
  ·subst hi; simp [h1]
  ·rw [List.getElem?_eq_none (by simp; omega),List.getElem?_eq_none (by simp; omega)]
 cases hv:cs[0]<;>rw [hv] at hok<;>simp at hok
 rename_i k m
 obtain ⟨rfl,_⟩:=hok
 exact ⟨cs,_,_,m,hh,by rw [hl,hv]⟩
theorem apb {H:Type} {enc:TypeId × Value->H} {a:Assume} {C:Checked} {os:Os} {f:FuncId} {fn:Func} {s:ChangeSpec} {conds:List PathCond} {apart fresh handsOn again:Bool} {X:World->Array Value->Prop}
 (hX:∀ (w w':World) (args:Array Value),w.heap=w'.heap->X w args->X w' args)
 (own:ownKnob C.prog.godebug=none) (started:os.Started) (noInit:C.prog.inits.idxOf? f=none) (hfn:C.prog.funcs[f]? = some fn)
 (witness:∃ (w:World) (tape:Tape) (i:Input),w.os=os/\(w.forCall tape i).Shaped C.prog/\i.vars=[]/\Input.okWide C.prog (w.forCall tape i) .any w.heap.size f i ∧
  ((s.pre enc C.prog fn conds apart (w.forCall tape i).memory i.args/\X (w.forCall tape i).memory i.args)/\sizedMet enc C.prog fn (OpenSpec.ofChange s) apart (w.forCall tape i).memory i.args)/\a.holds C.prog (lone (Frame.enter C.prog f i.args .normal) [] (w.forCall tape i)))
 (contract:∀ (W:World) (base:Nat) (args:Array Value) (ds gs:List (DataW H)) (before:List MemPlace),
  W.ShapedOpen C.prog →
  (∀ (j:Nat) t v,fn.params[j]? = some t->args[j]? = some v->Value.okWide C.prog W .any base t v) →
  DataW.Whole enc C.prog fn.params.toList s.vars apart W args.toList ds gs before →
  X W args →
  Calls C.prog f args W fun e W'=>∃ v,e = .returned v/\s.post enc C.prog fn apart fresh handsOn again W args v W') :
 ReturnsInHanded a C os f .any (fun w args=>(s.pre enc C.prog fn conds apart w args/\X w args)/\sizedMet enc C.prog fn (OpenSpec.ofChange s) apart w args) (s.post enc C.prog fn apart fresh handsOn again):=by
 refine returnsInHanded_of_calls own started noInit witness ?_
 intro w tape i _ hsh _ hok hpre _
 obtain ⟨_,_,_,fn2,q,_,_,_,_,hval⟩:=hok
 obtain rfl:fn2=fn:=Option.some.inj (q.symm.trans hfn)
 obtain ⟨⟨⟨ds,gs,before,hw,_⟩,hx⟩,_⟩:=hpre
 refine (contract (w.forCall tape i) w.heap.size i.args ds gs before hsh hval (DataW.Whole.of_heap (w':=w.forCall tape i) (by rfl) hw) (hX _ _ _ (by rfl) hx)).mono fun e W' h=>?_
 obtain ⟨v,rfl,hp⟩:=h
 exact ChangeSpec.post_blind hp
end Go.AM

/- Objects: loading and storing through known pointers; the block that draws. -/
namespace Go.AM
set_option linter.unusedSimpArgs false
set_option linter.unusedVariables false
theorem arY {α:Type} {l:List α} {k:Nat} {a:α} (h:l[k]? = some a):l.set k a=l:=by
 apply List.ext_getElem?
 intro i
 rw [List.getElem?_set]
 split
 ·rename_i e
  subst e
  rw [h,if_pos (List.getElem?_eq_some_iff.1 h).1]
 ·rfl
theorem ajY {g:Nat->Option (List V)} {n k off:Nat} {H:VH} {cs:List V} {v u:V} (h:H[k]? = some cs) (hv:cs[off]? = some v) (hu:strip v=u):L8 g false false n (.ptr k off) H=some (u,H):=by
 rw [<-hu]
 simp only [L8,h,acr,hv,Option.bind_some,Option.map_some,arY h]
theorem atp {k off:Nat} {H:VH} {cs:List V} {v:V} (h:H[k]? = some cs) (ho:off<cs.length):stO (.ptr k off) [v] H=some (H.set k (cs.set off v)):=by
 have hb:Nat.ble (off+[v].length) cs.length=true:=Nat.ble_eq_true_of_le (by simp; omega)
 simp only [stO,h,hb]
 have:L6 cs off [v]=cs.set off v:=by
  simp only [L6]
  rw [List.set_eq_take_append_cons_drop,if_pos ho]; simp
 rw [this]
def K4 (xs:List UInt8) (p n:Nat):Nat :=
 if xs.length=0 then 0
 else if p<xs.length then (xs.getD p 0).toNat % n
 else
  let x:=(xs.getD (p % xs.length) 0).toNat*131+(xs.getD ((p*7+3) % xs.length) 0).toNat*1117+p*29+p / xs.length*53
  (x ^^^ x / 64) % n
theorem aeX (xs:List UInt8) (p n:Nat) (h:1<=n):K4 xs p n<n:=by
 unfold K4
 split
 ·omega
 ·split
  ·exact Nat.mod_lt _ (by omega)
  ·exact Nat.mod_lt _ (by omega)
def rdr (o:Bool) (xs:List UInt8) (p:Nat):List V:=[.sl o (vB xs),.int .i64 (p:Int)]
end Go.AM

/- Arguments: each az a value of the machines. -/
namespace Go.AM
open Go.WideShapes
set_option linter.unusedSimpArgs false
set_option linter.unusedVariables false
def adZ:Ty->V->Prop
 | .st fs,u=>∃ vs,u = .agg vs/\U4 fs vs
 | τ,u=>G5 τ [u]
theorem avC {H:Type} {enc:TypeId × Value->H} {P:Program} {w:World} {τ:Ty} {t:TypeId} {v:Value} {d:DataW H} {ps:List MemPlace} {base:Nat} {r:Reach} {hp:Heap} {ι:j8} (ht:aa6 P τ t=true)
 (h:DataW.Trod enc P w 0 (fun _=>true) true t v d ps) (hv:Value.okWide P w r base t v) (hi:N1 ι hp w) :
 ∃ new ι' x u,N1 ι' (hp++new) w/\Sub ι ι'/\VR ι' x v/\RV ⟨hp++new,[],[]⟩ u x (fun _=>0)/\adZ τ u:=by
 obtain ⟨fuel,hf⟩:=h
 obtain ⟨new,ι',xs,vs,h1,h2,h3,h4,h5,h6⟩:=conv τ ht hf hi
 have single:∀ {c:Value},v.cells.toList=[c]->c=v->(∀ u,G5 τ [u]->adZ τ u)->∃ new ι' x u,N1 ι' (hp++new) w/\Sub ι ι'/\VR ι' x v/\RV ⟨hp++new,[],[]⟩ u x (fun _=>0)/\adZ τ u:=by
  intro c hc hcv hA
  rw [hc] at h3
  cases h3 with
  | cons g1 g2 =>
    cases g2
    rename_i x
    match vs,h5 with
    | [u],h5 =>
      simp only [b9] at h5
      obtain ⟨x',ys,c1,c2,e1,k1,⟨e2,k2⟩,k3⟩:=h5
      cases e1
      exact ⟨new,ι',x,u,h1,h2,by rw [<-hcv]; exact g1,k1.congr (fun i=>by have:=k3 i; omega),hA u h6⟩
    | [],h5=>simp only [b9] at h5; exact absurd h5.1 (by simp)
    | u::u2::l,h5 =>
      simp only [b9] at h5
      obtain ⟨x',ys,c1,c2,e1,k1,⟨x2,ys2,d1,d2,e2,_⟩,k3⟩:=h5
      cases e1; cases e2
 cases τ with
 | bool =>
   simp only [aa6] at ht
   split at ht
   ·rename_i hu
    obtain ⟨b,rfl⟩:=okWide_bool hu hv
    exact single rfl rfl (fun _ h=>h)
   ·cases ht
 | int k =>
   simp only [aa6] at ht
   split at ht
   ·rename_i hu
    obtain ⟨b,rfl⟩:=okWide_int hu hv
    exact single rfl rfl (fun _ h=>h)
   ·cases ht
 | str =>
   simp only [aa6] at ht
   split at ht
   ·rename_i hu
    obtain ⟨b,rfl⟩:=okWide_string hu hv
    exact single rfl rfl (fun _ h=>h)
   ·cases ht
 | sl e =>
   simp only [aa6] at ht
   split at ht
   ·rename_i hu
    obtain ⟨a,l,c,rfl⟩:=okWide_slice hu hv
    exact single rfl rfl (fun _ h=>h)
   ·cases ht
 | st fs =>
   simp only [aa6] at ht
   split at ht
   ·rename_i hu
    obtain ⟨⟨cs⟩,rfl,hsz⟩:=okWide_struct hu hv
    have h3':A0 ι' xs cs:=h3
    refine ⟨new,ι',.agg ⟨xs⟩,.agg vs,h1,h2,?_,?_,?_⟩
    ·refine .agg (by simp [h3'.at1]) (fun i a b ha hb=>?_) (fun i a ha=>h4 a (List.mem_of_getElem? (by simpa using ha)))
     obtain ⟨y,g1,g2⟩:=h3'.get' i a (by simpa using ha)
     have:cs[i]? = some b:=by simpa using hb
     rw [this] at g1; cases g1; exact g2
    ·simp only [RV]; exact ⟨xs,rfl,h5⟩
    ·simp only [G5] at h6; exact ⟨vs,rfl,h6⟩
   ·cases ht
theorem aqw {u:V} (h:adZ (.sl (.int .u8)) u):∃ xs:List UInt8,u = .sl false (vB xs)/\xs.length<=maxLen:=by
 simp only [adZ,G5] at h
 obtain ⟨ys,h1,h2,h3⟩:=h
 cases h1
 have:∀ {l:List (List V)},(∀ x ∈ l,∃ n,x=[.int .u8 n]/\(Lit.int .u8 n).wf=true)->∃ xs:List UInt8,l=vB xs:=by
  intro l
  induction l with
  | nil=>intro _; exact ⟨[],rfl⟩
  | cons a l ih =>
    intro hl
    obtain ⟨n,rfl,hn⟩:=hl a (by simp)
    obtain ⟨xs,rfl⟩:=ih (fun x hx=>hl x (by simp [hx]))
    have hn':0<=n/\n<=255:=by
     simp [Lit.wf,IntKind.min,IntKind.max,IntKind.signed,IntKind.bits] at hn
     omega
    refine ⟨UInt8.ofNat n.toNat::xs,?_⟩
    simp only [vB,List.map_cons]
    congr 2
    have e:(UInt8.ofNat n.toNat).toNat=n.toNat:=by rw [UInt8.toNat_ofNat']; omega
    rw [e,Int.toNat_of_nonneg hn'.1]
 obtain ⟨xs,rfl⟩:=this h3
 exact ⟨xs,rfl,by rw [aew] at h2; exact h2⟩
theorem RV.more {hp new:Heap} {u:V} {x:Value} (h:RV ⟨hp,[],[]⟩ u x (fun _=>0)):RV ⟨hp++new,[],[]⟩ u x (fun _=>0) :=
 RV.mono (aj2 hp new) u h (fun _ _=>trivial)
end Go.AM

/- Rows of values of a kind; mails, sessions, mailboxes az values. -/
namespace Go.AM
set_option linter.unusedSimpArgs false
set_option linter.unusedVariables false
abbrev Bs:=List UInt8
structure Ec (α:Type) where
 e:α->List V
 n:Nat
 len:∀ a,(e a).length=n
 st:∀ a,l7 (e a)=e a
 np:∀ a,w4 (e a)=true
 dt:∀ a,C1 (e a)=true
def vR {α:Type} (E:Ec α) (l:List α):List (List V):=l.map E.e
section
variable {α:Type} (E:Ec α) (l m:List α)
theorem apj:(vR E l).length=l.length:=by simp [vR]
theorem acZ:o7 (vR E l)=vR E l:=by
 induction l with
 | nil=>rfl
 | cons a l ih=>simp only [vR,List.map_cons,o7,E.st] at ih ⊢; rw [ih]
theorem ald:D8 (vR E l)=true:=by
 induction l with
 | nil=>rfl
 | cons a l ih=>simp only [vR,List.map_cons,D8,E.np,Bool.true_and] at ih ⊢; exact ih
theorem aem:J3 (vR E l)=true:=by
 induction l with
 | nil=>rfl
 | cons a l ih=>simp only [vR,List.map_cons,J3,E.dt,Bool.true_and] at ih ⊢; exact ih
theorem apz:C5 E.n (vR E l)=true:=by simp [C5,vR,E.len]
end
def eT:Ec Bs:=⟨fun s=>[.str s],1,fun _=>rfl,fun _=>rfl,fun _=>rfl,fun _=>rfl⟩
structure aac where
 from_:Bs
 to:List Bs
 lines:List Bs
 deriving DecidableEq
structure abo where
 state:Int
 host:Bs
 T7:aac
 done:List aac
 deriving DecidableEq
structure Box where
 path:Bs
 abc:List aac
 deriving DecidableEq
def cM (m:aac):List V:=[.str m.from_,.sl false (vT m.to),.sl false (vT m.lines)]
def eM:Ec aac where
 e:=cM
 n:=3
 len:=fun _=>rfl
 st:=fun m=>by simp only [cM,l7,strip,ac2]
 np:=fun m=>by simp only [cM,w4,z7,ali,Bool.and_self]
 dt:=fun m=>by simp only [cM,C1,data,agG,Bool.and_self]
def cS (s:abo):List V:=[.int .i64 s.state,.str s.host,.str s.T7.from_,.sl false (vT s.T7.to),.sl false (vT s.T7.lines),.sl false (vR eM s.done)]
def eS:Ec abo where
 e:=cS
 n:=6
 len:=fun _=>rfl
 st:=fun m=>by simp only [cS,l7,strip,ac2,acZ]
 np:=fun m=>by simp only [cS,w4,z7,ali,ald,Bool.and_self]
 dt:=fun m=>by simp only [cS,C1,data,agG,aem,Bool.and_self]
def cX (b:Box):List V:=[.str b.path,.sl false (vR eM b.abc)]
def eX:Ec Box where
 e:=cX
 n:=2
 len:=fun _=>rfl
 st:=fun m=>by simp only [cX,l7,strip,acZ]
 np:=fun m=>by simp only [cX,w4,z7,ald,Bool.and_self]
 dt:=fun m=>by simp only [cX,C1,data,aem,Bool.and_self]
theorem avu (a b:V):P9 2 (.agg [a,b])=some [a,b]:=by exact id rfl
theorem auI (a b c:V):P9 3 (.agg [a,b,c])=some [a,b,c]:=by exact id rfl
theorem auh (a b c d e f:V):P9 6 (.agg [a,b,c,d,e,f])=some [a,b,c,d,e,f]:=by exact id rfl
theorem auZ (a b c d e f g:V):P9 7 (.agg [a,b,c,d,e,f,g])=some [a,b,c,d,e,f,g]:=by exact id rfl
theorem avd (g:Nat->Option (List V)) (t:Bool) (a b:V) (H:VH):L8 g t true 2 (.E7 [a,b] 0) H=some (.agg [a,b],H):=by exact id rfl
theorem auc (g:Nat->Option (List V)) (t:Bool) (a b c:V) (H:VH):L8 g t true 3 (.E7 [a,b,c] 0) H=some (.agg [a,b,c],H):=by exact id rfl
theorem auT (g:Nat->Option (List V)) (t:Bool) (a b c d e f:V) (H:VH):L8 g t true 6 (.E7 [a,b,c,d,e,f] 0) H=some (.agg [a,b,c,d,e,f],H):=by exact id rfl
theorem apk (g:Nat->Option (List V)) (t:Bool) (n:Nat) (a:V) (l:List V) (H:VH):L8 g t false n (.E7 (a::l) 0) H=some (a,H):=by exact id rfl
theorem aqh (g:Nat->Option (List V)) (t:Bool) (n:Nat) (a b:V) (l:List V) (H:VH):L8 g t false n (.E7 (a::b::l) 1) H=some (b,H):=by exact id rfl
theorem aqy (g:Nat->Option (List V)) (t:Bool) (n:Nat) (a b c:V) (l:List V) (H:VH):L8 g t false n (.E7 (a::b::c::l) 2) H=some (c,H):=by exact id rfl
theorem au1 (m:aac):eM.e m=[.str m.from_,.sl false (vT m.to),.sl false (vT m.lines)]:=by exact id rfl
theorem auJ (s:abo):eS.e s=[.int .i64 s.state,.str s.host,.str s.T7.from_,.sl false (vT s.T7.to),.sl false (vT s.T7.lines),.sl false (vR eM s.done)]:=by exact id rfl
theorem at0 (b:Box):eX.e b=[.str b.path,.sl false (vR eM b.abc)]:=by exact id rfl
theorem avb (m:aac):cM m=[.str m.from_,.sl false (vT m.to),.sl false (vT m.lines)]:=by exact id rfl
theorem avq (s:abo):cS s=[.int .i64 s.state,.str s.host,.str s.T7.from_,.sl false (vT s.T7.to),.sl false (vT s.T7.lines),.sl false (vR eM s.done)]:=by exact id rfl
theorem atO (b:Box):cX b=[.str b.path,.sl false (vR eM b.abc)]:=by exact id rfl
theorem anG (l:List aac):C5 3 (vR eM l)=true:=apz eM l
theorem anq (l:List Box):C5 2 (vR eX l)=true:=apz eX l
def G4 {α:Type} (E:Ec α) (l:List α) (z:List V) (i:Nat):List V:=(vR E (l.take i)).flatten++X8 (l.length-i) z
theorem aeZ {α:Type} (E:Ec α):∀ l:List α,(vR E l).flatten.length=l.length*E.n
 | []=>by simp [vR]
 | a::l=>by
   have:=aeZ E l
   simp only [vR,List.map_cons,List.flatten_cons,List.length_append,E.len,List.length_cons,Nat.succ_mul] at this ⊢
   omega
theorem aql {α:Type} (E:Ec α) {l:List α} {z:List V} (hz:z.length=E.n) {i:Nat} (h:i<l.length):L6 (G4 E l z i) (i*E.n) (E.e l[i])=G4 E l z (i+1)/\i*E.n+E.n<=(G4 E l z i).length:=by
 have h1:(vR E (l.take i)).flatten.length=i*E.n:=by rw [aeZ,List.length_take,Nat.min_eq_left (by omega)]
 obtain ⟨k,hk⟩:∃ k,l.length-i=k+1:=⟨l.length-i-1,by omega⟩
 have hk2:l.length-(i+1)=k:=by omega
 have e1:G4 E l z i=(vR E (l.take i)).flatten++z++X8 k z:=by simp only [G4,hk,X8,List.append_assoc]
 have e2:G4 E l z (i+1)=(vR E (l.take i)).flatten++E.e l[i]++X8 k z:=by
  simp only [G4,hk2]
  rw [List.take_succ_eq_append_getElem h]
  simp only [vR,List.map_append,List.map_cons,List.map_nil,List.flatten_append,List.flatten_cons,List.flatten_nil,List.append_nil]
 constructor
 ·rw [e1,e2,<-h1]
  exact ae0 _ _ _ _ (by rw [hz,E.len])
 ·rw [e1]; simp only [List.length_append,h1,hz]; omega
theorem aqZ {α:Type} (E:Ec α) (l:List α) (z:List V):G4 E l z l.length=(vR E l).flatten:=by simp [G4,X8]
theorem aji {α:Type} (E:Ec α):∀ l:List α,y9 E.n l.length (vR E l).flatten=vR E l
 | []=>rfl
 | a::l=>by
   have:=aji E l
   simp only [vR,List.map_cons,List.flatten_cons,List.length_cons,y9] at this ⊢
   have h:=E.len a
   rw [<-h,List.take_left,List.drop_left,h,this]
theorem aor {α:Type} (E:Ec α) {H:VH} {k:Nat} {l:List α} (h:H[k]? = some (vR E l).flatten):ajd H (.A9 k 0 l.length E.n)=some (.sl false (vR E l)):=by
 simp only [ajd,aeb,h,Option.bind_some]
 rw [L2 (by rw [aeZ]; omega),List.drop_zero,List.take_of_length_le (by rw [aeZ]; omega)]
 simp only [Option.map_some,aji,acZ]
theorem aqG (k o n e:Nat):J7 (.A9 k o n e)=some (.int .i64 n):=by exact id rfl
theorem aqd (k off n e:Nat) (q:IntKind) (i:Nat) (h:i<n):M0 e (.A9 k off n e) (.int q (i:Int))=some (.ptr k (off+i*e)):=by
 have hc:(0:Int)<=(i:Int)/\(i:Int)<(n:Int)/\e=e:=⟨by omega,by omega,rfl⟩
 simp only [M0]
 rw [if_pos (by simpa using hc)]; simp
theorem aqB (k o n e:Nat):strip (.A9 k o n e) = .A9 k o n e:=by exact id rfl
theorem apw (k o n e:Nat):z7 (.A9 k o n e)=false:=by exact id rfl
theorem at7 (b:Nat) (n:Nat) (h:n*b<=140737488355328) (h2:n<=9223372036854775807):afM b (.int .i64 (n:Int)) (.int .i64 (n:Int))=some (n,n):=by
 simp only [afM]
 rw [if_pos ⟨by omega,by omega,by simpa using h,by omega⟩]; simp
theorem au4 {k off:Nat} {H:VH} {cs c:List V} (h:H[k]? = some cs) (ho:off+c.length<=cs.length):stO (.ptr k off) c H=some (H.set k (L6 cs off c)):=by
 have hb:Nat.ble (off+c.length) cs.length=true:=Nat.ble_eq_true_of_le ho
 simp only [stO,h,hb]
theorem aiK {α:Type} (E:Ec α) {H:VH} {k:Nat} {l:List α} {z:List V} (hz:z.length=E.n) {i:Nat} (hi:i<l.length) (h:H[k]? = some (G4 E l z i)):stO (.ptr k (0+i*E.n)) (E.e l[i]) H=some (H.set k (G4 E l z (i+1))):=by
 obtain ⟨h1,h2⟩:=aql E hz hi
 rw [Nat.zero_add,au4 h (by rw [E.len]; exact h2),h1]
theorem auy {α:Type} (E:Ec α) {call:w6} {f:FuncId} {args:List V} {H:VH} {k:Nat} {l:List α} (h:call f args []=some (.A9 k 0 l.length E.n,H)) (h1:w4 args=true) (hk:H[k]? = some (vR E l).flatten):V7 call f args=some (.sl false (vR E l)):=by
 simp only [V7,h1,h,Option.bind_some,data,aor E hk,aem]
end Go.AM

/- Loops of common kinds. -/
namespace Go.AM
set_option linter.unusedSimpArgs false
set_option linter.unusedVariables false
abbrev LB:=List V->VH->Option (Option Nat × List V × VH)
section
variable {B:LB} {S:Nat->List V} {H:VH}
theorem aqe {α:Type} {m0 m1:Nat} {vs0 vs1:List V} (xs:List α) (p:α->Bool) (hr:∀ (i:Nat) (h:i<xs.length),B (S i) H=if p xs[i]=true then some (some m1,vs1,H) else some (none,S (i+1),H))
 (he:B (S xs.length) H=some (some m0,vs0,H)):p5 B (S 0) H=if xs.any p=true then some (m1,vs1,H) else some (m0,vs0,H):=by
 have key:∀ (n i:Nat),xs.length-i=n->i<=xs.length->p5 B (S i) H=if (xs.drop i).any p=true then some (m1,vs1,H) else some (m0,vs0,H):=by
  intro n
  induction n with
  | zero =>
    intro i hn hi
    have:i=xs.length:=by omega
    subst this
    rw [agL he,List.drop_eq_nil_of_le (Nat.le_refl _)]; rfl
  | succ n ih =>
    intro i hn hi
    have h1:i<xs.length:=by omega
    have hb:=hr i h1
    rw [List.drop_eq_getElem_cons h1,List.any_cons]
    by_cases e:p xs[i]=true
    ·rw [if_pos e] at hb
     rw [agL hb,e]; rfl
    ·rw [if_neg e] at hb
     rw [akq hb,ih (i+1) (by omega) (by omega)]
     have:p xs[i]=false:=by simpa using e
     rw [this,Bool.false_or]
 have:=key xs.length 0 (by omega) (by omega)
 simpa using this
def af4 {α:Type} (f:α->Int->Int):List α->Int->Int
 | [],n=>n
 | a::l,n=>if f a n<0 then -1 else af4 f l (f a n)
theorem anZ {α:Type} {f:α->Int->Int} {l:List α} (hf:∀ a ∈ l,∀ n,0<=n->f a n<=n):∀ {n:Int},0<=n->af4 f l n<=n:=by
 induction l with
 | nil=>intro n _; exact Int.le_refl _
 | cons a l ih =>
   intro n hn
   simp only [af4]
   have:=hf a (by simp) n hn
   split
   ·omega
   ·have:=ih (fun b hb=>hf b (by simp [hb])) (n:=f a n) (by omega)
    omega
theorem aid {α:Type} {f:α->Int->Int} {l:List α} (hf:∀ a ∈ l,∀ n,0<=n->f a n<=n):∀ {n:Int},0<=n->0<=af4 f l n->∀ a ∈ l,∃ k,0<=k/\k<=n/\0<=f a k:=by
 induction l with
 | nil=>intro n _ _ a ha; cases ha
 | cons b l ih =>
   intro n hn h a ha
   simp only [af4] at h
   split at h
   ·omega
   ·rename_i hb
    rcases List.mem_cons.1 ha with rfl | ha
    ·exact ⟨n,hn,Int.le_refl _,by omega⟩
    ·have:=hf b (by simp) n hn
     obtain ⟨k,h1,h2,h3⟩:=ih (fun b hb=>hf b (by simp [hb])) (n:=f b n) (by omega) h a ha
     exact ⟨k,h1,by omega,h3⟩
end
end Go.AM

/- More loops of common kinds, texts cut at a byte, and runs of which a part is known. -/
namespace Go.AM
set_option linter.unusedSimpArgs false
set_option linter.unusedVariables false
set_option maxRecDepth 10000
theorem arK {α:Type} {c:Prop} [Decidable c] {x y z:α} (h1:c->x=z) (h2:¬ c->y=z):(if c then x else y)=z:=by
 by_cases h:c
 ·rw [if_pos h]; exact h1 h
 ·rw [if_neg h]; exact h2 h
section
variable {B:LB} {S:Nat->List V} {H:VH}
theorem aqs {α:Type} (E:Ec α) {l:List α} {k t:Nat} {z:List V} {H0:VH} {m:Nat} {vs:List V} (ht:t<=l.length) (h0:H0[k]? = some (G4 E l z 0)) (hr:∀ (i:Nat) (h:i<t) (H:VH),H[k]? = some (G4 E l z i)->B (S i) H=some (none,S (i+1),H.set k (G4 E l z (i+1))))
 (he:∀ H,H[k]? = some (G4 E l z t)->B (S t) H=some (some m,vs,H)):∃ H1,p5 B (S 0) H0=some (m,vs,H1)/\H1[k]? = some (G4 E l z t):=by
 have key:∀ (n i:Nat) (H:VH),t-i=n->i<=t->H[k]? = some (G4 E l z i)->∃ H1,p5 B (S i) H=some (m,vs,H1)/\H1[k]? = some (G4 E l z t):=by
  intro n
  induction n with
  | zero =>
    intro i H hn hi hk
    have:i=t:=by omega
    subst this
    exact ⟨H,agL (he H hk),hk⟩
  | succ n ih =>
    intro i H hn hi hk
    have h1:i<t:=by omega
    rw [akq (hr i h1 H hk)]
    exact ih (i+1) _ (by omega) (by omega) (by rw [List.getElem?_set,if_pos rfl,if_pos (List.getElem?_eq_some_iff.1 hk).1])
 exact key t 0 H0 (by omega) (by omega) h0
end
theorem auk (b8 k o n h:Nat) (q:IntKind) (hh:h<=n):Q2 b8 (.A9 k o n b8) none (some (.int q (h:Int)))=some (.A9 k o h b8):=by
 simp only [Q2,abz,Option.bind_some]
 rw [if_pos ⟨trivial,by omega,by omega,by omega⟩]
 simp
theorem avN (k:IntKind) (a b:Int) (h:a<=b):agJ (.int k a) (.int k b)=some (.int k a):=by
 simp only [agJ,if_true]
 rw [if_neg (by omega)]
theorem ajH:∀ s:Bs,aa4 (vB s)=some s
 | []=>rfl
 | b::l=>by
   have ih:=ajH l
   show (aa4 (vB l)).map _=_
   rw [ih]; simp
def k9 {R:Type} (e:Option R) (Q:R->Prop):Prop:=∃ r,e=some r/\Q r
theorem k9.here {R:Type} {Q:R->Prop} {r:R} (h:Q r):k9 (some r) Q:=⟨r,rfl,h⟩
theorem k9.bind {R T:Type} {e:Option R} {P:R->Prop} {K:R->Option T} {Q:T->Prop} (h:k9 e P) (k:∀ r,P r->k9 (K r) Q):k9 (e.bind K) Q:=by
 obtain ⟨r,rfl,hr⟩:=h
 exact k r hr
theorem k9.mono {R:Type} {e:Option R} {P Q:R->Prop} (h:k9 e P) (k:∀ r,P r->Q r):k9 e Q:=by
 obtain ⟨r,e,hr⟩:=h
 exact ⟨r,e,k r hr⟩
theorem k9.ite {R:Type} {c:Prop} [Decidable c] {x y:Option R} {Q:R->Prop} (h1:c->k9 x Q) (h2:¬ c->k9 y Q):k9 (if c then x else y) Q:=by
 split
 ·exact h1 ‹_›
 ·exact h2 ‹_›
theorem k9.loop {B:LB} {I:Nat->List V->VH->Prop} {Q:Nat × List V × VH->Prop}
 (hr:∀ n s H,I n s H->k9 (B s H) fun r=>match r.1 with | some m=>Q (m,r.2) | none=>∃ n',n'<n/\I n' r.2.1 r.2.2) :
 ∀ (n:Nat) (s:List V) (H:VH),I n s H->k9 (p5 B s H) Q:=by
 intro n
 induction n using Nat.strongRecOn with
 | _ n ih =>
   intro s H hI
   obtain ⟨⟨m,vs,H'⟩,e,hq⟩:=hr n s H hI
   cases m with
   | some m=>exact ⟨_,agL e,hq⟩
   | none =>
     obtain ⟨n',hn,hI'⟩:=hq
     rw [akq e]
     exact ih n' hn _ _ hI'
def aaQ (e:Option (V × VH)) (P:V->VH->Prop):Prop:=∃ v H,e=some (v,H)/\P v H
theorem aaQ.bind {T:Type} {e:Option (V × VH)} {P:V->VH->Prop} {K:V × VH->Option T} {Q:T->Prop} (h:aaQ e P) (k:∀ v H,P v H->k9 (K (v,H)) Q):k9 (e.bind K) Q:=by
 obtain ⟨v,H,rfl,hr⟩:=h
 exact k v H hr
theorem aaQ.of {e:Option (V × VH)} {P:V->VH->Prop} (h:k9 e fun r=>P r.1 r.2):aaQ e P:=by
 obtain ⟨⟨v,H⟩,h1,h2⟩:=h
 exact ⟨v,H,h1,h2⟩
theorem k9.P6 {B:LB} {T:Type} {I:Nat->List V->VH->Prop} {P:Nat->List V->VH->Prop} {n:Nat} {s:List V} {H:VH} {K:Nat × List V × VH->Option T} {Q:T->Prop}
 (hr:∀ n s H,I n s H->k9 (B s H) fun r=>(∃ m,r.1=some m/\P m r.2.1 r.2.2)\/(r.1=none/\∃ n',n'<n/\I n' r.2.1 r.2.2))
 (h0:I n s H) (k:∀ m vs H',P m vs H'->k9 (K (m,vs,H')) Q):k9 ((p5 B s H).bind K) Q:=by
 refine (k9.loop (I:=I) (Q:=fun r=>P r.1 r.2.1 r.2.2) (fun n s H hI=>(hr n s H hI).mono fun r h=>?_) n s H h0).bind fun r h=>k r.1 r.2.1 r.2.2 h
 obtain ⟨r1,r2⟩:=r
 rcases h with ⟨m,h1,h2⟩ | ⟨h1,h2⟩
 ·cases h1; exact h2
 ·cases h1; exact h2
def Rd (k b:Nat) (H:VH):Prop:=∃ o xs p,H[k]? = some (rdr o xs p)/\p<=b/\xs.length<=2000
theorem Rd.le {k b b':Nat} {H:VH} (h:Rd k b H) (hb:b<=b'):Rd k b' H:=by
 obtain ⟨o,xs,p,h1,h2,h3⟩:=h
 exact ⟨o,xs,p,h1,by omega,h3⟩
def unT:List (List V)->List Bs
 | [.str s]::l=>s::unT l
 | _=>[]
def okT (xs:List (List V)):Bool:=(unT xs).length==xs.length&&(unT xs).all (fun s=>decide (s.length<=200))&&decide (1<=xs.length)&&decide (xs.length<=1000)
theorem apG:∀ {xs:List (List V)},(unT xs).length=xs.length->vT (unT xs)=xs
 | [],_=>rfl
 | x::l,h=>by
   unfold unT at h ⊢
   split at h
   ·rename_i s l' e
    cases e
    have:=apG (xs:=l) (by simpa using h)
    show [V.str s]::vT (unT l)=_
    rw [this]
   ·simp at h
def unI:List (List V)->List Int
 | [.int .i64 s]::l=>s::unI l
 | _=>[]
def okI (xs:List (List V)):Bool:=(unI xs).length==xs.length&&decide (1<=xs.length)&&decide (xs.length<=1000)
theorem aqi:∀ {xs:List (List V)},(unI xs).length=xs.length->vI .i64 (unI xs)=xs
 | [],_=>rfl
 | x::l,h=>by
   unfold unI at h ⊢
   split at h
   ·rename_i s l' e
    cases e
    have:=aqi (xs:=l) (by simpa using h)
    show [V.int .i64 s]::vI .i64 (unI l)=_
    rw [this]
   ·simp at h
theorem avH (s:Bs) (c:UInt8):Go.Lib.indexByte s c=if c ∈ s then ((s.idxOf c:Nat):Int) else -1:=by
 induction s with
 | nil=>rfl
 | cons b l ih =>
   unfold Go.Lib.indexByte
   rw [ih,List.idxOf_cons]
   by_cases h:b=c
   ·subst h; simp
   ·have h':¬ c=b:=fun e=>h e.symm
    by_cases hm:c ∈ l
    ·have:(b==c)=false:=by simpa using h
     simp only [this,hm,if_true,List.mem_cons,or_true,cond_false]
     have hn:((l.idxOf c:Nat):Int) ≠ -1:=by omega
     simp [hn]
    ·have:(b==c)=false:=by simpa using h
     simp [this,hm,h',h]
def akd (c:UInt8) (s:Bs):Bs:=if c ∈ s then s.take (s.idxOf c) else s
def ajW (c:UInt8) (s:Bs):Bs:=if c ∈ s then s.drop (s.idxOf c+1) else []
def j9 (c:UInt8):Bs->List Bs
 | []=>[[]]
 | b::l=>if b=c then []::j9 c l else match j9 c l with | []=>[[b]] | x::r=>(b::x)::r
theorem aaK (c:UInt8) (s:Bs):j9 c s ≠ []:=by
 cases s with
 | nil=>simp [j9]
 | cons b l =>
   unfold j9
   split
   ·simp
   ·split<;>simp
theorem aje (c:UInt8) (s:Bs):(j9 c s).length=s.count c+1:=by
 induction s with
 | nil=>rfl
 | cons b l ih =>
   unfold j9
   rw [List.count_cons]
   by_cases h:b=c
   ·simp [h,ih]
   ·have:(b==c)=false:=by simpa using h
    rw [if_neg h,this]
    split
    ·rename_i e; exact absurd e (aaK c l)
    ·rename_i x r e; rw [e] at ih; simpa using ih
theorem abP (c:UInt8) (s:Bs) (h:c ∉ s):j9 c s=[s]:=by
 induction s with
 | nil=>rfl
 | cons b l ih =>
   unfold j9
   have h1:¬ b=c:=fun e=>h (by simp [e])
   rw [if_neg h1,ih (fun e=>h (by simp [e]))]
theorem acA (c:UInt8) (s:Bs) (h:c ∈ s):j9 c s=s.take (s.idxOf c)::j9 c (s.drop (s.idxOf c+1)):=by
 induction s with
 | nil=>cases h
 | cons b l ih =>
   rw [List.idxOf_cons]
   conv=>lhs; unfold j9
   by_cases h1:b=c
   ·subst h1; simp
   ·have h2:c ∈ l:=by rcases List.mem_cons.1 h with e | e; exact absurd e.symm h1; exact e
    have:(b==c)=false:=by simpa using h1
    rw [if_neg h1,ih h2,this]
    simp
theorem alr (c:UInt8) (s:Bs):∀ t ∈ j9 c s,t.length<=s.length:=by
 induction s with
 | nil=>intro t ht; simp [j9] at ht; subst ht; simp
 | cons b l ih =>
   intro t ht
   unfold j9 at ht
   split at ht
   ·rcases List.mem_cons.1 ht with rfl | ht
    ·simp
    ·have:=ih t ht; simp; omega
   ·split at ht
    ·simp at ht; subst ht; simp
    ·rename_i x r e
     rcases List.mem_cons.1 ht with rfl | ht
     ·have:=ih x (by rw [e]; simp); simp; omega
     ·have:=ih t (by rw [e]; simp [ht]); simp; omega
def D6 (c:UInt8) (s:Bs):Nat->Bs
 | 0=>s
 | i+1=>(D6 c s i).drop ((D6 c s i).idxOf c+1)
theorem adO (c:UInt8) (s:Bs):∀ i,i<(j9 c s).length->j9 c (D6 c s i)=(j9 c s).drop i
 | 0,_=>rfl
 | i+1,h=>by
   have ih:=adO c s i (by omega)
   have hm:c ∈ D6 c s i:=by
    by_cases hm:c ∈ D6 c s i
    ·exact hm
    ·rw [abP c _ hm] at ih
     have:=congrArg List.length ih
     simp at this; omega
   rw [acA c _ hm] at ih
   have:=congrArg List.tail ih
   simpa [D6] using this
theorem akN (c:UInt8) (s:Bs):∀ i,(D6 c s i).length<=s.length
 | 0=>Nat.le_refl _
 | i+1=>by have:=akN c s i; simp only [D6,List.length_drop]; omega
theorem j0:type_of% (And.intro @Nat.zero_add (And.intro @if_true.{1} (And.intro @if_false.{1} (And.intro @decide_true (And.intro @decide_false (And.intro @Bool.false_eq_true (And.intro @Bool.not_true (And.intro @Bool.not_false (And.intro @ar4 (And.intro @an2 (And.intro @avi (And.intro @aua (And.intro @asY (And.intro @anm (And.intro @aqJ (And.intro @apA (And.intro @anO (And.intro @aqN (And.intro @aqR (And.intro @asr (And.intro @asJ (And.intro @apI (And.intro @ap9 (And.intro @aob (And.intro @alW (And.intro @alT (And.intro @akJ (And.intro @abD (And.intro @I7 (And.intro @V6 (And.intro @an5 (And.intro @aqV (And.intro @apl (And.intro @asQ (And.intro @aqg (And.intro @apY (And.intro @asZ (And.intro @apc (And.intro @aqQ (And.intro @anM (And.intro @al2 (And.intro @amy (And.intro @akP (And.intro @ac1 (And.intro @ab2 (And.intro @an9 (And.intro @aqA (And.intro @apX (And.intro @asD (And.intro @apO (And.intro @aqK (And.intro @ar3 (And.intro @anK (And.intro @alm (And.intro @amU (And.intro @akB (And.intro @aqP (And.intro @asf (And.intro @as3 (And.intro @au3 (And.intro @ash (And.intro @ase (And.intro @apt (And.intro @anv (And.intro @an0 (And.intro @amg (And.intro @anL (And.intro @apn (And.intro @apB (And.intro @apg (And.intro @anA (And.intro @aqn (And.intro @apV (And.intro @ap6 (And.intro @anY (And.intro @asR (And.intro @apm (And.intro @auA (And.intro @ank (And.intro @auQ (And.intro @at4 (And.intro @atS (And.intro @in_1 (And.intro @auj (And.intro @auq (And.intro @auU (And.intro @avg (And.intro @atW (And.intro @auC (And.intro @aum (And.intro @au7 (And.intro @au8 (And.intro @aul (And.intro @avs (And.intro @avx (And.intro @au5 (And.intro @ar9 (And.intro @atN (And.intro @auP (And.intro @auf (And.intro @at5 (And.intro @ava (And.intro @aud (And.intro @auR (And.intro @avp (And.intro @avc (And.intro @auN (And.intro @asz (And.intro @asg (And.intro @asB (And.intro @asK (And.intro @ass (And.intro @asv (And.intro @asG (And.intro @asT (And.intro @asX (And.intro @asL (And.intro @asW (And.intro @asA (And.intro @asy (And.intro @asm (And.intro @asI (And.intro @as4 (And.intro @asO (And.intro @asP (And.intro @asC (And.intro @asH (And.intro @asV (And.intro @as0 (And.intro @as1 (And.intro @asj (And.intro @asS (And.intro @aph (And.intro @aiJ (And.intro @aix (And.intro @aqt (And.intro @aqm (And.intro @aqr (And.intro @aqb (And.intro @aqx (And.intro @as5 (And.intro @aqT (And.intro @asu (And.intro @auK (And.intro @ast (And.intro @atY (And.intro @ave (And.intro @asa (And.intro @avw (And.intro @atT (And.intro @aun (And.intro @auS (And.intro @avj (And.intro @atP (And.intro @agp (And.intro @aew (And.intro @aqW (And.intro @ac2 (And.intro @aeP (And.intro @amN (And.intro @ali (And.intro @asU (And.intro @asq (And.intro @agG (And.intro @anR (And.intro @anN (And.intro @ajy (And.intro @age (And.intro @apF (And.intro @avu (And.intro @auI (And.intro @auh (And.intro @auZ (And.intro @avd (And.intro @auc (And.intro @auT (And.intro @apk (And.intro @aqh (And.intro @aqy (And.intro @au1 (And.intro @auJ (And.intro @at0 (And.intro @avb (And.intro @avq (And.intro @atO (And.intro @apj (And.intro @acZ (And.intro @ald (And.intro @aem (And.intro @anG (And.intro @anq (And.intro @aqG (And.intro @aqB @apw))))))))))))))))))))))))))))))))))))))))))))))))))))))))))))))))))))))))))))))))))))))))))))))))))))))))))))))))))))))))))))))))))))))))))))))))))))))))))))))))))))))))))))))))))))))))))))))))):=And.intro @Nat.zero_add (And.intro @if_true.{1} (And.intro @if_false.{1} (And.intro @decide_true (And.intro @decide_false (And.intro @Bool.false_eq_true (And.intro @Bool.not_true (And.intro @Bool.not_false (And.intro @ar4 (And.intro @an2 (And.intro @avi (And.intro @aua (And.intro @asY (And.intro @anm (And.intro @aqJ (And.intro @apA (And.intro @anO (And.intro @aqN (And.intro @aqR (And.intro @asr (And.intro @asJ (And.intro @apI (And.intro @ap9 (And.intro @aob (And.intro @alW (And.intro @alT (And.intro @akJ (And.intro @abD (And.intro @I7 (And.intro @V6 (And.intro @an5 (And.intro @aqV (And.intro @apl (And.intro @asQ (And.intro @aqg (And.intro @apY (And.intro @asZ (And.intro @apc (And.intro @aqQ (And.intro @anM (And.intro @al2 (And.intro @amy (And.intro @akP (And.intro @ac1 (And.intro @ab2 (And.intro @an9 (And.intro @aqA (And.intro @apX (And.intro @asD (And.intro @apO (And.intro @aqK (And.intro @ar3 (And.intro @anK (And.intro @alm (And.intro @amU (And.intro @akB (And.intro @aqP (And.intro @asf (And.intro @as3 (And.intro @au3 (And.intro @ash (And.intro @ase (And.intro @apt (And.intro @anv (And.intro @an0 (And.intro @amg (And.intro @anL (And.intro @apn (And.intro @apB (And.intro @apg (And.intro @anA (And.intro @aqn (And.intro @apV (And.intro @ap6 (And.intro @anY (And.intro @asR (And.intro @apm (And.intro @auA (And.intro @ank (And.intro @auQ (And.intro @at4 (And.intro @atS (And.intro @in_1 (And.intro @auj (And.intro @auq (And.intro @auU (And.intro @avg (And.intro @atW (And.intro @auC (And.intro @aum (And.intro @au7 (And.intro @au8 (And.intro @aul (And.intro @avs (And.intro @avx (And.intro @au5 (And.intro @ar9 (And.intro @atN (And.intro @auP (And.intro @auf (And.intro @at5 (And.intro @ava (And.intro @aud (And.intro @auR (And.intro @avp (And.intro @avc (And.intro @auN (And.intro @asz (And.intro @asg (And.intro @asB (And.intro @asK (And.intro @ass (And.intro @asv (And.intro @asG (And.intro @asT (And.intro @asX (And.intro @asL (And.intro @asW (And.intro @asA (And.intro @asy (And.intro @asm (And.intro @asI (And.intro @as4 (And.intro @asO (And.intro @asP (And.intro @asC (And.intro @asH (And.intro @asV (And.intro @as0 (And.intro @as1 (And.intro @asj (And.intro @asS (And.intro @aph (And.intro @aiJ (And.intro @aix (And.intro @aqt (And.intro @aqm (And.intro @aqr (And.intro @aqb (And.intro @aqx (And.intro @as5 (And.intro @aqT (And.intro @asu (And.intro @auK (And.intro @ast (And.intro @atY (And.intro @ave (And.intro @asa (And.intro @avw (And.intro @atT (And.intro @aun (And.intro @auS (And.intro @avj (And.intro @atP (And.intro @agp (And.intro @aew (And.intro @aqW (And.intro @ac2 (And.intro @aeP (And.intro @amN (And.intro @ali (And.intro @asU (And.intro @asq (And.intro @agG (And.intro @anR (And.intro @anN (And.intro @ajy (And.intro @age (And.intro @apF (And.intro @avu (And.intro @auI (And.intro @auh (And.intro @auZ (And.intro @avd (And.intro @auc (And.intro @auT (And.intro @apk (And.intro @aqh (And.intro @aqy (And.intro @au1 (And.intro @auJ (And.intro @at0 (And.intro @avb (And.intro @avq (And.intro @atO (And.intro @apj (And.intro @acZ (And.intro @ald (And.intro @aem (And.intro @anG (And.intro @anq (And.intro @aqG (And.intro @aqB @apw))))))))))))))))))))))))))))))))))))))))))))))))))))))))))))))))))))))))))))))))))))))))))))))))))))))))))))))))))))))))))))))))))))))))))))))))))))))))))))))))))))))))))))))))))))))))))))))))
end Go.AM

/- Rows in objects: what calls see of them, what becomes of rows that calls give. -/
namespace Go.AM
set_option linter.unusedSimpArgs false
set_option linter.unusedVariables false
mutual
theorem ah0 (G:VH):∀ v:V,data v=true->N9 G v=strip v
 | .bool b,_=>rfl
 | .int k n,_=>rfl
 | .str s,_=>rfl
 | .b7,_=>rfl
 | .Q4,_=>rfl
 | .ub,_=>rfl
 | .gp g off,h=>by simp only [data] at h; cases h
 | .E7 cs off,h=>by simp only [data] at h; cases h
 | .ptr k off,h=>by simp only [data] at h; cases h
 | .A9 k off n e,h=>by simp only [data] at h; cases h
 | .fn f cs,h=>by simp only [data] at h; cases h
 | .sl ow xs,h=>by simp only [data] at h; simp only [N9,strip,ajz G xs h]
 | .agg cs,h=>by simp only [data] at h; simp only [N9,strip,ado G cs h]
 | .o8 cs,h=>by simp only [data] at h; simp only [N9,strip,ado G cs h]
theorem ado (G:VH):∀ l:List V,C1 l=true->aaa G l=l7 l
 | [],_=>rfl
 | v::l,h=>by
   simp only [C1,Bool.and_eq_true] at h
   simp only [aaa,l7,ah0 G v h.1,ado G l h.2]
theorem ajz (G:VH):∀ l:List (List V),J3 l=true->X9 G l=o7 l
 | [],_=>rfl
 | v::l,h=>by
   simp only [J3,Bool.and_eq_true] at h
   simp only [X9,o7,ado G v h.1,ajz G l h.2]
end
theorem arR (d:Nat) (H:VH) (v:V) (h:data v=true):frD d H v=strip v:=by
 cases d with
 | zero=>exact ah0 _ v h
 | succ d=>exact ah0 _ v h
def Rows (e:Nat) (r:List (List V)):Prop:=∀ x ∈ r,x.length=e
theorem Rows.flat {e:Nat}:∀ {r:List (List V)},Rows e r->r.flatten.length=r.length*e
 | [],_=>by simp
 | x::r,h=>by
   have h1:=h x (by simp)
   have h2:=Rows.flat (r:=r) (fun y hy=>h y (by simp [hy]))
   rw [List.flatten_cons,List.length_append,h1,h2,List.length_cons,Nat.succ_mul,Nat.add_comm]
theorem Rows.strip {e:Nat} {r:List (List V)} (h:Rows e r):Rows e (o7 r):=fun x hx=>by
 rw [ahB] at hx
 obtain ⟨y,hy,rfl⟩:=List.mem_map.1 hx
 rw [List.length_map]; exact h y hy
theorem Rows.get {e:Nat} {j:Nat} (hj:j<e):∀ {r:List (List V)} {i:Nat} {x:List V},Rows e r->r[i]? = some x->r.flatten[i*e+j]? = x[j]?
 | [],i,x,_,h=>by simp at h
 | y::r,0,x,hr,h=>by
   simp at h; subst h
   have h1:=hr y (by simp)
   rw [List.flatten_cons,Nat.zero_mul,Nat.zero_add,List.getElem?_append_left (by omega)]
 | y::r,i+1,x,hr,h=>by
   have h1:=hr y (by simp)
   simp at h
   rw [List.flatten_cons,List.getElem?_append_right (by rw [h1,Nat.succ_mul]; omega),h1]
   have:(i+1)*e+j-e=i*e+j:=by rw [Nat.succ_mul]; omega
   rw [this]
   exact Rows.get hj (fun z hz=>hr z (by simp [hz])) h
theorem Rows.set {e:Nat} {j:Nat} (hj:j<e) {v:V}:∀ {r:List (List V)} {i:Nat} {x:List V},Rows e r->r[i]? = some x->L6 r.flatten (i*e+j) [v]=(r.set i (x.set j v)).flatten
 | [],i,x,_,h=>by simp at h
 | y::r,0,x,hr,h=>by
   simp at h; subst h
   have h1:=hr y (by simp)
   simp only [List.flatten_cons,Nat.zero_mul,Nat.zero_add,List.set_cons_zero,L6,List.length_singleton]
   rw [List.take_append_of_le_length (by omega),List.drop_append_of_le_length (by omega),<-List.append_assoc]
   congr 1
   rw [List.set_eq_take_append_cons_drop,if_pos (by omega)]; simp
 | y::r,i+1,x,hr,h=>by
   have h1:=hr y (by simp)
   simp at h
   have ih:=Rows.set hj (v:=v) (r:=r) (i:=i) (fun z hz=>hr z (by simp [hz])) h
   simp only [L6,List.length_singleton] at ih
   simp only [List.flatten_cons,List.set_cons_succ,L6,List.length_singleton]
   have e1:(i+1)*e+j=y.length+(i*e+j):=by rw [Nat.succ_mul]; omega
   rw [e1,List.take_length_add_append,Nat.add_assoc,List.drop_length_add_append,List.append_assoc,List.append_assoc,<-ih,List.append_assoc]
theorem anC {d:Nat} {H:VH}:∀ {vs:List V},C1 vs=true->vs.map (frD d H)=vs.map strip
 | [],_=>rfl
 | v::vs,h=>by
   simp only [C1,Bool.and_eq_true] at h
   simp only [List.map_cons,arR d H v h.1,anC h.2]
end Go.AM

/- Runs of the machine of values whose arguments are written out: reckoned by the kernel. -/
namespace Go.AM
set_option linter.unusedSimpArgs false
set_option linter.unusedVariables false
mutual
def eqW:V->V->Bool
 | .bool a,.bool b=>a==b
 | .int k n,.int k' n'=>decide (k=k')&&decide (n=n')
 | .str s,.str t=>decide (s=t)
 | .b7,.b7=>true
 | .Q4,.Q4=>true
 | .ub,.ub=>true
 | .ptr k o,.ptr k' o'=>Nat.beq k k'&&Nat.beq o o'
 | .gp k o,.gp k' o'=>Nat.beq k k'&&Nat.beq o o'
 | .E7 c o,.E7 c' o'=>ajC c c'&&Nat.beq o o'
 | .sl w xs,.sl w' ys=>w==w'&&asd xs ys
 | .agg c,.agg c'=>ajC c c'
 | .o8 c,.o8 c'=>ajC c c'
 | .fn f c,.fn f' c'=>decide (f=f')&&ajC c c'
 | .A9 k o n e,.A9 k' o' n' e'=>Nat.beq k k'&&Nat.beq o o'&&Nat.beq n n'&&Nat.beq e e'
 | _,_=>false
termination_by structural v=>v
def ajC:List V->List V->Bool
 | [],[]=>true
 | a::l,b::m=>eqW a b&&ajC l m
 | _,_=>false
termination_by structural l=>l
def asd:List (List V)->List (List V)->Bool
 | [],[]=>true
 | a::l,b::m=>ajC a b&&asd l m
 | _,_=>false
termination_by structural l=>l
end
section
variable (X:XV) (A:M5) (T:List Nat)
end
section
variable {X:XV} {c:w6} {l:O6} {A:M5} {T:List Nat}
end
end Go.AM

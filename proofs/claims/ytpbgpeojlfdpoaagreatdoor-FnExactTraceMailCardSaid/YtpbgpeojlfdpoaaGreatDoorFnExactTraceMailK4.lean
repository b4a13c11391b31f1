/- Part 4 of the machines: what is proved is told at each theorem; no condition. -/
import Derived.Test.YtpbgpeojlfdpoaaGreatDoorFnExactTraceMailK3
import Derived.Test.YtpbgpeojlfdpoaaGreatDoorFnExactTraceMailK2
import Derived.IntWalk
import Derived.Laws.Strings
import Derived.Lib.Bytealg
import Derived.ChangeArms
import Derived.DataReads
import Derived.LaidSub
import Derived.OpenShut
import Derived.WideShapes
/- One operation: the machine of values and the abstract machine side by side. -/
namespace Go.AM
set_option linter.unusedSimpArgs false
set_option linter.unusedVariables false
structure abz (X:XV):Prop where
 zero:∀ t ti,look X.tab t=some ti->∀ u ∈ ti.zero,I0 u=true
 sl:∀ t e c9 eb z ag n zz,look X.tab t=some ⟨.slice e c9 eb z,ag,n,zz⟩->(∀ u ∈ z,I0 u=true)/\z.length=c9/\0<c9
 gd:aku X
 pos:∀ t ti,look X.tab t=some ti->0<ti.size
theorem avp {n:Nat} {l:List V}:(Z5 n l).length=n*l.length:=by
 induction n with
 | zero=>simp [Z5]
 | succ n ih=>simp only [Z5,List.length_append,ih,Nat.succ_mul]; omega
theorem ama {w:Wd} {l:List V} {xs:List Value} (h:j0 w l xs (fun _=>0)):∀ n,j0 w (Z5 n l) (rep n xs) (fun _=>0)
 | 0=>by simp [Z5,rep,j0]
 | n+1=>by
   simp only [Z5,rep]
   exact h.app (ama h n)
theorem asg {w:Wd} {r:V} {x:Value} {c:j6} (h:RV w r x c) (hs:ac7 r=true):agn x=true/\∀ i,c i=0:=by
 have one:∀ {r:V} {x:Value} {c:j6},RV w r x c->U5 r=true->adp x=true/\∀ i,c i=0:=by
  intro r x c h hs
  cases r<;>simp only [U5] at hs<;>try (cases hs; done)
  all_goals simp only [RV] at h; rw [h.1]; exact ⟨rfl,h.2⟩
 by_cases ht:∃ vs,r = .A5 vs
 rotate_left
 ·have hs1:U5 r=true:=by cases r<;>first | exact hs | exact absurd ⟨_,rfl⟩ ht
  obtain ⟨h1,h2⟩:=one h hs1
  refine ⟨?_,h2⟩
  cases x<;>first | exact h1 | cases h1
 obtain ⟨vs,rfl⟩:=ht
 simp only [ac7] at hs
 simp only [RV] at h
 obtain ⟨ws,rfl,hw⟩:=h
 have:∀ {vs:List V} {ws:List Value} {c:j6},j0 w vs ws c->vs.all U5=true->ws.all adp=true/\∀ i,c i=0:=by
  intro vs
  induction vs with
  | nil=>intro ws c h _; simp only [j0] at h; rw [h.1]; exact ⟨rfl,h.2⟩
  | cons v vs ih =>
    intro ws c h hs
    simp only [j0] at h
    obtain ⟨x,ys,c1,c2,rfl,h2,h3,h4⟩:=h
    simp only [List.all_cons,Bool.and_eq_true] at hs ⊢
    obtain ⟨a1,a2⟩:=one h2 hs.1
    obtain ⟨b1,b2⟩:=ih h3 hs.2
    exact ⟨⟨a1,b1⟩,fun i=>by rw [h4,a2,b2]⟩
 obtain ⟨a,b⟩:=this hw hs
 refine ⟨?_,b⟩
 simp only [agn]
 simpa using a
theorem aoi {take agg:Bool} {size off:Nat} {cs:List V} {r:V × List V} (h:aeF take agg size cs off=some r) (hp:0<size):cs ≠ []:=by
 intro e
 subst e
 cases agg with
 | true =>
   simp only [aeF] at h
   obtain ⟨c,h1,_⟩:=b7 h
   have:=(G4 h1).1
   simp at this; omega
 | false =>
   simp [aeF] at h
theorem as8 {X:XV} {E:En} {w:Wd} {s:VS} {s':St} {ce cl ch cx c:j6} (g:StC X E w s s' ce cl ch cx) {k off:Nat} {y3 cs:List V} {p:Value} {xs:List Value} {cp:j6}
 (hp:RV w (.ptr k off) p cp) (hk:s.H[k]? = some y3) (hcs:j0 w cs xs c) (hc:∀ i,c i<=cx i) (hb:off+cs.length<=y3.length) (hne:cs ≠ []) :
 ∃ w2,agB w.hp p xs=some w2.hp/\F6 X E w2 { s with H:=s.H.set k (R3 y3 off cs) } { s' with hp:=w2.hp } (fun _=>0):=by
 simp only [RV] at hp
 obtain ⟨⟨b,h1,rfl⟩,_⟩:=hp
 obtain ⟨kb,c1,c2,g2,g3,g4,o2,g5⟩:=g.obj.store g.hw.nd hk (fun e=>by subst e; cases cs with | nil=>exact hne rfl | cons a l=>simp at hb) h1
 have hbm:=List.mem_of_getElem? h1
 obtain ⟨c',k1,k2⟩:=g3.seg hcs hb
 have hl:=g3.len
 have hst:agB w.hp (.pointer (some ⟨b,off,none⟩)) xs=some (setW w b { kb with cells:=F7 kb.cells off xs }).hp:=by
  simp only [agB,A7 g2 (by rw [o2]; simp),Option.bind_some]
  rw [if_pos ⟨o2,by rw [<-hcs.len,<-hl]; exact hb⟩]
  rfl
 have hx:Ext w (setW w b { kb with cells:=F7 kb.cells off xs }) (fun _=>True):=aqU (k:={ kb with cells:=F7 kb.cells off xs }) g.hw hbm g2 rfl rfl _
 have hset:(setW w b { kb with cells:=F7 kb.cells off xs }).hp[b]? = some { kb with cells:=F7 kb.cells off xs }:=by
  exact amD (List.getElem?_eq_some_iff.1 g2).1
 have hobj:=g5 _ (R3 y3 off cs) _ c' hx (fun e he hne ke hke=>by
  obtain ⟨q',a1,_⟩:=afF (b:=b) (k:={ kb with cells:=F7 kb.cells off xs }) g2 rfl rfl hke
  refine ⟨q',a1,fun hm=>?_⟩
  have:=aiU (k:={ kb with cells:=F7 kb.cells off xs }) hke (show ke.j3 ≠ kb.j3 from g.hw.ayz hke g2 hm o2 hne) hne
  rw [this] at a1; cases a1; rfl) hset (.inr ⟨o2,j0.mono hx _ k1 (fun _ _=>trivial)⟩)
 have hlen:(setW w b { kb with cells:=F7 kb.cells off xs }).hp.length=w.hp.length:=ach
 refine ⟨_,hst,ce,cl,_,rfl,g.hw.set hbm g2 rfl rfl rfl,g.gl.mono hx,g.fr.set g.hw hbm g2 rfl rfl,g.env.mono hx (fun _ _=>trivial),g.loc.mono hx (fun _ _=>trivial),g.aa8,hobj,fun i=>?_,fun i hi=>?_,fun i hi=>?_⟩
 ·have:=g.N0 i; have:=k2 i; have:=hc i; have:=g4 i; omega
 ·have:=g.Q2 i hi; have:=k2 i; have:=hc i; have:=g4 i; omega
 ·rw [hlen] at hi; have:=g.N9 i hi; have:=k2 i; have:=hc i; have:=g4 i; omega
theorem aee {X:XV} {E:En} {w:Wd} {s:VS} {s':St} {ce cl ch cx c:j6} (g:StC X E w s s' ce cl ch cx) {cs:List V} {xs:List Value} (hcs:j0 w cs xs c) (hc:∀ i,c i<=cx i) (n:Nat) (p:Bool) (hpl:p=false->n=1) :
 ∃ w2,w2.hp=w.hp++[⟨xs,n,.rw,w.hp.length,p⟩]/\F6 X E w2 { s with H:=s.H++[cs] } { s' with hp:=w2.hp } (fun _=>0)/\RV w2 (.ptr s.H.length 0) (.pointer (some ⟨w.hp.length,0,none⟩)) (fun _=>0):=by
 have hx:=ai0 (k:=⟨xs,n,.rw,w.hp.length,p⟩) g.hw rfl (fun _=>True)
 refine ⟨{ hp:=w.hp++[⟨xs,n,.rw,w.hp.length,p⟩],j2:=w.j2++[w.hp.length],fb:=w.hp.length::w.fb },rfl,⟨ce,cl,fun i=>ch i+c i,rfl,g.hw.abD rfl hpl,g.gl.mono hx,g.fr.abD g.hw rfl,g.env.mono hx (fun _ _=>trivial),g.loc.mono hx (fun _ _=>trivial),g.aa8,?_,fun i=>?_,fun i hi=>?_,fun i hi=>?_⟩,?_⟩
 ·refine y2.snoc (kb:=⟨xs,n,.rw,w.hp.length,p⟩) (by simp) rfl (j0.mono hx _ hcs (fun _ _=>trivial)) (g.obj.mono hx (fun b hb => .eq ?_) (fun _ _=>trivial))
  show (w.hp++_)[b]? = _
  rw [List.getElem?_append_left (g.hw.W2 _ (g.hw.sub _ hb))]
 ·have:=g.N0 i; have:=hc i; omega
 ·have:=g.Q2 i hi; have:=hc i; omega
 ·simp at hi; have:=g.N9 i (by omega); have:=hc i; omega
 ·simp only [RV]
  exact ⟨⟨w.hp.length,by rw [<-g.obj.len]; simp,rfl⟩,by simp⟩
theorem amS {w w2:Wd} {p:Bool} {k m c9 cc:Nat} {xs:List Value} (h1:w2.hp=w.hp++[⟨xs,c9,.rw,w.hp.length,p⟩]) (h2:RV w2 (.ptr k 0) (.pointer (some ⟨w.hp.length,0,none⟩)) (fun _=>0)) (h0:0<c9) :
 RV w2 (.o9 k 0 m c9) (F9 w.hp m cc) (fun _=>0):=by
 simp only [RV] at h2 ⊢
 obtain ⟨⟨b,g1,g2⟩,g3⟩:=h2
 cases g2
 exact ⟨⟨w.hp.length,cc,⟨xs,c9,.rw,w.hp.length,p⟩,g1,by rw [h1]; simp,rfl,h0,rfl⟩,by simp⟩
theorem auU {X:XV} {E:En} {w:Wd} {s:VS} {s':St} {ce cl ch cx c1 c2:j6} {fl b:Bool} {c9 bytes:Nat} {sv yv r:V} {x z:Value} {H':VH}
 (g:StC X E w s s' ce cl ch cx) (hx:RV w sv x c1) (hy:RV w yv z c2) (hc:∀ i,c1 i+c2 i<=cx i) (h:auz fl b c9 bytes sv yv s.H=some (r,H')) (h0:0<c9) :
 ∃ w2 x' c',T3 false w.hp c9 bytes x z=some (x',w2.hp)/\aem b z=some z/\F6 X E w2 { s with H:=H' } { s' with hp:=w2.hp } c'/\RV w2 r x' c':=by
 unfold auz at h
 split at h
 ·-- the row lies in an object
  rename_i k off n e
  split at h
  ·rename_i ow ys
   obtain ⟨cs,hk,hq⟩:=b7 h
   clear h
   have h:=hq
   clear hq
   split at h
   ·rename_i hcond
    obtain ⟨rfl,rfl,hn,hcl,hesz,hbt⟩:=hcond
    obtain ⟨new,d,hnew,hys,hd,hlen,_,a2,cc2,rfl⟩:=hy.read hesz
    have hvs:aem false (Value.slice a2 ys.length cc2)=some (Value.slice a2 ys.length cc2):=rfl
    simp only [RV] at hx
    obtain ⟨⟨bk,cc,kb,hr,hkb,hsz,_,rfl⟩,hx0⟩:=hx
    have hne:cs ≠ []:=fun e=>by subst e; simp only [List.length_nil] at hcl; have:=Nat.mul_pos hn h0; omega
    obtain ⟨kb',d1,d2,g2,g3,g4,hrw,g5⟩:=g.obj.store g.hw.nd hk hne hr
    rw [hkb] at g2; cases g2
    have hbm:=List.mem_of_getElem? hr
    have ab6:n*e=kb.cells.length:=by rw [<-g3.len]; exact hcl.symm
    have hw:=g.hw
    have hbl:=(List.getElem?_eq_some_iff.1 hkb).1
    have hcut:cut kb.cells 0 (n*e)=some kb.cells:=by
     show L1 kb.cells 0 (n*e)=some kb.cells
     rw [M7 (by omega),ab6]; simp
    have hold:E8 w.hp e (.slice (some ⟨bk,0,none⟩) n cc)=some kb.cells:=by
     simp only [E8]
     rw [if_neg (by omega),A7 hkb (by rw [hrw]; simp)]
     simp only [Option.bind_some,hsz,if_true,hcut]
    cases ys with
    | nil =>
      cases h
      simp only [List.length_nil] at hlen hnew ⊢
      refine ⟨w,.slice (some ⟨bk,0,none⟩) n cc,fun _=>0,?_,hvs,⟨ce,cl,ch,{ g with hp:=rfl,N0:=fun i=>by have:=g.N0 i; omega,Q2:=fun i hi=>by have:=g.Q2 i hi; omega,N9:=fun i hi=>by have:=g.N9 i hi; omega }⟩,?_⟩
      rotate_left
      ·simp only [RV]
       exact ⟨⟨bk,cc,kb,hr,hkb,hsz,h0,rfl⟩,by simp⟩
      ·simp only [T3,aei]
       split
       ·simp only [L4,hnew,Option.bind_some,hlen,if_true,List.length_nil]
       ·simp only [hnew,Option.bind_some,hlen,if_true,List.length_nil]
    | cons y l =>
      cases h
      have hll:D3 (Value.slice a2 (y::l).length cc2)=l.length+1:=hlen
      have hfl:=g.fr.len
      have fin:∀ (w2:Wd) (f:Nat) (p:Bool),w2.hp[w.hp.length]? = some ⟨kb.cells++new,e,.rw,f,p⟩->w2.j2=w.j2++[w.hp.length]->w2.hp.length=w.hp.length+1->Ext w w2 (fun _=>True)->HW w2->E2 E w2 →
       (∀ c ∈ w.j2,c ≠ bk->adM w w2 c)->(∃ kb':l3,w2.hp[bk]? = some kb') →
       F6 X E w2 { s with H:=s.H.set k []++[cs++(y::l).flatten] } { s' with hp:=w2.hp } (fun _=>0)/\RV w2 (.o9 s.H.length 0 (n+(l.length+1)) e) (F9 w.hp (n+(l.length+1)) (n+(l.length+1)+1)) (fun _=>0):=by
       intro w2 f p hat hrho hlen2 hE hw2 hfr hkeep ⟨kb2,hkb2⟩
       refine ⟨⟨ce,cl,fun i=>(0+d2 i)+(d1 i+d i),rfl,hw2,g.gl.mono hE,hfr,g.env.mono hE (fun _ _=>trivial),g.loc.mono hE (fun _ _=>trivial),g.aa8,?_,fun i=>?_,fun i hi=>?_,fun i hi=>?_⟩,?_⟩
       ·rw [hrho]
        exact y2.snoc (kb:=⟨kb.cells++new,e,.rw,f,p⟩) hat rfl ((j0.mono hE _ g3 (fun _ _=>trivial)).app (j0.mono hE _ hys.flat (fun _ _=>trivial))) (g5 w2 [] kb2 (fun _=>0) hE hkeep hkb2 (.inl ⟨rfl,by simp⟩))
       ·have:=g.N0 i; have:=g4 i; have:=hd i; have:=hc i; omega
       ·have:=g.Q2 i hi; have:=g4 i; have:=hd i; have:=hc i; omega
       ·have:=g.N9 i (by omega); have:=g4 i; have:=hd i; have:=hc i; omega
       ·simp only [RV,F9]
        refine ⟨⟨w.hp.length,_,_,?_,hat,rfl,h0,rfl⟩,by simp⟩
        rw [hrho,<-g.obj.len]; simp
      by_cases hcc:cc=n
      ·obtain ⟨f1,f2⟩:=fin ⟨w.hp++[⟨kb.cells++new,e,.rw,w.hp.length,true⟩],w.j2++[w.hp.length],w.hp.length::w.fb⟩ w.hp.length true (by simp) rfl (by simp) (ai0 hw rfl _) (hw.abD rfl (fun h=>by cases h)) (g.fr.abD hw rfl)
        (fun c hc _ => .eq (by show (w.hp++_)[c]? = _; rw [List.getElem?_append_left (hw.rlt c hc)])) ⟨kb,by show (w.hp++_)[bk]? = _; rw [List.getElem?_append_left hbl]; exact hkb⟩
       refine ⟨_,_,_,?_,hvs,f1,f2⟩
       simp only [T3,aei]
       rw [if_pos hcc]
       simp only [L4,hnew,Option.bind_some,hll]
       rw [if_neg (by omega),if_pos ⟨hcc,by simpa using hbt⟩,hold]; rfl
      ·obtain ⟨f1,f2⟩:=fin (ae8 w bk kb ⟨kb.cells++new,e,.rw,kb.j3,kb.pl⟩) kb.j3 kb.pl (by simp [ae8,J5]) rfl (by simp [ae8,J5]) (auA (k:=⟨kb.cells++new,e,.rw,kb.j3,kb.pl⟩) hw hkb hbm rfl _) (hw.ae8 (k:=⟨kb.cells++new,e,.rw,kb.j3,kb.pl⟩) hkb hrw hbm rfl (fun h=>by show e=1; rw [<-hsz]; exact hw.mrk bk kb hkb h)) (g.fr.ae8 (k:=⟨kb.cells++new,e,.rw,kb.j3,kb.pl⟩) hw hkb hbm rfl hsz.symm)
        (fun c hc hne => .eq (M6 (hw.rlt c hc) hne)) ⟨_,afm hbl⟩
       have huse:abx w.hp bk kb (0+n*e)=w.hp.set bk { kb with md := .ro }:=by unfold abx; rw [if_pos (by omega)]
       refine ⟨_,_,_,?_,hvs,f1,f2⟩
       simp only [T3,aei]
       rw [if_neg hcc]
       simp only [hnew,Option.bind_some,hll]
       rw [if_neg (by omega),if_pos ⟨hn,by simpa using hbt⟩,hold]
       simp only [Option.bind_some,A7 hkb (by rw [hrw]; simp),hrw,if_true,huse]
       rfl
   ·cases h
  ·cases h
 ·-- an own row
  obtain ⟨xs,hxs,hq⟩:=b7 h
  clear h
  obtain ⟨rv,ha,h⟩:=b7 hq
  clear hq
  have hsv:sv = .sl true xs:=by
   unfold aj1 at hxs
   split at hxs
   ·cases hxs; rfl
   ·cases hxs
  subst hsv
  have plain:r=rv->H'=s.H->∃ w2 x' c',T3 false w.hp c9 bytes x z=some (x',w2.hp)/\aem b z=some z/\F6 X E w2 { s with H:=H' } { s' with hp:=w2.hp } c'/\RV w2 r x' c':=by
   rintro rfl rfl
   obtain ⟨w2,x',c',k1,k2,k3,k4⟩:=aqF (full:=false) g hx (fun q=>by cases q) hy hc ha h0
   exact ⟨w2,x',c',k1,k2,⟨ce,cl,ch,k3⟩,k4⟩
  split at h
  ·rename_i hfl
   split at h
   ·rename_i y l
    cases h
    obtain ⟨ys,new,d,hrv,hnew,hys,hd,hlen,hesz,hb,hst⟩:=apA ha hy
    have hxe:xs=[]:=by simp at hfl; exact hfl.2
    subst hxe
    injection hrv with _ hrv
    simp only [List.nil_append] at hrv
    subst hrv
    simp only [RV] at hx
    rcases hx with ⟨_,⟨a,cc,rfl,hcc⟩,hx0⟩ | ⟨h',_⟩
    ·have hcc:=hcc trivial
     subst hcc
     obtain ⟨w2,k1,k2,k3⟩:=aee g (cs:=(y::l).flatten) hys.flat (fun i=>by have:=hd i; have:=hc i; omega) c9 true (fun h=>by cases h)
     refine ⟨w2,F9 w.hp (l.length+1) (l.length+1+1),fun _=>0,?_,hst,k2,amS k1 k3 h0⟩
     have hlen':D3 z=l.length+1:=hlen
     simp only [T3,aei,List.length_nil,if_true]
     simp only [L4,hnew,Option.bind_some,hlen']
     rw [if_neg (by omega),if_pos ⟨trivial,by simpa using hb⟩]
     have hold:E8 w.hp c9 (.slice a 0 0)=some []:=by
      cases a with
      | none=>rfl
      | some a =>
        obtain ⟨b0,o0,s0⟩:=a
        cases s0<;>simp [E8]
     rw [hold,k1]
     simp [F9]
    ·exact absurd rfl h'
   ·cases h; exact plain rfl rfl
  ·cases h; exact plain rfl rfl
theorem arW {X:XV} {w:Wd} {n c9:Nat} {a v:V} {x:Value} {c:j6} (hg:I2 X w) (h:akw X.I1 n c9 a=some v) (ha:RV w a x c):∃ z,af6 w.hp n c9 x=some z/\RV w v z (fun _=>0):=by
 unfold akw at h
 split at h
 ·rename_i g
  obtain ⟨cs,hcs,hq⟩:=b7 h
  split at hq
  ·rename_i hc
   obtain ⟨hn,rfl,hl⟩:=hc
   cases hq
   obtain ⟨kb,b1,b2,b3,b4,b5⟩:=hg g cs hcs
   simp only [RV] at ha
   obtain ⟨rfl,_⟩:=ha
   have hlen:kb.cells.length=n:=by rw [<-b3.len,hl]
   refine ⟨.slice (some ⟨g,0,none⟩) n n,?_,?_⟩
   ·simp only [af6,b1,Option.bind_some]
    rw [if_pos ⟨hn,trivial,b5,by omega⟩]
   ·have hch:=aaX (sz:=1) (n:=n) b3 (by omega)
    have hcl:(A9 1 n cs).length=n:=by have:=hch.len; omega
    simp only [RV]
    refine .inr ⟨fun q=>by rw [q] at hcl; simp at hcl; omega,g,0,kb,kb.cells,n,fun _=>0,b1,b4,b2,by rw [hcl],by omega,?_,by rw [b5]; exact hch,.inl ⟨trivial,by simp,by simp⟩⟩
    rw [hcl,b5,M7 (by omega)]
    rw [List.drop_zero,List.take_of_length_le (by omega)]
  ·cases hq
 ·cases h
theorem asQ {w:Wd} (l:List UInt8):j0 w (l.map fun b=>V.int .u8 b.toNat) (l.map fun b=>Value.int .u8 b.toNat) (fun _=>0):=by
 induction l with
 | nil=>simp [j0]
 | cons b l ih =>
   simp only [List.map_cons,j0]
   exact ⟨_,_,fun _=>0,fun _=>0,rfl,by simp [RV],ih,by simp⟩
section
variable {X:XV} {Y:Ctx} {A:T8} {T:List Nat} {E:En} {w:Wd} {s:VS} {s':St} {R R':Type} {r:R} {o:Oper}
 {K:VE->VS->D7->Option R} {K':EV->List (Nat × List Value)->Heap->D7->Option R'} {Q:R'->Prop}
def akQ (X:XV) (E:En) (env:List (Nat × EV)) (K:VE->VS->D7->Option R) (K':EV->List (Nat × List Value)->Heap->D7->Option R') (r:R) (Q:R'->Prop):Prop :=
 ∀ (w2:Wd) (e:VE) (e':EV) (s2:VS) (loc:List (Nat × List Value)) (c:D7) (ce:j6),K e s2 c=some r->RE w2 e e' ce->F6 X E w2 s2 ⟨env,loc,w2.hp⟩ ce->∃ r',K' e' loc w2.hp c=some r'/\Q r'
theorem F6.hp {cx:j6} (hs:F6 X E w s s' cx):s'.hp=w.hp:=by
 obtain ⟨_,_,_,g⟩:=hs; exact g.hp
theorem F6.self {cx:j6} (hs:F6 X E w s s' cx):F6 X E w s ⟨s'.env,s'.loc,w.hp⟩ cx:=by
 have:=hs.hp
 obtain ⟨env,loc,hp⟩:=s'
 simp only at this
 subst this
 exact hs
theorem akQ.pure (hK:akQ X E s'.env K K' r Q) {v:V} {x:Value} {s2:VS} {c:D7} {cx:j6} (h:K (.val v) s2 c=some r) (hr:RV w v x (fun _=>0)) (hs:F6 X E w s2 s' cx):∃ r',K' (.val x) s'.loc s'.hp c=some r'/\Q r':=by
 rw [hs.hp]
 exact hK w (.val v) (.val x) s2 s'.loc c (fun _=>0) h hr (hs.less (by simp)).self
theorem aqi {hp:Heap} {k:l3} (h:k.md ≠ .gone):l9 (hp++[k]) hp.length=some k:=by
 unfold l9
 rw [List.getElem?_append_right (Nat.le_refl _)]
 simp [h]
def axl (full:Bool):D7:=match full with | true => .A | false => .W
theorem StC.atg {ce cl ch cx c:j6} (g:StC X E w s s' ce cl ch cx) {d:Nat} (hl:look s.loc d=none) {cs:List V} {xs:List Value} (hcs:j0 w cs xs c) (hc:∀ i,c i<=cx i) :
 F6 X E w { s with loc:=(d,cs)::s.loc } ⟨s'.env,(d,xs)::s'.loc,w.hp⟩ (fun _=>0):=by
 refine ⟨ce,fun i=>c i+cl i,ch,rfl,g.hw,g.gl,g.fr,g.env,?_,fun k hk=>?_,g.obj,fun i=>?_,fun i hi=>?_,fun i hi=>?_⟩
 ·simp only [M3]
  refine ⟨xs,c,cl,by rw [j9,if_pos rfl],hcs,hl,?_,by simp⟩
  have:∀ {l:List (Nat × List V)} {c:j6},M3 w l s'.loc c->look l d=none->M3 w l ((d,xs)::s'.loc) c:=by
   intro l
   induction l with
   | nil=>intro c h _; simpa [M3] using h
   | cons p l ih =>
     intro c h hn
     obtain ⟨q,v⟩:=p
     simp only [M3] at h ⊢
     obtain ⟨ws,d1,d2,h1,h2,h0,h3,h4⟩:=h
     rw [j9] at hn
     split at hn
     ·cases hn
     ·rename_i hq
      exact ⟨ws,d1,d2,by rw [j9,if_neg (Ne.symm hq)]; exact h1,h2,h0,ih h3 hn,h4⟩
  exact this g.loc hl
 ·rw [j9] at hk ⊢
  split at hk
  ·cases hk
  ·rename_i hq; rw [if_neg hq]; exact g.aa8 k hk
 ·have:=g.N0 i; have:=hc i; omega
 ·have:=g.Q2 i hi; have:=hc i; omega
 ·have:=g.N9 i hi; have:=hc i; omega
theorem j0.one {w:Wd} {v:V} {x:Value} {c:j6} (h:RV w v x c):j0 w [v] [x] c:=⟨x,[],c,fun _=>0,rfl,h,by simp [j0],by simp⟩
theorem am1 (hcall:∀ f args H r H',X.call f args H=some (r,H')->E3 X Y.call f args H r H') {cx:j6} (hs:F6 X E w s s' cx) {f:FuncId} {vs:List V} {xs:List Value} {c1:j6} (h2:j0 w vs xs c1) (hc:∀ i,c1 i<=cx i) {rv:V} {H':VH} (hr:X.call f vs s.H=some (rv,H')) :
 ∃ x w2 cr,Y.call f xs w.hp=some (x,w2.hp)/\RV w2 rv x cr/\F6 X E w2 { s with H:=H' } ⟨s'.env,s'.loc,w2.hp⟩ cr:=by
 obtain ⟨ce,cl,ch,g⟩:=hs
 obtain ⟨x,w2,cr,ch',q1,q2,q3,q4,q5,q6,q7,q8,q9⟩:=hcall f vs s.H rv H' hr w xs c1 ch g.hw g.gl h2 g.obj (fun i=>by have:=g.N0 i; have:=hc i; omega) (fun i hi=>by have:=g.N9 i hi; have:=hc i; omega)
 have hx:=q4.ext
 refine ⟨x,w2,cr,q1,q5,ce,cl,ch',rfl,q2,q3,?_,g.env.mono hx (fun b hb=>by have:=g.N0 b; have:=hc b; show c1 b+ch b=0; omega),g.loc.mono hx (fun b hb=>by have:=g.N0 b; have:=hc b; show c1 b+ch b=0; omega),g.aa8,q6,fun i=>?_,fun i hi=>?_,fun i hi=>?_⟩
 ·refine g.fr.trans q4 g.hw q2 (fun b hb=>hb) (fun i hi=>by have:=g.Q2 i hi; have:=hc i; omega) rfl ?_ ?_
  ·obtain ⟨r1,a1,a2⟩:=g.fr.j2
   obtain ⟨r2,b1,b2⟩:=q4.j2
   simp only at b1 b2
   refine ⟨r1++r2,by rw [b1,a1,List.append_assoc],fun b hb=>?_⟩
   have hl:=g.fr.len
   rcases List.mem_append.1 hb with hb | hb
   ·have hbw:b<w.hp.length:=g.hw.rlt b (by rw [a1]; exact List.mem_append.2 (.inr hb))
    refine ⟨(a2 b hb).1,fun k hk=>?_⟩
    rw [q4.aaM b _ k (List.getElem?_eq_getElem hbw) hk]
    exact (a2 b hb).2 _ (List.getElem?_eq_getElem hbw)
   ·have:=(b2 b hb).1
    refine ⟨by omega,fun k hk=>?_⟩
    rcases (b2 b hb).2 k hk with q | ⟨b0,q1,k0,q2,q3⟩
    ·left; simp only at q; omega
    ·rw [<-q3]; exact g.fr.ae1 q1 q2
  ·obtain ⟨r1,a1,a2⟩:=g.fr.fb
   obtain ⟨r2,b1,b2⟩:=q4.fb
   simp only at b1 b2
   refine ⟨r2++r1,by rw [b1,a1,List.append_assoc],fun b hb=>?_⟩
   rcases List.mem_append.1 hb with hb | hb
   ·have:=b2 b hb; have:=g.fr.len; omega
   ·exact a2 b hb
 ·by_cases hi:i<w.hp.length
  ·have:=q8 i hi; have:=g.N0 i; have:=hc i; omega
  ·have:=g.N9 i (by omega); have:=q7 i; omega
 ·have:=q8 i (by have:=g.fr.len; omega); have:=g.Q2 i hi; have:=hc i; omega
 ·have:=q9 i hi
  have hl:=q4.len
  simp only at hl
  have:=g.N9 i (by omega); omega
theorem ahN (hT:abz X) (hcall:∀ f args H r H',X.call f args H=some (r,H')->E3 X Y.call f args H r H') {cx:j6} (hs:F6 X E w s s' cx) {f:FuncId} {vs:List V} {xs:List Value} (fb:List Nat) (hfb:∀ b ∈ fb,b ∈ w.fb) (h2:y7 vs=true->j0 ⟨w.hp,[],fb⟩ vs xs (fun _=>0)) {rv:V} (hr:M0 X.call f vs=some rv) :
 ∃ x,W9 Y.call f xs s'.hp=some x/\RV w rv x (fun _=>0):=by
 have hhp:=hs.hp
 obtain ⟨ce,cl,ch,g⟩:=hs
 unfold M0 at hr
 split at hr
 ·rename_i hn
  obtain ⟨⟨rv',H'⟩,hr1,hr2⟩:=b7 hr
  simp only at hr2
  split at hr2
  ·rename_i hsc
   cases hr2
   obtain ⟨x,hp2,fb2,rho2,cr,q1,q2,q3,q4,q5,q6,q7,q8,q9,q10,_⟩:=adC g.hw g.gl hT.gd fb hfb (h2 hn) (hcall _ _ _ _ _ hr1)
   obtain ⟨t1,t2⟩:=asg q3 hsc
   have hq:W9 Y.call f xs s'.hp=some x:=by
    unfold W9
    rw [hhp,q1]
    simp only [Option.bind_some]
    rw [if_pos ⟨q2,t1⟩]
   have hdat:data rv=true:=by
    cases rv<;>first | rfl | (simp only [ac7,U5] at hsc; cases hsc; done) | skip
    rename_i l
    simp only [ac7] at hsc
    simp only [data]
    have:∀ {l:List V},l.all U5=true->s7 l=true:=by
     intro l
     induction l with
     | nil=>intro _; rfl
     | cons a l ih =>
       intro h
       simp only [List.all_cons,Bool.and_eq_true] at h
       simp only [s7,Bool.and_eq_true]
       refine ⟨?_,ih h.2⟩
       cases a<;>first | rfl | (simp only [U5] at h; exact absurd h.1 (by simp))
    exact this hsc
   have hxw:RV w rv x (fun _=>0):=by
    have:∀ {v:V} {x:Value} {c:j6},RV ⟨hp2,rho2,fb2⟩ v x c->U5 v=true->RV w v x (fun _=>0):=by
     intro v x c h hs
     cases v<;>simp only [U5] at hs<;>first | (cases hs; done) | skip
     all_goals simp only [RV] at h ⊢; exact ⟨h.1,by simp⟩
    by_cases ht2:∃ l,rv = .A5 l
    ·obtain ⟨l,rfl⟩:=ht2
     simp only [ac7] at hsc
     simp only [RV] at q3 ⊢
     obtain ⟨ws,rfl,q3⟩:=q3
     refine ⟨ws,rfl,?_⟩
     have all:∀ {l:List V} {ws:List Value} {c:j6},j0 ⟨hp2,rho2,fb2⟩ l ws c->l.all U5=true->j0 w l ws (fun _=>0):=by
      intro l
      induction l with
      | nil=>intro ws c h _; simp only [j0] at h ⊢; exact ⟨h.1,by simp⟩
      | cons a l ih =>
        intro ws c h hs
        simp only [j0] at h ⊢
        obtain ⟨x,ys,c1,c2,rfl,h2,h3,h4⟩:=h
        simp only [List.all_cons,Bool.and_eq_true] at hs
        exact ⟨x,ys,_,_,rfl,this h2 hs.1,ih h3 hs.2,by simp⟩
     exact all q3 hsc
    ·have hs1:U5 rv=true:=by cases rv<;>first | exact hsc | exact absurd ⟨_,rfl⟩ ht2
     exact this q3 hs1
   exact ⟨x,hq,hxw⟩
  ·cases hr2
 ·cases hr
theorem agW (hT:abz X) (hcall:∀ f args H r H',X.call f args H=some (r,H')->E3 X Y.call f args H r H') {cx:j6} (hs:F6 X E w s s' cx) {f:FuncId} {vs:List V} {xs:List Value} {c1:j6} (h2:j0 w vs xs c1) {rv:V} (hr:M0 X.call f (vs.map (j7 s.H))=some rv) :
 ∃ x,W9 Y.call f xs s'.hp=some x/\RV w rv x (fun _=>0):=by
 have hs':=hs
 obtain ⟨ce,cl,ch,g⟩:=hs'
 exact ahN hT hcall hs w.fb (fun _ h=>h) (fun hn=>ajS (wc:=⟨w.hp,[],w.fb⟩) g.hw g.obj rfl rfl rfl h2 hn) hr
theorem apM (hT:abz X) (hcall:∀ f args H r H',X.call f args H=some (r,H')->E3 X Y.call f args H r H') {cx:j6} (hs:F6 X E w s s' cx) {f:FuncId} {vs:List V} {xs:List Value} {c1:j6} (h2:j0 w vs xs c1) {rv:V} (hr:K5 X.call f s.H vs=some rv) :
 ∃ x,W9 Y.call f xs s'.hp=some x/\RV w rv x (fun _=>0):=by
 unfold K5 at hr
 split at hr
 ·exact agW hT hcall hs h2 hr
 ·have hs':=hs
  obtain ⟨ce,cl,ch,g⟩:=hs'
  exact ahN hT hcall hs [] (by simp) (fun hn=>acq (w:=w) (wc:=⟨w.hp,[],[]⟩) rfl rfl rfl g.hw g.obj 3 h2 hn) hr
theorem apP (hT:abz X) (hcall:∀ f args H r H',X.call f args H=some (r,H')->E3 X Y.call f args H r H') {cx:j6} (hs:F6 X E w s s' cx) {f:FuncId} {vs:List V} {xs:List Value} {c1:j6} (h2:j0 w vs xs c1) {rv:V} (hr:adD X.call f s.H vs=some rv) :
 ∃ x,W9 Y.call f xs s'.hp=some x/\RV w rv x (fun _=>0):=by
 unfold adD at hr
 have hs':=hs
 obtain ⟨ce,cl,ch,g⟩:=hs'
 exact ahN hT hcall hs [] (by simp) (fun hn=>acq (w:=w) (wc:=⟨w.hp,[],[]⟩) rfl rfl rfl g.hw g.obj 3 h2 hn) hr
def an7 (Y:Ctx) (w:Wd) (f:FuncId) (xs:List Value) (rv:V):Prop :=
 ∃ (x:Value) (hp2:Heap) (fb fb2 rho2:List Nat) (cr:j6),Y.call f xs w.hp=some (x,hp2)/\hp2.take w.hp.length=w.hp/\RV ⟨hp2,w.j2,w.fb⟩ rv x cr/\(∀ i,cr i<=1)/\(∀ i,i<w.hp.length->cr i=0)/\(∀ i,hp2.length<=i->cr i=0) ∧
   HW ⟨hp2,w.j2,w.fb⟩/\E2 ⟨w.hp,[],fb,fun _=>0⟩ ⟨hp2,rho2,fb2⟩/\HW ⟨hp2,rho2,fb2⟩
theorem amd {w:Wd} {f:FuncId} {xs:List Value} {rv rv':V} {x:Value} {hp2:Heap} {fb fb2 rho2:List Nat} {cr ch':j6} {H':VH} (q1:Y.call f xs w.hp=some (x,hp2)) (q2:hp2.take w.hp.length=w.hp) (q3:RV ⟨hp2,rho2,fb2⟩ rv' x cr)
 (q7:HW ⟨hp2,w.j2,w.fb⟩) (q9:E2 ⟨w.hp,[],fb,fun _=>0⟩ ⟨hp2,rho2,fb2⟩) (q10:HW ⟨hp2,rho2,fb2⟩) (hq:∀ (b:Nat) (k:l3),w.hp.length<=b->hp2[b]? = some k->b ∉ w.fb/\B2 hp2 w.j2 k.j3)
 (ho:y2 ⟨hp2,rho2,fb2⟩ H' rho2 ch') (c1:∀ i,cr i+ch' i<=1) (c2:∀ i,i<w.hp.length->cr i+ch' i=0) (c3:∀ i,hp2.length<=i->cr i+ch' i=0) (hr:ouR H' rv'=some rv):an7 Y w f xs rv:=by
 unfold ouR at hr
 obtain ⟨⟨v,H2⟩,e1,e2⟩:=b7 hr
 simp only at e2
 split at e2
 ·cases e2
  have hge:∀ b ∈ rho2,w.hp.length<=b:=fun b hb=>q9.alc (w:=⟨hp2,rho2,fb2⟩) hb (by simp)
  obtain ⟨c',ch2,p1,p2,p3⟩:=anN (w:=⟨hp2,rho2,fb2⟩) (w':=⟨hp2,w.j2,w.fb⟩) (n0:=w.hp.length) rfl hq q10 hge 6 ho q3 c2 e1
  have hlo:=fun i=>arQ (H:=H') i q10.nd
  have hin:∀ i,1<=LO H' rho2 i->cr i=0/\ch' i=0/\w.hp.length<=i/\i<hp2.length:=fun i hi=>by
   have hm:i ∈ rho2:=by
    by_cases q:i ∈ rho2
    ·exact q
    ·rw [ae4 q] at hi; omega
   refine ⟨?_,?_,hge i hm,q10.rlt i hm⟩
   ·by_cases q:1<=cr i
    ·exact absurd hm (RV.owned _ q3 i q).2.1
    ·omega
   ·by_cases q:1<=ch' i
    ·obtain ⟨kb,a1,a2⟩:=y2.aie ho i q
     exact absurd hm (a2.nin a1)
    ·omega
  refine ⟨x,hp2,fb,fb2,rho2,c',q1,q2,p1,fun i=>?_,fun i hi=>?_,fun i hi=>?_,q7,q9,q10⟩
  ·have:=p3 i; have:=c1 i; have:=hlo i
   by_cases q:1<=LO H' rho2 i
   ·have:=hin i q; simp only at *; omega
   ·simp only at *; omega
  ·have:=p3 i; have:=c2 i hi
   by_cases q:1<=LO H' rho2 i
   ·have:=hin i q; omega
   ·simp only at *; omega
  ·have:=p3 i; have:=c3 i hi
   by_cases q:1<=LO H' rho2 i
   ·have:=hin i q; omega
   ·simp only at *; omega
 ·cases e2
theorem akT (hT:abz X) (hcall:∀ f args H r H',X.call f args H=some (r,H')->E3 X Y.call f args H r H') {cx:j6} (hs:F6 X E w s s' cx) {f:FuncId} {vs:List V} {xs:List Value} {c1:j6} (h2:j0 w vs xs c1) {rv:V} (hr:W7 X.call f (vs.map (j7 s.H))=some rv):an7 Y w f xs rv:=by
 obtain ⟨ce,cl,ch,g⟩:=hs
 unfold W7 at hr
 split at hr
 ·rename_i hn
  obtain ⟨⟨rv',H'⟩,hr1,hr2⟩:=b7 hr
  simp only at hr2
  split at hr2
  ·rename_i hdat
   cases hr2
   obtain ⟨x,hp2,fb2,rho2,cr,q1,q2,q3,q4,q5,q6,q7,q8,q9,q10,q11,q12,_⟩:=ahg g.hw g.obj g.gl hT.gd h2 hn (hcall _ _ _ _ _ hr1)
   exact ⟨x,hp2,_,fb2,rho2,cr,q1,q2,RV.data (w:=⟨hp2,rho2,fb2⟩) (w':=⟨hp2,w.j2,w.fb⟩) rfl q8 rv hdat q3,q4,q5,q6,q7,q9,q10⟩
  ·obtain ⟨v2,hv2,hr3⟩:=b7 hr2
   split at hr3
   ·rename_i hdat
    cases hr3
    obtain ⟨x,hp2,fb2,rho2,cr,q1,q2,q3,q4,q5,q6,q7,q8,q9,q10,q11,_,ch',q12,_⟩:=ahg g.hw g.obj g.gl hT.gd h2 hn (hcall _ _ _ _ _ hr1)
    obtain ⟨c',p1,p2⟩:=am5 (w:=⟨hp2,rho2,fb2⟩) (w':=⟨hp2,w.j2,w.fb⟩) rfl q8 q11 q10 q12 q3 hv2 hdat
    exact ⟨x,hp2,_,fb2,rho2,c',q1,q2,p1,fun i=>Nat.le_trans (p2 i) (q4 i),fun i hi=>by have:=p2 i; have:=q5 i hi; omega,fun i hi=>by have:=p2 i; have:=q6 i hi; omega,q7,q9,q10⟩
   ·unfold ouD at hr3
    split at hr3
    ·rename_i u hu
     cases hr3
     obtain ⟨x,hp2,fb2,rho2,cr,q1,q2,q3,q4,q5,q6,q7,q8,q9,q10,q11,q12,ch',q13,q14,q15,q16⟩:=ahg g.hw g.obj g.gl hT.gd h2 hn (hcall _ _ _ _ _ hr1)
     exact amd q1 q2 q3 q7 q9 q10 q12 q13 q14 q15 q16 hu
    ·obtain ⟨v3,hv3,hr4⟩:=b7 hr3
     split at hr4
     ·rename_i hdat
      cases hr4
      obtain ⟨x,hp2,fb2,rho2,cr,q1,q2,q3,q4,q5,q6,q7,q8,q9,q10,q11,_,ch',q12,_⟩:=ahg g.hw g.obj g.gl hT.gd h2 hn (hcall _ _ _ _ _ hr1)
      obtain ⟨c',p1,p2⟩:=alf (w:=⟨hp2,rho2,fb2⟩) (w':=⟨hp2,w.j2,w.fb⟩) rfl q8 q11 q10 q12 q3 hv3 hdat
      exact ⟨x,hp2,_,fb2,rho2,c',q1,q2,p1,fun i=>Nat.le_trans (p2 i) (q4 i),fun i hi=>by have:=p2 i; have:=q5 i hi; omega,fun i hi=>by have:=p2 i; have:=q6 i hi; omega,q7,q9,q10⟩
     ·cases hr4
 ·cases hr
theorem ap7 (hT:abz X) (hcall:∀ f args H r H',X.call f args H=some (r,H')->E3 X Y.call f args H r H') {cx:j6} (hs:F6 X E w s s' cx) {f:FuncId} {vs:List V} {xs:List Value} {c1:j6} (h2:j0 w vs xs c1) {rv:V} (hr:ak2 X.call f s.H vs=some rv):an7 Y w f xs rv:=by
 obtain ⟨ce,cl,ch,g⟩:=hs
 unfold ak2 at hr
 split at hr
 ·rename_i hn
  obtain ⟨⟨rv',H'⟩,hr1,hr2⟩:=b7 hr
  simp only at hr2
  obtain ⟨x,hp2,fb2,rho2,cr,q1,q2,q3,q4,q5,q6,q7,q8,q9,q10,ch',q13,q14,q15,q16⟩:=adC g.hw g.gl hT.gd [] (by simp) (acq (w:=w) (wc:=⟨w.hp,[],[]⟩) rfl rfl rfl g.hw g.obj 3 h2 hn) (hcall _ _ _ _ _ hr1)
  exact amd q1 q2 q3 q7 q8 q9 q10 q13 q14 q15 q16 hr2
 ·cases hr
theorem apK (hT:abz X) (hcall:∀ f args H r H',X.call f args H=some (r,H')->E3 X Y.call f args H r H') {cx:j6} (hs:F6 X E w s s' cx) {f:FuncId} {vs:List V} {xs:List Value} {c1:j6} (h2:j0 w vs xs c1) {rv:V} (hr:V4 X.call f s.H vs=some rv):an7 Y w f xs rv:=by
 unfold V4 at hr
 split at hr
 ·exact akT hT hcall hs h2 hr
 ·obtain ⟨v,hr,hown⟩:=b7 hr
  split at hown
  ·rename_i ho
   cases hown
   obtain ⟨ce,cl,ch,g⟩:=hs
   unfold W7 at hr
   split at hr
   ·rename_i hn
    obtain ⟨⟨rv',H'⟩,hr1,hr2⟩:=b7 hr
    simp only at hr2
    obtain ⟨x,hp2,fb2,rho2,cr,q1,q2,q3,q4,q5,q6,q7,q8,q9,q10,ch',q12,q13⟩:=adC g.hw g.gl hT.gd [] (by simp) (acq (w:=w) (wc:=⟨w.hp,[],[]⟩) rfl rfl rfl g.hw g.obj 3 h2 hn) (hcall _ _ _ _ _ hr1)
    have fin:∀ {v:V} {c:j6},RV ⟨hp2,rho2,fb2⟩ v x c->(∀ i,c i<=cr i)->H4 v=true->RV ⟨hp2,w.j2,w.fb⟩ v x c:=fun h hc ho=>RV.own (w:=⟨hp2,rho2,fb2⟩) (w':=⟨hp2,w.j2,w.fb⟩) rfl _ ho h (fun b k hb hk=>q10 b k (by
     have:=hc b
     by_cases hlt:b<w.hp.length
     ·have:=q5 b hlt; omega
     ·omega) hk)
    split at hr2
    ·cases hr2
     exact ⟨x,hp2,_,fb2,rho2,cr,q1,q2,fin q3 (fun _=>Nat.le_refl _) ho,q4,q5,q6,q7,q8,q9⟩
    ·obtain ⟨v2,hv2,hr3⟩:=b7 hr2
     split at hr3
     ·rename_i hdat
      cases hr3
      obtain ⟨c',p1,p2⟩:=am5 (w:=⟨hp2,rho2,fb2⟩) (w':=⟨hp2,[],[]⟩) rfl (fun b k _ _=>⟨by simp,B2.nil⟩) (fun b _ k _=>⟨by simp,B2.nil⟩) q9 q12 q3 hv2 hdat
      have:=RV.own (w:=⟨hp2,[],[]⟩) (w':=⟨hp2,w.j2,w.fb⟩) rfl _ ho p1 (fun b k hb hk=>q10 b k (by
       have:=p2 b
       by_cases hlt:b<w.hp.length
       ·have:=q5 b hlt; omega
       ·omega) hk)
      exact ⟨x,hp2,_,fb2,rho2,c',q1,q2,this,fun i=>Nat.le_trans (p2 i) (q4 i),fun i hi=>by have:=p2 i; have:=q5 i hi; omega,fun i hi=>by have:=p2 i; have:=q6 i hi; omega,q7,q8,q9⟩
     ·unfold ouD at hr3
      split at hr3
      ·rename_i u hu
       cases hr3
       exact amd q1 q2 q3 q7 q8 q9 q10 q12 q13.1 q13.2.1 q13.2.2 hu
      ·obtain ⟨v3,hv3,hr4⟩:=b7 hr3
       split at hr4
       ·rename_i hdat
        cases hr4
        obtain ⟨c',p1,p2⟩:=alf (w:=⟨hp2,rho2,fb2⟩) (w':=⟨hp2,[],[]⟩) rfl (fun b k _ _=>⟨by simp,B2.nil⟩) (fun b _ k _=>⟨by simp,B2.nil⟩) q9 q12 q3 hv3 hdat
        have:=RV.own (w:=⟨hp2,[],[]⟩) (w':=⟨hp2,w.j2,w.fb⟩) rfl _ ho p1 (fun b k hb hk=>q10 b k (by
         have:=p2 b
         by_cases hlt:b<w.hp.length
         ·have:=q5 b hlt; omega
         ·omega) hk)
        exact ⟨x,hp2,_,fb2,rho2,c',q1,q2,this,fun i=>Nat.le_trans (p2 i) (q4 i),fun i hi=>by have:=p2 i; have:=q5 i hi; omega,fun i hi=>by have:=p2 i; have:=q6 i hi; omega,q7,q8,q9⟩
       ·cases hr4
   ·cases hr
  ·cases hown
theorem aoS {cx:j6} (hK:akQ X E s'.env K K' r Q) (hs:F6 X E w s s' cx) {f:FuncId} {xs:List Value} {x:Value} {hp2:Heap} {fb fb2 rho2:List Nat} {rv:V} {cr:j6} (h1:K (.val rv) s .A=some r) (q1:Y.call f xs w.hp=some (x,hp2)) (q2:hp2.take w.hp.length=w.hp)
 (q3:RV ⟨hp2,w.j2,w.fb⟩ rv x cr) (q4:∀ i,cr i<=1) (q5:∀ i,i<w.hp.length->cr i=0) (q6:∀ i,hp2.length<=i->cr i=0) (q7:HW ⟨hp2,w.j2,w.fb⟩) (q9:E2 ⟨w.hp,[],fb,fun _=>0⟩ ⟨hp2,rho2,fb2⟩) (q10:HW ⟨hp2,rho2,fb2⟩) :
 ∃ r',((W8 Y.call f xs s'.hp).bind fun r=>K' (.val r.1) s'.loc r.2 .A)=some r'/\Q r':=by
 have hhp:=hs.hp
 obtain ⟨ce,cl,ch,g⟩:=hs
 have hq:W8 Y.call f xs s'.hp=some (x,hp2):=by
  unfold W8
  rw [hhp,q1]
  simp only [Option.bind_some]
  rw [if_pos q2]
 rw [hq]
 simp only [Option.bind_some]
 have hlen:=q9.len
 simp only at hlen
 have same:∀ b,b<w.hp.length->hp2[b]? = w.hp[b]?:=fun b hb=>by
  rw [List.getElem?_eq_getElem hb]
  exact q9.same b _ (List.getElem?_eq_getElem hb) B2.nil rfl
 have hx:Ext w ⟨hp2,w.j2,w.fb⟩ (fun _=>True):=by
  refine ⟨fun b kb hb hn=>?_,fun k b h=>h,fun j b kb _ hb=>⟨kb,by show hp2[b]? = _; rw [same b (List.getElem?_eq_some_iff.1 hb).1]; exact hb,rfl⟩⟩
  obtain ⟨a1,a2,a3⟩:=k9 hb
  exact ⟨kb,A7 (by show hp2[b]? = _; rw [same b a3]; exact a1) a2,fun c hc q hq=>hn c hc q (by rw [<-same c (g.hw.rlt c hc)]; exact hq),fun h=>h,rfl,rfl,fun _=>⟨rfl,rfl⟩⟩
 have hfr:E2 E ⟨hp2,w.j2,w.fb⟩:=g.fr.trans q9 g.hw q10 (by simp) (by simp) rfl (by
  obtain ⟨r0,a1,a2⟩:=g.fr.j2
  refine ⟨r0,a1,fun b hb=>⟨(a2 b hb).1,fun k hk=>?_⟩⟩
  have hk':hp2[b]? = some k:=hk
  rw [same b (g.hw.rlt b (by rw [a1]; exact List.mem_append.2 (.inr hb)))] at hk'
  exact (a2 b hb).2 k hk') g.fr.fb
 have g':=g.move hx (fun _ _=>trivial) q7 hfr (fun b hb => .eq (same b (g.hw.W2 _ (g.hw.sub _ hb)))) rfl hlen
 refine hK ⟨hp2,w.j2,w.fb⟩ (.val rv) (.val x) _ _ _ cr h1 (by simp only [RE]; exact q3) ⟨ce,cl,ch,{ g' with N0:=fun i=>?_,Q2:=fun i hi=>?_,N9:=fun i hi=>?_ }⟩
 ·by_cases hi:i<w.hp.length
  ·have:=q5 i hi; have:=g.N0 i; omega
  ·have:=g.N9 i (by omega); have:=q4 i; omega
 ·have:=q5 i (by have:=g.fr.len; omega); have:=g.Q2 i hi; omega
 ·have:=q6 i hi; have:=g.N9 i (by simp only at hi; omega); omega
open Classical in
theorem aiC {cx:j6} (hK:akQ X E s'.env K K' r Q) (hs:F6 X E w s s' cx) {f:FuncId} {xs:List Value} {x:Value} {hp2:Heap} {fb fb2 rho2:List Nat} {ov:V} {oH:VH} {cr:j6} (own:∀ b,1<=cr b->b ∉ w.fb/\b ∉ w.j2/\∃ kb:l3,l9 hp2 b=some kb/\kb.md = .rw/\B2 hp2 w.j2 kb.j3)
 (hP:Prm ⟨hp2,w.j2,w.fb⟩ s.H oH cr (fun W c'=>RV W ov x c')) (h1:K (.val ov) { s with H:=oH } .A=some r) (q1:Y.call f xs w.hp=some (x,hp2)) (q2:hp2.take w.hp.length=w.hp)
 (q4:∀ i,cr i<=1) (q5:∀ i,i<w.hp.length->cr i=0) (q6:∀ i,hp2.length<=i->cr i=0) (q7:HW ⟨hp2,w.j2,w.fb⟩) (q9:E2 ⟨w.hp,[],fb,fun _=>0⟩ ⟨hp2,rho2,fb2⟩) (q10:HW ⟨hp2,rho2,fb2⟩) :
 ∃ r',((W8 Y.call f xs s'.hp).bind fun r=>K' (.val r.1) s'.loc r.2 .A)=some r'/\Q r':=by
 have hhp:=hs.hp
 obtain ⟨ce,cl,ch,g⟩:=hs
 have hq:W8 Y.call f xs s'.hp=some (x,hp2):=by
  unfold W8
  rw [hhp,q1]
  simp only [Option.bind_some]
  rw [if_pos q2]
 rw [hq]
 simp only [Option.bind_some]
 have hlen:=q9.len
 simp only at hlen
 have same:∀ b,b<w.hp.length->hp2[b]? = w.hp[b]?:=fun b hb=>by
  rw [List.getElem?_eq_getElem hb]
  exact q9.same b _ (List.getElem?_eq_getElem hb) B2.nil rfl
 have newf:∀ (b:Nat) (k:l3),w.hp.length<=b->hp2[b]? = some k->w.hp.length<=k.j3:=fun b k hb hk=>by
  rcases q9.j3 b k hb hk with (q | ⟨_,q,_⟩) | ⟨_,_,_,q,_⟩
  ·exact q
  ·cases q
  ·simp at q
 obtain ⟨ps,Hs,c',ch',e1,e2,e3,e4,e5,e6⟩:=hP.ex
 let FB:List Nat:=(List.range hp2.length).filter fun b=>decide (∃ p ∈ ps,∃ kp kb:l3,hp2[p]? = some kp/\hp2[b]? = some kb/\kb.j3=kp.j3)
 have hFB:∀ b,b ∈ FB<->b<hp2.length/\∃ p ∈ ps,∃ kp kb:l3,hp2[p]? = some kp/\hp2[b]? = some kb/\kb.j3=kp.j3:=fun b=>by
  simp only [FB,List.mem_filter,List.mem_range,decide_eq_true_eq]
 have pnew:∀ p ∈ ps,w.hp.length<=p:=fun p hp=>by
  have:=e4 p hp
  by_cases hlt:p<w.hp.length
  ·have:=q5 p hlt; omega
  ·omega
 have pown:∀ p ∈ ps,∃ kp:l3,hp2[p]? = some kp/\kp.md = .rw/\w.hp.length<=kp.j3/\p<hp2.length:=fun p hp=>by
  obtain ⟨_,_,kp,a1,a2,_⟩:=own p (e4 p hp)
  obtain ⟨b1,b2,b3⟩:=k9 a1
  exact ⟨kp,b1,a2,newf p kp (pnew p hp) b1,b3⟩
 have FBnew:∀ b ∈ FB,w.hp.length<=b:=fun b hb=>by
  obtain ⟨_,p,hp,kp,kb,a1,a2,a3⟩:=(hFB b).1 hb
  obtain ⟨kp',b1,_,b3,_⟩:=pown p hp
  rw [a1] at b1; cases b1
  by_cases hlt:b<w.hp.length
  ·rw [same b hlt] at a2
   have:=g.hw.j3 b kb a2; omega
  ·omega
 have hW:HW ⟨hp2,w.j2++ps,FB++w.fb⟩:=by
  refine ⟨fun b hb=>?_,q7.one,q7.j3,fun b hb=>?_,fun b hb=>?_,?_,fun b c kb kc hb hk hk' hff=>?_,q7.mrk⟩
  ·rcases List.mem_append.1 hb with hb | hb
   ·exact q7.obj b hb
   ·obtain ⟨kp,a1,a2,_⟩:=pown b hb
    exact ⟨kp,a1⟩
  ·rcases List.mem_append.1 hb with hb | hb
   ·exact ((hFB b).1 hb).1
   ·exact q7.W2 b hb
  ·rcases List.mem_append.1 hb with hb | hb
   ·exact List.mem_append.2 (.inr (q7.sub b hb))
   ·obtain ⟨kp,a1,a2,_,a4⟩:=pown b hb
    exact List.mem_append.2 (.inl ((hFB b).2 ⟨a4,b,hb,kp,kp,a1,a1,rfl⟩))
  ·rw [List.nodup_append]
   exact ⟨q7.nd,e3,fun a ha b hb e=>by subst e; have:=g.hw.rlt a ha; have:=pnew a hb; omega⟩
  ·rcases List.mem_append.1 hb with hb | hb
   ·exact List.mem_append.2 (.inr (q7.fbf b c kb kc hb hk hk' hff))
   ·exact List.mem_append.2 (.inl ((hFB c).2 ⟨(List.getElem?_eq_some_iff.1 hk').1,b,hb,kb,kc,hk,hk',hff⟩))
 have hx:Ext w ⟨hp2,w.j2++ps,FB++w.fb⟩ (fun _=>True):=by
  refine ⟨fun b kb hb hn=>?_,fun k b h=>?_,fun j b kb _ hb=>⟨kb,by show hp2[b]? = _; rw [same b (List.getElem?_eq_some_iff.1 hb).1]; exact hb,rfl⟩⟩
  ·obtain ⟨a1,a2,a3⟩:=k9 hb
   refine ⟨kb,A7 (by show hp2[b]? = _; rw [same b a3]; exact a1) a2,fun c hc q hq=>?_,fun h h'=>?_,rfl,rfl,fun _=>⟨rfl,rfl⟩⟩
   ·have hq':hp2[c]? = some q:=hq
    rcases List.mem_append.1 hc with hc | hc
    ·exact hn c hc q (by rw [<-same c (g.hw.rlt c hc)]; exact hq')
    ·have:=newf c q (pnew c hc) hq'
     have:=g.hw.j3 b kb a1
     omega
   ·rcases List.mem_append.1 h' with h' | h'
    ·have:=FBnew b h'; omega
    ·exact h h'
  ·show (w.j2++ps)[k]? = _
   rw [List.getElem?_append_left (List.getElem?_eq_some_iff.1 h).1]; exact h
 have hfr:E2 E ⟨hp2,w.j2++ps,FB++w.fb⟩:=g.fr.trans q9 g.hw q10 (by simp) (by simp) rfl (by
  obtain ⟨r0,a1,a2⟩:=g.fr.j2
  have hl:=g.fr.len
  refine ⟨r0++ps,by show w.j2++ps=_; rw [a1,List.append_assoc],fun b hb=>?_⟩
  rcases List.mem_append.1 hb with hb | hb
  ·refine ⟨(a2 b hb).1,fun k hk=>?_⟩
   have hk':hp2[b]? = some k:=hk
   rw [same b (g.hw.rlt b (by rw [a1]; exact List.mem_append.2 (.inr hb)))] at hk'
   exact (a2 b hb).2 k hk'
  ·have:=pnew b hb
   refine ⟨by omega,fun k hk=>?_⟩
   have:=newf b k this hk; left; omega) (by
  obtain ⟨r0,a1,a2⟩:=g.fr.fb
  have hl:=g.fr.len
  refine ⟨FB++r0,by show FB++w.fb=_; rw [a1,List.append_assoc],fun b hb=>?_⟩
  rcases List.mem_append.1 hb with hb | hb
  ·have:=FBnew b hb; omega
  ·exact a2 b hb)
 obtain ⟨p1,o1⟩:=e6 ⟨hp2,w.j2++ps,FB++w.fb⟩ rfl (fun j hj=>by
  show (w.j2++ps)[_]? = _
  rw [<-g.obj.len,List.getElem?_append_right (by omega)]
  congr 1; omega) (fun b k hb hk=>by
  have hcb:=e5 b
  have hnb:b ∉ ps:=fun hp=>by rw [if_pos hp] at hcb; have:=q4 b; omega
  rw [if_neg hnb] at hcb
  obtain ⟨a1,_,kb,a3,a4,a5⟩:=own b (by omega)
  have hkb:=(k9 a3).1
  have hk':hp2[b]? = some k:=hk
  have hkb':hp2[b]? = some kb:=hkb
  rw [hk'] at hkb'; cases hkb'
  have ne:∀ p ∈ ps,∀ kp:l3,hp2[p]? = some kp->kp.j3 ≠ k.j3:=fun p hp kp hkp e=>by
   obtain ⟨kp',b1,b2,_⟩:=pown p hp
   rw [hkp] at b1; cases b1
   exact hnb (q7.one p b kp k hkp hk' b2 a4 e ▸ hp)
  refine ⟨fun h=>?_,fun c hc q hq=>?_⟩
  ·rcases List.mem_append.1 h with h | h
   ·obtain ⟨_,p,hp,kp,kb,b1,b2,b3⟩:=(hFB b).1 h
    rw [hk'] at b2; cases b2
    exact ne p hp kp b1 b3.symm
   ·exact a1 h
  ·rcases List.mem_append.1 hc with hc | hc
   ·exact a5 c hc q hq
   ·exact ne c hc q hq)
 have hobj:y2 ⟨hp2,w.j2++ps,FB++w.fb⟩ oH (w.j2++ps) (fun i=>ch i+ch' i):=by
  rw [e1]
  exact (g.obj.mono hx (fun b hb => .eq (same b (g.hw.rlt b hb))) (fun _ _=>trivial)).app o1
 have cnt:∀ i,c' i+ch' i<=cr i:=fun i=>by have:=e5 i; omega
 refine hK ⟨hp2,w.j2++ps,FB++w.fb⟩ (.val ov) (.val x) _ _ _ c' h1 (by simp only [RE]; exact p1) ⟨ce,cl,_,rfl,hW,g.gl.mono hx,hfr,g.env.mono hx (fun _ _=>trivial),g.loc.mono hx (fun _ _=>trivial),g.aa8,hobj,fun i=>?_,fun i hi=>?_,fun i hi=>?_⟩
 ·have:=cnt i
  by_cases hi:i<w.hp.length
  ·have:=q5 i hi; have:=g.N0 i; omega
  ·have:=g.N9 i (by omega); have:=q4 i; omega
 ·have:=cnt i; have:=q5 i (by have:=g.fr.len; omega); have:=g.Q2 i hi; omega
 ·have:=cnt i; have:=q6 i hi; have:=g.N9 i (by simp only at hi; omega); omega
theorem ape {cx:j6} (hK:akQ X E s'.env K K' r Q) (hs:F6 X E w s s' cx) {f:FuncId} {xs:List Value} {x:Value} {hp2:Heap} {fb fb2 rho2:List Nat} {rv:V} {cr:j6} {d:Nat} (ho:H4 rv=true) (h1:K (.val (prom d s.H rv).1) { s with H:=(prom d s.H rv).2 } .A=some r) (q1:Y.call f xs w.hp=some (x,hp2)) (q2:hp2.take w.hp.length=w.hp)
 (q3:RV ⟨hp2,w.j2,w.fb⟩ rv x cr) (q4:∀ i,cr i<=1) (q5:∀ i,i<w.hp.length->cr i=0) (q6:∀ i,hp2.length<=i->cr i=0) (q7:HW ⟨hp2,w.j2,w.fb⟩) (q9:E2 ⟨w.hp,[],fb,fun _=>0⟩ ⟨hp2,rho2,fb2⟩) (q10:HW ⟨hp2,rho2,fb2⟩) :
 ∃ r',((W8 Y.call f xs s'.hp).bind fun r=>K' (.val r.1) s'.loc r.2 .A)=some r'/\Q r' :=
 aiC hK hs (fun b hb=>RV.owned rv q3 b hb) (akp rv d s.H ho q3 q4) h1 q1 q2 q4 q5 q6 q7 q9 q10
theorem j0.text {w w':Wd}:∀ {cs:List V} {xs:List Value} {c:j6},ag0 cs=true->j0 w cs xs c->j0 w' cs xs (fun _=>0)
 | [],xs,c,ht,h=>by simp only [j0] at *; exact ⟨h.1,by simp⟩
 | v::cs,xs,c,ht,h=>by
   cases v with
   | str s =>
     simp only [j0,RV] at h ⊢
     obtain ⟨x,ys,c1,c2,h1,⟨h2,_⟩,h3,_⟩:=h
     exact ⟨x,ys,fun _=>0,fun _=>0,h1,⟨h2,by simp⟩,j0.text (cs:=cs) ht h3,by simp⟩
   | _=>simp [ag0] at ht
theorem auB (hT:abz X) (hcall:∀ f args H r H',X.call f args H=some (r,H')->E3 X Y.call f args H r H') {cx:j6} (hK:akQ X E s'.env K K' r Q) (hs:F6 X E w s s' cx) {f:FuncId} {vs:List V} {xs:List Value} {c1:j6} (h2:j0 w vs xs c1) {rv:V × VH} (hr:aaa X.call f s.H vs=some rv) (h1:K (.val rv.1) { s with H:=rv.2 } .A=some r) :
 ∃ r',((W8 Y.call f xs s'.hp).bind fun r=>K' (.val r.1) s'.loc r.2 .A)=some r'/\Q r':=by
 have hs':=hs
 obtain ⟨ce,cl,ch,g⟩:=hs'
 unfold aaa at hr
 split at hr
 ·rename_i hn
  obtain ⟨⟨rv',H'⟩,hr1,hr2⟩:=b7 hr
  simp only at hr2
  split at hr2
  ·rename_i k off n e
   obtain ⟨cs,hcs,hr3⟩:=b7 hr2
   split at hr3
   ·rename_i htx
    cases hr3
    simp only [Bool.and_eq_true] at htx
    obtain ⟨x,hp2,fb2,rho2,cr,q1,q2,q3,q4,q5,q6,q7,q8,q9,q10,ch',q13,q14,q15,q16⟩:=adC g.hw g.gl hT.gd [] (by simp) (acq (w:=w) (wc:=⟨w.hp,[],[]⟩) rfl rfl rfl g.hw g.obj 3 h2 hn) (hcall _ _ _ _ _ hr1)
    simp only [RV] at q3
    obtain ⟨⟨b,cc,kb,b1,b2,b3,b4,rfl⟩,_⟩:=q3
    have hne:cs ≠ []:=fun e=>by subst e; simp at htx
    obtain ⟨b',kb',d1,d2,a1,a2,a3,a4,a5,a6⟩:=q13.get hcs hne
    rw [b1] at a1; cases a1
    have b2':hp2[b]? = some kb:=b2
    have a2':hp2[b]? = some kb':=a2
    rw [b2'] at a2'; cases a2'
    have hbm:=List.mem_of_getElem? b1
    have hge:w.hp.length<=b:=q8.alc (w:=⟨hp2,rho2,fb2⟩) hbm (by simp)
    have hlt:=(List.getElem?_eq_some_iff.1 b2').1
    obtain ⟨n1,n2⟩:=q10 b kb hge b2'
    refine aiC hK hs (cr:=fun i=>if i=b then 1 else 0) (fun i hi=>?_) ⟨[b],[cs],fun _=>0,fun _=>0,rfl,rfl,by simp,fun p hp=>by simp at hp; subst hp; simp,fun i=>by by_cases q:i=b<;>simp [q],fun W hW hr hb=>⟨?_,?_⟩⟩ h1 q1 q2 (fun i=>by show (if i=b then 1 else 0)<=1; split<;>omega) (fun i hi=>by show (if i=b then 1 else 0)=0; rw [if_neg (by omega)]) (fun i hi=>by show (if i=b then 1 else 0)=0; rw [if_neg (by omega)]) q7 q8 q9
    ·have:i=b:=by
      by_cases q:i=b
      ·exact q
      ·simp only [if_neg q] at hi; omega
     subst this
     exact ⟨n1,fun h=>by have:=g.hw.rlt _ h; omega,kb,A7 b2' (by rw [a6]; simp),a6,n2⟩
    ·have:=hr 0 (by simp)
     simp only [Nat.add_zero,List.getElem?_cons_zero] at this
     simp only [RV]
     exact ⟨⟨b,cc,kb,this,by rw [hW]; exact b2',b3,b4,rfl⟩,by simp⟩
    ·simp only [y2]
     exact ⟨b,[],kb,fun _=>0,fun _=>0,rfl,by rw [hW]; exact b2',.inr ⟨a6,j0.text htx.1 a3⟩,⟨rfl,by simp⟩,by simp⟩
   ·cases hr3
  ·obtain ⟨⟨v',G',H2⟩,hr3,rfl⟩:=Option.map_eq_some_iff.1 hr2
   obtain ⟨x,hp2,fb2,rho2,cr,q1,q2,q3,q4,q5,q6,q7,q8,q9,q10,ch',q13,q14,q15,q16⟩:=adC g.hw g.gl hT.gd [] (by simp) (acq (w:=w) (wc:=⟨w.hp,[],[]⟩) rfl rfl rfl g.hw g.obj 3 h2 hn) (hcall _ _ _ _ _ hr1)
   have hge:∀ b ∈ rho2,w.hp.length<=b:=fun b hb=>q8.alc (w:=⟨hp2,rho2,fb2⟩) hb (by simp)
   have hlo:∀ i,cr i+ch' i+LO H' rho2 i<=1:=fun i=>ax6 (w:=⟨hp2,rho2,fb2⟩) q9 q13 q3 q14 i
   obtain ⟨c',ch2,p1,p2,p3,p4⟩:=alv (w:=⟨hp2,rho2,fb2⟩) q9 5 (H:=s.H) q13 q3 hlo hr3
   have z5:∀ i,i<w.hp.length->c' i=0:=fun i hi=>by
    have:=p3 i; have:=q15 i hi
    have:LO H' rho2 i=0:=ae4 (fun hm=>by have:=hge i hm; omega)
    simp only at *
    omega
   have z6:∀ i,hp2.length<=i->c' i=0:=fun i hi=>by
    have:=p3 i; have:=q16 i hi
    have:LO H' rho2 i=0:=ae4 (fun hm=>by
     obtain ⟨kb,o1⟩:=q9.obj i hm
     have:=(List.getElem?_eq_some_iff.1 o1).1
     simp only at this
     omega)
    simp only at *
    omega
   refine aiC hK hs (cr:=c') (fun i hi=>?_) ⟨p2.ex⟩ h1 q1 q2 (fun i=>by have:=p3 i; have:=hlo i; simp only at *; omega) z5 z6 q7 q8 q9
   obtain ⟨kb,k1,k2⟩:=p4 i hi
   have hge2:w.hp.length<=i:=by
    by_cases q:i<w.hp.length
    ·have:=z5 i q; omega
    ·omega
   obtain ⟨n1,n2⟩:=q10 i kb hge2 k1
   exact ⟨n1,fun h=>by have:=g.hw.rlt _ h; omega,kb,A7 k1 (by rw [k2]; simp),k2,n2⟩
 ·cases hr
set_option maxHeartbeats 4000000 in
theorem axB (ht:Twin X Y) (hT:abz X) (hcall:∀ f args H r H',X.call f args H=some (r,H')->E3 X Y.call f args H r H')
 (hs:F6 X E w s s' (fun _=>0)) (h:B8 X A T o s K=some r) (hK:akQ X E s'.env K K' r Q):∃ r',D0 Y A o s' K'=some r'/\Q r':=by
 have hhp:=hs.hp
 unfold B8 at h
 unfold D0
 cases hop:o.op with
 | move x =>
   simp only [hop] at h ⊢
   split at h
   ·obtain ⟨e,e',c,h1,h2,h3,h4⟩:=aaE ht hs h
    rw [h4,hhp]
    exact hK w e e' _ _ _ c h1 h2 (h3.less (by simp)).self
   ·obtain ⟨e,e',c,h1,h2,h3,h4⟩:=aaE ht hs h
    rw [h4,hhp]
    exact hK w (aaH e) e' _ _ _ (fun _=>0) h1 h2.aaH (hs.less (by simp)).self
 | assign x =>
   simp only [hop] at h ⊢
   split at h
   ·obtain ⟨e,e',c,h1,h2,h3,h4⟩:=aaE ht hs h
    rw [h4,hhp]
    exact hK w e e' _ _ _ c h1 h2 (h3.less (by simp)).self
   ·obtain ⟨e,e',c,h1,h2,h3,h4⟩:=aaE ht hs h
    rw [h4,hhp]
    exact hK w (aaH e) e' _ _ _ (fun _=>0) h1 h2.aaH (hs.less (by simp)).self
 | pick cc x y =>
   simp only [hop] at h ⊢
   obtain ⟨vc,xc,c0,h1,h2,_,h4⟩:=C4 ht hs h
   obtain ⟨ea,ea',ca,g1,g2,g3,g4⟩:=aaE ht hs h1
   obtain ⟨eb,eb',cb,k1,k2,k3,k4⟩:=aaE ht g3 g1
   rw [h4,g4,k4]
   have hb:∀ {S:Type} {p q:Option S} {a:S},j8 vc p q=some a->(vc = .bool true/\p=some a)\/(vc = .bool false/\q=some a):=by
    intro S p q a hh
    unfold j8 at hh
    split at hh
    ·exact .inl ⟨rfl,hh⟩
    ·exact .inr ⟨rfl,hh⟩
    ·cases hh
   split at k1
   ·-- E6,val
    cases ea'<;>simp only [RE] at g2
    cases eb'<;>simp only [RE] at k2
    rcases hb k1 with ⟨rfl,hh⟩ | ⟨rfl,hh⟩
    ·cases hh
    ·simp only [RV] at h2
     simp only [h2.1,T9,hhp]
     exact hK w _ _ _ _ _ cb hh (by simpa only [RE] using k2) (k3.less (by simp)).self
   ·-- val,E6
    cases ea'<;>simp only [RE] at g2
    cases eb'<;>simp only [RE] at k2
    rcases hb k1 with ⟨rfl,hh⟩ | ⟨rfl,hh⟩
    ·simp only [RV] at h2
     simp only [h2.1,T9,hhp]
     exact hK w _ _ _ _ _ ca hh (by simpa only [RE] using g2) (k3.less (by simp)).self
    ·cases hh
   ·-- val,val
    cases ea'<;>simp only [RE] at g2
    cases eb'<;>simp only [RE] at k2
    obtain ⟨v,hv,k1⟩:=b7 k1
    unfold at1 at hv
    split at hv
    ·cases hv
     simp only [RV] at h2
     simp only [h2.1,anW,Option.bind_some,hhp]
     exact hK w _ _ _ _ _ ca k1 (by simpa only [RE] using g2) (k3.less (by simp)).self
    ·cases hv
     simp only [RV] at h2
     simp only [h2.1,anW,Option.bind_some,hhp]
     exact hK w _ _ _ _ _ cb k1 (by simpa only [RE] using k2) (k3.less (by simp)).self
    ·cases hv
   ·cases k1
 | alloc elem =>
   simp only [hop] at h ⊢
   rw [ht.tab]
   split at h
   ·rename_i ti d hti hd
    simp only [hti,hd]
    have hz:=aar (w:=w) (hT.zero _ _ hti)
    split at h
    ·rename_i hm
     simp only [hm]
     split at h
     ·rename_i hl
      obtain ⟨ce,cl,ch,g⟩:=hs
      simp only [g.aa8 d hl,hhp]
      exact hK w _ (.loc d 0) _ _ _ (fun _=>0) h (by simp [RE]) (g.atg hl hz (by simp))
     ·cases h
    ·rename_i hm
     simp only [hm]
     obtain ⟨ce,cl,ch,g⟩:=hs
     obtain ⟨w2,h1,h2,h3⟩:=aee g hz (by simp) ti.size true (fun h=>by cases h)
     rw [hhp,<-h1]
     exact hK w2 _ _ _ _ _ (fun _=>0) h h3 h2.self
   ·cases h
 | box elem x =>
   simp only [hop] at h ⊢
   rw [ht.tab]
   split at h
   ·rename_i ti d hti hd
    simp only [hti,hd]
    obtain ⟨v,x',c,h1,h2,h3,h4⟩:=acY ht hs h
    obtain ⟨cs,xs,g1,g2,g3,_⟩:=ah3 h1 h2
    rw [h4,g3]
    obtain ⟨ce,cl,ch,g⟩:=h3
    split at g1
    ·rename_i hm
     simp only [hm]
     split at g1
     ·rename_i hl
      have hl':look (used s x).loc d=none:=hl
      simp only [g.aa8 d hl',hhp]
      exact hK w _ (.loc d 0) _ _ _ (fun _=>0) g1 (by simp [RE]) (g.atg hl' g2 (by simp))
     ·cases g1
    ·rename_i hm
     simp only [hm]
     obtain ⟨w2,k1,k2,k3⟩:=aee g g2 (by simp) ti.size true (fun h=>by cases h)
     rw [hhp,<-k1]
     exact hK w2 _ _ _ _ _ (fun _=>0) g1 k3 k2.self
   ·cases h
 | build t parts =>
   simp only [hop] at h ⊢
   rw [ht.tab]
   split at h
   ·rename_i fs z ag n hti
    simp only [hti]
    have hz:=aar (w:=w) (hT.zero _ _ hti)
    obtain ⟨cs,s2,ys,c,h1,h2,h3,h4,h5⟩:=afH ht hs hz h
    rw [h5,hhp]
    exact hK w (.val (.agg cs)) (.val (.agg ys.toArray)) _ _ _ c h1 (by simp only [RE,RV]; exact ⟨ys,rfl,h2⟩) h3.self
   ·rename_i na c9 z ag n hti
    simp only [hti]
    have hz:=aar (w:=w) (hT.zero _ _ hti)
    obtain ⟨cs,s2,ys,c,h1,h2,h3,h4,h5⟩:=afH ht hs hz h
    rw [h5,hhp]
    exact hK w (.val (.agg cs)) (.val (.agg ys.toArray)) _ _ _ c h1 (by simp only [RE,RV]; exact ⟨ys,rfl,h2⟩) h3.self
   ·cases h
 | buildSlice t len parts =>
   simp only [hop] at h ⊢
   rw [ht.tab]
   split at h
   ·rename_i e c9 eb z ag n zz hti
    simp only [hti]
    split at h
    ·rename_i te hte
     simp only [hte]
     split at h
     ·rename_i hb
      simp only [hb]
      obtain ⟨q1,q2,q3⟩:=hT.sl _ _ _ _ _ _ _ _ hti
      have hz:=ama (aar (w:=w) q1) len
      obtain ⟨cs,s2,ys,c,h1,h2,h3,h4,h5⟩:=afH ht hs hz h
      rw [h5,hhp]
      have hlen:cs.length=len*c9:=by rw [h4,avp,List.length_map,q2]
      have hch:=aaX h2 hlen
      obtain ⟨ce,cl,ch,g⟩:=h3
      have hx:=aox g.hw ⟨ys,c9,.rw,w.hp.length,true⟩ (fun _=>True)
      have g':=g.move hx (fun _ _=>trivial) (g.hw.push rfl (fun h=>by cases h)) (g.fr.push g.hw rfl) (fun b hb => .eq (by show (w.hp++_)[b]? = _; rw [List.getElem?_append_left (g.hw.W2 _ (g.hw.sub _ hb))])) rfl (by simp)
      have hcl:(A9 c9 len cs).length=len:=by
       have:∀ (n:Nat) (l:List V),(A9 c9 n l).length=n:=by
        intro n; induction n with
        | zero=>intro l; rfl
        | succ n ih=>intro l; simp only [A9,List.length_cons,ih]
       exact this _ _
      by_cases h0:A9 c9 len cs=[]
      ·refine hK { w with hp:=w.hp++[⟨ys,c9,.rw,w.hp.length,true⟩] } (.fl (A9 c9 len cs)) _ _ _ _ c h1 ?_ ⟨ce,cl,ch,g'⟩
       simp only [RE,RV,F9]
       refine ⟨?_,_,by rw [hcl]⟩
       left
       have hl0:len=0:=by rw [h0] at hcl; simpa using hcl.symm
       refine ⟨h0,⟨_,_,by rw [hl0],fun _=>rfl⟩,?_⟩
       rw [h0] at hch
       simp only [m7] at hch; exact hch.2
      ·have hfl:=g.fr.len
       refine hK { w with hp:=w.hp++[⟨ys,c9,.rw,w.hp.length,true⟩] } (.fl (A9 c9 len cs)) _ _ _ _ (fun i=>c i+if i=w.hp.length then 1 else 0) h1 ?_ ⟨ce,cl,ch,{ g' with N0:=fun i=>?_,Q2:=fun i hi=>?_,N9:=fun i hi=>?_ }⟩
       rotate_left
       ·have:=g.N0 i
        by_cases e:i=w.hp.length
        ·have:=g.N9 i (by omega); rw [if_pos e]; omega
        ·rw [if_neg e]; omega
       ·have:=g.Q2 i hi
        rw [if_neg (by omega)]; omega
       ·have hi':(w.hp++[(⟨ys,c9,.rw,w.hp.length,true⟩:l3)]).length<=i:=hi
        simp at hi'
        have:=g.N9 i (by omega)
        rw [if_neg (by omega)]; omega
       simp only [RE,RV,F9]
       refine ⟨?_,_,by rw [hcl]⟩
       right
       have hyl:=hch.len
       refine ⟨h0,w.hp.length,0,⟨ys,c9,.rw,w.hp.length,true⟩,ys,len,c,aqi (by simp),?_,?_,by rw [hcl],q3,?_,m7.mono hx _ hch (fun _ _=>trivial),.inr ⟨trivial,⟨rfl,rfl⟩,rfl,hyl.symm,fun i=>rfl⟩⟩
       ·intro hb; have:=g.hw.W2 _ hb; omega
       ·exact (show B2 w.hp w.j2 w.hp.length from fun b hb q hq=>by have:=g.hw.j3 b q hq; omega).push g.hw.rlt
       ·have hyl':ys.length=(A9 c9 len cs).length*c9:=hyl
        show L1 ys 0 ((A9 c9 len cs).length*c9)=some ys
        rw [M7 (by omega)]
        simp only [List.drop_zero]
        rw [List.take_of_length_le (by omega)]
     ·cases h
    ·cases h
   ·cases h
 | load t x =>
   simp only [hop] at h ⊢
   rw [ht.tab]
   split at h
   ·rename_i ti hti
    simp only [hti]
    obtain ⟨e,e',c,h1,h2,h3,h4⟩:=aaE ht hs h
    rw [h4]
    split at h1
    ·-- a local
     rename_i k off
     cases e'<;>simp only [RE] at h2
     obtain ⟨rfl,rfl,_⟩:=h2
     split at h1
     ·rename_i cs hl
      obtain ⟨⟨v,cs2⟩,hld,h1⟩:=b7 h1
      obtain ⟨ce,cl,ch,g⟩:=hs
      obtain ⟨ws,c1,c2,g1,g2,g3,g4⟩:=g.loc.look hl
      obtain ⟨z,d1,d2,k1,k2,k3,k4⟩:=ajR hld g2
      have hset:=g4 cs2 ws d2 k3
      have hsame:aah s'.loc k ws=s'.loc:=by
       have:∀ {l:List (Nat × List Value)},look l k=some ws->aah l k ws=l:=by
        intro l
        induction l with
        | nil=>intro h; rfl
        | cons p l ih =>
          intro h
          obtain ⟨q,v⟩:=p
          by_cases e:q=k
          ·subst e
           have hb:Nat.beq q q=true:=Nat.beq_refl q
           simp only [look,hb] at h
           cases h; simp only [aah,hb]
          ·simp only [look,Z2 e] at h
           simp only [aah,Z2 e,ih h]
       exact this g1
      rw [hsame] at hset
      have hst:F6 X E w { s with loc:=P6 s.loc k cs2 } s' d1:=by
       refine ⟨ce,fun i=>d2 i+c2 i,ch,g.hp,g.hw,g.gl,g.fr,g.env,hset,fun j hj=>g.aa8 j (aeJ hj),g.obj,fun i=>?_,fun i hi=>?_,fun i hi=>?_⟩
       ·have:=g.N0 i; have:=g3 i; have:=k4 i; omega
       ·have:=g.Q2 i hi; have:=g3 i; have:=k4 i; omega
       ·have:=g.N9 i hi; have:=g3 i; have:=k4 i; omega
      simp only [g1,hhp]
      cases hag:ti.agg with
      | true =>
        rw [hag] at k1
        simp only at k1
        cases hcut:cut ws off ti.size with
        | none=>rw [hcut] at k1; cases k1
        | some m =>
          rw [hcut] at k1; cases k1
          simp only [Option.bind_some]
          exact hK w _ _ _ _ _ d1 h1 (by simp only [RE]; exact k2) hst.self
      | false =>
        rw [hag] at k1
        simp only at k1
        simp only [k1,Option.bind_some]
        exact hK w _ _ _ _ _ d1 h1 (by simp only [RE]; exact k2) hst.self
     ·cases h1
    ·rename_i p
     obtain ⟨⟨v,H2⟩,hld,h1⟩:=b7 h1
     cases e'<;>simp only [RE] at h2
     rename_i x'
     unfold O2 at hld
     split at hld
     ·-- an object
      rename_i k off
      simp only [RV] at h2
      obtain ⟨⟨b,hb1,rfl⟩,_⟩:=h2
      split at hld
      ·rename_i cs hl
       obtain ⟨⟨v',cs2⟩,hlc,heq⟩:=Option.map_eq_some_iff.1 hld
       cases heq
       obtain ⟨ce,cl,ch,g⟩:=hs
       obtain ⟨b',kb,c1,c2,g1,g2,g3,g4,g5,o2⟩:=g.obj.get hl (aoi hlc (hT.pos _ _ hti))
       rw [hb1] at g1; cases g1
       obtain ⟨z,d1,d2,k1,k2,k3,k4⟩:=ajR hlc g3
       have hst:F6 X E w { s with H:=s.H.set k cs2 } s' d1:=by
        refine ⟨ce,cl,fun i=>d2 i+c2 i,g.hp,g.hw,g.gl,g.fr,g.env,g.loc,g.aa8,g5 cs2 d2 k3,fun i=>?_,fun i hi=>?_,fun i hi=>?_⟩
        ·have:=g.N0 i; have:=g4 i; have:=k4 i; omega
        ·have:=g.Q2 i hi; have:=g4 i; have:=k4 i; omega
        ·have:=g.N9 i hi; have:=g4 i; have:=k4 i; omega
       have hload:abw s'.hp ti.agg ti.size (.pointer (some ⟨b,off,none⟩))=some z:=by
        simp only [abw,hhp,A7 g2 (by rw [o2]; simp),Option.bind_some]; exact k1
       simp only [hload,Option.bind_some]
       rw [hhp]
       exact hK w _ _ _ _ _ d1 h1 (by simp only [RE]; exact k2) hst.self
      ·cases hld
     ·-- an element
      rename_i cs off
      simp only [RV] at h2
      obtain ⟨⟨b,o',kb,ws,b1,b2,rfl,b3,b4⟩,_⟩:=h2
      cases hv:aiY ti.agg ti.size cs off with
      | none=>rw [hv] at hld; cases hld
      | some v' =>
        rw [hv] at hld
        cases hld
        obtain ⟨z,k1,k2⟩:=am4 hv b4
        have hload:abw s'.hp ti.agg ti.size (.pointer (some ⟨b,o'+off,none⟩))=some z:=by
         simp only [abw,hhp,b1,Option.bind_some]
         cases hag:ti.agg with
         | true =>
           rw [hag] at k1
           simp only at k1 ⊢
           cases hcut:cut ws off ti.size with
           | none=>rw [hcut] at k1; cases k1
           | some m =>
             rw [hcut] at k1; cases k1
             have:cut kb.cells (o'+off) ti.size=some m:=aft b3 hcut
             rw [this]; rfl
         | false =>
           rw [hag] at k1
           simp only at k1 ⊢
           exact adt (aft b3 (adE k1))
        simp only [hload,Option.bind_some]
        exact hK.pure h1 k2 hs
     ·-- a package variable
      rename_i g0 off
      simp only [RV] at h2
      obtain ⟨rfl,_⟩:=h2
      split at hld
      ·rename_i cs hg
       cases hv:aiY ti.agg ti.size cs off with
       | none=>rw [hv] at hld; cases hld
       | some v' =>
         rw [hv] at hld
         cases hld
         have hgl:I2 X w:=by obtain ⟨_,_,_,g⟩:=hs; exact g.gl
         obtain ⟨kb,b1,b2,b3,_⟩:=hgl g0 cs hg
         obtain ⟨z,k1,k2⟩:=am4 hv b3
         have hload:abw s'.hp ti.agg ti.size (.pointer (some ⟨g0,off,none⟩))=some z:=by
          simp only [abw,hhp,b1,Option.bind_some]; exact k1
         simp only [hload,Option.bind_some]
         exact hK.pure h1 k2 hs
      ·cases hld
     ·cases hld
    ·cases h1
   ·cases h
 | store t x y =>
   simp only [hop] at h ⊢
   rw [ht.tab]
   split at h
   ·rename_i ti hti
    simp only [hti]
    obtain ⟨e,e',c,h1,h2,_,h4⟩:=aaE ht hs h
    obtain ⟨v,x',cv,g1,g2,g3,g4⟩:=acY ht hs h1
    obtain ⟨cs,xs,k1,k2,k3,k5⟩:=ah3 g1 g2
    rw [h4,g4,k3]
    obtain ⟨ce,cl,ch,g⟩:=g3
    split at k1
    ·rename_i k off
     cases e'<;>simp only [RE] at h2
     obtain ⟨rfl,rfl,_⟩:=h2
     split at k1
     ·rename_i y3 hl
      split at k1
      ·rename_i hb
       have hle:=Nat.le_of_ble_eq_true hb
       obtain ⟨ws,c1,c2,m1,m2,m3,m4⟩:=g.loc.look hl
       obtain ⟨c',n1,n2⟩:=m2.seg k2 hle
       have hb':Nat.ble (off+xs.length) ws.length=true:=by rw [<-k2.len,<-m2.len]; exact hb
       simp only [m1,hb',hhp]
       refine hK w .E6 .E6 _ _ _ (fun _=>0) k1 (by simp [RE]) ⟨ce,fun i=>c' i+c2 i,ch,rfl,g.hw,g.gl,g.fr,g.env,m4 _ _ c' n1,fun j hj=>atr (g.aa8 j (aeJ hj)),g.obj,fun i=>?_,fun i hi=>?_,fun i hi=>?_⟩
       ·have:=g.N0 i; have:=m3 i; have:=n2 i; omega
       ·have:=g.Q2 i hi; have:=m3 i; have:=n2 i; omega
       ·have:=g.N9 i hi; have:=m3 i; have:=n2 i; omega
      ·cases k1
     ·cases k1
    ·rename_i p0
     cases e'<;>simp only [RE] at h2
     rename_i p
     obtain ⟨H2,hst,k1⟩:=b7 k1
     unfold stO at hst
     split at hst
     ·rename_i k off
      split at hst
      ·rename_i y3 hl
       split at hst
       ·rename_i hb
        cases hst
        have hle:=Nat.le_of_ble_eq_true hb
        obtain ⟨w2,n1,n2⟩:=as8 g h2 hl k2 (by simp) hle (k5 (hT.pos _ _ hti))
        simp only [hhp,n1,Option.bind_some]
        exact hK w2 .E6 .E6 _ _ _ (fun _=>0) k1 (by simp [RE]) n2.self
       ·cases hst
      ·cases hst
     ·cases hst
    ·cases k1
   ·cases h
 | nilCheck x =>
   simp only [hop] at h ⊢
   obtain ⟨e,e',c,h1,h2,_,h4⟩:=aaE ht hs h
   rw [h4]
   split at h1
   ·cases e'<;>simp only [RE] at h2
    obtain ⟨rfl,rfl,_⟩:=h2
    rw [hhp]
    exact hK w _ _ _ _ _ (fun _=>0) h1 (by simp [RE]) hs.self
   ·rename_i p0
    cases e'<;>simp only [RE] at h2
    obtain ⟨v,hv,h1⟩:=b7 h1
    have h2':=h2
    unfold ali at hv
    split at hv
    ·cases hv
     simp only [RV] at h2
     obtain ⟨⟨b,hb1,rfl⟩,h0⟩:=h2
     simp only [amx,Option.bind_some]
     exact hK.pure h1 (h2'.congr (fun i=>(h0 i).symm)) hs
    ·cases hv
     simp only [RV] at h2
     obtain ⟨rfl,h0⟩:=h2
     simp only [amx,Option.bind_some]
     exact hK.pure h1 (h2'.congr (fun i=>(h0 i).symm)) hs
    ·cases hv
     simp only [RV] at h2
     obtain ⟨⟨b,o',kb,ws,b1,b2,rfl,b3,b4⟩,h0⟩:=h2
     simp only [amx,Option.bind_some]
     exact hK.pure h1 (h2'.congr (fun i=>(h0 i).symm)) hs
    ·cases hv
     simp only [RV] at h2
     obtain ⟨⟨ws,rfl,b1⟩,h0⟩:=h2
     simp only [amx,Option.bind_some]
     exact hK.pure h1 (h2'.congr (fun i=>(h0 i).symm)) hs
    ·cases hv
   ·cases h1
 | binOp op t x y yt =>
   simp only [hop] at h ⊢
   rw [ht.tab]
   split at h
   ·rename_i ti hti
    simp only [hti]
    split at h
    ·rename_i hn
     obtain ⟨hk,rfl⟩:=apS hn
     obtain ⟨a,x',c,h1,h2,_,h4⟩:=C4 ht hs h
     obtain ⟨v,hv,h1⟩:=b7 h1
     obtain ⟨z,k1,k2⟩:=awI hk hv h2
     rw [h4]
     have e:∀ (K2:Value->Option R'),G0 Y s' (.const (.slice none 0 0)) K2=K2 (.slice none 0 0):=fun K2=>rfl
     rw [e,k1]
     exact hK.pure h1 k2 hs
    ·obtain ⟨a,x',c,h1,h2,_,h4⟩:=C4 ht hs h
     obtain ⟨b,y',d,g1,g2,_,g4⟩:=C4 ht hs h1
     obtain ⟨v,hv,g1⟩:=b7 g1
     obtain ⟨z,k1,k2⟩:=awu hv h2 g2
     rw [h4,g4,k1]
     exact hK.pure g1 k2 hs
   ·cases h
 | unOp op t x =>
   simp only [hop] at h ⊢
   obtain ⟨a,x',c,h1,h2,_,h4⟩:=C4 ht hs h
   obtain ⟨v,hv,h1⟩:=b7 h1
   obtain ⟨z,k1,k2⟩:=ayx hv h2
   rw [h4,k1]
   exact hK.pure h1 k2 hs
 | convert src dst x =>
   simp only [hop] at h ⊢
   rw [ht.tab]
   split at h
   ·rename_i ts td hts htd
    simp only [hts,htd]
    obtain ⟨a,x',c,h1,h2,_,h4⟩:=C4 ht hs h
    rw [h4]
    split at h1
    ·rename_i k k' hk hk'
     obtain ⟨v,hv,h1⟩:=b7 h1
     obtain ⟨z,k1,k2⟩:=avc hv h2
     simp only [hk,hk',k1,Option.bind_some]
     exact hK.pure h1 k2 hs
    ·rename_i hk hk'
     obtain ⟨v,hv,h1⟩:=b7 h1
     obtain ⟨z,k1,k2⟩:=auX hv h2
     simp only [hk,hk',k1,Option.bind_some]
     exact hK.pure h1 k2 hs
    ·rename_i e c9 eb zz hk hk'
     split at h1
     ·rename_i ti4 hti4
      obtain ⟨v,hv,h1⟩:=b7 h1
      unfold apj at hv
      split at hv
      ·rename_i l
       cases hv
       simp only [RV] at h2
       obtain ⟨rfl,_⟩:=h2
       simp only [hk,hk',hti4,hhp]
       have hsz:(ByteArray.mk l.toArray).size=l.length:=by simp [ByteArray.size]
       obtain ⟨ce,cl,ch,g⟩:=hs
       obtain ⟨w2,q1,q2,q3⟩:=aee g (asQ l) (by simp) 1 false (fun _=>rfl)
       have hb:aa5 ⟨l.toArray⟩=l.map fun b=>Value.int .u8 b.toNat:=rfl
       rw [hb,<-q1,hsz]
       refine hK w2 _ _ _ _ _ (fun _=>0) h1 ?_ q2.self
       have e:(l.map fun b=>V.int .u8 (b.toNat:Int)).length=l.length:=by simp
       simp only [RE]
       have:=amS (m:=l.length) (cc:=l.length+1) q1 q3 (by omega)
       rw [<-e] at this ⊢
       simpa using this
      ·cases hv
     ·cases h1
    ·rename_i e c9 eb zz hk hk'
     split at h1
     ·rename_i ti4 hti4
      obtain ⟨v,hv,h1⟩:=b7 h1
      have hs0:=hs
      obtain ⟨ce,cl,ch,g⟩:=hs0
      obtain ⟨z,k1,k2⟩:=awM g.hw g.obj hv h2
      simp only [hk,hk',hti4,hhp,k1,Option.bind_some]
      rw [<-hhp]
      exact hK.pure h1 k2 hs
     ·cases h1
    ·cases h1
   ·cases h
 | makeFunc fn first captured =>
   simp only [hop] at h ⊢
   cases hz:first.size with
   | zero =>
     simp only [hz] at h ⊢
     split at h
     ·rename_i f
      obtain ⟨vs,xs,c,h1,h2,h4⟩:=aeQ ht hs h
      simp only [h4]
      exact hK.pure h1 (by simp only [RV]; exact ⟨⟨xs,rfl,j0.strip _ h2⟩,by simp⟩) hs
     ·cases h
   | succ n=>simp only [hz] at h; cases h
 | slice t x lo hi mx =>
   simp only [hop] at h ⊢
   rw [ht.tab]
   split at h
   ·rename_i hti
    simp only [hti]
    obtain ⟨a,x',c,h1,h2,_,h4⟩:=C4 ht hs h
    obtain ⟨l,l',g1,g2,g3⟩:=alw ht hs h1
    obtain ⟨k,k',m1,m2,m3⟩:=alw ht hs g1
    rw [h4,g3,m3]
    split at m1
    ·obtain ⟨v,hv,m1⟩:=b7 m1
     obtain ⟨z,k1,k2⟩:=ar5 hv h2 g2 m2
     simp only [k1,Option.bind_some]
     exact hK.pure m1 k2 hs
    ·cases m1
   ·rename_i e c9 eb zz ag n z2 hti
    simp only [hti]
    obtain ⟨a,x',c,h1,h2,_,h4⟩:=C4 ht hs h
    rw [h4]
    split at h1
    ·obtain ⟨l,l',g1,g2,g3⟩:=alw ht hs h1
     obtain ⟨k,k',m1,m2,m3⟩:=alw ht hs g1
     obtain ⟨v,hv,m1⟩:=b7 m1
     obtain ⟨z,k1,k2⟩:=arX hv h2 g2 m2
     rw [g3,m3]
     simp only [voK,hhp,k1,Option.bind_some]
     rw [<-hhp]
     exact hK.pure m1 k2 hs
    ·obtain ⟨l,l',cl',g1,g2,_,g3⟩:=C4 ht hs h1
     obtain ⟨k,k',ck',m1,m2,_,m3⟩:=C4 ht hs g1
     obtain ⟨u,u',cu',n1,n2,_,n3⟩:=C4 ht hs m1
     obtain ⟨xs,hv,n1⟩:=b7 n1
     obtain ⟨z,k1,k2⟩:=arR hv h2 g2 m2 n2
     simp only [voK,g3,m3,n3,hhp,k1,Option.bind_some]
     exact hK w _ _ _ _ _ (fun _=>0) n1 k2 hs.self
    ·cases h1
   ·rename_i na ag n2 z2 hti
    simp only [hti]
    split at h
    ·obtain ⟨a,x',c,h1,h2,_,h4⟩:=C4 ht hs h
     obtain ⟨v,hv,h1⟩:=b7 h1
     have hgl:I2 X w:=by obtain ⟨_,_,_,g⟩:=hs; exact g.gl
     obtain ⟨z,k1,k2⟩:=arW hgl hv h2
     rw [h4]
     simp only [hhp,k1,Option.bind_some]
     rw [<-hhp]
     exact hK.pure h1 k2 hs
    ·cases h
   ·cases h
 | fieldAddr t x f =>
   simp only [hop] at h ⊢
   rw [ht.tab]
   split at h
   ·rename_i fs ag n zz hti
    simp only [hti]
    split at h
    ·rename_i off m ag2 hf
     simp only [hf]
     obtain ⟨e,e',c,h1,h2,_,h4⟩:=aaE ht hs h
     rw [h4]
     split at h1
     ·cases e'<;>simp only [RE] at h2
      obtain ⟨rfl,rfl,_⟩:=h2
      rw [hhp]
      exact hK w _ _ _ _ _ (fun _=>0) h1 (by simp [RE]) hs.self
     ·cases e'<;>simp only [RE] at h2
      obtain ⟨v,hv,h1⟩:=b7 h1
      obtain ⟨z,k1,k2⟩:=aqN hv h2
      simp only [k1,Option.bind_some]
      exact hK.pure h1 k2 hs
     ·cases h1
    ·cases h
   ·cases h
 | field t x f =>
   simp only [hop] at h ⊢
   rw [ht.tab]
   split at h
   ·rename_i fs ag n zz hti
    simp only [hti]
    split at h
    ·rename_i off m ag2 hf
     simp only [hf]
     obtain ⟨a,x',c,h1,h2,_,h4⟩:=C4 ht hs h
     obtain ⟨cs,hcs,h7⟩:=b7 h1
     clear h1
     rw [h4]
     unfold B3 at hcs
     split at hcs
     ·split at hcs
      ·rename_i hn
       cases hcs
       simp only [RV] at h2
       obtain ⟨ws,rfl,h2⟩:=h2
       have hl:=h2.len
       have hag:aim n (.agg ⟨ws⟩)=some ws:=by simp only [aim]; rw [if_pos (by simp; omega)]
       simp only [hag,Option.bind_some]
       split at h7
       ·obtain ⟨m',hm,h8⟩:=b7 h7
        obtain ⟨ys,p,q,k1,k2,_,_⟩:=h2.cut hm
        have k1':cut ws off m=some ys:=k1
        simp only [k1',Option.bind_some]
        exact hK.pure h8 (by simp only [RV]; exact ⟨ys,rfl,j0.strip _ k2⟩) hs
       ·obtain ⟨m',hm,h8⟩:=b7 h7
        obtain ⟨ys,p,q,k1,k2,_,_⟩:=h2.cut (adE hm)
        simp only [j0] at k2
        obtain ⟨z,zs,p1,p2,rfl,h5,⟨rfl,h6⟩,h9⟩:=k2
        simp only [adt k1,Option.bind_some]
        exact hK.pure h8 (RV.strip _ h5) hs
      ·cases hcs
     ·cases hcs
    ·cases h
   ·cases h
 | indexAddr t x i =>
   simp only [hop] at h ⊢
   rw [ht.tab]
   split at h
   ·rename_i e c9 eb zz ag n z2 hti
    simp only [hti]
    obtain ⟨a,x',c,h1,h2,_,h4⟩:=C4 ht hs h
    obtain ⟨b,y',d,g1,g2,_,g4⟩:=C4 ht hs h1
    obtain ⟨v,hv,g1⟩:=b7 g1
    obtain ⟨z,k1,k2⟩:=awE hv h2 g2
    rw [h4,g4,k1]
    exact hK.pure g1 k2 hs
   ·rename_i n c9 ag n2 z2 hti
    simp only [hti]
    obtain ⟨a,x',c,h1,h2,_,h4⟩:=C4 ht hs h
    obtain ⟨b,y',d,g1,g2,_,g4⟩:=C4 ht hs h1
    obtain ⟨v,hv,g1⟩:=b7 g1
    obtain ⟨z,k1,k2⟩:=au1 hv h2 g2
    rw [h4,g4,k1]
    exact hK.pure g1 k2 hs
   ·cases h
 | index t x i =>
   simp only [hop] at h ⊢
   rw [ht.tab]
   split at h
   ·rename_i hti
    simp only [hti]
    obtain ⟨a,x',c,h1,h2,_,h4⟩:=C4 ht hs h
    obtain ⟨b,y',d,g1,g2,_,g4⟩:=C4 ht hs h1
    obtain ⟨v,hv,g1⟩:=b7 g1
    obtain ⟨z,k1,k2⟩:=arK hv h2 g2
    rw [h4,g4,k1]
    exact hK.pure g1 k2 hs
   ·rename_i n c9 ag n2 z2 hti
    simp only [hti]
    obtain ⟨a,x',c,h1,h2,_,h4⟩:=C4 ht hs h
    obtain ⟨b,y',d,g1,g2,_,g4⟩:=C4 ht hs h1
    obtain ⟨v,hv,g1⟩:=b7 g1
    obtain ⟨z,k1,k2⟩:=ark hv h2 g2
    rw [h4,g4,k1]
    exact hK.pure g1 k2 hs
   ·cases h
 | extract x i =>
   simp only [hop] at h ⊢
   split at h
   ·rename_i t
    obtain ⟨a,x',c,h1,h2,h3,h4⟩:=C4 ht hs h
    obtain ⟨u,hu,h1⟩:=b7 h1
    obtain ⟨z,c1,c2,k1,k2,k3,k4⟩:=aw3 hu h2
    rw [h4,k1]
    split at h1
    ·obtain ⟨ce,cl,ch,g⟩:=h3
     have hlook:∃ xx,look s'.env t=some (.val xx)/\xx=x':=by
      have:=h4 (EV) (fun v=>some (.val v))
      simp only [G0,evK] at this
      cases e:look s'.env t with
      | none=>rw [e] at this; cases this
      | some q =>
        rw [e] at this
        cases q<;>simp only at this<;>first | (cases this; done) | skip
        cases this; exact ⟨_,rfl,rfl⟩
     obtain ⟨xx,hl,rfl⟩:=hlook
     obtain ⟨c3,m1,m2⟩:=g.env.axw (d:=t)
     have hdel:∀ {l:List (Nat × VE)},U1 (Z4 l t) t=U1 l t:=by
      intro l
      induction l with
      | nil=>rfl
      | cons p l ih =>
        obtain ⟨q,v⟩:=p
        by_cases e:q=t
        ·subst e
         have hb:Nat.beq q q=true:=Nat.beq_refl q
         simp only [Z4,U1,hb]
        ·simp only [Z4,U1,Z2 e,ih]
     simp only [Option.bind_some]
     rw [hhp]
     refine hK w (.val u) (.val z) _ _ _ c1 h1 (by simpa only [RE] using k2) ?_
     have m1':D9 w (U1 s.env t) s'.env c3:=by rw [<-hdel]; exact m1
     refine ⟨fun i=>c2 i+c3 i,cl,ch,rfl,g.hw,g.gl,g.fr,?_,g.loc,g.aa8,g.obj,fun i=>?_,fun i hi=>?_,fun i hi=>?_⟩
     ·simp only [D9]
      exact ⟨_,c2,c3,hl,by simpa only [RE] using k3,m1',by simp⟩
     ·have:=g.N0 i; have:=k4 i; have:=m2 i; omega
     ·have:=g.Q2 i hi; have:=k4 i; have:=m2 i; omega
     ·have:=g.N9 i hi; have:=k4 i; have:=m2 i; omega
    ·exact hK.pure h1 (RV.strip _ k2) hs
   ·cases h
 | call c =>
   simp only [hop] at h ⊢
   rw [ht.tab,ht.kind,ht.ext]
   split at h
   ·-- len
    rename_i hcal
    simp only [hcal]
    split at h
    ·rename_i x t hargs htys
     simp only [hargs,htys]
     split at h
     ·rename_i hti
      simp only [hti]
      obtain ⟨a,x',c',h1,h2,_,h4⟩:=C4 ht hs h
      obtain ⟨v,hv,h1⟩:=b7 h1
      obtain ⟨z,k1,k2⟩:=avk hv h2
      rw [h4,k1]
      exact hK.pure h1 k2 hs
     ·rename_i hti
      simp only [hti]
      obtain ⟨a,x',c',h1,h2,_,h4⟩:=C4 ht hs h
      obtain ⟨v,hv,h1⟩:=b7 h1
      obtain ⟨z,k1,k2⟩:=auS hv h2
      rw [h4,k1]
      exact hK.pure h1 k2 hs
     ·cases h
    ·cases h
   ·-- min
    rename_i hcal
    simp only [hcal]
    split at h
    ·rename_i x y hargs
     simp only [hargs]
     obtain ⟨a,x',c',h1,h2,_,h4⟩:=C4 ht hs h
     obtain ⟨b,y',d,g1,g2,_,g4⟩:=C4 ht hs h1
     obtain ⟨v,hv,g1⟩:=b7 g1
     obtain ⟨z,k1,k2⟩:=awB hv h2 g2
     rw [h4,g4,k1]
     exact hK.pure g1 k2 hs
    ·cases h
   ·-- append
    rename_i hcal
    simp only [hcal]
    split at h
    ·rename_i x y t u d hargs htys hd
     simp only [hargs,htys,hd]
     split at h
     ·rename_i e c9 eb z ag n zz ku ag2 n2 zz2 hti hui
      obtain ⟨_,_,h0⟩:=hT.sl _ _ _ _ _ _ _ _ hti
      simp only [hti,hui]
      split at h
      ·rename_i b hku
       have fin:∀ {c1 c2 cx:j6} {s2:VS} {xs:List (List V)} {x' y':Value} {yv rv:V} {ce cl ch:j6} {full:Bool},StC X E w s2 s' ce cl ch cx->RV w (.sl true xs) x' c1->(full=true->∃ a,x' = .slice a xs.length xs.length)->RV w yv y' c2->(∀ i,c1 i+c2 i<=cx i) →
        Q9 b c9 eb xs yv=some rv->K (.val rv) s2 (axl full)=some r →
        ∃ w2 x2,T3 full s'.hp c9 eb x' y'=some (x2,w2)/\aem b y'=some y'/\∃ r',K' (.val x2) s'.loc w2 (axl full)=some r'/\Q r':=by
        intro c1 c2 cx s2 xs x' y' yv rv ce cl ch full g hx hf hy hc ha hk
        obtain ⟨w2,x2,c',k1,k2,k3,k4⟩:=aqF g hx hf hy hc ha h0
        rw [hhp]
        exact ⟨w2.hp,x2,k1,k2,hK w2 (.val rv) (.val x2) s2 s'.loc _ c' hk (by simpa only [RE] using k4) ⟨ce,cl,ch,k3⟩⟩
       split at h
       ·rename_i hm
        simp only [hm]
        obtain ⟨e1,e1',c1,h1,h2,h3,h4⟩:=aaE ht hs h
        obtain ⟨yv,y',c2,g1,g2,g3,g4⟩:=acY ht h3 h1
        split at g1
        ·rename_i xs
         cases e1'<;>simp only [RE] at h2
         rename_i x'
         obtain ⟨rv,ha,g1⟩:=b7 g1
         obtain ⟨ce,cl,ch,g⟩:=g3
         obtain ⟨w2,x2,k1,k2,r',k3,k4⟩:=fin (full:=true) g h2.1 (fun _=>h2.2) g2 (by simp) ha g1
         have g4':∀ (R':Type) (K':Value->Option R'),G0 Y s' y K'=K' y':=g4
         have h4':∀ (K':Value->Option R'),G0 Y s' x K'=K' x':=fun K'=>by unfold G0; rw [h4]
         cases ku<;>simp only at hku<;>first | (cases hku; done) | skip
         ·cases hku
          dsimp only
          rw [h4',g4']
          simp only [aem] at k2
          simp only [T3] at k1
          simp only [k2,Option.bind_some,k1]
          exact ⟨r',k3,k4⟩
         ·cases hku
          dsimp only
          rw [h4',g4']
          simp only [aem] at k2
          simp only [T3] at k1
          simp only [k2,Option.bind_some,k1]
          exact ⟨r',k3,k4⟩
        ·cases g1
       ·rename_i hm
        simp only [hm]
        split at h
        ·obtain ⟨sv,x',c1,h1,h2,h3,h4⟩:=acY ht hs h
         obtain ⟨yv,y',c2,g1,g2,g3,g4⟩:=acY ht h3 h1
         obtain ⟨⟨rv,H2⟩,ha,g6⟩:=b7 g1
         obtain ⟨ce,cl,ch,g⟩:=g3
         obtain ⟨w2,x2,c',k1,k2,k3,k4⟩:=auU g h2 g2 (by simp) ha h0
         have hfin:=hK w2 (.val rv) (.val x2) _ s'.loc _ c' g6 (by simpa only [RE] using k4) k3
         obtain ⟨r',q3,q4⟩:=hfin
         cases ku<;>simp only at hku<;>first | (cases hku; done) | skip
         ·cases hku
          dsimp only
          rw [h4,g4]
          simp only [aem] at k2
          simp only [T3] at k1
          simp only [k2,Option.bind_some,hhp,k1]
          exact ⟨r',q3,q4⟩
         ·cases hku
          dsimp only
          rw [h4,g4]
          simp only [aem] at k2
          simp only [T3] at k1
          simp only [k2,Option.bind_some,hhp,k1]
          exact ⟨r',q3,q4⟩
        obtain ⟨sv,x',c1,h1,h2,h3,h4⟩:=acY ht hs h
        obtain ⟨yv,y',c2,g1,g2,g3,g4⟩:=acY ht h3 h1
        obtain ⟨xs,hxs,g5⟩:=b7 g1
        obtain ⟨rv,ha,g6⟩:=b7 g5
        clear g5 g1
        have hsv:sv = .sl true xs:=by
         unfold aj1 at hxs
         split at hxs
         ·cases hxs; rfl
         ·cases hxs
        subst hsv
        obtain ⟨ce,cl,ch,g⟩:=g3
        obtain ⟨w2,x2,k1,k2,r',k3,k4⟩:=fin (full:=false) g h2 (fun q=>by cases q) g2 (by simp) ha g6
        cases ku<;>simp only at hku<;>first | (cases hku; done) | skip
        ·cases hku
         dsimp only
         rw [h4,g4]
         simp only [aem] at k2
         simp only [T3] at k1
         simp only [k2,Option.bind_some,k1]
         exact ⟨r',k3,k4⟩
        ·cases hku
         dsimp only
         rw [h4,g4]
         simp only [aem] at k2
         simp only [T3] at k1
         simp only [k2,Option.bind_some,k1]
         exact ⟨r',k3,k4⟩
      ·cases h
     ·cases h
    ·cases h
   ·-- a known function
    rename_i f hcal
    simp only [hcal]
    split at h
    ·rename_i hk
     simp only [hk]
     obtain ⟨vs,s2,xs,c1,h1,h2,h3,h4⟩:=akC ht hs h
     obtain ⟨⟨rv,H'⟩,hr,h1⟩:=b7 h1
     obtain ⟨x,w2,cr,q1,q2,q3⟩:=am1 hcall h3 h2 (by simp) hr
     rw [h4,hhp,q1]
     exact hK w2 _ _ _ _ _ cr h1 (by simp only [RE]; exact q2) q3
    ·rename_i hk
     simp only [hk]
     obtain ⟨vs,xs,c1,h1,h2,h4⟩:=aeQ ht hs h
     split at h1
     ·split at h1
      ·obtain ⟨rv,hr,h1⟩:=b7 h1
       obtain ⟨x,q1,q2⟩:=apP hT hcall hs h2 hr
       rw [h4,q1]
       exact hK.pure h1 q2 hs
      ·obtain ⟨rv,hr,h1⟩:=b7 h1
       obtain ⟨x,q1,q2⟩:=apM hT hcall hs h2 hr
       rw [h4,q1]
       exact hK.pure h1 q2 hs
     ·obtain ⟨rv,hr,h1⟩:=b7 h1
      obtain ⟨x,q1,q2⟩:=agW hT hcall hs h2 hr
      rw [h4,q1]
      exact hK.pure h1 q2 hs
    ·rename_i hk
     simp only [hk]
     obtain ⟨vs,xs,c1,h1,h2,h4⟩:=aeQ ht hs h
     rw [h4]
     split at h1
     ·split at h1
      ·obtain ⟨rv,hr,h1⟩:=b7 h1
       exact auB hT hcall hK hs h2 hr h1
      obtain ⟨rv,hr,h1⟩:=b7 h1
      have came:an7 Y w f xs rv:=by
       unfold aib at hr
       split at hr
       ·exact ap7 hT hcall hs h2 hr
       ·exact apK hT hcall hs h2 hr
      obtain ⟨x,hp2,fb,fb2,rho2,cr,q1,q2,q3,q4,q5,q6,q7,q9,q10⟩:=came
      split at h1
      ·unfold adS at h1
       split at h1
       ·rename_i hown
        exact ape hK hs hown h1 q1 q2 q3 q4 q5 q6 q7 q9 q10
       ·cases h1
      ·split at h1
       ·unfold adS at h1
        split at h1
        ·rename_i hown
         exact ape hK hs hown h1 q1 q2 q3 q4 q5 q6 q7 q9 q10
        ·cases h1
       ·exact aoS hK hs h1 q1 q2 q3 q4 q5 q6 q7 q9 q10
     ·obtain ⟨rv,hr,h1⟩:=b7 h1
      obtain ⟨x,hp2,fb,fb2,rho2,cr,q1,q2,q3,q4,q5,q6,q7,q9,q10⟩:=akT hT hcall hs h2 hr
      exact aoS hK hs h1 q1 q2 q3 q4 q5 q6 q7 q9 q10
    ·rename_i n hk
     simp only [hk]
     obtain ⟨vs,xs,c1,h1,h2,h4⟩:=aeQ ht hs h
     obtain ⟨az,has,h5⟩:=b7 h1
     obtain ⟨y,hy,h6⟩:=b7 h5
     obtain ⟨v,hv,h7⟩:=b7 h6
     clear h1 h5 h6
     rw [h4]
     have:xs=az:=by
      have:∀ {vs:List V} {xs az:List Value} {c:j6},j0 w vs xs c->vs.mapM Z1=some az->xs=az:=by
       intro vs
       induction vs with
       | nil=>intro xs az c h h2; simp only [j0] at h; simp at h2; rw [h.1,h2]
       | cons a vs ih =>
         intro xs az c h h2
         simp only [j0] at h
         obtain ⟨x,ys,c1,c2,rfl,k1,k2,k3⟩:=h
         rw [List.mapM_cons] at h2
         obtain ⟨p,p1,h2⟩:=b7 h2
         obtain ⟨q,q1,h2⟩:=b7 h2
         cases h2
         rw [alS k1 p1,ih k2 q1]
      exact this h2 has
     subst this
     rw [hy]
     exact hK.pure h7 (api hv) hs
   ·-- a function value
    rename_i x hne hcal
    obtain ⟨fv,fv',cf,h1,h2,_,h4⟩:=C4 ht hs h
    obtain ⟨vs,xs,c1,g1,g2,g4⟩:=aeQ ht hs h1
    obtain ⟨⟨f,caps⟩,hf,g5⟩:=b7 g1
    have hfv:fv = .fn f caps:=by
     unfold ago at hf
     split at hf
     ·cases hf; rfl
     ·cases hf
    clear g1 h1 h
    subst hfv
    simp only [RV] at h2
    obtain ⟨⟨ws,rfl,hcap⟩,_⟩:=h2
    have hcal':callee (.func (.func f) #[] ⟨ws⟩)=some (f,ws):=rfl
    have key:∃ r',(G0 Y s' x fun fv=>acQ Y s' c.args.toList fun vs=>(callee fv).bind fun p=>match A.n9 with
     | true=>(W9 Y.call p.1 (vs++p.2) s'.hp).bind fun v=>K' (.val v) s'.loc s'.hp .H
     | false=>(Y.call p.1 (vs++p.2) s'.hp).bind fun r=>K' (.val r.1) s'.loc r.2 .W)=some r'/\Q r':=by
     rw [h4,g4]
     simp only [hcal',Option.bind_some]
     have hall:=g2.app hcap
     split at g5
     ·rename_i hq
      obtain ⟨rv,hr,g6⟩:=b7 g5
      obtain ⟨x2,q1,q2⟩:=agW hT hcall hs hall hr
      simp only [hq,q1,Option.bind_some]
      exact hK.pure g6 q2 hs
     ·rename_i hq
      obtain ⟨⟨rv,H'⟩,hr,g6⟩:=b7 g5
      obtain ⟨x2,w2,cr,q1,q2,q3⟩:=am1 hcall hs (j0.strip _ hall) (by simp) hr
      try simp only [hq]
      rw [hhp,q1]
      exact hK w2 _ _ _ _ _ cr g6 (by simp only [RE]; exact q2) q3
    cases x with
    | func f=>exact absurd rfl (hne f)
    | _=>simp only [hcal]; exact key
   ·cases h
 | makeSlice t l c =>
   simp only [hop] at h ⊢
   rw [ht.tab]
   split at h
   ·rename_i e c9 eb z ag n zz hti
    simp only [hti]
    obtain ⟨q1,q2,q3⟩:=hT.sl _ _ _ _ _ _ _ _ hti
    obtain ⟨vl,xl,cl',h1,h2,_,h4⟩:=C4 ht hs h
    obtain ⟨vc,xc,cc',g1,g2,_,g4⟩:=C4 ht hs h1
    obtain ⟨m,hm,g5⟩:=b7 g1
    clear g1 h1 h
    rw [h4,g4]
    have hm':anQ eb xl xc=some m:=by
     unfold agt at hm
     split at hm
     ·simp only [RV] at h2 g2
      rw [h2.1,g2.1]
      exact hm
     ·cases hm
    simp only [hm',Option.bind_some]
    obtain ⟨ce,cl,ch,g⟩:=hs
    obtain ⟨w2,k1,k2,k3⟩:=aee g (ama (aar (w:=w) q1) m.2) (by simp) c9 true (fun h=>by cases h)
    rw [hhp,<-k1]
    exact hK w2 _ _ _ _ _ (fun _=>0) g5 (by simp only [RE]; exact amS k1 k3 q3) k2.self
   ·cases h
 | _=>simp only [hop] at h; cases h
end
end Go.AM

/- Code: the machine of values and the abstract machine side by side. -/
namespace Go.AM
set_option linter.unusedSimpArgs false
set_option linter.unusedVariables false
def St0 (X:XV) (E:En) (s:VS) (s':St):Prop:=∃ w,F6 X E w s s' (fun _=>0)
def aeA (X:XV) (E:En) (vs:List V) (H:VH) (xs:List Value) (hp:Heap):Prop :=
 ∃ (w:Wd) (cv ch:j6),hp=w.hp/\HW w/\I2 X w/\E2 E w/\j0 w vs xs cv/\y2 w H w.j2 ch/\(∀ i,cv i+ch i<=1)/\(∀ i,i<E.hp.length->cv i+ch i<=E.c0 i)/\(∀ i,w.hp.length<=i->cv i+ch i=0)
theorem aml {X:XV} {E:En} {w:Wd} {s:VS} {env:List (Nat × EV)} {loc:List (Nat × List Value)} {ce:j6} {e:VE} {e':EV} (hs:F6 X E w s ⟨env,loc,w.hp⟩ ce) (hr:RE w e e' ce) (d:Option Nat) :
 F6 X E w { s with env:=aoF s.env d e } ⟨aej env d e',loc,w.hp⟩ (fun _=>0):=by
 cases d with
 | none=>exact hs.less (by simp)
 | some d =>
   obtain ⟨c1,cl,ch,g⟩:=hs
   obtain ⟨c2,h1,h2⟩:=g.env.del (d:=d) (x:=e')
   refine ⟨fun i=>ce i+c2 i,cl,ch,rfl,g.hw,g.gl,g.fr,?_,g.loc,g.aa8,g.obj,fun i=>?_,fun i hi=>?_,fun i hi=>?_⟩
   ·simp only [aoF,aej,D9]
    exact ⟨e',ce,c2,by rw [j9,if_pos rfl],hr,h1,by simp⟩
   ·have:=g.N0 i; have:=h2 i; omega
   ·have:=g.Q2 i hi; have:=h2 i; omega
   ·have:=g.N9 i hi; have:=h2 i; omega
theorem anh {S:Type} {v:V} {p q:Option S} {a:S} (hh:l4 v p q=some a):(v = .bool true/\p=some a)\/(v = .bool false/\q=some a)\/(v = .ub/\p=some a/\q=some a):=by
 unfold l4 at hh
 split at hh
 ·exact .inl ⟨rfl,hh⟩
 ·exact .inr (.inl ⟨rfl,hh⟩)
 ·unfold ai1 at hh
  split at hh
  ·rename_i e; exact .inr (.inr ⟨rfl,hh,by rw [<-e]; exact hh⟩)
  ·cases hh
 ·cases hh
theorem acz {S:Type} {v:V} {p q:Option S} {a:S} (hh:j8 v p q=some a):(v = .bool true/\p=some a)\/(v = .bool false/\q=some a):=by
 unfold j8 at hh
 split at hh
 ·exact .inl ⟨rfl,hh⟩
 ·exact .inr ⟨rfl,hh⟩
 ·cases hh
section
variable {X:XV} {Y:Ctx} {A:T8} {T:List Nat} {E:En}
theorem St0.bool {s:VS} {s':St} (hs:St0 X E s s') (d:Nat) (b:Bool):St0 X E { s with env:=(d,.val (.bool b))::U1 s.env d } { s' with env:=(d,.val (.bool b))::s'.env }:=by
 obtain ⟨w,h⟩:=hs
 have:=aml (e := .val (.bool b)) (e' := .val (.bool b)) h.self (by simp [RE,RV]) (some d)
 refine ⟨w,?_⟩
 have hh:=h.hp
 obtain ⟨env,loc,hp⟩:=s'
 simp only at hh
 subst hh
 exact this
theorem asZ {R R':Type} {r:R} {Q:R'->Prop} {ops:Array Oper} {o:Oper} {s:VS} {s':St} (hs:St0 X E s s') {run pass:List (Nat × VE)->Option R} {run' pass':List (Nat × EV)->Option R'}
 (h:Z7 ops o s.env run pass=some r) (h1:∀ e e',run e=some r->St0 X E { s with env:=e } { s' with env:=e' }->∃ r',run' e'=some r'/\Q r') (h2:∀ e e',pass e=some r->St0 X E { s with env:=e } { s' with env:=e' }->∃ r',pass' e'=some r'/\Q r') :
 ∃ r',O7 ops o s'.env run' pass'=some r'/\Q r':=by
 unfold Z7 at h
 unfold O7
 split at h
 ·rename_i hg
  simp only [hg]
  exact h1 _ _ h hs
 ·rename_i j want hg
  simp only [hg]
  split at h
  ·cases h
  ·rename_i d hd
   simp only [hd]
   split at h
   ·rename_i v hl
    obtain ⟨w,ce,cl,ch,g⟩:=hs
    obtain ⟨x,c1,c2,k1,k2,_,_⟩:=g.env.look hl
    cases x<;>simp only [RE] at k2
    rename_i x
    have hs':St0 X E s s':=⟨w,ce,cl,ch,g⟩
    rw [k1]
    split at h
    ·rcases acz h with ⟨rfl,h⟩ | ⟨rfl,h⟩
     ·simp only [RV] at k2
      simp only [k2.1,T9]
      exact h1 _ _ h (hs'.bool d true)
     ·simp only [RV] at k2
      simp only [k2.1,T9]
      exact h2 _ _ h (hs'.bool d false)
    ·rcases acz h with ⟨rfl,h⟩ | ⟨rfl,h⟩
     ·simp only [RV] at k2
      simp only [k2.1,T9]
      exact h2 _ _ h (hs'.bool d true)
     ·simp only [RV] at k2
      simp only [k2.1,T9]
      exact h1 _ _ h (hs'.bool d false)
   ·rename_i hl
    obtain ⟨w,ce,cl,ch,g⟩:=hs
    obtain ⟨x,c1,c2,k1,k2,_,_⟩:=g.env.look hl
    cases x<;>simp only [RE] at k2
    rw [k1]
    exact h2 _ _ h ⟨w,ce,cl,ch,g⟩
   ·cases h
theorem aiO (ht:Twin X Y) (hT:abz X) (hcall:∀ f args H r H',X.call f args H=some (r,H')->E3 X Y.call f args H r H') {R R':Type} {r:R} {Q:R'->Prop} {ops:Array Oper} :
 ∀ {os:List Oper} {cl:List D7} {s:VS} {s':St} {K:List D7->VS->Option R} {K':List D7->St->Option R'},St0 X E s s'->afW X A T ops os cl s K=some r →
   (∀ cl s s',K cl s=some r->St0 X E s s'->∃ r',K' cl s'=some r'/\Q r')->∃ r',aba Y A ops os cl s' K'=some r'/\Q r'
 | [],cl,s,s',K,K',hs,h,hK=>hK _ _ _ h hs
 | o::os,cl,s,s',K,K',hs,h,hK=>by
   simp only [afW] at h
   simp only [aba]
   refine asZ hs h (fun e e' hr hs2=>?_) (fun e e' hp hs2=>?_)
   ·obtain ⟨w,hs2⟩:=hs2
    refine axB ht hT hcall hs2 hr ?_
    intro w2 ev ev' s2 loc c ce hk hre hst
    exact aiO ht hT hcall ⟨w2,aml hst hre o.dst⟩ hk hK
   ·refine aiO ht hT hcall ?_ hp hK
    obtain ⟨w,hs2⟩:=hs2
    have hh:=hs2.hp
    simp only at hh
    have:=aml (e := .E6) (e' := .E6) hs2.self (by simp [RE]) o.dst
    refine ⟨w,?_⟩
    rw [<-hh] at this
    exact this
theorem alC {t u:Nat} (h:u ≠ t):∀ {l:List (Nat × VE)},look (Z4 l t) u=look l u
 | []=>rfl
 | (k,v)::l=>by
   by_cases e:k=t
   ·subst e
    have hb:Nat.beq k k=true:=Nat.beq_refl k
    simp only [Z4,hb]
    rw [j9,j9,if_neg h,if_neg h]
   ·simp only [Z4,Z2 e]
    rw [j9,j9]
    split
    ·rfl
    ·exact alC h
theorem agG {R:Type} {t:Nat} {l:List (Nat × VE)}:∀ {ss:List Nat} {K:List V->Option R},t ∉ ss->aaV (Z4 l t) ss K=aaV l ss K
 | [],K,h=>rfl
 | s::ss,K,h=>by
   simp only [aaV]
   rw [alC (fun e=>h (by simp [e]))]
   split
   ·exact agG (fun hm=>h (by simp [hm]))
   ·exact agG (fun hm=>h (by simp [hm]))
   ·rfl
theorem aoY {w:Wd} {ae:List (Nat × EV)} {R:Type} {r:R}:∀ {ss:List Nat} {l:List (Nat × VE)} {ce:j6} {K:List V->Option R},ss.Nodup->D9 w l ae ce->aaV l ss K=some r →
 ∃ vs xs c,K vs=some r/\j0 w vs xs c/\(∀ i,c i<=ce i)/\vs.length=ss.length/\∀ (R':Type) (K':List Value->Option R'),acI ae ss K'=K' xs
 | [],l,ce,K,nd,he,h=>⟨[],[],fun _=>0,h,by simp [j0],by simp,rfl,fun _ _=>rfl⟩
 | s::ss,l,ce,K,nd,he,h=>by
   simp only [aaV] at h
   simp at nd
   have key:∀ {v:V} {x:Value} {e:VE} {c1 c2:j6} {K2:List V->Option R},look ae s=some (.val x)->RV w v x c1->D9 w (Z4 l s) ae c2->(∀ i,ce i=c1 i+c2 i)->aaV l ss (fun vs=>K (v::vs))=some r →
    ∃ vs xs c,K vs=some r/\j0 w vs xs c/\(∀ i,c i<=ce i)/\vs.length=(s::ss).length/\∀ (R':Type) (K':List Value->Option R'),acI ae (s::ss) K'=K' xs:=by
    intro v x e c1 c2 K2 h1 h2 h3 h4 h5
    rw [<-agG (t:=s) nd.1] at h5
    obtain ⟨vs,xs,c,g1,g2,g3,g4,g5⟩:=aoY nd.2 h3 h5
    refine ⟨v::vs,x::xs,fun i=>c1 i+c i,g1,⟨x,xs,c1,c,rfl,h2,g2,by simp⟩,fun i=>by have:=g3 i; have:=h4 i; show c1 i+c i<=ce i; omega,by simp [g4],fun R' K'=>by simp only [acI,h1,g5]⟩
   split at h
   ·rename_i v hl
    obtain ⟨x,c1,c2,h1,h2,h3,h4⟩:=he.look hl
    cases x<;>simp only [RE] at h2
    exact key (e := .E6) (K2:=K) h1 h2 h3 h4 h
   ·rename_i ys hl
    obtain ⟨x,c1,c2,h1,h2,h3,h4⟩:=he.look hl
    cases x<;>simp only [RE] at h2
    exact key (e := .E6) (K2:=K) h1 h2.1 h3 h4 h
   ·cases h
theorem asM {w:Wd} {ae:List (Nat × EV)}:∀ {ls:List (Nat × Nat × Nat)} {l:List (Nat × VE)} {ce:j6},D9 w l ae ce->anL l ls=true->amL ae ls=true
 | [],l,ce,he,h=>rfl
 | (s,k,o)::ls,l,ce,he,h=>by
   simp only [anL] at h
   split at h
   ·rename_i k' o' hl
    obtain ⟨x,c1,c2,h1,h2,h3,h4⟩:=he.look hl
    cases x<;>simp only [RE] at h2
    obtain ⟨rfl,rfl,_⟩:=h2
    simp only [Bool.and_eq_true] at h
    simp only [amL,h1,Bool.and_eq_true]
    exact ⟨h.1,asM he h.2⟩
   ·cases h
theorem alg {k j:Nat} (h:j ≠ k) {cs:List V}:∀ {l:List (Nat × List V)},look (P6 l k cs) j=look l j
 | []=>rfl
 | (q,v)::l=>by
   by_cases e:q=k
   ·subst e
    have hb:Nat.beq q q=true:=Nat.beq_refl q
    simp only [P6,hb]
    rw [j9,j9,if_neg h,if_neg h]
   ·simp only [P6,Z2 e]
    rw [j9,j9]
    split
    ·rfl
    ·exact alg h
theorem atu {R:Type} {k:Nat} {d:List V} {l:List (Nat × List V)}:∀ {ks:List (Nat × Nat)} {K:List V->Option R},k ∉ ks.map (·.1)->csV (P6 l k d) ks K=csV l ks K
 | [],K,h=>rfl
 | (j,n)::ks,K,h=>by
   simp only [csV]
   rw [alg (fun e=>h (by simp [e]))]
   split
   ·split
    ·exact atu (fun hm=>h (by simp at hm ⊢; exact .inr hm))
    ·rfl
   ·rfl
theorem aic {k:Nat} {ws:List Value}:∀ {l:List (Nat × List Value)},look l k=some ws->aah l k ws=l
 | [],h=>rfl
 | (q,v)::l,h=>by
   by_cases e:q=k
   ·subst e
    have hb:Nat.beq q q=true:=Nat.beq_refl q
    simp only [look,hb] at h
    cases h; simp only [aah,hb]
   ·simp only [look,Z2 e] at h
    simp only [aah,Z2 e,aic h]
theorem atw {w:Wd} {al:List (Nat × List Value)} {R:Type} {r:R}:∀ {ks:List (Nat × Nat)} {l:List (Nat × List V)} {cl:j6} {K:List V->Option R},(ks.map (·.1)).Nodup->M3 w l al cl->csV l ks K=some r →
 ∃ vs xs c,K vs=some r/\j0 w vs xs c/\(∀ i,c i<=cl i)/\vs.length=total ks/\∀ (R':Type) (K':List Value->Option R'),csK al ks K'=K' xs
 | [],l,cl,K,nd,he,h=>⟨[],[],fun _=>0,h,by simp [j0],by simp,rfl,fun _ _=>rfl⟩
 | (k,n)::ks,l,cl,K,nd,he,h=>by
   simp only [csV] at h
   simp only [List.map_cons,List.nodup_cons] at nd
   split at h
   ·rename_i cs hl
    split at h
    ·rename_i hb
     obtain ⟨ws,c1,c2,h1,h2,h3,h4⟩:=he.look hl
     have h5:=h4 _ _ _ (j0.strip _ h2)
     rw [aic h1] at h5
     rw [<-atu (k:=k) (d:=l8 cs) nd.1] at h
     obtain ⟨vs,xs,c,g1,g2,g3,g4,g5⟩:=atw nd.2 h5 h
     have hn:=Nat.eq_of_beq_eq_true hb
     have hb':Nat.beq ws.length n=true:=by rw [<-h2.len]; exact hb
     exact ⟨cs++vs,ws++xs,_,g1,h2.app g2,fun i=>by have:=g3 i; have:=h3 i; omega,by simp only [List.length_append,total,g4]; omega,fun R' K'=>by simp only [csK,h1,hb',g5]⟩
    ·cases h
   ·cases h
theorem ajA {kp:I8} (h:aiZ kp=true):adX kp=true/\(kp.cs.map (·.1)).Nodup/\kp.vs.Nodup/\(kp.ls.map (·.1)).Nodup/\∀ x ∈ kp.ls,mem kp.vs x.1=false:=by
 unfold aiZ at h
 simp only [Bool.and_eq_true,decide_eq_true_eq,List.all_eq_true] at h
 obtain ⟨⟨⟨⟨h1,h2⟩,h3⟩,h4⟩,h5⟩:=h
 refine ⟨?_,h2,h3,h4,fun x hx=>by have:=h5 x hx; simpa using this⟩
 unfold adX
 simp only [Bool.and_eq_true]
 exact ⟨h1,by simpa using h2⟩
theorem ahc {R:Type} {r:R} {kp:I8} {s:VS} {s':St} (hs:St0 X E s s') {K:List V->VH->Option R} (h:abq kp s K=some r) :
 ∃ vs xs,K vs s.H=some r/\aeA X E vs s.H xs s'.hp/\∀ (R':Type) (K':List Value->Heap->Option R'),P4 kp s' K'=K' xs s'.hp:=by
 unfold abq at h
 split at h
 ·rename_i hk
  simp only [Bool.and_eq_true] at hk
  obtain ⟨k1,k2,k3,k4,k5⟩:=ajA hk.1
  obtain ⟨w,ce,cl,ch,g⟩:=hs
  obtain ⟨vs,xs,c,h1,h2,h3,h4,h5⟩:=aoY k3 g.env h
  obtain ⟨us,ys,d,g1,g2,g3,g4,g5⟩:=atw k2 g.loc h1
  refine ⟨vs++us,xs++ys,g1,⟨w,_,ch,g.hp,g.hw,g.gl,g.fr,h2.app g2,g.obj,fun i=>?_,fun i hi=>?_,fun i hi=>?_⟩,fun R' K'=>?_⟩
  ·have:=g.N0 i; have:=h3 i; have:=g3 i; omega
  ·have:=g.Q2 i hi; have:=h3 i; have:=g3 i; omega
  ·have:=g.N9 i hi; have:=h3 i; have:=g3 i; omega
  ·simp only [P4,asM g.env hk.2,h5,g5]
 ·cases h
theorem amW {a:Nat}:∀ {l:List Nat},mem l a=false->a ∉ l
 | [],_=>by simp
 | b::l,h=>by
   simp only [mem] at h
   split at h
   ·cases h
   ·rename_i hb
    intro hm
    rcases List.mem_cons.1 hm with e | hm
    ·rw [e,Nat.beq_refl] at hb; cases hb
    ·exact amW h hm
theorem j0.head {w:Wd} {vs:List V} {xs:List Value} {d:j6} {i:Nat} (hi:i<vs.length) (h:j0 w (vs.drop i) (xs.drop i) d):∃ a b,RV w (vs.getD i .g8) (xs.getD i undef) a/\j0 w (vs.drop (i+1)) (xs.drop (i+1)) b/\∀ j,d j=a j+b j:=by
 rw [List.drop_eq_getElem_cons hi] at h
 simp only [j0] at h
 obtain ⟨x,ys,a,b,h1,h2,h3,h4⟩:=h
 have hx:xs[i]? = some x:=by
  have:(xs.drop i)[0]? = some x:=by rw [h1]; rfl
  simpa using this
 have hy:xs.drop (i+1)=ys:=by rw [<-List.drop_drop,h1]; rfl
 refine ⟨a,b,?_,by rw [hy]; exact h3,h4⟩
 rw [List.getD_eq_getElem?_getD,List.getD_eq_getElem?_getD,hx,List.getElem?_eq_getElem hi]; exact h2
theorem aoB {w:Wd} {vs:List V} {xs:List Value} {ae:List (Nat × EV)}:∀ {ss:List Nat} {i:Nat} {d:j6},j0 w (vs.drop i) (xs.drop i) d->i+ss.length<=vs.length->(∀ (j s:Nat),ss[j]? = some s->look ae s=some (.val (xs.getD (i+j) undef))) →
 ∃ c1 c2,D9 w (aia i ss vs) ae c1/\j0 w (vs.drop (i+ss.length)) (xs.drop (i+ss.length)) c2/\∀ j,c1 j+c2 j=d j
 | [],i,d,hd,hl,ha=>⟨fun _=>0,d,by simp [aia,D9],by simpa using hd,by simp⟩
 | s::ss,i,d,hd,hl,ha=>by
   simp at hl
   obtain ⟨a,b,h1,h2,h3⟩:=hd.head (i:=i) (by omega)
   obtain ⟨c1,c2,g1,g2,g3⟩:=aoB (ss:=ss) (i:=i+1) h2 (by omega) (fun j t ht=>by have:=ha (j+1) t (by simpa using ht); rw [this]; congr 3; omega)
   refine ⟨fun j=>a j+c1 j,c2,?_,by rw [List.length_cons,show i+(ss.length+1)=i+1+ss.length by omega]; exact g2,fun j=>by have:=g3 j; have:=h3 j; show a j+c1 j+c2 j=d j; omega⟩
   simp only [aia,D9]
   exact ⟨_,a,c1,ha 0 s (by simp),by simp only [RE]; exact h1,g1,by simp⟩
theorem ao6 {w:Wd} {vs:List V} {xs:List Value}:∀ {ks:List (Nat × Nat)} {i:Nat} {d:j6} {al:List (Nat × List Value)},(ks.map (·.1)).Nodup->j0 w (vs.drop i) (xs.drop i) d->i+total ks<=vs.length->i+total ks<=xs.length->(∀ k n,look (N3 i ks xs) k=some n->look al k=some n)->(∀ p ∈ ks,(look (N3 i ks xs) p.1).isSome=true) →
 ∃ c1,M3 w (ada i ks vs) al c1/\∀ j,c1 j<=d j
 | [],i,d,al,nd,hd,hl,hl2,ha,hm=>⟨fun _=>0,by simp [ada,M3],by simp⟩
 | (k,n)::ks,i,d,al,nd,hd,hl,hl2,ha,hm=>by
   simp only [List.map_cons,List.nodup_cons] at nd
   simp only [total] at hl hl2
   have e1:vs.drop i=(vs.drop i).take n++vs.drop (i+n):=by rw [<-List.drop_drop,List.take_append_drop]
   rw [e1] at hd
   obtain ⟨ys,zs,a,b,h1,h2,h3,h4⟩:=hd.split
   have hyl:=h2.len
   rw [List.length_take,List.length_drop,Nat.min_eq_left (by omega)] at hyl
   have hys:ys=(xs.drop i).take n:=by rw [h1,hyl,List.take_left]
   have hzs:zs=xs.drop (i+n):=by rw [<-List.drop_drop,h1,hyl,List.drop_left]
   subst hzs
   have hne:∀ k' v,look (N3 (i+n) ks xs) k'=some v->k' ≠ k:=fun k' v h e=>by
    subst e
    have:∀ {ks:List (Nat × Nat)} {i:Nat},k' ∉ ks.map (·.1)->look (N3 i ks xs) k'=none:=by
     intro ks
     induction ks with
     | nil=>intro i _; rfl
     | cons p ks ih =>
       intro i hn
       obtain ⟨q,m⟩:=p
       simp only [List.map_cons,List.mem_cons,not_or] at hn
       simp only [N3]
       rw [j9,if_neg hn.1]; exact ih hn.2
    rw [this nd.1] at h; cases h
   have memv:∀ {ks:List (Nat × Nat)} {i:Nat},k ∉ ks.map (·.1)->look (ada i ks vs) k=none:=by
    intro ks
    induction ks with
    | nil=>intro i _; rfl
    | cons p ks ih =>
      intro i hn
      obtain ⟨q,m⟩:=p
      simp only [List.map_cons,List.mem_cons,not_or] at hn
      simp only [ada]
      rw [j9,if_neg hn.1]; exact ih hn.2
   have somev:∀ {ks:List (Nat × Nat)} {i:Nat},∀ p ∈ ks,(look (N3 i ks xs) p.1).isSome=true:=by
    intro ks
    induction ks with
    | nil=>intro i p hp; cases hp
    | cons q ks ih =>
      intro i p hp
      obtain ⟨q,m⟩:=q
      simp only [N3]
      rw [j9]
      split
      ·rfl
      ·rename_i hq
       rcases List.mem_cons.1 hp with rfl | hp
       ·exact absurd rfl hq
       ·exact ih p hp
   obtain ⟨c1,g1,g2⟩:=ao6 (ks:=ks) (i:=i+n) (al:=al) nd.2 h3 (by omega) (by omega) (fun k' v h=>ha k' v (by simp only [N3]; rw [j9,if_neg (hne k' v h)]; exact h)) somev
   refine ⟨fun j=>a j+c1 j,?_,fun j=>by have:=g2 j; have:=h4 j; show a j+c1 j<=d j; omega⟩
   simp only [ada,M3]
   refine ⟨acr i n xs,a,c1,ha k _ (by simp only [N3]; rw [j9,if_pos rfl]),?_,memv nd.1,g1,by simp⟩
   rw [aj0 (by omega),aiw (by omega),<-hys]; exact h2
theorem ahF {R:Type} {r:R} {kp:I8} {vs:List V} {H:VH} {xs:List Value} {hp:Heap} (hs:aeA X E vs H xs hp) {K:VS->Option R} (h:acJ kp vs H K=some r) :
 ∃ s s',K s=some r/\St0 X E s s'/\∀ (R':Type) (K':St->Option R'),abo kp xs hp K'=K' s':=by
 unfold acJ at h
 split at h
 ·rename_i hk
  obtain ⟨k1,k2,k3,k4,k5⟩:=ajA hk
  split at h
  ·rename_i hl
   obtain ⟨w,cv,ch,rfl,hw,hg,hf,hv,ho,l1,l0,lb⟩:=hs
   have hlen:=hv.len
   have hlook:∀ (j s:Nat),kp.vs[j]? = some s->look (aav kp.ls++aaU 0 kp.vs xs) s=some (.val (xs.getD (0+j) undef)):=by
    intro j s hj
    have hnl:∀ {ls:List (Nat × Nat × Nat)} {m:List (Nat × EV)},(∀ x ∈ ls,x.1 ≠ s)->look (aav ls++m) s=look m s:=by
     intro ls
     induction ls with
     | nil=>intro m _; rfl
     | cons p ls ih =>
       intro m hn
       obtain ⟨q,k,o⟩:=p
       simp only [aav,List.cons_append]
       rw [j9,if_neg (fun e=>hn (q,k,o) (by simp) e.symm)]
       exact ih (fun x hx=>hn x (by simp [hx]))
    rw [hnl (fun x hx e=>amW (k5 x hx) (by rw [e]; exact List.mem_of_getElem? hj))]
    have hev:∀ {ss:List Nat} {i j:Nat},ss.Nodup->ss[j]? = some s->look (aaU i ss xs) s=some (.val (xs.getD (i+j) undef)):=by
     intro ss
     induction ss with
     | nil=>intro i j _ h; simp at h
     | cons t ss ih =>
       intro i j nd h
       simp at nd
       simp only [aaU]
       rw [j9]
       cases j with
       | zero=>simp at h; subst h; rw [if_pos rfl]; rfl
       | succ j =>
         simp at h
         rw [if_neg (fun e=>nd.1 (by subst e; exact List.mem_of_getElem? h)),ih nd.2 h]
         congr 3; omega
    exact hev k3 hj
   obtain ⟨c1,c2,e1,e2,e3⟩:=aoB (ss:=kp.vs) (i:=0) (ae:=aav kp.ls++aaU 0 kp.vs xs) (by simpa using hv) (by omega) hlook
   have hls:∀ {ls:List (Nat × Nat × Nat)} {pre:List (Nat × EV)} {rest:List (Nat × VE)} {c:j6},(ls.map (·.1)).Nodup->D9 w rest (pre++(aav ls++aaU 0 kp.vs xs)) c->(∀ x ∈ ls,look pre x.1=none)->D9 w (anJ ls++rest) (pre++(aav ls++aaU 0 kp.vs xs)) c:=by
    intro ls
    induction ls with
    | nil=>intro pre rest c _ h _; exact h
    | cons p ls ih =>
      intro pre rest c nd h hn
      obtain ⟨q,k,o⟩:=p
      simp only [List.map_cons,List.nodup_cons] at nd
      simp only [anJ,List.cons_append,D9]
      have hpre:∀ {m:List (Nat × EV)} {t:Nat},look pre t=none->look (pre++m) t=look m t:=by
       intro m t
       have:∀ {pre:List (Nat × EV)},look pre t=none->look (pre++m) t=look m t:=by
        intro pre
        induction pre with
        | nil=>intro _; rfl
        | cons a pre ih2 =>
          intro hh
          obtain ⟨a1,a2⟩:=a
          rw [j9] at hh
          split at hh
          ·cases hh
          ·rename_i hq
           simp only [List.cons_append]
           rw [j9,if_neg hq]; exact ih2 hh
       exact this
      refine ⟨.loc k o,fun _=>0,c,?_,by simp [RE],?_,by simp⟩
      ·have hq:look pre q=none:=hn (q,k,o) (by simp)
       rw [hpre hq]
       simp only [aav,List.cons_append]
       rw [j9,if_pos rfl]
      ·have e:pre++(aav ((q,k,o)::ls)++aaU 0 kp.vs xs)=(pre++[(q,EV.loc k o)])++(aav ls++aaU 0 kp.vs xs):=by simp [aav]
       rw [e] at h ⊢
       refine ih nd.2 h (fun x hx=>?_)
       have:look pre x.1=none:=hn x (by simp [hx])
       rw [hpre this,j9,if_neg (fun e=>nd.1 (by rw [<-e]; exact List.mem_map_of_mem hx))]
       rfl
   have henv:=hls (pre:=[]) k4 e1 (fun _ _=>rfl)
   simp only [List.nil_append] at henv
   obtain ⟨c3,f1,f2⟩:=ao6 (ks:=kp.cs) (i:=kp.vs.length) (al:=N3 kp.vs.length kp.cs xs) k2 (by simpa using e2) (by omega) (by omega) (fun k n h=>h) (by
    intro p hp
    have somev:∀ {ks:List (Nat × Nat)} {i:Nat},∀ p ∈ ks,(look (N3 i ks xs) p.1).isSome=true:=by
     intro ks
     induction ks with
     | nil=>intro i p hp; cases hp
     | cons q ks ih =>
       intro i p hp
       obtain ⟨q,m⟩:=q
       simp only [N3]
       rw [j9]
       split
       ·rfl
       ·rename_i hq
        rcases List.mem_cons.1 hp with rfl | hp
        ·exact absurd rfl hq
        ·exact ih p hp
    exact somev p hp)
   refine ⟨_,aa2 kp xs w.hp,h,⟨w,c1,c3,ch,rfl,hw,hg,hf,henv,f1,fun k hk=>?_,ho,fun i=>?_,fun i hi=>?_,fun i hi=>?_⟩,fun R' K'=>?_⟩
   ·have:∀ {ks:List (Nat × Nat)} {i:Nat},look (ada i ks vs) k=none->look (N3 i ks xs) k=none:=by
     intro ks
     induction ks with
     | nil=>intro i _; rfl
     | cons p ks ih =>
       intro i hh
       obtain ⟨q,m⟩:=p
       simp only [ada] at hh
       simp only [N3]
       rw [j9] at hh ⊢
       split at hh
       ·cases hh
       ·rename_i hq; rw [if_neg hq]; exact ih hh
    exact this hk
   ·have:=l1 i; have:=e3 i; have:=f2 i; omega
   ·have:=l0 i hi; have:=e3 i; have:=f2 i; omega
   ·have:=lb i hi; have:=e3 i; have:=f2 i; omega
   ·unfold abo
    rw [k1]
    simp only
    rw [if_pos (by omega)]; rfl
  ·cases h
 ·cases h
theorem aiK {R:Type} {r:R} {e:Exit} {s:VS} {s':St} (hs:St0 X E s s'):∀ {outs:List (Exit × I8)} {K:Nat->List V->VH->Option R},af1 outs e s K=some r →
 ∃ n vs xs,K n vs s.H=some r/\aeA X E vs s.H xs s'.hp/\∀ (R':Type) (K':Nat->List Value->Heap->Option R'),aaN outs e s' K'=K' n xs s'.hp
 | [],K,h=>by cases h
 | (x,kp)::l,K,h=>by
   simp only [af1] at h
   split at h
   ·rename_i hx
    obtain ⟨vs,xs,h1,h2,h3⟩:=ahc hs h
    exact ⟨0,vs,xs,h1,h2,fun R' K'=>by simp only [aaN,hx,h3]⟩
   ·rename_i hx
    obtain ⟨n,vs,xs,h1,h2,h3⟩:=aiK hs h
    exact ⟨n+1,vs,xs,h1,h2,fun R' K'=>by simp only [aaN,hx,h3]⟩
theorem apu {R:Type} {r:R} {vs:List V} {H:VH} {xs:List Value} {hp:Heap} (hs:aeA X E vs H xs hp) {K:Exit->VS->Option R}:∀ {outs:List (Exit × I8)} {n:Nat},inV outs n vs H K=some r →
 ∃ e s s',K e s=some r/\St0 X E s s'/\∀ (R':Type) (K':Exit->St->Option R'),inK outs n xs hp K'=K' e s'
 | [],n,h=>by cases h
 | (x,kp)::l,0,h=>by
   simp only [inV] at h
   obtain ⟨s,s',h1,h2,h3⟩:=ahF hs h
   exact ⟨x,s,s',h1,h2,fun R' K'=>by simp only [inK,h3]⟩
 | (x,kp)::l,n+1,h=>by
   simp only [inV] at h
   obtain ⟨e,s,s',h1,h2,h3⟩:=apu hs h
   exact ⟨e,s,s',h1,h2,fun R' K'=>by simp only [inK,h3]⟩
inductive ajK (B:List V->VH->Option (Option Nat × List V × VH)):Nat->List V->VH->(Nat × List V × VH)->Prop
 | stop {vs:List V} {hp:VH} {m:Nat} {vs':List V} {hp':VH}:B vs hp=some (some m,vs',hp')->ajK B 0 vs hp (m,vs',hp')
 | more {n:Nat} {vs:List V} {hp:VH} {vs1:List V} {hp1:VH} {res:Nat × List V × VH}:B vs hp=some (none,vs1,hp1)->ajK B n vs1 hp1 res->ajK B (n+1) vs hp res
def arD (lp:W0):Prop:=∀ B vs hp res,lp B vs hp=some res->∃ n,ajK B n vs hp res
def aw4 (lp:LpT):Prop:=∀ B vs hp,lp B vs hp=match B vs hp with | none=>none | some (none,vs,hp)=>lp B vs hp | some (some m,vs,hp)=>some (m,vs,hp)
theorem S9 (ht:Twin X Y) (hT:abz X) (hcall:∀ f args H r H',X.call f args H=some (r,H')->E3 X Y.call f args H r H') (hlp:arD X.lp) (hlq:aw4 Y.lp) :
 ∀ (x:Code) {R R':Type} {r:R} {Q:R'->Prop} {s:VS} {s':St} {K:Exit->VS->Option R} {K':Exit->St->Option R'},St0 X E s s'->F4 X A T x s K=some r →
   (∀ e s s',K e s=some r->St0 X E s s'->∃ r',K' e s'=some r'/\Q r')->∃ r',A4 Y A x s' K'=some r'/\Q r'
 | .skip,R,R',r,Q,s,s',K,K',hs,h,hK=>hK _ _ _ h hs
 | .exit id,R,R',r,Q,s,s',K,K',hs,h,hK=>hK _ _ _ h hs
 | .ret,R,R',r,Q,s,s',K,K',hs,h,hK=>hK _ _ _ h hs
 | .region id ops draw,R,R',r,Q,s,s',K,K',hs,h,hK=>by
   cases draw with
   | false =>
     simp only [F4] at h
     simp only [A4]
     exact aiO ht hT hcall hs h fun cl s s' h hs=>hK _ _ _ h hs
   | true =>
     simp only [F4] at h
     simp only [A4]
     refine aiO ht hT hcall hs h fun cl s s' h hs=>?_
     split at h
     ·rename_i ho; simp only [ho]; exact hK _ _ _ h hs
     ·cases h
 | .cond y a b,R,R',r,Q,s,s',K,K',hs,h,hK=>by
   simp only [F4] at h
   simp only [A4]
   obtain ⟨w,hs⟩:=hs
   obtain ⟨v,x',c,h1,h2,_,h4⟩:=C4 ht hs h
   rw [h4]
   rcases anh h1 with ⟨rfl,h⟩ | ⟨rfl,h⟩ | ⟨rfl,h,h'⟩
   ·simp only [RV] at h2
    simp only [h2.1,T9]
    exact S9 ht hT hcall hlp hlq a ⟨w,hs⟩ h hK
   ·simp only [RV] at h2
    simp only [h2.1,T9]
    exact S9 ht hT hcall hlp hlq b ⟨w,hs⟩ h hK
   ·simp only [RV] at h2
    obtain ⟨⟨bb,hb⟩,_⟩:=h2
    subst hb
    cases bb with
    | true=>exact S9 ht hT hcall hlp hlq a ⟨w,hs⟩ h hK
    | false=>exact S9 ht hT hcall hlp hlq b ⟨w,hs⟩ h' hK
 | .block id a,R,R',r,Q,s,s',K,K',hs,h,hK=>by
   simp only [F4] at h
   simp only [A4]
   refine S9 ht hT hcall hlp hlq a hs h fun e s s' h hs=>?_
   cases e with
   | exit i =>
     simp only at h ⊢
     split at h
     ·rename_i hb; simp only [hb]; exact hK _ _ _ h hs
     ·rename_i hb; simp only [hb]; exact hK _ _ _ h hs
   | _=>exact hK _ _ _ h hs
 | .seq a b,R,R',r,Q,s,s',K,K',hs,h,hK=>by
   simp only [F4] at h
   simp only [A4]
   have behind:∀ (e:Exit) (s:VS) (s':St),(match e with | .normal=>F4 X A T b s K | e=>K e s)=some r->St0 X E s s'->∃ r',(fun (e:Exit) (st:St)=>match e with | .normal=>A4 Y A b st K' | e=>K' e st) e s'=some r'/\Q r':=by
    intro e s s' h hs
    cases e with
    | normal=>exact S9 ht hT hcall hlp hlq b hs h hK
    | _=>exact hK _ _ _ h hs
   split at h
   ·rename_i hj
    split
    ·exact S9 ht hT hcall hlp hlq a (K':=fun e st=>match e with | .normal=>A4 Y A b st K' | e=>K' e st) hs h behind
    ·rename_i hj2
     have:=hj.symm.trans hj2
     cases this
   ·rename_i outs hj
    split
    ·rename_i hj2
     have:=hj.symm.trans hj2
     cases this
    rename_i outs' hj2
    have:=hj.symm.trans hj2
    cases this
    obtain ⟨⟨n,vs,H⟩,h1,h2⟩:=b7 h
    obtain ⟨⟨n',xs,hp⟩,g1,g2⟩:=S9 ht hT hcall hlp hlq a (K':=fun e st=>aaN outs e st fun n vs hp=>some (n,vs,hp)) (Q:=fun q=>q.1=n/\aeA X E vs H q.2.1 q.2.2) hs h1 (fun e s s' h hs=>by
     obtain ⟨m,us,xs,k1,k2,k3⟩:=aiK hs h
     cases k1
     exact ⟨_,k3 _ _,rfl,k2⟩)
    simp only at g2
    obtain ⟨rfl,g2⟩:=g2
    rw [g1]
    simp only [Option.bind_some]
    obtain ⟨e,s2,s2',k1,k2,k3⟩:=apu g2 h2
    rw [k3]
    exact behind e s2 s2' k1 k2
 | .loop a,R,R',r,Q,s,s',K,K',hs,h,hK=>by
   simp only [F4] at h
   simp only [A4]
   split at h
   ·cases h
   ·rename_i li hli
    obtain ⟨vs,xs,h1,h2,h3⟩:=ahc hs h
    obtain ⟨⟨n,us,H⟩,h4,h5⟩:=b7 h1
    simp only [hli]
    rw [h3]
    obtain ⟨m,hm⟩:=hlp _ _ _ _ h4
    have loop:∀ {m:Nat} {vs:List V} {H:VH} {res:Nat × List V × VH} {xs:List Value} {hp:Heap},ajK (fun vs hp=>acJ li.ks vs hp fun st=>F4 X A T a st fun e st=>match e with
     | .normal=>abq li.ks st fun vs hp=>some (none,vs,hp)
     | e=>af1 li.outs e st fun n vs hp=>some (some n,vs,hp)) m vs H res->aeA X E vs H xs hp →
     ∃ ys hp',Y.lp (fun vs hp=>abo li.ks vs hp fun st=>A4 Y A a st fun e st=>match e with
       | .normal=>P4 li.ks st fun vs hp=>some (none,vs,hp)
       | e=>aaN li.outs e st fun n vs hp=>some (some n,vs,hp)) xs hp=some (res.1,ys,hp')/\aeA X E res.2.1 res.2.2 ys hp':=by
     intro m vs H res xs hp hl
     induction hl generalizing xs hp with
     | @stop vs0 H0 m0 vs1 H1 hB =>
       intro hsv
       obtain ⟨s,s',k1,k2,k3⟩:=ahF hsv hB
       obtain ⟨⟨o,ys,hp'⟩,k4,k5⟩:=S9 ht hT hcall hlp hlq a (K':=fun e st=>match e with
        | .normal=>P4 li.ks st fun vs hp=>some (none,vs,hp)
        | e=>aaN li.outs e st fun n vs hp=>some (some n,vs,hp)) (Q:=fun q=>q.1=some m0/\aeA X E vs1 H1 q.2.1 q.2.2) k2 k1 (fun e s s' h hs=>by
          cases e with
          | normal =>
            obtain ⟨us,xs,a1,a2,a3⟩:=ahc hs h
            cases a1
          | _ =>
            obtain ⟨m,us,xs,a1,a2,a3⟩:=aiK hs h
            cases a1
            exact ⟨_,a3 _ _,rfl,a2⟩)
       simp only at k5
       obtain ⟨rfl,k5⟩:=k5
       refine ⟨ys,hp',?_,k5⟩
       rw [hlq,k3,k4]
     | @more n0 vs0 H0 vs1 H1 res0 hB _ ih =>
       intro hsv
       obtain ⟨s,s',k1,k2,k3⟩:=ahF hsv hB
       obtain ⟨⟨o,ys,hp'⟩,k4,k5⟩:=S9 ht hT hcall hlp hlq a (K':=fun e st=>match e with
        | .normal=>P4 li.ks st fun vs hp=>some (none,vs,hp)
        | e=>aaN li.outs e st fun n vs hp=>some (some n,vs,hp)) (Q:=fun q=>q.1=none/\aeA X E vs1 H1 q.2.1 q.2.2) k2 k1 (fun e s s' h hs=>by
          cases e with
          | normal =>
            obtain ⟨us,xs,a1,a2,a3⟩:=ahc hs h
            cases a1
            exact ⟨_,a3 _ _,rfl,a2⟩
          | _ =>
            obtain ⟨m,us,xs,a1,a2,a3⟩:=aiK hs h
            cases a1)
       simp only at k5
       obtain ⟨rfl,k5⟩:=k5
       obtain ⟨zs,hp2,k6,k7⟩:=ih k5
       refine ⟨zs,hp2,?_,k7⟩
       rw [hlq,k3,k4]
       exact k6
    obtain ⟨ys,hp',k1,k2⟩:=loop hm h2
    obtain ⟨e,s2,s2',k3,k4,k5⟩:=apu k2 h5
    obtain ⟨r',q1,q2⟩:=hK _ _ _ k3 k4
    exact ⟨r',(congrArg (fun (o:Option (Nat × List Value × Heap))=>o.bind fun q=>inK li.outs q.1 q.2.1 q.2.2 K') k1).trans ((k5 R' K').trans q1),q2⟩
 | .rangeFunc ..,R,R',r,Q,s,s',K,K',hs,h,hK=>by cases h
 | .scope ..,R,R',r,Q,s,s',K,K',hs,h,hK=>by cases h
 | .label ..,R,R',r,Q,s,s',K,K',hs,h,hK=>by cases h
 | .goto ..,R,R',r,Q,s,s',K,K',hs,h,hK=>by cases h
 | .refuse ..,R,R',r,Q,s,s',K,K',hs,h,hK=>by cases h
theorem aga (ht:Twin X Y) (hT:abz X) {w:Wd} {R R':Type} {r:R} {Q:R'->Prop} {s':St}:∀ {rs:List ResultVar} {s:VS} {cx:j6} {K:List V->VS->Option R} {K':List Value->Option R'},F6 X E w s s' cx->ac4 X rs s K=some r →
 (∀ vs s2 xs c,K vs s2=some r->j0 w vs xs c->F6 X E w s2 s' (fun i=>cx i+c i)->∃ r',K' xs=some r'/\Q r')->∃ r',L5 Y rs s' K'=some r'/\Q r'
 | [],s,cx,K,K',hs,h,hK=>hK [] s [] (fun _=>0) h (by simp [j0]) (hs.less (by simp))
 | .tmp t::l,s,cx,K,K',hs,h,hK=>by
   simp only [ac4] at h
   simp only [L5]
   obtain ⟨v,x,c,h1,h2,h3,h4⟩:=acY ht hs h
   have hl:look s'.env t=some (.val x):=by
    have:=h4 Value (fun v=>some v)
    simp only [G0,evK] at this
    cases e:look s'.env t with
    | none=>rw [e] at this; cases this
    | some q =>
      rw [e] at this
      cases q<;>simp only at this<;>first | (cases this; done) | skip
      cases this; rfl
   simp only [hl]
   exact aga ht hT h3 h1 fun vs s2 xs d k1 k2 k3=>hK (v::vs) s2 (x::xs) (fun i=>c i+d i) k1 ⟨x,xs,c,d,rfl,h2,k2,by simp⟩ (k3.less (fun i=>by omega))
 | .cell a t::l,s,cx,K,K',hs,h,hK=>by
   simp only [ac4] at h
   simp only [L5]
   rw [ht.tab]
   split at h
   ·rename_i ti hti
    simp only [hti]
    obtain ⟨ce,cl,ch,g⟩:=hs
    split at h
    ·rename_i k hl
     obtain ⟨x,c1,c2,h1,h2,_,_⟩:=g.env.look hl
     cases x<;>simp only [RE] at h2
     obtain ⟨rfl,rfl,_⟩:=h2
     simp only [h1]
     split at h
     ·rename_i cs hcs
      obtain ⟨ws,d1,d2,k1,k2,k3,k4⟩:=g.loc.look hcs
      simp only [k1]
      split at h
      ·rename_i hb
       have hb':Nat.beq ws.length ti.size=true:=by rw [<-k2.len]; exact hb
       simp only [hb']
       have hset:=k4 _ _ _ (j0.strip _ k2)
       rw [aic k1] at hset
       have hst:F6 X E w { s with loc:=P6 s.loc k (l8 cs) } s' (fun i=>cx i+d1 i):=by
        refine ⟨ce,fun i=>0+d2 i,ch,g.hp,g.hw,g.gl,g.fr,g.env,hset,fun j hj=>g.aa8 j (aeJ hj),g.obj,fun i=>?_,fun i hi=>?_,fun i hi=>?_⟩
        ·have:=g.N0 i; have:=k3 i; omega
        ·have:=g.Q2 i hi; have:=k3 i; omega
        ·have:=g.N9 i hi; have:=k3 i; omega
       split at h
       ·rename_i hag
        simp only [hag]
        exact aga ht hT hst h fun vs s2 xs d q1 q2 q3=>hK (.agg cs::vs) s2 (.agg ws.toArray::xs) (fun i=>d1 i+d i) q1 ⟨_,xs,d1,d,rfl,by simp only [RV]; exact ⟨ws,rfl,k2⟩,q2,by simp⟩ (q3.less (fun i=>by omega))
       ·rename_i hag
        simp only [hag]
        split at h
        ·rename_i v
         simp only [j0] at k2
         obtain ⟨x,ys,e1,e2,rfl,m1,⟨rfl,m2⟩,m3⟩:=k2
         simp only
         exact aga ht hT hst h fun vs s2 xs d q1 q2 q3=>hK (v::vs) s2 (x::xs) (fun i=>d1 i+d i) q1 ⟨x,xs,d1,d,rfl,m1.congr (fun i=>by rw [m3,m2]; rfl),q2,by simp⟩ (q3.less (fun i=>by omega))
        ·cases h
      ·cases h
     ·cases h
    ·rename_i k off hl
     obtain ⟨x,c1,c2,h1,h2,_,_⟩:=g.env.look hl
     cases x<;>simp only [RE] at h2
     simp only [RV] at h2
     obtain ⟨⟨b,hb1,rfl⟩,_⟩:=h2
     simp only [h1]
     split at h
     ·rename_i cs hcs
      obtain ⟨⟨v,cs2⟩,hld,h⟩:=b7 h
      obtain ⟨b',kb,d1,d2,g1,g2,g3,g4,g5,o2⟩:=g.obj.get hcs (aoi hld (hT.pos _ _ hti))
      rw [hb1] at g1; cases g1
      obtain ⟨z,e1,e2,k1,k2,k3,k4⟩:=ajR hld g3
      have hload:abw s'.hp ti.agg ti.size (.pointer (some ⟨b,off,none⟩))=some z:=by
       simp only [abw,g.hp,A7 g2 (by rw [o2]; simp),Option.bind_some]; exact k1
      simp only [hload,Option.bind_some]
      have hst:F6 X E w { s with H:=s.H.set k cs2 } s' (fun i=>cx i+e1 i):=by
       refine ⟨ce,cl,fun i=>e2 i+d2 i,g.hp,g.hw,g.gl,g.fr,g.env,g.loc,g.aa8,g5 cs2 e2 k3,fun i=>?_,fun i hi=>?_,fun i hi=>?_⟩
       ·have:=g.N0 i; have:=g4 i; have:=k4 i; omega
       ·have:=g.Q2 i hi; have:=g4 i; have:=k4 i; omega
       ·have:=g.N9 i hi; have:=g4 i; have:=k4 i; omega
      exact aga ht hT hst h fun vs s2 xs d q1 q2 q3=>hK (v::vs) s2 (z::xs) (fun i=>e1 i+d i) q1 ⟨z,xs,e1,d,rfl,k2,q2,by simp⟩ (q3.less (fun i=>by omega))
     ·cases h
    ·cases h
   ·cases h
theorem aoa {w:Wd}:∀ {args:List V} {xs:List Value} {i:Nat} {pre:List (Nat × EV)} {c:j6},j0 w args xs c->(∀ j,i<=j->look pre j=none)->D9 w (afc i args) (pre++abl i xs) c
 | [],xs,i,pre,c,h,hp=>by simp only [j0] at h; simp only [afc,D9]; exact h.2
 | v::args,xs,i,pre,c,h,hp=>by
   simp only [j0] at h
   obtain ⟨x,ys,c1,c2,rfl,h1,h2,h3⟩:=h
   have hpre:∀ {m:List (Nat × EV)} {t:Nat} {pre:List (Nat × EV)},look pre t=none->look (pre++m) t=look m t:=by
    intro m t pre
    induction pre with
    | nil=>intro _; rfl
    | cons a pre ih2 =>
      intro hh
      obtain ⟨a1,a2⟩:=a
      rw [j9] at hh
      split at hh
      ·cases hh
      ·rename_i hq
       simp only [List.cons_append]
       rw [j9,if_neg hq]; exact ih2 hh
   simp only [afc,D9]
   refine ⟨.val x,c1,c2,?_,by simp only [RE]; exact h1,?_,h3⟩
   ·rw [hpre (hp i (Nat.le_refl _))]
    simp only [abl]
    rw [j9,if_pos rfl]
   ·have e:pre++abl i (x::ys)=(pre++[(i,EV.val x)])++abl (i+1) ys:=by simp [abl]
    rw [e]
    refine aoa h2 fun j hj=>?_
    rw [hpre (hp j (by omega)),j9,if_neg (by omega)]; rfl
def at0 (X:XV) (E:En) (r:V) (H':VH) (q:Value × Heap):Prop :=
 ∃ (w2:Wd) (cr ch':j6),q.2=w2.hp/\HW w2/\I2 X w2/\E2 E w2/\RV w2 r q.1 cr/\y2 w2 H' w2.j2 ch'/\(∀ i,cr i+ch' i<=1)/\(∀ i,i<E.hp.length->cr i+ch' i<=E.c0 i)/\(∀ i,w2.hp.length<=i->cr i+ch' i=0)
theorem auJ (ht:Twin X Y) (hT:abz X) (hcall:∀ f args H r H',X.call f args H=some (r,H')->E3 X Y.call f args H r H') (hlp:arD X.lp) (hlq:aw4 Y.lp)
 {f:FuncId} {args:List V} {H H':VH} {r:V} (h:adR X f args H=some (r,H')):E3 X (ab7 Y) f args H r H':=by
 intro w args' ca ch hw hg hv ho hle hbig
 unfold adR at h
 unfold ab7
 rw [ht.fn,ht.H7]
 split at h
 ·cases h
 ·rename_i fn hfn
  simp only [hfn]
  split at h
  ·cases h
  ·rename_i c hc
   simp only [hc]
   split at h
   ·rename_i hd
    simp only [hd]
    have hfr:E2 ⟨w.hp,w.j2,w.fb,fun i=>ca i+ch i⟩ w:=by
     refine ⟨Nat.le_refl _,fun _ _ h _ _=>h,fun b k hk _=>⟨k,hk,rfl,rfl,rfl,.inl rfl⟩,fun c k hc hk=>?_,⟨[],by simp,by simp⟩,⟨[],by simp,by simp⟩,fun b k hb hk=>?_,fun b kb hk=>⟨kb,hk,rfl,rfl⟩,hw.rlt,hw.j3⟩
     ·have:=(List.getElem?_eq_some_iff.1 hk).1; simp only at hc; omega
     ·simp only at hb
      by_cases q:1<=ca b
      ·obtain ⟨_,_,kb,a1,_,a3⟩:=j0.owned _ hv b q
       have a1':=(k9 a1).1
       rw [hk] at a1'; cases a1'; exact a3
      ·obtain ⟨kb,a1,a3⟩:=y2.aie ho b (by omega)
       rw [hk] at a1; cases a1; exact a3
    have henv:D9 w (afc 0 args) (abl 0 args') ca:=by
     have:=aoa (pre:=[]) (i:=0) hv (fun _ _=>rfl)
     simpa using this
    have hst:St0 X ⟨w.hp,w.j2,w.fb,fun i=>ca i+ch i⟩ ⟨afc 0 args,[],H⟩ ⟨abl 0 args',[],w.hp⟩ :=
     ⟨w,ca,fun _=>0,ch,rfl,hw,hg,hfr,henv,by simp [M3],fun _ _=>rfl,ho,fun i=>by have:=hle i; omega,fun i hi=>by simp,fun i hi=>by have:=hbig i hi; omega⟩
    obtain ⟨⟨x,hp2⟩,h1,w2,cr,ch',q2,p2,q3,q4,q5,q6,q7,q8,q9⟩:=S9 ht hT hcall hlp hlq c (Y:=Y) (K':=fun e st=>match e with
     | .normal | .ret=>L5 Y fn.results.toList st fun vs=>some (one vs,st.hp)
     | _=>none) (Q:=at0 X ⟨w.hp,w.j2,w.fb,fun i=>ca i+ch i⟩ r H') hst h (fun e s s' h hs=>by
       have fin:ac4 X fn.results.toList s (fun vs st=>some (apq vs,st.H))=some (r,H')->∃ r',(L5 Y fn.results.toList s' fun vs=>some (one vs,s'.hp))=some r'/\at0 X ⟨w.hp,w.j2,w.fb,fun i=>ca i+ch i⟩ r H' r':=by
        intro h
        obtain ⟨w2,hs⟩:=hs
        refine aga ht hT hs h fun vs s2 xs c k1 k2 k3=>?_
        cases k1
        obtain ⟨ce,cl,ch2,g⟩:=k3
        refine ⟨_,rfl,w2,c,ch2,g.hp,g.hw,g.gl,g.fr,?_,g.obj,fun i=>by have:=g.N0 i; omega,fun i hi=>by have:=g.Q2 i hi; show c i+ch2 i<=ca i+ch i; simp only at this; omega,fun i hi=>by have:=g.N9 i hi; omega⟩
        have hl:=k2.len
        match vs,xs,k2,hl with
        | [],[],k2,_=>simp only [apq,one,RV]; exact ⟨[],rfl,k2⟩
        | [v],[x],k2,_ =>
          simp only [j0] at k2
          obtain ⟨x',ys,e1,e2,h1,m1,⟨rfl,m2⟩,m3⟩:=k2
          cases h1
          exact m1.congr (fun i=>by rw [m3,m2]; rfl)
        | a::b::l,x::y::m,k2,_=>simp only [apq,one,RV]; exact ⟨_,rfl,k2⟩
       cases e<;>simp only at h ⊢<;>first | exact fin h | cases h)
    simp only at q2
    subst q2
    exact ⟨x,w2,cr,ch',h1,p2,q3,q4,q5,q6,q7,q8,q9⟩
   ·cases h
end
end Go.AM

/- What an operation of the machine of values asks of the calls behind it. -/
namespace Go.AM
set_option linter.unusedSimpArgs false
set_option linter.unusedVariables false
def XV.over (X:XV) (call:y6) (lp:W0):XV:={ X with call:=call,lp:=lp }
section
variable {R:Type} {X:XV} {st:VS} {r:R}
theorem ab9 {x:Operand} {K:VE->Option R} (h:evV X st x K=some r):∃ e,K e=some r/\∀ (c:y6) (l:W0) (R':Type) (K':VE->Option R'),evV (X.over c l) st x K'=K' e:=by
 cases x with
 | tmp t =>
   simp only [evV] at h
   cases e:look st.env t with
   | none=>rw [e] at h; cases h
   | some e'=>rw [e] at h; exact ⟨e',h,fun c l R' K'=>by simp only [evV,e]⟩
 | const v =>
   simp only [evV] at h
   split at h
   ·exact ⟨_,h,fun c l R' K'=>rfl⟩
   ·rename_i hv
    split at h
    ·rename_i hp
     refine ⟨_,h,fun c l R' K'=>?_⟩
     simp only [evV,hp]
    ·cases h
 | global g =>
   simp only [evV] at h
   cases e:Nat.blt g X.ng with
   | true=>rw [e] at h; exact ⟨_,h,fun c l R' K'=>by show evV _ _ _ _=_; simp only [evV,XV.over,e]⟩
   | false=>rw [e] at h; cases h
 | func f=>exact ⟨_,h,fun c l R' K'=>rfl⟩
theorem E9 {x:Operand} {K:V->Option R} (h:L9 X st x K=some r):∃ v,K v=some r/\∀ (c:y6) (l:W0) (R':Type) (K':V->Option R'),L9 (X.over c l) st x K'=K' v:=by
 obtain ⟨e,hk,he⟩:=ab9 h
 cases e with
 | val v=>exact ⟨v,hk,fun c l R' K'=>by unfold L9; rw [he]⟩
 | fl xs=>exact ⟨_,hk,fun c l R' K'=>by unfold L9; rw [he]⟩
 | loc k o=>cases hk
 | E6=>cases hk
theorem afL {x:Operand} {K:V->VS->Option R} (h:vtV X st x K=some r):∃ v,K v (used st x)=some r/\∀ (c:y6) (l:W0) (R':Type) (K':V->VS->Option R'),vtV (X.over c l) st x K'=K' v (used st x):=by
 obtain ⟨v,h1,h2⟩:=E9 (K:=fun v=>K v (used st x)) h
 exact ⟨v,h1,fun c l R' K'=>h2 c l R' fun v=>K' v (used st x)⟩
theorem agl:∀ {xs:List Operand} {K:List V->Option R},afV X st xs K=some r->∃ vs,K vs=some r/\∀ (c:y6) (l:W0) (R':Type) (K':List V->Option R'),afV (X.over c l) st xs K'=K' vs
 | [],K,h=>⟨[],h,fun _ _ _ _=>rfl⟩
 | x::xs,K,h=>by
   obtain ⟨v,h,hv⟩:=E9 h
   obtain ⟨vs,h,hvs⟩:=agl h
   exact ⟨v::vs,h,fun c l R' K'=>by simp only [afV,hv,hvs]⟩
theorem anT {x:Option Operand} {K:Option V->Option R} (h:voV X st x K=some r):∃ v,K v=some r/\∀ (c:y6) (l:W0) (R':Type) (K':Option V->Option R'),voV (X.over c l) st x K'=K' v:=by
 cases x with
 | none=>exact ⟨none,h,fun _ _ _ _=>rfl⟩
 | some x =>
   obtain ⟨v,h,hv⟩:=E9 h
   exact ⟨some v,h,fun c l R' K'=>by simp only [voV,hv]⟩
theorem amR {mv:List Nat}:∀ {xs:List Operand} {i:Nat} {st:VS} {K:List V->VS->Option R},adQ X mv i xs st K=some r->∃ vs s2,K vs s2=some r/\∀ (c:y6) (l:W0) (R':Type) (K':List V->VS->Option R'),adQ (X.over c l) mv i xs st K'=K' vs s2
 | [],i,st,K,h=>⟨[],st,h,fun _ _ _ _=>rfl⟩
 | x::xs,i,st,K,h=>by
   simp only [adQ] at h
   obtain ⟨v,h,hv⟩:=E9 h
   split at h
   ·rename_i hm
    obtain ⟨vs,s2,h,hvs⟩:=amR h
    exact ⟨v::vs,s2,h,fun c l R' K'=>by simp only [adQ,hv,hm,hvs]⟩
   ·rename_i hm
    obtain ⟨vs,s2,h,hvs⟩:=amR h
    exact ⟨strip v::vs,s2,h,fun c l R' K'=>by simp only [adQ,hv,hm,hvs]⟩
theorem aiI {agg:Bool} {n:Nat} {v:V} {K:List V->Option R} (h:aaA agg n v K=some r):∃ cs,K cs=some r/\∀ (R':Type) (K':List V->Option R'),aaA agg n v K'=K' cs:=by
 cases agg with
 | true =>
   simp only [aaA] at h
   obtain ⟨cs,h1,h⟩:=b7 h
   exact ⟨_,h,fun R' K'=>by simp only [aaA,h1,Option.bind_some]⟩
 | false =>
   simp only [aaA] at h
   obtain ⟨u,h1,h⟩:=b7 h
   exact ⟨_,h,fun R' K'=>by simp only [aaA,h1,Option.bind_some]⟩
theorem afx {place:Nat->Option (Nat × Nat × Bool)}:∀ {ps:List (Nat × Operand)} {cells:List V} {st:VS} {K:List V->VS->Option R},ab4 X place ps cells st K=some r →
 ∃ cs s2,K cs s2=some r/\∀ (c:y6) (l:W0) (R':Type) (K':List V->VS->Option R'),ab4 (X.over c l) place ps cells st K'=K' cs s2
 | [],cells,st,K,h=>⟨cells,st,h,fun _ _ _ _=>rfl⟩
 | (i,x)::rest,cells,st,K,h=>by
   simp only [ab4] at h
   cases e:place i with
   | none=>rw [e] at h; cases h
   | some p =>
     obtain ⟨off,n,agg⟩:=p
     rw [e] at h
     simp only at h
     cases hb:Nat.ble (off+n) cells.length with
     | false=>rw [hb] at h; cases h
     | true =>
       rw [hb] at h
       obtain ⟨v,h,hv⟩:=afL h
       obtain ⟨cs,h,hcs⟩:=aiI h
       cases hb2:Nat.ble (off+cs.length) cells.length with
       | false=>rw [hb2] at h; cases h
       | true =>
         rw [hb2] at h
         obtain ⟨cells',s2,h,hp⟩:=afx h
         exact ⟨cells',s2,h,fun c l R' K'=>by simp only [ab4,e,hb,hv,hcs,hb2,hp]⟩
end
def awx (X:XV) (A:T8) (T:List Nat) (o:Oper) (st:VS) {R:Type} (K:VE->VS->D7->Option R) (r:R):Prop :=
 (∃ e s2 c,K e s2 c=some r/\∀ (cl:y6) (l:W0) (R':Type) (K':VE->VS->D7->Option R'),B8 (X.over cl l) A T o st K'=K' e s2 c) ∨
 (∃ (f:FuncId) (vs:List V) (s2:VS) (res:V × VH),X.call f vs s2.H=some res/\K (.val res.1) { s2 with H:=res.2 } .W=some r/\∀ (cl:y6) (l:W0) (R':Type) (K':VE->VS->D7->Option R'),B8 (X.over cl l) A T o st K'=(cl f vs s2.H).bind fun r=>K' (.val r.1) { s2 with H:=r.2 } .W) ∨
 (∃ (f:FuncId) (vs:List V) (res:V × VH) (e:VE) (s2:VS) (c:D7),X.call f vs []=some res/\K e s2 c=some r/\∀ (cl:y6) (l:W0) (R':Type) (K':VE->VS->D7->Option R'),cl f vs []=some res->B8 (X.over cl l) A T o st K'=K' e s2 c)
theorem adW {c:y6} {f:FuncId} {vs:List V} {v:V} (h:M0 c f vs=some v):∃ res,c f vs []=some res/\∀ c':y6,c' f vs []=some res->M0 c' f vs=some v:=by
 unfold M0 at h ⊢
 split at h
 ·rename_i hn
  obtain ⟨res,h1,h2⟩:=b7 h
  exact ⟨res,h1,fun c' h3=>by rw [h3]; exact h2⟩
 ·cases h
theorem akA {c:y6} {f:FuncId} {vs:List V} {v:V} (h:W7 c f vs=some v):∃ res,c f vs []=some res/\∀ c':y6,c' f vs []=some res->W7 c' f vs=some v:=by
 unfold W7 at h ⊢
 split at h
 ·rename_i hn
  obtain ⟨res,h1,h2⟩:=b7 h
  exact ⟨res,h1,fun c' h3=>by rw [h3]; exact h2⟩
 ·cases h
theorem ar4 {c:y6} {f:FuncId} {H:VH} {vs:List V} {v:V} (h:K5 c f H vs=some v):∃ az res,c f az []=some res/\∀ c':y6,c' f az []=some res->K5 c' f H vs=some v:=by
 unfold K5 at h
 split at h
 ·rename_i hn
  obtain ⟨res,h1,h2⟩:=adW h
  exact ⟨_,res,h1,fun c' h3=>by unfold K5; rw [hn]; exact h2 c' h3⟩
 ·rename_i hn
  obtain ⟨res,h1,h2⟩:=adW h
  exact ⟨_,res,h1,fun c' h3=>by unfold K5; rw [hn]; exact h2 c' h3⟩
theorem arL {c:y6} {f:FuncId} {H:VH} {vs:List V} {v:V} (h:adD c f H vs=some v):∃ az res,c f az []=some res/\∀ c':y6,c' f az []=some res->adD c' f H vs=some v:=by
 unfold adD at h
 obtain ⟨res,h1,h2⟩:=adW h
 exact ⟨_,res,h1,fun c' h3=>by unfold adD; exact h2 c' h3⟩
theorem atn {c:y6} {f:FuncId} {H:VH} {vs:List V} {v:V} (h:V4 c f H vs=some v):∃ az res,c f az []=some res/\∀ c':y6,c' f az []=some res->V4 c' f H vs=some v:=by
 unfold V4 at h
 split at h
 ·rename_i hn
  obtain ⟨res,h1,h2⟩:=akA h
  exact ⟨_,res,h1,fun c' h3=>by unfold V4; rw [hn]; exact h2 c' h3⟩
 ·rename_i hn
  obtain ⟨u,hu,h⟩:=b7 h
  obtain ⟨res,h1,h2⟩:=akA hu
  exact ⟨_,res,h1,fun c' h3=>by unfold V4; rw [hn]; simp only [h2 c' h3,Option.bind_some]; exact h⟩
theorem asP {u:Bool} {c:y6} {f:FuncId} {H:VH} {vs:List V} {v:V} (h:aib u c f H vs=some v):∃ az res,c f az []=some res/\∀ c':y6,c' f az []=some res->aib u c' f H vs=some v:=by
 cases u with
 | false=>exact atn h
 | true =>
   simp only [aib,ak2] at h ⊢
   split at h
   ·rename_i hn
    obtain ⟨res,h1,h2⟩:=b7 h
    exact ⟨_,res,h1,fun c' h3=>by rw [h3]; exact h2⟩
   ·cases h
theorem atJ {c:y6} {f:FuncId} {H:VH} {vs:List V} {v:V × VH} (h:aaa c f H vs=some v):∃ az res,c f az []=some res/\∀ c':y6,c' f az []=some res->aaa c' f H vs=some v:=by
 unfold aaa at h ⊢
 split at h
 ·obtain ⟨res,h1,h2⟩:=b7 h
  exact ⟨_,res,h1,fun c' h3=>by rw [h3]; exact h2⟩
 ·cases h
theorem aoz {R:Type} {d:Nat} {v:V} {H:VH} {K:V->VH->Option R} {r:R} (h:adS d v H K=some r):K (prom d H v).1 (prom d H v).2=some r/\∀ (R':Type) (K':V->VH->Option R'),adS d v H K'=K' (prom d H v).1 (prom d H v).2:=by
 unfold adS at h ⊢
 split at h
 ·rename_i ho
  exact ⟨h,fun R' K'=>rfl⟩
 ·cases h
section
variable {X:XV} {A:T8} {T:List Nat} {R:Type} {K:VE->VS->D7->Option R} {r:R} {o:Oper} {st:VS}
theorem s9 (X:XV) (c:y6) (l:W0):(X.over c l).tab=X.tab:=rfl
theorem O4 (X:XV) (c:y6) (l:W0):(X.over c l).kind=X.kind:=rfl
theorem ats (X:XV) (c:y6) (l:W0):(X.over c l).ext=X.ext:=rfl
theorem auZ (X:XV) (c:y6) (l:W0):(X.over c l).mv=X.mv:=rfl
theorem al1 (X:XV) (c:y6) (l:W0):(X.over c l).I1=X.I1:=rfl
theorem L8 (X:XV) (c:y6) (l:W0):(X.over c l).call=c:=rfl
set_option maxHeartbeats 4000000 in
theorem aub (h:B8 X A T o st K=some r):awx X A T o st K r:=by
 unfold B8 at h
 cases hop:o.op with
 | move x =>
   simp only [hop] at h
   split at h
   ·rename_i ht
    obtain ⟨e,h,he⟩:=ab9 h
    exact .inl ⟨_,_,_,h,fun cl l R' K'=>by unfold B8; simp only [hop,ht,he]⟩
   ·rename_i ht
    obtain ⟨e,h,he⟩:=ab9 h
    exact .inl ⟨_,_,_,h,fun cl l R' K'=>by unfold B8; simp only [hop,ht,he]⟩
 | assign x =>
   simp only [hop] at h
   split at h
   ·rename_i ht
    obtain ⟨e,h,he⟩:=ab9 h
    exact .inl ⟨_,_,_,h,fun cl l R' K'=>by unfold B8; simp only [hop,ht,he]⟩
   ·rename_i ht
    obtain ⟨e,h,he⟩:=ab9 h
    exact .inl ⟨_,_,_,h,fun cl l R' K'=>by unfold B8; simp only [hop,ht,he]⟩
 | pick c x y =>
   simp only [hop] at h
   obtain ⟨vc,h,hc⟩:=E9 h
   obtain ⟨ex,h,hx⟩:=ab9 h
   obtain ⟨ey,h,hy⟩:=ab9 h
   split at h
   ·rcases acz h with ⟨rfl,h⟩ | ⟨rfl,h⟩
    ·cases h
    ·exact .inl ⟨_,_,_,h,fun cl l R' K'=>by unfold B8; simp only [hop,hc,hx,hy,j8]⟩
   ·rcases acz h with ⟨rfl,h⟩ | ⟨rfl,h⟩
    ·exact .inl ⟨_,_,_,h,fun cl l R' K'=>by unfold B8; simp only [hop,hc,hx,hy,j8]⟩
    ·cases h
   ·obtain ⟨v,hv,h⟩:=b7 h
    exact .inl ⟨_,_,_,h,fun cl l R' K'=>by unfold B8; simp only [hop,hc,hx,hy,hv,Option.bind_some]⟩
   ·cases h
 | alloc elem =>
   simp only [hop] at h
   split at h
   ·rename_i ti d ht hd
    split at h
    ·rename_i hm
     split at h
     ·rename_i hl
      exact .inl ⟨_,_,_,h,fun cl l R' K'=>by unfold B8; simp only [hop,s9,ht,hd,hm,hl]⟩
     ·cases h
    ·rename_i hm
     exact .inl ⟨_,_,_,h,fun cl l R' K'=>by unfold B8; simp only [hop,s9,ht,hd,hm]⟩
   ·cases h
 | box elem x =>
   simp only [hop] at h
   split at h
   ·rename_i ti d ht hd
    obtain ⟨v,h,hv⟩:=afL h
    obtain ⟨cs,h,hcs⟩:=aiI h
    split at h
    ·rename_i hm
     split at h
     ·rename_i hl
      exact .inl ⟨_,_,_,h,fun cl l R' K'=>by unfold B8; simp only [hop,s9,ht,hd,hm,hl,hv,hcs]⟩
     ·cases h
    ·rename_i hm
     exact .inl ⟨_,_,_,h,fun cl l R' K'=>by unfold B8; simp only [hop,s9,ht,hd,hm,hv,hcs]⟩
   ·cases h
 | build t parts =>
   simp only [hop] at h
   split at h
   ·rename_i ht
    obtain ⟨cells',s2,h,hp⟩:=afx h
    exact .inl ⟨_,_,_,h,fun cl l R' K'=>by unfold B8; simp only [hop,s9,ht,hp]⟩
   ·rename_i ht
    obtain ⟨cells',s2,h,hp⟩:=afx h
    exact .inl ⟨_,_,_,h,fun cl l R' K'=>by unfold B8; simp only [hop,s9,ht,hp]⟩
   ·cases h
 | buildSlice t len parts =>
   simp only [hop] at h
   split at h
   ·rename_i ht
    split at h
    ·rename_i te hte
     split at h
     ·rename_i hb
      obtain ⟨cells',s2,h,hp⟩:=afx h
      exact .inl ⟨_,_,_,h,fun cl l R' K'=>by unfold B8; simp only [hop,s9,ht,hte,hb,hp]⟩
     ·cases h
    ·cases h
   ·cases h
 | load t x =>
   simp only [hop] at h
   split at h
   ·rename_i ti ht
    obtain ⟨e,h,he⟩:=ab9 h
    split at h
    ·split at h
     ·rename_i cs hk
      obtain ⟨c,hc,h⟩:=b7 h
      exact .inl ⟨_,_,_,h,fun cl l R' K'=>by unfold B8; simp only [hop,s9,ht,he,hk,hc,Option.bind_some]⟩
     ·cases h
    ·obtain ⟨c,hc,h⟩:=b7 h
     exact .inl ⟨_,_,_,h,fun cl l R' K'=>by unfold B8; simp only [hop,s9,al1,ht,he,hc,Option.bind_some]⟩
    ·cases h
   ·cases h
 | store t x y =>
   simp only [hop] at h
   split at h
   ·rename_i ti ht
    obtain ⟨e,h,he⟩:=ab9 h
    obtain ⟨v,h,hv⟩:=afL h
    obtain ⟨cs,h,hcs⟩:=aiI h
    split at h
    ·split at h
     ·rename_i y3 hk
      split at h
      ·rename_i hb
       exact .inl ⟨_,_,_,h,fun cl l R' K'=>by unfold B8; simp only [hop,s9,ht,he,hv,hcs,hk,hb]⟩
      ·cases h
     ·cases h
    ·obtain ⟨H2,hh,h⟩:=b7 h
     exact .inl ⟨_,_,_,h,fun cl l R' K'=>by unfold B8; simp only [hop,s9,ht,he,hv,hcs,hh,Option.bind_some]⟩
    ·cases h
   ·cases h
 | nilCheck x =>
   simp only [hop] at h
   obtain ⟨e,h,he⟩:=ab9 h
   split at h
   ·exact .inl ⟨_,_,_,h,fun cl l R' K'=>by unfold B8; simp only [hop,he]⟩
   ·obtain ⟨v,hv,h⟩:=b7 h
    exact .inl ⟨_,_,_,h,fun cl l R' K'=>by unfold B8; simp only [hop,he,hv,Option.bind_some]⟩
   ·cases h
 | binOp op t x y yt =>
   simp only [hop] at h
   split at h
   ·rename_i ti ht
    split at h
    ·rename_i hn
     obtain ⟨a,h,ha⟩:=E9 h
     obtain ⟨v,hv,h⟩:=b7 h
     exact .inl ⟨_,_,_,h,fun cl l R' K'=>by unfold B8; simp only [hop,s9,ht,hn,ha,hv,Option.bind_some]⟩
    ·rename_i hn
     obtain ⟨a,h,ha⟩:=E9 h
     obtain ⟨b,h,hb⟩:=E9 h
     obtain ⟨v,hv,h⟩:=b7 h
     exact .inl ⟨_,_,_,h,fun cl l R' K'=>by unfold B8; simp only [hop,s9,ht,hn,ha,hb,hv,Option.bind_some]⟩
   ·cases h
 | unOp op t x =>
   simp only [hop] at h
   obtain ⟨a,h,ha⟩:=E9 h
   obtain ⟨v,hv,h⟩:=b7 h
   exact .inl ⟨_,_,_,h,fun cl l R' K'=>by unfold B8; simp only [hop,ha,hv,Option.bind_some]⟩
 | convert src dst x =>
   simp only [hop] at h
   split at h
   ·rename_i ts td hts htd
    obtain ⟨va,h,ha⟩:=E9 h
    split at h
    ·rename_i k k' hk hk'
     obtain ⟨v,hv,h⟩:=b7 h
     exact .inl ⟨_,_,_,h,fun cl l R' K'=>by unfold B8; simp only [hop,s9,hts,htd,ha,hk,hk',hv,Option.bind_some]⟩
    ·rename_i hk hk'
     obtain ⟨v,hv,h⟩:=b7 h
     exact .inl ⟨_,_,_,h,fun cl l R' K'=>by unfold B8; simp only [hop,s9,hts,htd,ha,hk,hk',hv,Option.bind_some]⟩
    ·rename_i hk hk'
     split at h
     ·rename_i hte
      obtain ⟨v,hv,h⟩:=b7 h
      exact .inl ⟨_,_,_,h,fun cl l R' K'=>by unfold B8; simp only [hop,s9,hts,htd,ha,hk,hk',hte,hv,Option.bind_some]⟩
     ·cases h
    ·rename_i hk hk'
     split at h
     ·rename_i hte
      obtain ⟨v,hv,h⟩:=b7 h
      exact .inl ⟨_,_,_,h,fun cl l R' K'=>by unfold B8; simp only [hop,s9,hts,htd,ha,hk,hk',hte,hv,Option.bind_some]⟩
     ·cases h
    ·cases h
   ·cases h
 | makeFunc fn first captured =>
   simp only [hop] at h
   cases hz:first.size with
   | zero =>
     simp only [hz] at h
     split at h
     ·obtain ⟨vs,h,hvs⟩:=agl h
      exact .inl ⟨_,_,_,h,fun cl l R' K'=>by unfold B8; simp only [hop,hz,hvs]⟩
     ·cases h
   | succ n=>simp only [hz] at h; cases h
 | makeSlice t l c =>
   simp only [hop] at h
   split at h
   ·rename_i ht
    obtain ⟨vl,h,hl⟩:=E9 h
    obtain ⟨vc,h,hc⟩:=E9 h
    obtain ⟨n,hn,h⟩:=b7 h
    exact .inl ⟨_,_,_,h,fun cl l R' K'=>by unfold B8; simp only [hop,s9,ht,hl,hc,hn,Option.bind_some]⟩
   ·cases h
 | slice t x lo hi mx =>
   simp only [hop] at h
   split at h
   ·rename_i ht
    obtain ⟨v,h,hv⟩:=E9 h
    obtain ⟨l,h,hl⟩:=anT h
    obtain ⟨k,h,hk⟩:=anT h
    split at h
    ·obtain ⟨u,hu,h⟩:=b7 h
     exact .inl ⟨_,_,_,h,fun cl l R' K'=>by unfold B8; simp only [hop,s9,ht,hv,hl,hk,hu,Option.bind_some]⟩
    ·cases h
   ·rename_i ht
    obtain ⟨v,h,hv⟩:=E9 h
    split at h
    ·obtain ⟨l,h,hl⟩:=anT h
     obtain ⟨k,h,hk⟩:=anT h
     obtain ⟨u,hu,h⟩:=b7 h
     exact .inl ⟨_,_,_,h,fun cl l R' K'=>by unfold B8; simp only [hop,s9,ht,hv,hl,hk,hu,Option.bind_some]⟩
    ·obtain ⟨l,h,hl⟩:=E9 h
     obtain ⟨k,h,hk⟩:=E9 h
     obtain ⟨m,h,hm⟩:=E9 h
     obtain ⟨u,hu,h⟩:=b7 h
     exact .inl ⟨_,_,_,h,fun cl l R' K'=>by unfold B8; simp only [hop,s9,ht,hv,hl,hk,hm,hu,Option.bind_some]⟩
    ·cases h
   ·rename_i ht
    split at h
    ·obtain ⟨v,h,hv⟩:=E9 h
     obtain ⟨u,hu,h⟩:=b7 h
     exact .inl ⟨_,_,_,h,fun cl l R' K'=>by unfold B8; simp only [hop,s9,al1,ht,hv,hu,Option.bind_some]⟩
    ·cases h
   ·cases h
 | fieldAddr t x f =>
   simp only [hop] at h
   split at h
   ·rename_i ht
    split at h
    ·rename_i off n agg hf
     obtain ⟨e,h,he⟩:=ab9 h
     split at h
     ·exact .inl ⟨_,_,_,h,fun cl l R' K'=>by unfold B8; simp only [hop,s9,ht,hf,he]⟩
     ·obtain ⟨v,hv,h⟩:=b7 h
      exact .inl ⟨_,_,_,h,fun cl l R' K'=>by unfold B8; simp only [hop,s9,ht,hf,he,hv,Option.bind_some]⟩
     ·cases h
    ·cases h
   ·cases h
 | field t x f =>
   simp only [hop] at h
   split at h
   ·rename_i ht
    split at h
    ·rename_i off m agg hf
     obtain ⟨v,h,hv⟩:=E9 h
     obtain ⟨cs,hcs,h⟩:=b7 h
     split at h
     ·obtain ⟨c,hc,h⟩:=b7 h
      exact .inl ⟨_,_,_,h,fun cl l R' K'=>by unfold B8; simp only [hop,s9,ht,hf,hv,hcs,hc,Option.bind_some]⟩
     ·obtain ⟨c,hc,h⟩:=b7 h
      exact .inl ⟨_,_,_,h,fun cl l R' K'=>by unfold B8; simp only [hop,s9,ht,hf,hv,hcs,hc,Option.bind_some]⟩
    ·cases h
   ·cases h
 | indexAddr t x i =>
   simp only [hop] at h
   split at h
   ·rename_i ht
    obtain ⟨v,h,hv⟩:=E9 h
    obtain ⟨j,h,hj⟩:=E9 h
    obtain ⟨u,hu,h⟩:=b7 h
    exact .inl ⟨_,_,_,h,fun cl l R' K'=>by unfold B8; simp only [hop,s9,ht,hv,hj,hu,Option.bind_some]⟩
   ·rename_i ht
    obtain ⟨v,h,hv⟩:=E9 h
    obtain ⟨j,h,hj⟩:=E9 h
    obtain ⟨u,hu,h⟩:=b7 h
    exact .inl ⟨_,_,_,h,fun cl l R' K'=>by unfold B8; simp only [hop,s9,ht,hv,hj,hu,Option.bind_some]⟩
   ·cases h
 | index t x i =>
   simp only [hop] at h
   split at h
   ·rename_i ht
    obtain ⟨v,h,hv⟩:=E9 h
    obtain ⟨j,h,hj⟩:=E9 h
    obtain ⟨u,hu,h⟩:=b7 h
    exact .inl ⟨_,_,_,h,fun cl l R' K'=>by unfold B8; simp only [hop,s9,ht,hv,hj,hu,Option.bind_some]⟩
   ·rename_i ht
    obtain ⟨v,h,hv⟩:=E9 h
    obtain ⟨j,h,hj⟩:=E9 h
    obtain ⟨u,hu,h⟩:=b7 h
    exact .inl ⟨_,_,_,h,fun cl l R' K'=>by unfold B8; simp only [hop,s9,ht,hv,hj,hu,Option.bind_some]⟩
   ·cases h
 | extract x i =>
   simp only [hop] at h
   split at h
   ·rename_i t
    obtain ⟨v,h,hv⟩:=E9 h
    obtain ⟨u,hu,h⟩:=b7 h
    split at h
    ·rename_i hm
     exact .inl ⟨_,_,_,h,fun cl l R' K'=>by unfold B8; simp only [hop,hv,hu,hm,Option.bind_some]⟩
    ·rename_i hm
     exact .inl ⟨_,_,_,h,fun cl l R' K'=>by unfold B8; simp only [hop,hv,hu,hm,Option.bind_some]⟩
   ·cases h
 | call c =>
   simp only [hop] at h
   split at h
   ·rename_i hcal
    split at h
    ·rename_i x t hargs htys
     split at h
     ·rename_i ht
      obtain ⟨v,h,hv⟩:=E9 h
      obtain ⟨u,hu,h⟩:=b7 h
      exact .inl ⟨_,_,_,h,fun cl l R' K'=>by unfold B8; simp only [hop,s9,hcal,hargs,htys,ht,hv,hu,Option.bind_some]⟩
     ·rename_i ht
      obtain ⟨v,h,hv⟩:=E9 h
      obtain ⟨u,hu,h⟩:=b7 h
      exact .inl ⟨_,_,_,h,fun cl l R' K'=>by unfold B8; simp only [hop,s9,hcal,hargs,htys,ht,hv,hu,Option.bind_some]⟩
     ·cases h
    ·cases h
   ·rename_i hcal
    split at h
    ·rename_i x y hargs
     obtain ⟨v,h,hv⟩:=E9 h
     obtain ⟨u,h,hu⟩:=E9 h
     obtain ⟨m,hm,h⟩:=b7 h
     exact .inl ⟨_,_,_,h,fun cl l R' K'=>by unfold B8; simp only [hop,s9,hcal,hargs,hv,hu,hm,Option.bind_some]⟩
    ·cases h
   ·rename_i hcal
    split at h
    ·rename_i x y t u d hargs htys hdst
     split at h
     ·rename_i ht hu
      split at h
      ·rename_i b hku
       split at h
       ·rename_i hm
        obtain ⟨e,h,he⟩:=ab9 h
        obtain ⟨v,h,hv⟩:=afL h
        split at h
        ·obtain ⟨q,hq,h⟩:=b7 h
         exact .inl ⟨_,_,_,h,fun cl l R' K'=>by unfold B8; simp only [hop,s9,hcal,hargs,htys,hdst,ht,hu,hku,he,hv,hm,hq,Option.bind_some]⟩
        ·cases h
       ·rename_i hm
        split at h
        ·rename_i hfl
         obtain ⟨s,h,hs⟩:=afL h
         obtain ⟨v,h,hv⟩:=afL h
         obtain ⟨q,hq,h⟩:=b7 h
         rw [hdst] at hfl hq
         exact .inl ⟨_,_,_,h,fun cl l R' K'=>by unfold B8; simp only [hop,s9,hcal,hargs,htys,hdst,ht,hu,hku,hs,hv,hm,hfl,hq,Option.bind_some]⟩
        ·rename_i hfl
         obtain ⟨s,h,hs⟩:=afL h
         obtain ⟨v,h,hv⟩:=afL h
         obtain ⟨xs,hxs,h⟩:=b7 h
         obtain ⟨q,hq,h⟩:=b7 h
         rw [hdst] at hfl
         exact .inl ⟨_,_,_,h,fun cl l R' K'=>by unfold B8; simp only [hop,s9,hcal,hargs,htys,hdst,ht,hu,hku,hs,hv,hxs,hm,hfl,hq,Option.bind_some]⟩
      ·cases h
     ·cases h
    ·cases h
   ·rename_i f hcal
    split at h
    ·rename_i hk
     obtain ⟨vs,s2,h,hvs⟩:=amR h
     obtain ⟨q,hq,h⟩:=b7 h
     exact .inr (.inl ⟨_,_,_,_,hq,h,fun cl l R' K'=>by unfold B8; simp only [hop,hcal,auZ,hvs,O4,hk,L8]⟩)
    ·rename_i hk
     obtain ⟨vs,h,hvs⟩:=agl h
     split at h
     ·rename_i hfl
      split at h
      ·rename_i hf7
       obtain ⟨q,hq,h⟩:=b7 h
       obtain ⟨az,res,h1,h2⟩:=arL hq
       exact .inr (.inr ⟨_,_,_,_,_,_,h1,h,fun cl l R' K' h3=>by unfold B8; simp only [hop,hcal,hvs,O4,hk,L8,hfl,hf7,h2 cl h3,Option.bind_some]⟩)
      ·rename_i hf7
       obtain ⟨q,hq,h⟩:=b7 h
       obtain ⟨az,res,h1,h2⟩:=ar4 hq
       exact .inr (.inr ⟨_,_,_,_,_,_,h1,h,fun cl l R' K' h3=>by unfold B8; simp only [hop,hcal,hvs,O4,hk,L8,hfl,hf7,h2 cl h3,Option.bind_some]⟩)
     ·rename_i hfl
      obtain ⟨q,hq,h⟩:=b7 h
      obtain ⟨res,h1,h2⟩:=adW hq
      exact .inr (.inr ⟨_,_,_,_,_,_,h1,h,fun cl l R' K' h3=>by unfold B8; simp only [hop,hcal,hvs,O4,hk,L8,hfl,h2 cl h3,Option.bind_some]⟩)
    ·rename_i hk
     obtain ⟨vs,h,hvs⟩:=agl h
     split at h
     ·rename_i hfl
      split at h
      ·rename_i hf6
       obtain ⟨q,hq,h⟩:=b7 h
       obtain ⟨az,res,h1,h2⟩:=atJ hq
       exact .inr (.inr ⟨_,_,_,_,_,_,h1,h,fun cl l R' K' h3=>by unfold B8; simp only [hop,hcal,hvs,O4,hk,L8,hfl,hf6,h2 cl h3,Option.bind_some]⟩)
      rename_i hf6
      obtain ⟨q,hq,h⟩:=b7 h
      obtain ⟨az,res,h1,h2⟩:=asP hq
      split at h
      ·rename_i hf1
       obtain ⟨h,hp⟩:=aoz h
       exact .inr (.inr ⟨_,_,_,_,_,_,h1,h,fun cl l R' K' h3=>by unfold B8; simp only [hop,hcal,hvs,O4,hk,L8,hfl,hf6,hf1,h2 cl h3,Option.bind_some,hp]⟩)
      ·rename_i hf1
       split at h
       ·rename_i hf3
        obtain ⟨h,hp⟩:=aoz h
        exact .inr (.inr ⟨_,_,_,_,_,_,h1,h,fun cl l R' K' h3=>by unfold B8; simp only [hop,hcal,hvs,O4,hk,L8,hfl,hf6,hf1,hf3,h2 cl h3,Option.bind_some,hp]⟩)
       ·rename_i hf3
        exact .inr (.inr ⟨_,_,_,_,_,_,h1,h,fun cl l R' K' h3=>by unfold B8; simp only [hop,hcal,hvs,O4,hk,L8,hfl,hf6,hf1,hf3,h2 cl h3,Option.bind_some]⟩)
     ·rename_i hfl
      obtain ⟨q,hq,h⟩:=b7 h
      obtain ⟨res,h1,h2⟩:=akA hq
      exact .inr (.inr ⟨_,_,_,_,_,_,h1,h,fun cl l R' K' h3=>by unfold B8; simp only [hop,hcal,hvs,O4,hk,L8,hfl,h2 cl h3,Option.bind_some]⟩)
    ·rename_i n hk
     obtain ⟨vs,h,hvs⟩:=agl h
     obtain ⟨az,has,h⟩:=b7 h
     obtain ⟨q,hq,h⟩:=b7 h
     obtain ⟨u,hu,h⟩:=b7 h
     exact .inl ⟨_,_,_,h,fun cl l R' K'=>by unfold B8; simp only [hop,hcal,hvs,O4,hk,ats,has,hq,hu,Option.bind_some]⟩
   ·rename_i fv hne hcal
    obtain ⟨f,h,hf⟩:=E9 h
    obtain ⟨vs,h,hvs⟩:=agl h
    obtain ⟨p,hp,h⟩:=b7 h
    split at h
    ·rename_i hq'
     obtain ⟨q,hq,h⟩:=b7 h
     obtain ⟨res,h1,h2⟩:=adW hq
     refine .inr (.inr ⟨_,_,_,_,_,_,h1,h,fun cl l R' K' h3=>?_⟩)
     unfold B8
     cases fv with
     | func f=>exact absurd rfl (hne f)
     | _=>simp only [hop,hcal,hf,hvs,hp,hq',L8,h2 cl h3,Option.bind_some]
    ·rename_i hq'
     obtain ⟨q,hq,h⟩:=b7 h
     refine .inr (.inl ⟨_,_,_,_,hq,h,fun cl l R' K'=>?_⟩)
     unfold B8
     cases fv with
     | func f=>exact absurd rfl (hne f)
     | _=>simp only [hop,hcal,hf,hvs,hp,hq',L8,Option.bind_some]
   ·cases h
 | _=>simp only [hop] at h; cases h
end
end Go.AM

/- Calls of the machine of values without a count of steps; they stand for calls of the abstract machine. -/
namespace Go.AM
open Go.RowKit
set_option linter.unusedSimpArgs false
set_option linter.unusedVariables false
theorem aum {R:Type} {kp:I8} {st:VS} {K:List V->VH->Option R} {r:R} (h:abq kp st K=some r):∃ vs,K vs st.H=some r/\∀ (R':Type) (K':List V->VH->Option R'),abq kp st K'=K' vs st.H:=by
 have hv:∀ {ss:List Nat} {R:Type} {K:List V->Option R} {r:R},aaV st.env ss K=some r->∃ vs,K vs=some r/\∀ (R':Type) (K':List V->Option R'),aaV st.env ss K'=K' vs:=by
  intro ss
  induction ss with
  | nil=>intro R K r h; exact ⟨[],h,fun _ _=>rfl⟩
  | cons s ss ih =>
    intro R K r h
    simp only [aaV] at h
    split at h
    ·rename_i v hl
     obtain ⟨vs,h1,h2⟩:=ih h
     exact ⟨v::vs,h1,fun R' K'=>by simp only [aaV,hl,h2]⟩
    ·rename_i v hl
     obtain ⟨vs,h1,h2⟩:=ih h
     exact ⟨_,h1,fun R' K'=>by simp only [aaV,hl,h2]⟩
    ·cases h
 have hc:∀ {ks:List (Nat × Nat)} {R:Type} {K:List V->Option R} {r:R},csV st.loc ks K=some r->∃ vs,K vs=some r/\∀ (R':Type) (K':List V->Option R'),csV st.loc ks K'=K' vs:=by
  intro ks
  induction ks with
  | nil=>intro R K r h; exact ⟨[],h,fun _ _=>rfl⟩
  | cons s ks ih =>
    intro R K r h
    obtain ⟨k,n⟩:=s
    simp only [csV] at h
    split at h
    ·rename_i cs hl
     split at h
     ·rename_i hb
      obtain ⟨vs,h1,h2⟩:=ih h
      exact ⟨cs++vs,h1,fun R' K'=>by simp only [csV,hl,hb,h2]⟩
     ·cases h
    ·cases h
 unfold abq at h
 split at h
 ·rename_i hl
  obtain ⟨vs,h,h1⟩:=hv h
  obtain ⟨cs,h,h2⟩:=hc h
  exact ⟨_,h,fun R' K'=>by simp only [abq,hl,h1,h2]⟩
 ·cases h
theorem aob {R:Type} {kp:I8} {vs:List V} {H:VH} {K:VS->Option R} {r:R} (h:acJ kp vs H K=some r):∃ s,K s=some r/\∀ (R':Type) (K':VS->Option R'),acJ kp vs H K'=K' s:=by
 unfold acJ at h
 split at h
 ·rename_i hk
  split at h
  ·rename_i hl
   exact ⟨_,h,fun R' K'=>by unfold acJ; simp only [hk]; rw [if_pos hl]⟩
  ·cases h
 ·cases h
theorem apa {R:Type} {vs:List V} {H:VH} {K:Exit->VS->Option R} {r:R}:∀ {outs:List (Exit × I8)} {n:Nat},inV outs n vs H K=some r->∃ e st,K e st=some r/\∀ (R':Type) (K':Exit->VS->Option R'),inV outs n vs H K'=K' e st
 | [],_,h=>by cases h
 | (x,kp)::l,0,h=>by
   simp only [inV] at h
   obtain ⟨s,h1,h2⟩:=aob h
   exact ⟨x,s,h1,fun R' K'=>by simp only [inV,h2]⟩
 | (x,kp)::l,n+1,h=>by
   simp only [inV] at h
   obtain ⟨e,st,h1,h2⟩:=apa h
   exact ⟨e,st,h1,fun R' K'=>by simp only [inV,h2]⟩
theorem ase {R:Type} {ops:Array Oper} {o:Oper} {env:List (Nat × VE)} {run pass:List (Nat × VE)->Option R} {r:R} (h:Z7 ops o env run pass=some r) :
 ∃ env',(run env'=some r/\∀ (R':Type) (run' pass':List (Nat × VE)->Option R'),Z7 ops o env run' pass'=run' env')\/(pass env'=some r/\∀ (R':Type) (run' pass':List (Nat × VE)->Option R'),Z7 ops o env run' pass'=pass' env'):=by
 unfold Z7 at h
 split at h
 ·rename_i hg
  exact ⟨_,.inl ⟨h,fun R' run' pass'=>by simp only [Z7,hg]⟩⟩
 ·rename_i j want hg
  split at h
  ·cases h
  ·rename_i d hd
   split at h
   ·rename_i v hl
    split at h
    ·rcases acz h with ⟨rfl,h⟩ | ⟨rfl,h⟩
     ·exact ⟨_,.inl ⟨h,fun R' run' pass'=>by simp only [Z7,hg,hd,hl,j8]⟩⟩
     ·exact ⟨_,.inr ⟨h,fun R' run' pass'=>by simp only [Z7,hg,hd,hl,j8]⟩⟩
    ·rcases acz h with ⟨rfl,h⟩ | ⟨rfl,h⟩
     ·exact ⟨_,.inr ⟨h,fun R' run' pass'=>by simp only [Z7,hg,hd,hl,j8]⟩⟩
     ·exact ⟨_,.inl ⟨h,fun R' run' pass'=>by simp only [Z7,hg,hd,hl,j8]⟩⟩
   ·rename_i hl
    exact ⟨_,.inr ⟨h,fun R' run' pass'=>by simp only [Z7,hg,hd,hl]⟩⟩
   ·cases h
structure agO (X:XV) (c:Nat->y6) (l:Nat->W0):Prop where
 call:∀ f vs hp res,X.call f vs hp=some res->F0 fun m=>c m f vs hp=some res
 lp:∀ (B:List V->VH->Option (Option Nat × List V × VH)) (Bm:Nat->List V->VH->Option (Option Nat × List V × VH)),(∀ vs hp res,B vs hp=some res->F0 fun m=>Bm m vs hp=some res) →
  ∀ vs hp res,X.lp B vs hp=some res->F0 fun m=>l m (Bm m) vs hp=some res
section
variable {X:XV} {c:Nat->y6} {l:Nat->W0} {A:T8} {T:List Nat}
theorem awA (hN:agO X c l) {R:Type} {r:R} {o:Oper} {st:VS} {K:VE->VS->D7->Option R} {Km:Nat->VE->VS->D7->Option R}
 (h:B8 X A T o st K=some r) (hK:∀ e s cl,K e s cl=some r->F0 fun m=>Km m e s cl=some r):F0 fun m=>B8 (X.over (c m) (l m)) A T o st (Km m)=some r:=by
 rcases aub h with ⟨e,s,cl,h1,h2⟩ | ⟨f,vs,s,res,h1,h2,h3⟩ | ⟨f,vs,res,e,s,cl,h1,h2,h3⟩
 ·exact (hK _ _ _ h1).imp fun m hm=>by rw [h2]; exact hm
 ·exact ((hN.call _ _ _ _ h1).and (hK _ _ _ h2)).imp fun m ⟨a,b⟩=>by rw [h3,a]; exact b
 ·exact ((hN.call _ _ _ _ h1).and (hK _ _ _ h2)).imp fun m ⟨a,b⟩=>by rw [h3 _ _ _ _ a]; exact b
theorem ag9 (hN:agO X c l) {R:Type} {r:R} {ops:Array Oper}:∀ {os:List Oper} {cl:List D7} {st:VS} {K:List D7->VS->Option R} {Km:Nat->List D7->VS->Option R},
 afW X A T ops os cl st K=some r->(∀ cl st,K cl st=some r->F0 fun m=>Km m cl st=some r)->F0 fun m=>afW (X.over (c m) (l m)) A T ops os cl st (Km m)=some r
 | [],cl,st,K,Km,h,hK=>hK _ _ h
 | o::os,cl,st,K,Km,h,hK=>by
   simp only [afW] at h ⊢
   obtain ⟨env',⟨h1,h2⟩ | ⟨h1,h2⟩⟩:=ase h
   ·refine (awA hN h1 (Km:=fun m e st c'=>afW (X.over (c m) (l m)) A T ops os (c'::cl) { st with env:=aoF st.env o.dst e } (Km m)) fun e s cl' h3=>ag9 hN h3 hK).imp fun m hm=>?_
    rw [h2]; exact hm
   ·exact (ag9 hN h1 hK).imp fun m hm=>by rw [h2]; exact hm
theorem R5 (hN:agO X c l):∀ (x:Code) {R:Type} {r:R} {st:VS} {K:Exit->VS->Option R} {Km:Nat->Exit->VS->Option R},
 F4 X A T x st K=some r->(∀ e st,K e st=some r->F0 fun m=>Km m e st=some r)->F0 fun m=>F4 (X.over (c m) (l m)) A T x st (Km m)=some r
 | .skip,R,r,st,K,Km,h,hK=>hK _ _ h
 | .exit id,R,r,st,K,Km,h,hK=>hK _ _ h
 | .ret,R,r,st,K,Km,h,hK=>hK _ _ h
 | .region id ops draw,R,r,st,K,Km,h,hK=>by
   cases draw with
   | false =>
     simp only [F4] at h ⊢
     exact ag9 hN h fun cl st h=>hK _ _ h
   | true =>
     simp only [F4] at h ⊢
     refine ag9 hN h fun cl st h=>?_
     split at h
     ·exact hK _ _ h
     ·cases h
 | .cond y a b,R,r,st,K,Km,h,hK=>by
   simp only [F4] at h ⊢
   obtain ⟨v,h,hv⟩:=E9 h
   rcases anh h with ⟨rfl,h⟩ | ⟨rfl,h⟩ | ⟨rfl,h,h'⟩
   ·exact (R5 hN a h hK).imp fun m hm=>by rw [hv]; exact hm
   ·exact (R5 hN b h hK).imp fun m hm=>by rw [hv]; exact hm
   ·exact ((R5 hN a h hK).and (R5 hN b h' hK)).imp fun m hm=>by rw [hv]; show ai1 _ _=_; unfold ai1; rw [hm.1,hm.2,if_pos rfl]
 | .block id a,R,r,st,K,Km,h,hK=>by
   simp only [F4] at h ⊢
   refine R5 hN a h fun e st h=>?_
   cases e with
   | exit i =>
     simp only at h ⊢
     split at h
     ·rename_i hb; exact (hK _ _ h).imp fun m hm=>by first | exact hm | (rw [hb]; exact hm)
     ·rename_i hb; exact (hK _ _ h).imp fun m hm=>by first | exact hm | (rw [hb]; exact hm)
   | _=>exact hK _ _ h
 | .seq a b,R,r,st,K,Km,h,hK=>by
   simp only [F4] at h ⊢
   have behind:∀ (e:Exit) (st:VS),(match e with | .normal=>F4 X A T b st K | e=>K e st)=some r->F0 fun m=>(match e with | .normal=>F4 (X.over (c m) (l m)) A T b st (Km m) | e=>Km m e st)=some r:=by
    intro e st h
    cases e with
    | normal=>exact R5 hN b h hK
    | _=>exact hK _ _ h
   split at h
   ·rename_i hj
    exact (R5 hN a h (Km:=fun m e st=>match e with | .normal=>F4 (X.over (c m) (l m)) A T b st (Km m) | e=>Km m e st) behind).imp fun m hm=>hm
   ·rename_i outs hj
    obtain ⟨s,hs,h⟩:=b7 h
    obtain ⟨e,st',h1,h2⟩:=apa h
    refine ((R5 hN a hs (Km:=fun _ e st=>af1 outs e st fun n vs hp=>some (n,vs,hp)) fun e st h=>F0.of fun _=>h).and (behind e st' h1)).imp fun m ⟨g1,g2⟩=>?_
    show (Option.bind _ _)=some r
    rw [g1]
    simp only [Option.bind_some]
    rw [h2]; exact g2
 | .loop a,R,r,st,K,Km,h,hK=>by
   simp only [F4] at h ⊢
   split at h
   ·cases h
   ·rename_i li hli
    obtain ⟨vs,h,h0⟩:=aum h
    obtain ⟨res,hres,h⟩:=b7 h
    obtain ⟨e,st',h1,h2⟩:=apa h
    have hB:=hN.lp _ (fun m vs hp=>acJ li.ks vs hp fun st=>F4 (X.over (c m) (l m)) A T a st fun e st=>match e with
     | .normal=>abq li.ks st fun vs hp=>some (none,vs,hp)
     | e=>af1 li.outs e st fun n vs hp=>some (some n,vs,hp)) (fun vs hp res hr=>by
     obtain ⟨s,g1,g2⟩:=aob hr
     exact (R5 hN a g1 (Km:=fun _ e st=>match e with
      | .normal=>abq li.ks st fun vs hp=>some (none,vs,hp)
      | e=>af1 li.outs e st fun n vs hp=>some (some n,vs,hp)) fun e st h=>F0.of fun _=>h).imp fun m hm=>by rw [g2]; exact hm) _ _ _ hres
    refine (hB.and (hK e st' h1)).imp fun m ⟨g1,g2⟩=>?_
    rw [h0]
    exact (congrArg (fun (o:Option (Nat × List V × VH))=>o.bind fun q=>inV li.outs q.1 q.2.1 q.2.2 (Km m)) g1).trans ((h2 R (Km m)).trans g2)
 | .rangeFunc ..,R,r,st,K,Km,h,hK=>by cases h
 | .scope ..,R,r,st,K,Km,h,hK=>by cases h
 | .label ..,R,r,st,K,Km,h,hK=>by cases h
 | .goto ..,R,r,st,K,Km,h,hK=>by cases h
 | .refuse ..,R,r,st,K,Km,h,hK=>by cases h
theorem auv {R:Type} (X:XV) (c:y6) (l:W0) (st:VS) (t:Nat) (K:V->VS->Option R):vtV (X.over c l) st (.tmp t) K=vtV X st (.tmp t) K:=rfl
theorem aif {R:Type} (X:XV) (c:y6) (l:W0):∀ (rs:List ResultVar) (st:VS) (K:List V->VS->Option R),ac4 (X.over c l) rs st K=ac4 X rs st K
 | [],st,K=>rfl
 | .tmp t::rs,st,K=>by
   simp only [ac4,auv]
   congr 1; funext v st
   exact aif X c l rs st _
 | .cell a t::rs,st,K=>by
   simp only [ac4,s9,aif X c l rs]
theorem ahT (hN:agO X c l) {f:FuncId} {args:List V} {H:VH} {r:V × VH} (h:adR X f args H=some r):F0 fun m=>adR (X.over (c m) (l m)) f args H=some r:=by
 unfold adR at h ⊢
 have e1:∀ m,(X.over (c m) (l m)).fn f=X.fn f:=fun _=>rfl
 have e2:∀ m,(X.over (c m) (l m)).H7 f=X.H7 f:=fun _=>rfl
 have e3:∀ m,(X.over (c m) (l m)).C9 f=X.C9 f:=fun _=>rfl
 simp only [e1,e2,e3]
 split at h
 ·cases h
 ·rename_i fn hf
  split at h
  ·cases h
  ·rename_i x hx
   split at h
   ·rename_i hd
    try simp only [hf,hx,hd]
    refine (R5 hN x h (Km:=fun m e st=>match e with
     | .normal | .ret=>ac4 (X.over (c m) (l m)) fn.results.toList st fun vs st=>some (apq vs,st.H)
     | _=>none) fun e st h=>F0.of fun m=>?_).imp fun m hm=>hm
    cases e<;>first | (simp only [aif]; exact h) | exact h
   ·cases h
end
noncomputable def C8 (X:XV) (A:T8) (T:List Nat) (li:alM) (a:Code) (vs:List V) (H:VH):Option (Option Nat × List V × VH) :=
 acJ li.ks vs H fun st=>F4 X A T a st fun e st=>match e with
  | .normal=>abq li.ks st fun vs hp=>some (none,vs,hp)
  | e=>af1 li.outs e st fun n vs hp=>some (some n,vs,hp)
structure V1 where
 b:abO
 I1:Nat->Option (List V)
 C9:FuncId->List Nat
 mv:FuncId->List Nat
 Z3:FuncId->Option (List V->VH->Option (V × VH))
def V1.ctx (b:V1) (call:y6) (lp:W0):XV:=⟨b.b.ng,b.b.tab,b.b.fn,b.b.H7,b.b.kind,b.b.ext,b.I1,b.C9,b.mv,call,lp⟩
def P9:Nat->W0
 | 0,_,_,_=>none
 | n+1,B,vs,hp=>match B vs hp with
   | none=>none
   | some (none,vs,hp)=>P9 n B vs hp
   | some (some m,vs,hp)=>some (m,vs,hp)
noncomputable def N8 (b:V1):Nat->y6
 | 0,_,_,_=>none
 | n+1,f,args,H=>match b.Z3 f with
   | some g=>g args H
   | none=>adR (b.ctx (N8 b n) (P9 n)) f args H
noncomputable def m9:W0:=fun B vs hp=>amK fun n=>P9 n B vs hp
noncomputable def K8 (b:V1):y6:=fun f args H=>amK fun n=>N8 b n f args H
theorem agy {B:List V->VH->Option (Option Nat × List V × VH)}:∀ {n:Nat} {vs:List V} {hp:VH} {res:Nat × List V × VH},P9 n B vs hp=some res->∃ m,ajK B m vs hp res
 | 0,_,_,_,h=>by cases h
 | n+1,vs,hp,res,h=>by
   simp only [P9] at h
   split at h
   ·cases h
   ·rename_i hb
    obtain ⟨m,hm⟩:=agy h
    exact ⟨m+1,.more hb hm⟩
   ·rename_i hb
    cases h
    exact ⟨0,.stop hb⟩
theorem amw {B:List V->VH->Option (Option Nat × List V × VH)} {Bm:Nat->List V->VH->Option (Option Nat × List V × VH)} (hB:∀ vs hp res,B vs hp=some res->F0 fun m=>Bm m vs hp=some res)
 {n:Nat} {vs:List V} {hp:VH} {res:Nat × List V × VH} (h:ajK B n vs hp res):F0 fun m=>∀ k,n<k->P9 k (Bm m) vs hp=some res:=by
 induction h with
 | stop h =>
   refine (hB _ _ _ h).imp fun m hm k hk=>?_
   obtain ⟨k,rfl⟩:∃ j,k=j+1:=⟨k-1,by omega⟩
   simp only [P9,hm]
 | more h _ ih =>
   refine ((hB _ _ _ h).and ih).imp fun m ⟨g1,g2⟩ k hk=>?_
   obtain ⟨k,rfl⟩:∃ j,k=j+1:=⟨k-1,by omega⟩
   simp only [P9,g1]
   exact g2 k (by omega)
theorem awU (n:Nat):arD (P9 n):=fun _ _ _ _ h=>agy h
theorem aqd (b:V1):∀ (n:Nat) (f:FuncId) (args:List V) (H:VH) (r:V × VH),N8 b n f args H=some r->∀ m,n<=m->N8 b m f args H=some r:=by
 intro n
 induction n with
 | zero=>intro f args H r h; cases h
 | succ n ih =>
   intro f args H r h m hm
   obtain ⟨m,rfl⟩:∃ j,m=j+1:=⟨m-1,by omega⟩
   simp only [N8] at h ⊢
   split at h
   ·rename_i g hg; first | exact h | (simp only [hg]; exact h)
   ·rename_i hg
    try simp only [hg]
    have hN:agO (b.ctx (N8 b n) (P9 n)) (fun _=>N8 b m) (fun _=>P9 m):=by
     refine ⟨fun f vs hp res h=>F0.of fun _=>ih f vs hp res h m (by omega),fun B Bm hB vs hp res h=>?_⟩
     have h':P9 n B vs hp=some res:=h
     clear h
     have:∀ (n m:Nat) (vs:List V) (hp:VH),n<=m->P9 n B vs hp=some res->F0 fun k=>P9 m (Bm k) vs hp=some res:=by
      intro n
      induction n with
      | zero=>intro m vs hp _ h; cases h
      | succ n ihn =>
        intro m vs hp hm h
        obtain ⟨m,rfl⟩:∃ j,m=j+1:=⟨m-1,by omega⟩
        simp only [P9] at h
        split at h
        ·cases h
        ·rename_i hb
         exact ((hB _ _ _ hb).and (ihn m _ _ (by omega) h)).imp fun k ⟨g1,g2⟩=>by simp only [P9,g1]; exact g2
        ·rename_i hb
         cases h
         exact (hB _ _ _ hb).imp fun k g1=>by simp only [P9,g1]
     exact this n m vs hp (by omega) h'
    exact (ahT hN h).const
theorem ajO {b:V1} {n:Nat} {f:FuncId} {args:List V} {H:VH} {r:V × VH} (h:N8 b n f args H=some r):K8 b f args H=some r :=
 E4.2 ⟨n,fun m hm=>aqd b n f args H r h m hm⟩
theorem ai2 {n:Nat} {B:List V->VH->Option (Option Nat × List V × VH)} {vs:List V} {hp:VH} {r:Nat × List V × VH} (h:P9 n B vs hp=some r):m9 B vs hp=some r:=by
 obtain ⟨m,hm⟩:=agy h
 obtain ⟨n1,h1⟩:=amw (Bm:=fun _=>B) (fun _ _ _ h=>F0.of fun _=>h) hm
 exact E4.2 ⟨m+1,fun k hk=>h1 n1 (Nat.le_refl _) k (by omega)⟩
theorem j4 (b:V1) (f:FuncId) (args:List V) (H:VH) (hp':b.Z3 f=none):K8 b f args H=adR (b.ctx (K8 b) m9) f args H:=by
 have to:∀ r,K8 b f args H=some r->adR (b.ctx (K8 b) m9) f args H=some r:=by
  intro r h
  obtain ⟨n,hn⟩:=E4.1 h
  have:=hn (n+1) (by omega)
  simp only [N8,hp'] at this
  have hN:agO (b.ctx (N8 b n) (P9 n)) (fun _=>K8 b) (fun _=>m9):=by
   refine ⟨fun f vs hp res h=>F0.of fun _=>ajO h,fun B Bm hB vs hp res h=>?_⟩
   obtain ⟨m,hm⟩:=agy (n:=n) h
   exact (amw hB hm).imp fun k hk=>ai2 (hk (m+1) (by omega))
  exact (ahT hN this).const
 have back:∀ r,adR (b.ctx (K8 b) m9) f args H=some r->K8 b f args H=some r:=by
  intro r h
  have hN:agO (b.ctx (K8 b) m9) (N8 b) P9:=by
   refine ⟨fun f vs hp res h=>E4.1 h,fun B Bm hB vs hp res h=>?_⟩
   obtain ⟨n,hn⟩:=E4.1 h
   obtain ⟨m,hm⟩:=agy (hn n (Nat.le_refl _))
   obtain ⟨n1,h1⟩:=amw hB hm
   exact ⟨max n1 (m+1),fun k hk=>h1 k (by omega) k (by omega)⟩
  obtain ⟨n,hn⟩:=ahT hN h
  have h1:N8 b (n+1) f args H=some r:=by
   simp only [N8,hp']
   exact hn n (Nat.le_refl _)
  exact ajO h1
 cases h1:K8 b f args H with
 | some r=>exact (to r h1).symm
 | none =>
   cases h2:adR (b.ctx (K8 b) m9) f args H with
   | none=>rfl
   | some r=>rw [back r h2] at h1; cases h1
theorem alL (b:V1) (f:FuncId) (args:List V) (H:VH) {g:List V->VH->Option (V × VH)} (hp':b.Z3 f=some g):K8 b f args H=g args H:=by
 cases h:g args H with
 | some r=>exact ajO (n:=1) (by simp only [N8,hp']; exact h)
 | none =>
   cases h2:K8 b f args H with
   | none=>rfl
   | some r =>
     obtain ⟨n,hn⟩:=E4.1 h2
     have:=hn (n+1) (by omega)
     simp only [N8,hp',h] at this
     cases this
theorem aqE (B:List V->VH->Option (Option Nat × List V × VH)) (vs:List V) (hp:VH) :
 m9 B vs hp=match B vs hp with | none=>none | some (none,vs,hp)=>m9 B vs hp | some (some m,vs,hp)=>some (m,vs,hp):=by
 cases hb:B vs hp with
 | none =>
   simp only
   cases h:m9 B vs hp with
   | none=>rfl
   | some r =>
     obtain ⟨n,hn⟩:=E4.1 h
     have:=hn (n+1) (by omega)
     simp only [P9,hb] at this; cases this
 | some x =>
   obtain ⟨o,vs1,hp1⟩:=x
   cases o with
   | some m=>exact ai2 (n:=1) (by simp only [P9,hb])
   | none =>
     simp only
     cases h:m9 B vs1 hp1 with
     | some r =>
       obtain ⟨n,hn⟩:=E4.1 h
       exact ai2 (n:=n+1) (by simp only [P9,hb]; exact hn n (Nat.le_refl _))
     | none =>
       cases h2:m9 B vs hp with
       | none=>rfl
       | some r =>
         obtain ⟨n,hn⟩:=E4.1 h2
         have:=hn (n+1) (by omega)
         simp only [P9,hb] at this
         rw [ai2 this] at h; cases h
structure aiJ (b:V1):Prop where
 zero:∀ t ti,look b.b.tab t=some ti->∀ u ∈ ti.zero,I0 u=true
 sl:∀ t e c9 eb z ag n zz,look b.b.tab t=some ⟨.slice e c9 eb z,ag,n,zz⟩->(∀ u ∈ z,I0 u=true)/\z.length=c9/\0<c9
 gd:∀ g cs,b.I1 g=some cs->s7 cs=true
 pos:∀ t ti,look b.b.tab t=some ti->0<ti.size
 atL:∀ f,b.Z3 f=none->b.b.Z3 f=none
 Z3:∀ f g args r H H',b.Z3 f=some g->g args H=some (r,H')->E3 (b.ctx (K8 b) m9) (N2 b.b) f args H r H'
theorem I2.ctx {b:V1} {c c':y6} {l l':W0} {w:Wd} (h:I2 (b.ctx c l) w):I2 (b.ctx c' l') w:=h
theorem E3.ctx {b:V1} {c c':y6} {l l':W0} {call:J1} {f:FuncId} {args:List V} {H H':VH} {r:V} (h:E3 (b.ctx c l) call f args H r H'):E3 (b.ctx c' l') call f args H r H':=h
theorem alN {b:V1} (hb:aiJ b):∀ (n:Nat) (f:FuncId) (args:List V) (H:VH) (r:V) (H':VH),N8 b n f args H=some (r,H')->E3 (b.ctx (K8 b) m9) (N2 b.b) f args H r H'
 | 0,f,args,H,r,H',h=>by cases h
 | n+1,f,args,H,r,H',h=>by
   simp only [N8] at h
   split at h
   ·rename_i g hg
    exact hb.Z3 f g args _ _ _ hg h
   ·rename_i hg
    have hs:=auJ (X:=b.ctx (N8 b n) (P9 n)) (Y:=b.b.ctx (N2 b.b) lpW) ⟨rfl,rfl,rfl,rfl,rfl,rfl⟩ ⟨hb.zero,hb.sl,hb.gd,hb.pos⟩ (fun f args H r H' h=>alN hb n f args H r H' h) (awU n) (fun B vs hp=>axC B vs hp) h
    intro w args' ca ch h1 h2 h3 h4 h5 h6
    obtain ⟨x,w2,cr,ch',q1,q2⟩:=hs w args' ca ch h1 h2 h3 h4 h5 h6
    exact ⟨x,w2,cr,ch',by rw [avm b.b f args' w.hp (hb.atL f hg)]; exact q1,q2⟩
theorem atA {b:V1} (hb:aiJ b) {f:FuncId} {args:List V} {H:VH} {r:V} {H':VH} (h:K8 b f args H=some (r,H')):E3 (b.ctx (K8 b) m9) (N2 b.b) f args H r H':=by
 obtain ⟨n,hn⟩:=E4.1 h
 exact alN hb n f args H r H' (hn n (Nat.le_refl _))
theorem arS {P:Program} {b:V1} (hb:aiJ b) (hP:agi P b.b) {f:FuncId} {args:List V} {H':VH} (h:K8 b f args []=some (.bool true,H')) {hp:Heap} {vs:List Value}
 (hw:HW ⟨hp,[],[]⟩) (hg:I2 (b.ctx (K8 b) m9) ⟨hp,[],[]⟩) (hv:j0 ⟨hp,[],[]⟩ args vs (fun _=>0)) {ι:m8} {w:World} {args':Array Value}
 (hR:Rel b.b.ng ι hp w w.heap.size) (ha:C0 ι vs args'.toList) (hro:∀ b k,l9 hp b=some k->k.md ≠ .rw) :
 Calls P f args' w fun e w'=>e = .returned (.bool true)/\Below w.heap.size w w':=by
 obtain ⟨x,w2,cr,ch',q1,q2,q3,q4,q5,q6⟩:=atA hb h ⟨hp,[],[]⟩ vs (fun _=>0) (fun _=>0) hw hg hv (by simp [y2]) (by simp) (by simp)
 simp only [RV] at q5
 rw [q5.1] at q1
 exact al4 hP q1 hR ha hro
end Go.AM

/- Words for printed runs of the machine of values, and what the tables owe. -/
namespace Go.AM
set_option linter.unusedSimpArgs false
set_option linter.unusedVariables false
def m6 {R:Type} (n:Nat) (vs:List V) (K:(Nat->V)->Option R):Option R:=if vs.length=n then K (fun i=>vs.getD i .g8) else none
def asv (l:List (Nat × List Nat)) (f:FuncId):List Nat:=(look l f).getD []
theorem avd {P:Program} {l:List (Nat × TI)} (h:∀ t ti,look l t=some ti->P0 P t ti):∀ t ti,look l t=some ti->∀ u ∈ ti.zero,I0 u=true:=fun t ti e=>by
 obtain ⟨i,v,_,_,_,_,_,h7⟩:=(h t ti e).info
 exact h7
theorem axL {P:Program} {l:List (Nat × TI)} (h:∀ t ti,look l t=some ti->P0 P t ti):∀ t e c9 eb z ag n zz,look l t=some ⟨.slice e c9 eb z,ag,n,zz⟩->(∀ u ∈ z,I0 u=true)/\z.length=c9/\0<c9:=fun t e c9 eb z ag n zz hl=>by
 obtain ⟨d,_,_,h3⟩:=(h t _ hl).und
 simp only [art] at h3
 obtain ⟨_,i,v,_,_,_,_,_,h4,h5,_,h6⟩:=h3
 exact ⟨h6,h4,h5⟩
def aui:List (Nat × TI)->Bool
 | []=>true
 | (_,x)::l=>Nat.blt 0 x.size&&aui l
theorem aq6:∀ {l:List (Nat × TI)},aui l=true->∀ t ti,look l t=some ti->0<ti.size
 | [],_,t,ti,h=>by simp [look] at h
 | (k,x)::l,hp,t,ti,h=>by
   simp only [aui,Bool.and_eq_true] at hp
   simp only [look] at h
   split at h
   ·cases h
    exact Nat.le_of_ble_eq_true hp.1
   ·exact aq6 hp.2 t ti h
end Go.AM

/- What the words of a printed run come to at values that are known. -/
namespace Go.AM
set_option linter.unusedSimpArgs false
set_option linter.unusedVariables false
theorem aqm (b:Bool):strip (.bool b) = .bool b:=by exact id rfl
theorem atf (k:IntKind) (n:Int):strip (.int k n) = .int k n:=by exact id rfl
theorem ato (s:List UInt8):strip (.str s) = .str s:=by exact id rfl
theorem aqT:strip .g8 = .g8:=by exact id rfl
theorem asU (k o:Nat):strip (.ptr k o) = .ptr k o:=by exact id rfl
theorem atX (c:List V) (o:Nat):strip (.I6 c o) = .I6 c o:=by exact id rfl
theorem avM (f:FuncId) (c:List V):strip (.fn f c) = .fn f c:=by exact id rfl
theorem awc (o:Bool) (xs:List (List V)):strip (.sl o xs) = .sl false (n7 xs):=by exact id rfl
theorem atd (cs:List V):strip (.agg cs) = .agg (l8 cs):=by exact id rfl
theorem atZ (cs:List V):strip (.A5 cs) = .A5 (l8 cs):=by exact id rfl
theorem aqY:l8 []=[]:=by exact id rfl
theorem apB (v:V) (l:List V):l8 (v::l)=strip v::l8 l:=by exact id rfl
theorem aor:n7 []=[]:=by exact id rfl
theorem ano (v:List V) (l:List (List V)):n7 (v::l)=l8 v::n7 l:=by exact id rfl
theorem aqk (H:VH) (b:Bool):j7 H (.bool b) = .bool b:=by exact id rfl
theorem asF (H:VH) (k:IntKind) (n:Int):j7 H (.int k n) = .int k n:=by exact id rfl
theorem asm (H:VH) (s:List UInt8):j7 H (.str s) = .str s:=by exact id rfl
theorem av9 (H:VH) (o:Bool) (xs:List (List V)):j7 H (.sl o xs) = .sl false (n7 xs):=by exact id rfl
theorem ata (H:VH) (cs:List V):j7 H (.agg cs) = .agg (l8 cs):=by exact id rfl
theorem avJ (H:VH) (f:FuncId) (cs:List V):j7 H (.fn f cs) = .fn f (cs.map (afl H)):=by exact id rfl
theorem as0 (H:VH) (f:FuncId):j7 H (.fn f []) = .fn f []:=by exact id rfl
theorem asJ (H:VH) (k o:Nat):j7 H (.ptr k o)=agJ (H.getD k []) k o:=by exact id rfl
theorem ao3 (c:V) (cs:List V) (k o:Nat):agJ (c::cs) k o = .I6 (l8 (c::cs)) o:=by exact id rfl
theorem asi (H:VH) (c:List V) (o:Nat):j7 H (.I6 c o) = .I6 c o:=by exact id rfl
theorem aqq (H:VH) (k o:Nat):afl H (.ptr k o)=agJ (H.getD k []) k o:=by exact id rfl
theorem aoG {α β:Type} (f:α->β):([]:List α).map f=[]:=by exact id rfl
theorem anu {α β:Type} (f:α->β) (a:α) (l:List α):(a::l).map f=f a::l.map f:=by exact id rfl
theorem aph {α:Type} (l:List α):[]++l=l:=by exact id rfl
theorem anw {α:Type} (a:α) (l m:List α):(a::l)++m=a::(l++m):=by exact id rfl
theorem aqs (b:Bool):C1 (.bool b)=true:=by exact id rfl
theorem atQ (k:IntKind) (n:Int):C1 (.int k n)=true:=by exact id rfl
theorem asN (s:List UInt8):C1 (.str s)=true:=by exact id rfl
theorem avV (o:Bool) (xs:List (List V)):C1 (.sl o xs)=H5 xs:=by exact id rfl
theorem atW (cs:List V):C1 (.agg cs)=y7 cs:=by exact id rfl
theorem asT (cs:List V) (o:Nat):C1 (.I6 cs o)=y7 cs:=by exact id rfl
theorem awi (f:FuncId) (cs:List V):C1 (.fn f cs)=y7 cs:=by exact id rfl
theorem aqp:y7 []=true:=by exact id rfl
theorem ao0 (v:V) (l:List V):y7 (v::l)=(C1 v&&y7 l):=by exact id rfl
theorem apn:H5 []=true:=by exact id rfl
theorem am9 (v:List V) (l:List (List V)):H5 (v::l)=(y7 v&&H5 l):=by exact id rfl
theorem aso (b:Bool):data (.bool b)=true:=by exact id rfl
theorem awh (k:IntKind) (n:Int):data (.int k n)=true:=by exact id rfl
theorem avE (s:List UInt8):data (.str s)=true:=by exact id rfl
theorem ayI (o:Bool) (xs:List (List V)):data (.sl o xs)=B6 xs:=by exact id rfl
theorem av7 (cs:List V):data (.agg cs)=s7 cs:=by exact id rfl
theorem awd (cs:List V):data (.A5 cs)=s7 cs:=by exact id rfl
theorem atq:s7 []=true:=by exact id rfl
theorem aqZ (v:V) (l:List V):s7 (v::l)=(data v&&s7 l):=by exact id rfl
theorem aql:B6 []=true:=by exact id rfl
theorem apH (v:List V) (l:List (List V)):B6 (v::l)=(s7 v&&B6 l):=by exact id rfl
theorem aqO (b:Bool):ac7 (.bool b)=true:=by exact id rfl
theorem atC (k:IntKind) (n:Int):ac7 (.int k n)=true:=by exact id rfl
theorem ar8 (s:List UInt8):ac7 (.str s)=true:=by exact id rfl
theorem att (l:List V):ac7 (.A5 l)=l.all U5:=by exact id rfl
theorem aq3 (b:Bool):U5 (.bool b)=true:=by exact id rfl
theorem atI (k:IntKind) (n:Int):U5 (.int k n)=true:=by exact id rfl
theorem asd (s:List UInt8):U5 (.str s)=true:=by exact id rfl
theorem aty {α:Type} (p:α->Bool):([]:List α).all p=true:=by exact id rfl
theorem aqA {α:Type} (p:α->Bool) (a:α) (l:List α):(a::l).all p=(p a&&l.all p):=by exact id rfl
theorem avX:(true&&true)=true:=by exact id rfl
theorem asA {α β:Type} (a:α) (f:α->Option β):(some a).bind f=f a:=by exact id rfl
theorem ax5 {α:Type} (a:α):id a=a:=by exact id rfl
theorem aqo {R:Type} (b:Bool) (x y:Option R):l4 (.bool b) x y=if b=true then x else y:=by cases b<;>rfl
theorem av4 {R:Type} (x:Option R):l4 .ub x x=x:=by show ai1 x x=x; unfold ai1; rw [if_pos rfl]
theorem aqy {R:Type} (b:Bool) (x y:Option R):j8 (.bool b) x y=if b=true then x else y:=by cases b<;>rfl
theorem axO {R:Type} (x y:Option R):j8 (.bool true) x y=x:=by exact id rfl
theorem aw7 {R:Type} (x y:Option R):j8 (.bool false) x y=y:=by exact id rfl
theorem awf:strip .ub = .ub:=by exact id rfl
theorem axA {R:Type} (x y:Option R):l4 (.bool true) x y=x:=by exact id rfl
theorem ayp {R:Type} (x y:Option R):l4 (.bool false) x y=y:=by exact id rfl
theorem ayh {R:Type} (a:Option R) (l:List (Option R)):C2 0 (a::l)=a:=by exact id rfl
theorem in_1 {R:Type} (a b:Option R) (l:List (Option R)):C2 1 (a::b::l)=b:=by exact id rfl
theorem axf {R:Type} (a b c:Option R) (l:List (Option R)):C2 2 (a::b::c::l)=c:=by exact id rfl
theorem ayw {R:Type} (a b c d:Option R) (l:List (Option R)):C2 3 (a::b::c::d::l)=d:=by exact id rfl
theorem axM {R:Type} (a b c d e:Option R) (l:List (Option R)):C2 4 (a::b::c::d::e::l)=e:=by exact id rfl
theorem aym {R:Type} (K:(Nat->V)->Option R):m6 0 [] K=K fun i=>([]:List V).getD i .g8:=by exact id rfl
theorem axH {R:Type} (a:V) (K:(Nat->V)->Option R):m6 1 [a] K=K fun i=>[a].getD i .g8:=by exact id rfl
theorem axt {R:Type} (a b:V) (K:(Nat->V)->Option R):m6 2 [a,b] K=K fun i=>[a,b].getD i .g8:=by exact id rfl
theorem ayo {R:Type} (a b c:V) (K:(Nat->V)->Option R):m6 3 [a,b,c] K=K fun i=>[a,b,c].getD i .g8:=by exact id rfl
theorem ayr {R:Type} (a b c d:V) (K:(Nat->V)->Option R):m6 4 [a,b,c,d] K=K fun i=>[a,b,c,d].getD i .g8:=by exact id rfl
theorem ayk {R:Type} (a b c d e:V) (K:(Nat->V)->Option R):m6 5 [a,b,c,d,e] K=K fun i=>[a,b,c,d,e].getD i .g8:=by exact id rfl
theorem axF {R:Type} (a b c d e f:V) (K:(Nat->V)->Option R):m6 6 [a,b,c,d,e,f] K=K fun i=>[a,b,c,d,e,f].getD i .g8:=by exact id rfl
theorem ayF {R:Type} (a b c d e f g:V) (K:(Nat->V)->Option R):m6 7 [a,b,c,d,e,f,g] K=K fun i=>[a,b,c,d,e,f,g].getD i .g8:=by exact id rfl
theorem axU {R:Type} (a b c d e f g h:V) (K:(Nat->V)->Option R):m6 8 [a,b,c,d,e,f,g,h] K=K fun i=>[a,b,c,d,e,f,g,h].getD i .g8:=by exact id rfl
theorem ax9 {R:Type} (a b c d e f g h j:V) (K:(Nat->V)->Option R):m6 9 [a,b,c,d,e,f,g,h,j] K=K fun i=>[a,b,c,d,e,f,g,h,j].getD i .g8:=by exact id rfl
theorem avN {R:Type} (a b c d e f g h j k:V) (K:(Nat->V)->Option R):m6 10 [a,b,c,d,e,f,g,h,j,k] K=K fun i=>[a,b,c,d,e,f,g,h,j,k].getD i .g8:=by exact id rfl
theorem ayK {α:Type} (a d:α) (l:List α):(a::l).getD 0 d=a:=by exact id rfl
theorem axs {α:Type} (a b d:α) (l:List α):(a::b::l).getD 1 d=b:=by exact id rfl
theorem ayM {α:Type} (a b c d:α) (l:List α):(a::b::c::l).getD 2 d=c:=by exact id rfl
theorem ax2 {α:Type} (a b c e d:α) (l:List α):(a::b::c::e::l).getD 3 d=e:=by exact id rfl
theorem axW {α:Type} (a b c e f d:α) (l:List α):(a::b::c::e::f::l).getD 4 d=f:=by exact id rfl
theorem ayn {α:Type} (a b c e f g d:α) (l:List α):(a::b::c::e::f::g::l).getD 5 d=g:=by exact id rfl
theorem ayG {α:Type} (a b c e f g h d:α) (l:List α):(a::b::c::e::f::g::h::l).getD 6 d=h:=by exact id rfl
theorem ayy {α:Type} (a b c e f g h j d:α) (l:List α):(a::b::c::e::f::g::h::j::l).getD 7 d=j:=by exact id rfl
theorem ayJ {α:Type} (a b c e f g h j k d:α) (l:List α):(a::b::c::e::f::g::h::j::k::l).getD 8 d=k:=by exact id rfl
theorem ayj {α:Type} (a b c e f g h j k m d:α) (l:List α):(a::b::c::e::f::g::h::j::k::m::l).getD 9 d=m:=by exact id rfl
theorem awn {R:Type} (a b c d e f g h j k m:V) (K:(Nat->V)->Option R):m6 11 [a,b,c,d,e,f,g,h,j,k,m] K=K fun i=>[a,b,c,d,e,f,g,h,j,k,m].getD i .g8:=by exact id rfl
theorem av1 {R:Type} (a b c d e f g h j k m n:V) (K:(Nat->V)->Option R):m6 12 [a,b,c,d,e,f,g,h,j,k,m,n] K=K fun i=>[a,b,c,d,e,f,g,h,j,k,m,n].getD i .g8:=by exact id rfl
theorem avr {R:Type} (a b c d e f g h j k m n o:V) (K:(Nat->V)->Option R):m6 13 [a,b,c,d,e,f,g,h,j,k,m,n,o] K=K fun i=>[a,b,c,d,e,f,g,h,j,k,m,n,o].getD i .g8:=by exact id rfl
theorem avR {R:Type} (a b c d e f g h j k m n o p:V) (K:(Nat->V)->Option R):m6 14 [a,b,c,d,e,f,g,h,j,k,m,n,o,p] K=K fun i=>[a,b,c,d,e,f,g,h,j,k,m,n,o,p].getD i .g8:=by exact id rfl
theorem avO {R:Type} (a b c d e f g h j k m n o p q:V) (K:(Nat->V)->Option R):m6 15 [a,b,c,d,e,f,g,h,j,k,m,n,o,p,q] K=K fun i=>[a,b,c,d,e,f,g,h,j,k,m,n,o,p,q].getD i .g8:=by exact id rfl
theorem awb {α:Type} (x0 x1 x2 x3 x4 x5 x6 x7 x8 x9 x10 d:α) (l:List α):(x0::x1::x2::x3::x4::x5::x6::x7::x8::x9::x10::l).getD 10 d=x10:=by exact id rfl
theorem avK {α:Type} (x0 x1 x2 x3 x4 x5 x6 x7 x8 x9 x10 x11 d:α) (l:List α):(x0::x1::x2::x3::x4::x5::x6::x7::x8::x9::x10::x11::l).getD 11 d=x11:=by exact id rfl
theorem av0 {α:Type} (x0 x1 x2 x3 x4 x5 x6 x7 x8 x9 x10 x11 x12 d:α) (l:List α):(x0::x1::x2::x3::x4::x5::x6::x7::x8::x9::x10::x11::x12::l).getD 12 d=x12:=by exact id rfl
theorem avy {α:Type} (x0 x1 x2 x3 x4 x5 x6 x7 x8 x9 x10 x11 x12 x13 d:α) (l:List α):(x0::x1::x2::x3::x4::x5::x6::x7::x8::x9::x10::x11::x12::x13::l).getD 13 d=x13:=by exact id rfl
theorem av8 {α:Type} (x0 x1 x2 x3 x4 x5 x6 x7 x8 x9 x10 x11 x12 x13 x14 d:α) (l:List α):(x0::x1::x2::x3::x4::x5::x6::x7::x8::x9::x10::x11::x12::x13::x14::l).getD 14 d=x14:=by exact id rfl
theorem avD {α:Type} (x0 x1 x2 x3 x4 x5 x6 x7 x8 x9 x10 x11 x12 x13 x14 x15 d:α) (l:List α):(x0::x1::x2::x3::x4::x5::x6::x7::x8::x9::x10::x11::x12::x13::x14::x15::l).getD 15 d=x15:=by exact id rfl
section
variable {B:List V->VH->Option (Option Nat × List V × VH)} {vs vs':List V} {hp hp':VH} {n:Nat}
theorem aeR (h:B vs hp=some (none,vs',hp')):m9 B vs hp=m9 B vs' hp':=by rw [aqE,h]
theorem aaK (h:B vs hp=some (some n,vs',hp')):m9 B vs hp=some (n,vs',hp'):=by rw [aqE,h]
end
section
variable (tk:TK) (a b:Int) (k:IntKind)
theorem avx:b9 tk .lss (.int k a) (.int k b)=some (.bool (decide (a<b))):=by simp [b9,Z1,R1,Q3,ofA]
theorem avL:b9 tk .leq (.int k a) (.int k b)=some (.bool (decide (a<=b))):=by simp [b9,Z1,R1,Q3,ofA]
theorem avw:b9 tk .gtr (.int k a) (.int k b)=some (.bool (decide (a>b))):=by simp [b9,Z1,R1,Q3,ofA]
theorem avZ:b9 tk .geq (.int k a) (.int k b)=some (.bool (decide (a>=b))):=by simp [b9,Z1,R1,Q3,ofA]
theorem awp:b9 tk .eql (.int k a) (.int k b)=some (.bool (decide (a=b))):=by
 simp only [b9,Z1,R1,Q3,ofA,Option.bind_some,if_true]
 congr 2
theorem av5:b9 tk .neq (.int k a) (.int k b)=some (.bool (!decide (a=b))):=by
 simp only [b9,Z1,R1,Q3,ofA,Option.bind_some,if_true]
 congr 2
theorem aaO (h1 : -9223372036854775808<=a+b) (h2:a+b<=9223372036854775807):b9 tk .add (.int .i64 a) (.int .i64 b)=some (.int .i64 (a+b)):=by simp [b9,Z1,R1,Q3,ofA,IntWalk.i64_in _ ⟨h1,h2⟩]
theorem aeD (h1 : -9223372036854775808<=a-b) (h2:a-b<=9223372036854775807):b9 tk .sub (.int .i64 a) (.int .i64 b)=some (.int .i64 (a-b)):=by simp [b9,Z1,R1,Q3,ofA,IntWalk.i64_in _ ⟨h1,h2⟩]
theorem aeC (h1 : -9223372036854775808<=a*b) (h2:a*b<=9223372036854775807):b9 tk .mul (.int .i64 a) (.int .i64 b)=some (.int .i64 (a*b)):=by simp [b9,Z1,R1,Q3,ofA,IntWalk.i64_in _ ⟨h1,h2⟩]
theorem ag3 (h:b ≠ 0):b9 tk .rem (.int k a) (.int k b)=some (.int k (a.tmod b)):=by simp [b9,Z1,R1,Q3,ofA,h]
theorem ay0 (h:0<b) (h1:0<=a) (h2:a<=9223372036854775807):b9 tk .quo (.int .i64 a) (.int .i64 b)=some (.int .i64 (a.tdiv b)):=by
 have h3:0<=a.tdiv b:=Int.tdiv_nonneg h1 (by omega)
 have h4:a.tdiv b<=a:=Int.tdiv_le_self b h1
 have h5:=IntWalk.i64_in (a.tdiv b) ⟨by omega,by omega⟩
 simp [b9,Z1,ofA,R1,Q3,show b ≠ 0 by omega,h5]
theorem avA (h1 : -9223372036854775807<=a) (h2:a<=9223372036854775807):E7 .neg (.int .i64 a)=some (.int .i64 (-a)):=by
 have h5:=IntWalk.i64_in (0-a) ⟨by omega,by omega⟩
 simp [E7,Z1,vUn,ofA]
 have:0-a = -a:=by omega
 rw [this] at h5; exact h5
theorem avq (b:Bool):E7 .not (.bool b)=some (.bool !b):=by exact id rfl
theorem av2 (a b:Bool):b9 .bool .eql (.bool a) (.bool b)=some (.bool (decide (a=b))):=by cases a<;>cases b<;>rfl
theorem avs (a b:Bool):b9 .bool .neq (.bool a) (.bool b)=some (.bool (!decide (a=b))):=by cases a<;>cases b<;>rfl
end
theorem avn (a b:Nat):(a:Int).tmod (b:Int)=((a % b:Nat):Int):=by rw [Int.tmod_eq_emod_of_nonneg (by omega)]; simp
theorem avf (a b:Nat):(a:Int).tdiv (b:Int)=((a / b:Nat):Int):=by simp [Int.ofNat_tdiv]
theorem A6 (tk:TK) (a b:Nat) (h:a+b<=9223372036854775807):b9 tk .add (.int .i64 (a:Int)) (.int .i64 (b:Int))=some (.int .i64 ((a+b:Nat):Int)):=by
 have e:(a:Int)+(b:Int)=((a+b:Nat):Int):=by simp
 rw [aaO _ _ _ (by rw [e]; omega) (by rw [e]; omega),e]
theorem ahI (tk:TK) (a b:Nat) (h:b<=a) (h2:a<=9223372036854775807):b9 tk .sub (.int .i64 (a:Int)) (.int .i64 (b:Int))=some (.int .i64 ((a-b:Nat):Int)):=by
 have e:(a:Int)-(b:Int)=((a-b:Nat):Int):=by omega
 rw [aeD _ _ _ (by rw [e]; omega) (by rw [e]; omega),e]
theorem aec (tk:TK) (a b:Nat) (h:0<b):b9 tk .rem (.int .i64 (a:Int)) (.int .i64 (b:Int))=some (.int .i64 ((a % b:Nat):Int)):=by
 rw [ag3 _ _ _ _ (by omega),avn]
theorem ae5 (tk:TK) (a b:Nat) (h:0<b) (h2:a<=9223372036854775807):b9 tk .quo (.int .i64 (a:Int)) (.int .i64 (b:Int))=some (.int .i64 ((a / b:Nat):Int)):=by
 rw [ay0 _ _ _ (by omega) (by omega) (by omega),avf]
theorem avQ (s t:List UInt8):((ByteArray.mk s.toArray).toList==(ByteArray.mk t.toArray).toList)=decide (s=t):=by
 rw [ByteArray.toList_eq,ByteArray.toList_eq]
 show (s==t)=_
 rw [Bool.eq_iff_iff,beq_iff_eq,decide_eq_true_iff]
theorem avW (tk:TK) (s t:List UInt8):b9 tk .eql (.str s) (.str t)=some (.bool (decide (s=t))):=by
 simp only [b9,Z1,R1,af8,ofA,Option.bind_some,avQ]
theorem avF (tk:TK) (s t:List UInt8):b9 tk .neq (.str s) (.str t)=some (.bool (!decide (s=t))):=by
 simp only [b9,Z1,R1,af8,ofA,Option.bind_some,avQ]
theorem aal (tk:TK) (s t:List UInt8) (h:s.length+t.length<=9223372036854775807):b9 tk .add (.str s) (.str t)=some (.str (s++t)):=by
 simp only [b9,Z1,R1,af8,ofA,Option.bind_some]
 rw [if_pos (by simpa [ByteArray.size] using h)]
 simp [ofA]
theorem aam (s:List UInt8) (k:IntKind) (i:Nat) (h:i<s.length):y5 (.str s) (.int k (i:Int))=some (.int .u8 ((s[i]'h).toNat:Int)):=by
 simp [y5,List.getElem?_eq_getElem h]
theorem avT (s:List UInt8):A0 (.str s)=some (.int .i64 s.length):=by exact id rfl
theorem avv (o:Bool) (xs:List (List V)):B9 (.sl o xs)=some (.int .i64 xs.length):=by exact id rfl
theorem anI (s:List UInt8) (k k':IntKind) (l h:Nat) (h1:l<=h) (h2:h<=s.length):E1 (.str s) (some (.int k (l:Int))) (some (.int k' (h:Int)))=some (.str ((s.drop l).take (h-l))):=by
 simp only [E1,aek,Option.bind_some]
 rw [if_pos (by omega)]; simp
theorem alV (s:List UInt8) (k:IntKind) (h:Nat) (h2:h<=s.length):E1 (.str s) none (some (.int k (h:Int)))=some (.str (s.take h)):=by
 simp only [E1,aek,Option.bind_some]
 rw [if_pos (by omega)]; simp
theorem anH (s:List UInt8) (k:IntKind) (l:Nat) (h2:l<=s.length):E1 (.str s) (some (.int k (l:Int))) none=some (.str (s.drop l)):=by
 simp only [E1,aek,Option.bind_some]
 rw [if_pos (by omega)]
 simp
 rw [List.take_of_length_le (by simp)]
theorem avt (s:List UInt8):anO (.str s)=some (.str s):=by exact id rfl
theorem ayX (c9:Nat) (o:Bool) (xs:List (List V)) (k:IntKind) (i:Nat) (c:List V) (h:xs[i]? = some c) (hc:c.length=c9):C3 c9 (.sl o xs) (.int k (i:Int))=some (.I6 (l8 c) 0):=by
 simp [C3,h,hc]
theorem asw (g:Nat->Option (List V)) (t:Bool) (n:Nat) (v:V) (H:VH):O2 g t false n (.I6 [v] 0) H=some (v,H):=by exact id rfl
theorem asK (f:FuncId) (c:List V):ali (.fn f c)=some (.fn f c):=by exact id rfl
theorem as7 (k o:Nat):ali (.ptr k o)=some (.ptr k o):=by exact id rfl
theorem atK (c:List V) (o:Nat):ali (.I6 c o)=some (.I6 c o):=by exact id rfl
theorem as9 (k o n:Nat):aiS (.ptr k o) n=some (.ptr k (o+n)):=by exact id rfl
theorem atT (c:List V) (o n:Nat):aiS (.I6 c o) n=some (.I6 c (o+n)):=by exact id rfl
theorem awm (k:IntKind) (n:Int):A8 (.int k n)=some (.int k n):=by exact id rfl
theorem asB (b:Bool):A8 (.bool b)=some (.bool b):=by exact id rfl
theorem avB (s:List UInt8):A8 (.str s)=some (.str s):=by exact id rfl
theorem auR (o:Bool) (xs:List (List V)):A8 (.sl o xs)=some (.sl o xs):=by exact id rfl
theorem avI (k o:Nat):A8 (.ptr k o)=some (.ptr k o):=by exact id rfl
theorem axr (f:FuncId) (c:List V):A8 (.fn f c)=some (.fn f c):=by exact id rfl
theorem axa (xs:List (List V)):aj1 (.sl true xs)=some xs:=by exact id rfl
theorem av6 (f:FuncId) (c:List V):ago (.fn f c)=some (f,c):=by exact id rfl
theorem axD (a:V) (l:List V):J7 (.A5 (a::l)) 0=some a:=by exact id rfl
theorem ayL (a b:V) (l:List V):J7 (.A5 (a::b::l)) 1=some b:=by exact id rfl
theorem axS (a b c:V) (l:List V):J7 (.A5 (a::b::c::l)) 2=some c:=by exact id rfl
theorem axz (a:V) (l:List V):aeT 0 (.A5 (a::l)) = .A5 (strip a::l):=by exact id rfl
theorem axc (a b:V) (l:List V):aeT 1 (.A5 (a::b::l)) = .A5 (a::strip b::l):=by exact id rfl
theorem axE (a b c:V) (l:List V):aeT 2 (.A5 (a::b::c::l)) = .A5 (a::b::strip c::l):=by exact id rfl
theorem akS (c9 bytes:Nat) (xs:List (List V)) (o:Bool) (ys:List (List V)) (h1:D6 c9 xs=true) (h2:D6 c9 ys=true) (h3:(xs.length+ys.length)*bytes<=140737488355328):Q9 false c9 bytes xs (.sl o ys)=some (.sl true (xs++ys)):=by
 simp only [Q9]; rw [if_pos ⟨h1,h2,h3⟩]
theorem ahi {call:y6} {f:FuncId} {args:List V} {r:V} {H:VH} (h:call f args []=some (r,H)) (h1:y7 args=true) (h2:data r=true):W7 call f args=some r:=by
 simp only [W7,h1,h,Option.bind_some,h2]
theorem o7 {call:y6} {f:FuncId} {args:List V} {r:V} {H:VH} (h:call f args []=some (r,H)) (h1:y7 args=true) (h2:ac7 r=true):M0 call f args=some r:=by
 simp only [M0,h1,h,Option.bind_some,h2]
def vT (l:List (List UInt8)):List (List V):=l.map fun s=>[.str s]
def vI (k:IntKind) (l:List Int):List (List V):=l.map fun n=>[.int k n]
def vB (l:List UInt8):List (List V):=l.map fun b=>[.int .u8 b.toNat]
theorem U9 (l:List (List UInt8)):(vT l).length=l.length:=by simp [vT]
theorem asu (l:List UInt8):(vB l).length=l.length:=by simp [vB]
theorem atl (k:IntKind) (l:List Int):(vI k l).length=l.length:=by simp [vI]
theorem S2 (l:List (List UInt8)):n7 (vT l)=vT l:=by
 induction l with
 | nil=>rfl
 | cons a l ih=>simp only [vT,List.map_cons,n7,l8,strip] at ih ⊢; rw [ih]
theorem aoy (l:List UInt8):n7 (vB l)=vB l:=by
 induction l with
 | nil=>rfl
 | cons a l ih=>simp only [vB,List.map_cons,n7,l8,strip] at ih ⊢; rw [ih]
theorem aoj (k:IntKind) (l:List Int):n7 (vI k l)=vI k l:=by
 induction l with
 | nil=>rfl
 | cons a l ih=>simp only [vI,List.map_cons,n7,l8,strip] at ih ⊢; rw [ih]
theorem anS (l:List (List UInt8)):H5 (vT l)=true:=by
 induction l with
 | nil=>rfl
 | cons a l ih=>simp only [vT,List.map_cons,H5,y7,C1,Bool.and_self,Bool.true_and] at ih ⊢; exact ih
theorem avG (l:List UInt8):H5 (vB l)=true:=by
 induction l with
 | nil=>rfl
 | cons a l ih=>simp only [vB,List.map_cons,H5,y7,C1,Bool.and_self,Bool.true_and] at ih ⊢; exact ih
theorem avS (k:IntKind) (l:List Int):H5 (vI k l)=true:=by
 induction l with
 | nil=>rfl
 | cons a l ih=>simp only [vI,List.map_cons,H5,y7,C1,Bool.and_self,Bool.true_and] at ih ⊢; exact ih
theorem acE (l:List (List UInt8)):B6 (vT l)=true:=by
 induction l with
 | nil=>rfl
 | cons a l ih=>simp only [vT,List.map_cons,B6,s7,data,Bool.and_self,Bool.true_and] at ih ⊢; exact ih
theorem aqM (l:List UInt8):B6 (vB l)=true:=by
 induction l with
 | nil=>rfl
 | cons a l ih=>simp only [vB,List.map_cons,B6,s7,data,Bool.and_self,Bool.true_and] at ih ⊢; exact ih
theorem aqX (k:IntKind) (l:List Int):B6 (vI k l)=true:=by
 induction l with
 | nil=>rfl
 | cons a l ih=>simp only [vI,List.map_cons,B6,s7,data,Bool.and_self,Bool.true_and] at ih ⊢; exact ih
theorem aaY (l:List (List UInt8)):D6 1 (vT l)=true:=by simp [D6,vT]
theorem atO (l:List UInt8):D6 1 (vB l)=true:=by simp [D6,vB]
theorem as2 (k:IntKind) (l:List Int):D6 1 (vI k l)=true:=by simp [D6,vI]
theorem ayg (l:List (List UInt8)) (i:Nat) (h:i<l.length):(vT l)[i]? = some [.str l[i]]:=by simp [vT,List.getElem?_eq_getElem h]
theorem alQ (l m:List (List UInt8)):vT l++vT m=vT (l++m):=by simp [vT]
theorem Z9 (o:Bool) (l:List (List UInt8)) (k:IntKind) (i:Nat) (h:i<l.length):C3 1 (.sl o (vT l)) (.int k (i:Int))=some (.I6 [.str l[i]] 0):=by
 rw [ayX 1 o (vT l) k i _ (ayg l i h) rfl]; rfl
end Go.AM

/- What Go's assembly functions hand back in the machine of values: the place of a byte in a text, the count of a byte in a text. No condition. -/
namespace Go.AM
set_option linter.unusedSimpArgs false
set_option linter.unusedVariables false
def aoO:Nat->List Value->Option Value
 | 0,[.string s,.int .u8 c]=>some (.int .i64 (Go.Lib.indexByte s.data.toList c.toNat.toUInt8))
 | 1,[.string s,.int .u8 c]=>some (.int .i64 (Go.Lib.countByte s.data.toList c.toNat.toUInt8))
 | _,_=>none
def ajM {R:Type} (n:Nat) (vs:List V) (K:V->Option R):Option R :=
 (vs.mapM Z1).bind fun az=>(aoO n az).bind fun r=>(ofA r).bind fun v=>K v
theorem alK {R:Type} (s:List UInt8) (c:Int) (K:V->Option R):ajM 0 [.str s,.int .u8 c] K=K (.int .i64 (Go.Lib.indexByte s c.toNat.toUInt8)):=by
 simp [ajM,Z1,aoO,ofA]
theorem als {R:Type} (s:List UInt8) (c:Int) (K:V->Option R):ajM 1 [.str s,.int .u8 c] K=K (.int .i64 (Go.Lib.countByte s c.toNat.toUInt8)):=by
 simp [ajM,Z1,aoO,ofA]
def arM (l m:List Nat) (e:List (Nat × Nat)) (f:FuncId):Nat:=match look e f with | some n=>n+3 | none=>kindOf l m f
def awe (P:Program) (f n:Nat):Prop:=match n with
 | 0=>∀ args w,(callFunc f args).run P w=((Extern.BytealgIndexByte.indexByte args).run P w).andThen fun v w' => .ok (.value v) w'
 | 1=>∀ args w,(callFunc f args).run P w=((Extern.BytealgCount.count args).run P w).andThen fun v w' => .ok (.value v) w'
 | _=>True
def aiy (P:Program):List (Nat × Nat)->Prop
 | []=>True
 | (f,n)::l=>awe P f n/\aiy P l
theorem aiy.at {P:Program}:∀ {l:List (Nat × Nat)} {f n:Nat},aiy P l->look l f=some n->awe P f n
 | [],f,n,_,h=>by cases h
 | (g,m)::l,f,n,h,hl=>by
   unfold look at hl
   split at hl
   ·rename_i e
    have:g=f:=by simpa using e
    cases hl
    subst this
    exact h.1
   ·exact h.2.at hl
theorem atm (l m:List Nat) (f:FuncId):kindOf l m f<=2:=by
 unfold kindOf; split
 ·omega
 ·split<;>omega
theorem aw9 {P:Program} {l m:List Nat} {e:List (Nat × Nat)} (h:aiy P e):arh P (arM l m e) aoO:=by
 intro f n vs v hk hx ι vs' w hv
 have hf:look e f=some n:=by
  unfold arM at hk
  split at hk
  ·rename_i k hk'; rw [hk']; congr 1; omega
  ·have:=atm l m f; omega
 have hF:=h.at hf
 match n,vs,hx with
 | 0,[.string s,.int .u8 c],hx =>
   cases hx
   obtain ⟨x,y,h1,h2⟩:∃ x y,vs' = #[x,y]/\VR ι (.string s) x/\VR ι (.int .u8 c) y:=by
    rcases vs' with ⟨l⟩
    cases hv with
    | cons a hv=>cases hv with
      | cons b hv=>cases hv; exact ⟨_,_,rfl,a,b⟩
   obtain ⟨h2,h3⟩:=h2
   cases h2; cases h3
   subst h1
   refine ⟨_,?_,.int _ _⟩
   rw [hF,Go.Lib.run_indexByteString]; rfl
 | 1,[.string s,.int .u8 c],hx =>
   cases hx
   obtain ⟨x,y,h1,h2⟩:∃ x y,vs' = #[x,y]/\VR ι (.string s) x/\VR ι (.int .u8 c) y:=by
    rcases vs' with ⟨l⟩
    cases hv with
    | cons a hv=>cases hv with
      | cons b hv=>cases hv; exact ⟨_,_,rfl,a,b⟩
   obtain ⟨h2,h3⟩:=h2
   cases h2; cases h3
   subst h1
   refine ⟨_,?_,.int _ _⟩
   rw [hF,Go.Lib.run_countString]; rfl
end Go.AM

/- slices.Insert and slices.Delete in the machine of values: on rows that lie in objects. -/
namespace Go.AM
set_option linter.unusedSimpArgs false
set_option linter.unusedVariables false
set_option linter.unusedSectionVars false
theorem ajG (b:abO) {f:FuncId} {args:List Value} {hp:Heap} {g:List Value->Heap->Option (Value × Heap)} (hg:b.Z3 f=some g) {r:Value × Heap} (h:g args hp=some r):N2 b f args hp=some r :=
 akF (n:=1) (by simp only [U6,hg]; exact h)
theorem Ext.trans {a b c:Wd} (h:Ext a b (fun _=>True)) (g:Ext b c (fun _=>True)):Ext a c (fun _=>True) where
 o6:=fun i k hk hn=>by
  obtain ⟨k1,a1,a2,a3,a4,a5,a6⟩:=h.o6 i k hk hn
  obtain ⟨k2,b1,b2,b3,b4,b5,b6⟩:=g.o6 i k1 a1 a2
  exact ⟨k2,b1,b2,fun q=>b3 (a3 q),by rw [b4,a4],by rw [b5,a5],fun _=>⟨by rw [(b6 trivial).1,(a6 trivial).1],by rw [(b6 trivial).2,(a6 trivial).2]⟩⟩
 j2:=fun k i hk=>g.j2 k i (h.j2 k i hk)
 osz:=fun k i kb hk hb=>by
  obtain ⟨k1,a1,a2⟩:=h.osz k i kb hk hb
  obtain ⟨k2,b1,b2⟩:=g.osz k i k1 (h.j2 k i hk) a1
  exact ⟨k2,b1,by rw [b2,a2]⟩
def Y0 (w:Wd) (kb k:l3):Wd:=⟨r5 w.hp kb.j3++[k],w.j2++[w.hp.length],w.hp.length::w.fb⟩
theorem akH {w:Wd} {b:Nat} {kb k:l3} (hk:w.hp[b]? = some kb):Y0 w kb k=⟨(setW w b { kb with md := .gone }).hp++[k],(setW w b { kb with md := .gone }).j2++[(setW w b { kb with md := .gone }).hp.length],(setW w b { kb with md := .gone }).hp.length::(setW w b { kb with md := .gone }).fb⟩:=by
 have e:(setW w b { kb with md := .gone }).hp=r5 w.hp kb.j3:=by
  show (r5 w.hp kb.j3).set b { kb with md := .gone }=_
  apply List.ext_getElem?
  intro i
  rw [List.getElem?_set]
  split
  ·rename_i e; subst e
   have hb:=(List.getElem?_eq_some_iff.1 hk).1
   rw [if_pos (by rw [F1]; exact hb)]
   simp only [r5,List.getElem?_map,hk,Option.map_some,if_true]
  ·rfl
 rw [e,F1]
 rfl
section
variable {w:Wd} {b:Nat} {kb k:l3} (hw:HW w) (hb:b ∈ w.j2) (hk:w.hp[b]? = some kb) (hf:k.j3=w.hp.length)
include hw hb hk hf
theorem asj:Ext w (Y0 w kb k) (fun _=>True):=by
 rw [akH (b:=b) hk]
 exact (aqU (k:={ kb with md := .gone }) hw hb hk rfl rfl _).trans (ai0 (hw.set (k:={ kb with md := .gone }) hb hk rfl rfl rfl) (by rw [ach]; exact hf) _)
theorem HW.Y0 (hpl:k.pl=false->k.sz=1):HW (Y0 w kb k):=by
 rw [akH (b:=b) hk]
 exact (hw.set (k:={ kb with md := .gone }) hb hk rfl rfl rfl).abD (by rw [ach]; exact hf) hpl
theorem E2.Y0 {E:En} (h:E2 E w):E2 E (Y0 w kb k):=by
 rw [akH (b:=b) hk]
 exact (h.set (k:={ kb with md := .gone }) hw hb hk rfl rfl).abD (hw.set (k:={ kb with md := .gone }) hb hk rfl rfl rfl) (by rw [ach]; exact hf)
theorem apU (hrw:kb.md = .rw):∀ c ∈ w.j2,c ≠ b->adM w (Go.AM.Y0 w kb k) c:=fun c hc hne ke hke=>by
 have hcl:=(List.getElem?_eq_some_iff.1 hke).1
 have e:(Go.AM.Y0 w kb k).hp[c]? = (r5 w.hp kb.j3)[c]?:=by
  show (r5 w.hp kb.j3++[k])[c]? = _
  rw [List.getElem?_append_left (by rw [F1]; exact hcl)]
 refine ⟨if ke.j3=kb.j3 then { ke with md := .gone } else ke,?_,fun hm=>?_⟩
 ·rw [e]; simp only [r5,List.getElem?_map,hke,Option.map_some]
 ·rw [if_neg (hw.ayz hke hk hm hrw hne)]
end
theorem apx {w:Wd} {kb k:l3}:(Y0 w kb k).hp[w.hp.length]? = some k:=by
 show (r5 w.hp kb.j3++[k])[w.hp.length]? = _
 rw [List.getElem?_append_right (by rw [F1]; exact Nat.le_refl _),F1]; simp
theorem atv {w:Wd} {b:Nat} {kb k q:l3} (hk:w.hp[b]? = some q):∃ q',(Y0 w kb k).hp[b]? = some q':=by
 refine ⟨if q.j3=kb.j3 then { q with md := .gone } else q,?_⟩
 show (r5 w.hp kb.j3++[k])[b]? = _
 rw [List.getElem?_append_left (by rw [F1]; exact (List.getElem?_eq_some_iff.1 hk).1)]
 simp only [r5,List.getElem?_map,hk,Option.map_some]
theorem atV {w:Wd} {kb k:l3}:(Y0 w kb k).hp.length=w.hp.length+1:=by simp [Y0,F1]
def amn (c9 eb:Nat):List V->VH->Option (V × VH)
 | [.o9 k 0 n e,.int .i64 i,.sl true (y::l)],H=>(H[k]?).bind fun cs =>
   if e=c9/\0<n/\cs.length=n*e/\0<=i/\i<=n/\D6 c9 (y::l)=true/\(n+(l.length+1))*eb<=140737488355328 then
    some (.o9 H.length 0 (n+(l.length+1)) e,H.set k []++[cs.take (i.toNat*e)++(y::l).flatten++cs.drop (i.toNat*e)]) else none
 | [.sl true [],.int .i64 i,.sl true (y::l)],H =>
   if i=0/\D6 c9 (y::l)=true/\(0+(l.length+1))*eb<=140737488355328 then some (.o9 H.length 0 (l.length+1) c9,H++[(y::l).flatten]) else none
 | _,_=>none
theorem j0.take_drop {w:Wd} {cs:List V} {xs:List Value} {c:j6} (h:j0 w cs xs c) {n:Nat} (hn:n<=cs.length):∃ a b,j0 w (cs.take n) (xs.take n) a/\j0 w (cs.drop n) (xs.drop n) b/\∀ i,c i=a i+b i:=by
 rw [<-List.take_append_drop n cs] at h
 obtain ⟨ys,zs,a,b,rfl,g1,g2,g3⟩:=j0.split h
 have hl:ys.length=n:=by rw [<-g1.len]; simp; omega
 refine ⟨a,b,?_,?_,g3⟩
 ·rw [List.take_append_drop] at *; rw [List.take_left' hl]; exact g1
 ·rw [List.drop_left' hl]; exact g2
theorem RV.built {w:Wd} {y:List V} {l:List (List V)} {x:Value} {c:j6} (h:RV w (.sl true (y::l)) x c) {c9:Nat} (hesz:D6 c9 (y::l)=true) :
 ∃ b kv cc d,l9 w.hp b=some kv/\b ∉ w.fb/\x = .slice (some ⟨b,0,none⟩) (l.length+1) cc/\kv.sz=c9/\kv.md = .rw/\kv.pl=true/\0<c9/\kv.cells.length=(l.length+1)*c9/\m7 w (y::l) kv.cells c9 d/\∀ i,d i<=c i:=by
 simp only [RV] at h
 rcases h with ⟨h,_⟩ | ⟨h0,b,o,kb,ws,cc,d,h1,h2,h3,h4,h5,h6,h7,h8⟩
 ·cases h
 ·rcases h8 with ⟨h8,_⟩ | ⟨_,⟨h9,h9'⟩,rfl,h11,h12⟩
  ·cases h8
  ·have hsz:=h7.c9 hesz h0
   have hws:ws=kb.cells:=by
    have:=(G4 h6).2.1
    rw [this,List.drop_zero,List.take_of_length_le (by omega)]
   subst hws
   rw [hsz] at h7 h11 h5
   exact ⟨b,kb,cc,d,h1,h2,h4,hsz,h9,h9',h5,h11.symm,h7,fun i=>by rw [h12]; omega⟩
theorem E2.start {w:Wd} (hw:HW w) {args:List V} {args':List Value} {H:VH} {ca ch:j6} (hv:j0 w args args' ca) (ho:y2 w H w.j2 ch):E2 ⟨w.hp,w.j2,w.fb,fun i=>ca i+ch i⟩ w:=by
 refine ⟨Nat.le_refl _,fun _ _ h _ _=>h,fun b k hk _=>⟨k,hk,rfl,rfl,rfl,.inl rfl⟩,fun c k hc hk=>?_,⟨[],by simp,by simp⟩,⟨[],by simp,by simp⟩,fun b k hb hk=>?_,fun b kb hk=>⟨kb,hk,rfl,rfl⟩,hw.rlt,hw.j3⟩
 ·have:=(List.getElem?_eq_some_iff.1 hk).1; simp only at hc; omega
 ·simp only at hb
  by_cases q:1<=ca b
  ·obtain ⟨_,_,kb,a1,_,a3⟩:=j0.owned _ hv b q
   have a1':=(k9 a1).1
   rw [hk] at a1'; cases a1'; exact a3
  ·obtain ⟨kb,a1,a3⟩:=y2.aie ho b (by omega)
   rw [hk] at a1; cases a1; exact a3
theorem auY {X:XV} {b:abO} {f:FuncId} {c9 eb:Nat} (hg:b.Z3 f=some (aih c9 eb)) {args:List V} {H H':VH} {r:V} (h:amn c9 eb args H=some (r,H')):E3 X (N2 b) f args H r H':=by
 intro w args' ca ch hw hgl ha ho hle hbig
 unfold amn at h
 split at h
 ·rename_i k n e i y l
  obtain ⟨cs,hcs,hq⟩:=b7 h
  clear h
  have h:=hq
  clear hq
  split at h
  ·rename_i hc
   obtain ⟨rfl,hn,hcl,hi0,hin,hesz,hbt⟩:=hc
   cases h
   obtain ⟨i,rfl⟩:=Int.eq_ofNat_of_zero_le hi0
   simp only [Int.toNat_natCast]
   have hv:=ha
   simp only [j0] at ha
   obtain ⟨x1,_,c1,c2,rfl,h1,⟨x2,_,c3,c4,rfl,h2,⟨x3,_,c5,c6,rfl,h3,⟨rfl,h0⟩,q3⟩,q2⟩,q1⟩:=ha
   simp only [RV] at h2
   obtain ⟨rfl,h20⟩:=h2
   obtain ⟨vb,kv,vcc,d,v1,v2,rfl,v4,v5,v6,he0,v7,v8,v9⟩:=h3.built hesz
   simp only [RV] at h1
   obtain ⟨⟨bk,cc,kb,hr,hkb,hsz,_,rfl⟩,hx0⟩:=h1
   have hne:cs ≠ []:=fun q=>by subst q; simp only [List.length_nil] at hcl; have:=Nat.mul_pos hn he0; omega
   obtain ⟨kb',d1,d2,g2,g3,g4,hrw,g5⟩:=ho.store hw.nd hcs hne hr
   rw [hkb] at g2; cases g2
   have hbm:=List.mem_of_getElem? hr
   have ab6:kb.cells.length=n*e:=by rw [<-g3.len]; exact hcl
   have hbv:bk ≠ vb:=fun q=>by subst q; exact v2 (hw.sub _ hbm)
   have hin':i*e<=n*e:=Nat.mul_le_mul_right _ (by omega)
   obtain ⟨n,rfl⟩:∃ m,n=m+1:=⟨n-1,by omega⟩
   have hkl:(y::l).flatten.length=(l.length+1)*e:=by rw [v8.flat.len,v7]
   have hres:aih e eb [.slice (some ⟨bk,0,none⟩) (n+1) cc,.int .i64 i,.slice (some ⟨vb,0,none⟩) (l.length+1) vcc] w.hp =
    some (F9 w.hp (n+1+(l.length+1)) (n+1+(l.length+1)+1),r5 w.hp kb.j3++[⟨kb.cells.take (i*e)++kv.cells++kb.cells.drop (i*e),e,.rw,w.hp.length,kb.pl⟩]):=by
    simp only [aih,v1,Option.bind_some]
    rw [if_pos ⟨v4,by omega,by omega,hbt⟩]
    simp only [A7 hkb (by rw [hrw]; simp),Option.bind_some]
    rw [if_pos ⟨hrw,v5,hbv,hsz,ab6,by omega,by omega,.inr v6⟩]
    simp only [Int.toNat_natCast]
    rw [List.take_of_length_le (l:=kv.cells) (by omega)]
   have hE:=asj (k:=⟨kb.cells.take (i*e)++kv.cells++kb.cells.drop (i*e),e,.rw,w.hp.length,kb.pl⟩) hw hbm hkb rfl
   obtain ⟨a1,a2,t1,t2,t3⟩:=g3.take_drop (n:=i*e) (by omega)
   have hnew:j0 w (cs.take (i*e)++(y::l).flatten++cs.drop (i*e)) (kb.cells.take (i*e)++kv.cells++kb.cells.drop (i*e)) (fun j=>a1 j+d j+a2 j):=(t1.app v8.flat).app t2
   obtain ⟨kb2,hkb2⟩:=atv (kb:=kb) (k:=⟨kb.cells.take (i*e)++kv.cells++kb.cells.drop (i*e),e,.rw,w.hp.length,kb.pl⟩) hkb
   have hos:=g5 (Y0 w kb ⟨kb.cells.take (i*e)++kv.cells++kb.cells.drop (i*e),e,.rw,w.hp.length,kb.pl⟩) [] kb2 (fun _=>0) hE (apU hw hbm hkb rfl hrw) hkb2 (.inl ⟨rfl,by simp⟩)
   refine ⟨_,Y0 w kb ⟨kb.cells.take (i*e)++kv.cells++kb.cells.drop (i*e),e,.rw,w.hp.length,kb.pl⟩,fun _=>0,fun j=>(0+d2 j)+(a1 j+d j+a2 j),ajG b hg hres,hw.Y0 hbm hkb rfl (fun q=>have t:kb.sz=1:=hw.mrk bk kb hkb q; by first | exact t | (rw [hsz] at t; exact t)),hgl.mono hE,?_,?_,?_,fun j=>?_,fun j hj=>?_,fun j hj=>?_⟩
   ·exact E2.Y0 hw hbm hkb rfl (E2.start hw (args:=[.o9 k 0 (n+1) e,.int .i64 i,.sl true (y::l)]) hv ho)
   ·simp only [RV,F9]
    refine ⟨⟨w.hp.length,_,_,?_,apx,rfl,he0,rfl⟩,by simp⟩
    show (w.j2++[w.hp.length])[H.length]? = _
    rw [<-ho.len]; simp
   ·exact y2.snoc apx rfl (j0.mono hE _ hnew (fun _ _=>trivial)) hos
   ·show 0+((0+d2 j)+(a1 j+d j+a2 j))<=1
    have:=hle j; have:=g4 j; have:=t3 j; have:=v9 j; have:=q1 j; have:=q2 j; have:=q3 j; omega
   ·show 0+((0+d2 j)+(a1 j+d j+a2 j))<=ca j+ch j
    have:=g4 j; have:=t3 j; have:=v9 j; have:=q1 j; have:=q2 j; have:=q3 j; omega
   ·rw [atV] at hj
    show 0+((0+d2 j)+(a1 j+d j+a2 j))=0
    have:=hbig j (by omega); have:=g4 j; have:=t3 j; have:=v9 j; have:=q1 j; have:=q2 j; have:=q3 j; omega
  ·cases h
 ·rename_i i y l
  split at h
  ·rename_i hc
   obtain ⟨rfl,hesz,hbt⟩:=hc
   cases h
   have hv:=ha
   simp only [j0] at ha
   obtain ⟨x1,_,c1,c2,rfl,h1,⟨x2,_,c3,c4,rfl,h2,⟨x3,_,c5,c6,rfl,h3,⟨rfl,h0⟩,q3⟩,q2⟩,q1⟩:=ha
   simp only [RV] at h2
   obtain ⟨rfl,h20⟩:=h2
   obtain ⟨vb,kv,vcc,d,v1,v2,rfl,v4,v5,v6,he0,v7,v8,v9⟩:=h3.built hesz
   simp only [RV] at h1
   rcases h1 with ⟨_,⟨a,cc,rfl,hcc⟩,hx0⟩ | ⟨h',_⟩
   ·have hcc:=hcc trivial
    subst hcc
    have hres:aih c9 eb [.slice a 0 0,.int .i64 0,.slice (some ⟨vb,0,none⟩) (l.length+1) vcc] w.hp=some (F9 w.hp (l.length+1) (l.length+1+1),w.hp++[⟨kv.cells,c9,.rw,w.hp.length,true⟩]):=by
     simp only [aih,v1,Option.bind_some]
     rw [if_pos ⟨v4,by omega,by omega,by simpa using hbt⟩]
     simp only [and_self,if_true]
     rw [List.take_of_length_le (l:=kv.cells) (by omega)]
    have hE:=ai0 (k:=⟨kv.cells,c9,.rw,w.hp.length,true⟩) hw rfl (fun _=>True)
    have hat:(w.hp++[(⟨kv.cells,c9,.rw,w.hp.length,true⟩:l3)])[w.hp.length]? = some ⟨kv.cells,c9,.rw,w.hp.length,true⟩:=by simp
    have hos:y2 ⟨w.hp++[⟨kv.cells,c9,.rw,w.hp.length,true⟩],w.j2++[w.hp.length],w.hp.length::w.fb⟩ (H++[(y::l).flatten]) (w.j2++[w.hp.length]) (fun j=>ch j+d j) :=
     y2.snoc (kb:=⟨kv.cells,c9,.rw,w.hp.length,true⟩) hat rfl (j0.mono hE _ v8.flat (fun _ _=>trivial)) (ho.mono hE (fun b hb => .eq (by
      show (w.hp++_)[b]? = _
      rw [List.getElem?_append_left (hw.W2 _ (hw.sub _ hb))])) (fun _ _=>trivial))
    refine ⟨_,⟨w.hp++[⟨kv.cells,c9,.rw,w.hp.length,true⟩],w.j2++[w.hp.length],w.hp.length::w.fb⟩,fun _=>0,fun j=>ch j+d j,ajG b hg hres,hw.abD rfl (fun q=>by cases q),hgl.mono hE,(E2.start hw (args:=[.sl true [],.int .i64 0,.sl true (y::l)]) hv ho).abD hw rfl,?_,hos,fun j=>?_,fun j hj=>?_,fun j hj=>?_⟩
    ·simp only [RV,F9]
     refine ⟨⟨w.hp.length,_,_,?_,hat,rfl,he0,rfl⟩,by simp⟩
     show (w.j2++[w.hp.length])[H.length]? = _
     rw [<-ho.len]; simp
    ·show 0+(ch j+d j)<=1
     have:=hle j; have:=v9 j; have:=q1 j; have:=q2 j; have:=q3 j; omega
    ·show 0+(ch j+d j)<=ca j+ch j
     have:=v9 j; have:=q1 j; have:=q2 j; have:=q3 j; omega
    ·simp only [List.length_append,List.length_cons,List.length_nil] at hj
     show 0+(ch j+d j)=0
     have:=hbig j (by omega); have:=v9 j; have:=q1 j; have:=q2 j; have:=q3 j; omega
   ·exact absurd rfl h'
  ·cases h
 ·cases h
def amH (P:Program) (ng:Nat):List (Nat × (List Value->Heap->Option (Value × Heap)))->Prop
 | []=>True
 | (f,g)::l=>(∀ args hp r hp',g args hp=some (r,hp')->arV P ng f args hp r hp')/\amH P ng l
theorem ao8 {P:Program} {ng:Nat}:∀ {l:List (Nat × (List Value->Heap->Option (Value × Heap)))},amH P ng l->∀ f g args hp r hp',look l f=some g->g args hp=some (r,hp')->arV P ng f args hp r hp'
 | [],_,f,g,args,hp,r,hp',h,_=>by cases h
 | (k,q)::l,⟨h1,h2⟩,f,g,args,hp,r,hp',h,e=>by
   rw [j9] at h
   split at h
   ·rename_i hk; cases h; rw [hk]; exact h1 args hp r hp' e
   ·exact ao8 h2 f g args hp r hp' h e
def aj8 (b:V1):List (Nat × (List V->VH->Option (V × VH)))->Prop
 | []=>True
 | (f,g)::l=>(∀ args H r H',g args H=some (r,H')->E3 (b.ctx (K8 b) m9) (N2 b.b) f args H r H')/\aj8 b l
theorem anc {b:V1}:∀ {l:List (Nat × (List V->VH->Option (V × VH)))},aj8 b l->∀ f g args r H H',look l f=some g->g args H=some (r,H')->E3 (b.ctx (K8 b) m9) (N2 b.b) f args H r H'
 | [],_,f,g,args,r,H,H',h,_=>by cases h
 | (k,q)::l,⟨h1,h2⟩,f,g,args,r,H,H',h,e=>by
   rw [j9] at h
   split at h
   ·rename_i hk; cases h; rw [hk]; exact h1 args H r H' e
   ·exact anc h2 f g args r H H' h e
theorem ank {α β:Type}:∀ {l:List (Nat × α)} {l':List (Nat × β)},l.map (·.1)=l'.map (·.1)->∀ {f:Nat},look l f=none->look l' f=none
 | [],[],_,f,_=>rfl
 | [],_::_,h,_,_=>by simp at h
 | _::_,[],h,_,_=>by simp at h
 | (k,a)::l,(k',a')::l',h,f,hn=>by
   simp only [List.map_cons,List.cons.injEq] at h
   obtain ⟨rfl,h⟩:=h
   rw [j9] at hn ⊢
   split at hn
   ·cases hn
   ·rename_i hk; rw [if_neg hk]; exact ank h hn
end Go.AM

/- What comes in: arguments read az data, az values of the machines. -/
namespace Go.AM
set_option linter.unusedSimpArgs false
set_option linter.unusedVariables false
inductive Ty where
 | bool
 | int (k:IntKind)
 | str
 | sl (e:Ty)
 | st (fs:List Ty)
mutual
def Q0:Ty->Nat
 | .st fs=>abr fs
 | _=>1
termination_by structural t=>t
def abr:List Ty->Nat
 | []=>0
 | t::ts=>Q0 t+abr ts
termination_by structural l=>l
end
mutual
def ac9 (P:Program):Ty->TypeId->Bool
 | .bool,t=>(match P.underlying t with | some .bool=>true | _=>false)
 | .int k,t=>(match P.underlying t with | some (.int k')=>decide (k'=k) | _=>false)
 | .str,t=>(match P.underlying t with | some .string=>true | _=>false)
 | .sl e,t=>(match P.underlying t with | some (.slice e')=>ac9 P e e'&&decide (P.cellsOf e'=Q0 e)&&decide (0<Q0 e) | _=>false)
 | .st fs,t=>(match P.underlying t with | some (.struct fields)=>alu P fs fields.toList 0&&decide (P.cellsOf t=abr fs) | _=>false)
termination_by structural t=>t
def alu (P:Program):List Ty->List Field->Nat->Bool
 | [],fs,_=>(match fs with | []=>true | _=>false)
 | t::ts,fs,off=>(match fs with | f::fs=>ac9 P t f.type&&decide (f.offset=off)&&decide (P.cellsOf f.type=Q0 t)&&alu P ts fs (off+Q0 t) | []=>false)
termination_by structural l=>l
end
mutual
def G8:Ty->List V->Prop
 | .bool,vs=>∃ b,vs=[.bool b]
 | .int k,vs=>∃ n,vs=[.int k n]/\(Lit.int k n).wf=true
 | .str,vs=>∃ s:List UInt8,vs=[.str s]/\s.length<=maxLen
 | .sl e,vs=>∃ xs:List (List V),vs=[.sl false xs]/\xs.length<=maxLen/\∀ x ∈ xs,G8 e x
 | .st fs,vs=>V3 fs vs
termination_by structural t=>t
def V3:List Ty->List V->Prop
 | [],vs=>vs=[]
 | t::ts,vs=>∃ a b,vs=a++b/\G8 t a/\V3 ts b
termination_by structural l=>l
end
structure S4 (ι:m8) (hp:Heap) (w:World):Prop where
 ro:∀ (b:Nat) (k:l3),hp[b]? = some k->(k.md = .ro\/k.md = .gone)/\k.j3=b/\k.pl=true
 C5:∀ b x,ι b=some x->b<hp.length
 ok:∀ b x k,ι b=some x->hp[b]? = some k->(k.md ≠ .gone->Y7 ι x k w w.heap.size)/\k.sz=x.sz
theorem GOk.zero (ι:m8):GOk 0 ι:=fun g hg=>by omega
theorem GOk.mono {n:Nat} {ι ι':m8} (h:GOk n ι) (s:Sub ι ι'):GOk n ι':=fun g hg=>by
 obtain ⟨x,h1,h2⟩:=h g hg
 exact ⟨x,s _ _ h1,h2⟩
theorem S4.rel {ι:m8} {hp:Heap} {w:World} (h:S4 ι hp w) {n:Nat} (hg:GOk n ι):Rel n ι hp w w.heap.size where
 I1:=hg
 R8:=fun b x k hx hk=>(h.ok b x k hx hk).2
 C5:=h.C5
 base:=Nat.le_refl _
 ok:=fun b x k hx hk=>(h.ok b x k hx (k9 hk).1).1 (k9 hk).2.1
 sep:=fun b x k b' x' k' hx hk hm=>by
  rcases (h.ro b k (k9 hk).1).1 with q | q<;>(rw [q] at hm; cases hm)
theorem S4.hw {ι:m8} {hp:Heap} {w:World} (h:S4 ι hp w):HW ⟨hp,[],[]⟩ where
 obj:=fun b hb=>by cases hb
 one:=fun b c kb kc hb hc m1 m2 _=>by rcases (h.ro b kb hb).1 with q | q<;>(rw [q] at m1; cases m1)
 j3:=fun c k hk=>by
  rw [(h.ro c k hk).2.1]; exact (List.getElem?_eq_some_iff.1 hk).1
 W2:=fun b hb=>by cases hb
 sub:=fun b hb=>by cases hb
 nd:=List.nodup_nil
 fbf:=fun _ _ _ _ hb=>by cases hb
 mrk:=fun c k hk e=>by rw [(h.ro c k hk).2.2] at e; cases e
theorem S4.azk {ι:m8} {hp:Heap} {w:World} (h:S4 ι hp w):∀ b k,l9 hp b=some k->k.md ≠ .rw:=fun b k hk e=>by
 rcases (h.ro b k (k9 hk).1).1 with q | q<;>(rw [q] at e; cases e)
theorem S4.nil (w:World):S4 (fun _=>none) [] w where
 ro:=fun b k h=>by simp at h
 C5:=fun b x h=>by cases h
 ok:=fun b x k h=>by cases h
theorem Y7.sub {ι ι':m8} (hs:Sub ι ι') {x:Img} {k:l3} {w:World} {B:Nat} (h:Y7 ι x k w B):Y7 ι' x k w B:=by
 obtain ⟨cs,el,fr,h1,h2,h3,h4,h5⟩:=h
 exact ⟨cs,el,fr,h1,h2,h3,h4.mono hs,h5⟩
theorem S4.push {ι:m8} {hp:Heap} {w:World} (h:S4 ι hp w) {x:Img} {cells:List Value} {sz:Nat} (hb:Y7 ι x ⟨cells,sz,.ro,hp.length,true⟩ w w.heap.size) (hsz:sz=x.sz) :
 ∃ ι',S4 ι' (hp++[⟨cells,sz,.ro,hp.length,true⟩]) w/\Sub ι ι'/\ι' hp.length=some x:=by
 have hsub:Sub ι (fun b=>if b=hp.length then some x else ι b):=fun b y hy=>by
  have:=h.C5 b y hy
  show (if b=hp.length then some x else ι b)=some y
  rw [if_neg (by omega)]; exact hy
 refine ⟨fun b=>if b=hp.length then some x else ι b,⟨fun b k hk=>?_,fun b y hy=>?_,fun b y k hy hk=>?_⟩,hsub,by simp⟩
 ·rcases T0 hk with ⟨_,hk⟩ | ⟨rfl,rfl⟩
  ·exact h.ro b k hk
  ·exact ⟨.inl rfl,rfl,rfl⟩
 ·have hy':(if b=hp.length then some x else ι b)=some y:=hy
  simp only [List.length_append,List.length_cons,List.length_nil]
  split at hy'
  ·omega
  ·have:=h.C5 b y hy'; omega
 ·have hy':(if b=hp.length then some x else ι b)=some y:=hy
  rcases T0 hk with ⟨hl,hk⟩ | ⟨rfl,rfl⟩
  ·rw [if_neg (by omega)] at hy'
   obtain ⟨a,b'⟩:=h.ok b y k hy' hk
   exact ⟨fun q=>(a q).sub hsub,b'⟩
  ·rw [if_pos rfl] at hy'
   cases hy'
   exact ⟨fun _=>hb.sub hsub,hsz⟩
theorem C0.ayf {ι:m8} {xs ys:List Value} (h:C0 ι xs ys):xs.length=ys.length:=by
 induction h with
 | nil=>rfl
 | cons _ _ ih=>simp [ih]
theorem C0.get' {ι:m8} {xs ys:List Value} (h:C0 ι xs ys):∀ (i:Nat) (x:Value),xs[i]? = some x->∃ y,ys[i]? = some y/\VR ι x y:=by
 induction h with
 | nil=>intro i x h; simp at h
 | cons h1 _ ih =>
   intro i z hz
   cases i with
   | zero=>simp at hz; subst hz; exact ⟨_,by simp,h1⟩
   | succ i=>simp at hz; simpa using ih i z hz
theorem agC (hp new:Heap):Ext ⟨hp,[],[]⟩ ⟨hp++new,[],[]⟩ (fun _=>True):=by
 refine ⟨fun b kb hb hn=>⟨kb,?_,B2.nil,by simp,rfl,rfl,fun _=>⟨rfl,rfl⟩⟩,fun k b h=>h,fun k b kb h=>by simp at h⟩
 show l9 (hp++new) b=_
 have hb':l9 hp b=some kb:=hb
 rw [y1 _ (k9 hb').2.2]; exact hb'
theorem j0.push {hp new:Heap} {vs:List V} {xs:List Value} (h:j0 ⟨hp,[],[]⟩ vs xs (fun _=>0)):j0 ⟨hp++new,[],[]⟩ vs xs (fun _=>0) :=
 j0.mono (agC hp new) vs h (fun _ _=>trivial)
theorem m7.push {hp new:Heap} {vs:List (List V)} {xs:List Value} {sz:Nat} (h:m7 ⟨hp,[],[]⟩ vs xs sz (fun _=>0)):m7 ⟨hp++new,[],[]⟩ vs xs sz (fun _=>0) :=
 m7.mono (agC hp new) vs h (fun _ _=>trivial)
mutual
theorem G8.len:∀ (τ:Ty) {vs:List V},G8 τ vs->vs.length=Q0 τ
 | .bool,vs,h=>by simp only [G8] at h; obtain ⟨_,rfl⟩:=h; rfl
 | .int k,vs,h=>by simp only [G8] at h; obtain ⟨_,rfl,_⟩:=h; rfl
 | .str,vs,h=>by simp only [G8] at h; obtain ⟨_,rfl,_⟩:=h; rfl
 | .sl e,vs,h=>by simp only [G8] at h; obtain ⟨_,rfl,_⟩:=h; rfl
 | .st fs,vs,h=>by simp only [G8] at h; simp only [Q0]; exact V3.len fs h
theorem V3.len:∀ (τ:List Ty) {vs:List V},V3 τ vs->vs.length=abr τ
 | [],vs,h=>by simp only [V3] at h; rw [h]; rfl
 | t::ts,vs,h=>by
   simp only [V3] at h
   obtain ⟨a,b,rfl,h1,h2⟩:=h
   simp only [List.length_append,abr,G8.len t h1,V3.len ts h2]
end
section
variable {H:Type} {enc:TypeId × Value->H} {P:Program} {w:World}
theorem aly {a:Addr} {v:Value} (h:w.cell? a=some v):∃ cs el fr,w.heap[a.block]? = some (.cells cs el fr)/\a.spot=none/\cs[a.off]? = some v:=by
 unfold World.cell? at h
 split at h
 ·rename_i c el fr hc
  split at h
  ·cases h
  ·rename_i hs
   refine ⟨c,el,fr,hc,?_,h⟩
   cases e:a.spot with
   | none=>rfl
   | some _=>rw [e] at hs; simp at hs
 ·cases h
theorem ath (a:Addr) (n:Nat):(a.add n).block=a.block:=by unfold Addr.add; split<;>rfl
theorem awq (a:Addr) (n:Nat):(a.add n).off=a.off+n:=by
 unfold Addr.add; split
 ·rename_i h; subst h; simp
 ·rfl
theorem add_add (a:Addr) (m n:Nat):(a.add m).add n=a.add (m+n)\/(a.add m).add n=a.add (m+n):=by
 left
 unfold Addr.add
 by_cases hm:m=0
 ·subst hm; simp
 ·by_cases hn:n=0
  ·subst hn; simp
  ·simp only [hm,hn,if_false,Nat.add_eq_zero_iff,and_self,Nat.add_assoc]
mutual
theorem conv:∀ (τ:Ty) {t:TypeId} {n:Nat} {cs:List Value} {x:DataW H × List MemPlace} {hp:Heap} {ι:m8},ac9 P τ t=true->DataW.trod enc P w 0 (fun _=>true) true n t cs=some x->S4 ι hp w →
 ∃ new ι' xs vs,S4 ι' (hp++new) w/\Sub ι ι'/\C0 ι' xs cs/\(∀ u ∈ xs,u.oneCell'=true)/\j0 ⟨hp++new,[],[]⟩ vs xs (fun _=>0)/\G8 τ vs
 | .bool,t,n,cs,x,hp,ι,ht,h,hi=>by
   simp only [ac9] at ht
   split at ht
   ·rename_i hu
    obtain ⟨b,rfl,rfl⟩:=DataW.trod_bool hu h
    exact ⟨[],ι,[.bool b],[.bool b],by simpa using hi,Sub.refl ι,.cons (.bool b) .nil,by simp [Value.oneCell'],j0.one (by simp [RV]),by simp [G8]⟩
   ·cases ht
 | .int k,t,n,cs,x,hp,ι,ht,h,hi=>by
   simp only [ac9] at ht
   split at ht
   ·rename_i k' hu
    have:=of_decide_eq_true ht
    subst this
    obtain ⟨b,rfl,rfl,hw⟩:=DataW.trod_int hu h
    exact ⟨[],ι,[.int k' b],[.int k' b],by simpa using hi,Sub.refl ι,.cons (.int k' b) .nil,by simp [Value.oneCell'],j0.one (by simp [RV]),by simp only [G8]; exact ⟨b,rfl,hw⟩⟩
   ·cases ht
 | .str,t,n,cs,x,hp,ι,ht,h,hi=>by
   simp only [ac9] at ht
   split at ht
   ·rename_i hu
    obtain ⟨b,rfl,rfl,hw⟩:=DataW.trod_string hu h
    exact ⟨[],ι,[.string b],[.str b.data.toList],by simpa using hi,Sub.refl ι,.cons (.str b) .nil,by simp [Value.oneCell'],j0.one (by simp [RV]),by simp only [G8]; exact ⟨_,rfl,by have e:b.data.toList.length=b.size:=rfl; rw [e]; exact hw⟩⟩
   ·cases ht
 | .sl e,t,n,cs,x,hp,ι,ht,h,hi=>by
   simp only [ac9] at ht
   split at ht
   ·rename_i e' hu
    simp only [Bool.and_eq_true,decide_eq_true_eq] at ht
    obtain ⟨⟨hte,hsz⟩,hpos⟩:=ht
    rcases DataW.trod_slice hu h with ⟨rfl,rfl⟩ | ⟨a,len,cap,elems,rest,m,rfl,rfl,rfl,_,hlc,hcap,hel,hget,hsp,_⟩
    ·refine ⟨[],ι,[.slice none 0 0],[.sl false []],by simpa using hi,Sub.refl ι,.cons .adJ .nil,by simp [Value.oneCell'],j0.one (by simp only [RV]; exact .inl ⟨trivial,⟨none,0,rfl,by simp⟩,by simp⟩),?_⟩
     simp only [G8]
     exact ⟨[],rfl,by simp,by simp⟩
    ·by_cases h0:len=0
     ·subst h0
      refine ⟨[],ι,[.slice (some ⟨0,0,none⟩) 0 1],[.sl false []],by simpa using hi,Sub.refl ι,.cons (.slz _ _ _ _ (by omega)) .nil,by simp [Value.oneCell'],j0.one (by simp only [RV]; exact .inl ⟨trivial,⟨_,1,rfl,by simp⟩,by simp⟩),?_⟩
      simp only [G8]
      exact ⟨[],rfl,by simp,by simp⟩
     ·-- the elements,one after the other
      have elem:∀ (j:Nat) {hp:Heap} {ι:m8},j<=len->S4 ι hp w->∃ new ι' xs vs,S4 ι' (hp++new) w/\Sub ι ι'/\xs.length=j*Q0 e/\(∀ (i:Nat) (v:Value),xs[i]? = some v->v.oneCell'=true/\∃ v',w.cell? (a.add i)=some v'/\VR ι' v v') ∧
       m7 ⟨hp++new,[],[]⟩ vs xs (Q0 e) (fun _=>0)/\vs.length=j/\∀ y ∈ vs,G8 e y:=by
       intro j
       induction j with
       | zero=>intro hp ι _ hi; exact ⟨[],ι,[],[],by simpa using hi,Sub.refl ι,by simp,by simp,by simp [m7],rfl,by simp⟩
       | succ j ih =>
         intro hp ι hj hi
         obtain ⟨new1,ι1,xs1,vs1,i1,s1,l1,r1,q1,n1,t1⟩:=ih (by omega) hi
         have hg:=hget j (by omega)
         have hej:∃ y,elems[j]? = some y:=⟨elems[j]'(by omega),List.getElem?_eq_getElem (by omega)⟩
         obtain ⟨y,hy⟩:=hej
         rw [hy,Option.bind_eq_some_iff] at hg
         obtain ⟨ecs,hec,hey⟩:=hg
         obtain ⟨new2,ι2,xs2,vs2,i2,s2,r2,o2,q2,t2⟩:=conv e hte hey i1
         obtain ⟨_,hlen2,hcell⟩:=World.cells?_some hec
         have hx2:xs2.length=Q0 e:=by rw [r2.ayf,hlen2,hsz]
         refine ⟨new1++new2,ι2,xs1++xs2,vs1++[vs2],by rw [<-List.append_assoc]; exact i2,s1.trans s2,by simp [l1,hx2,Nat.succ_mul],fun i v hv=>?_,?_,by simp [n1],fun z hz=>?_⟩
         ·by_cases hlt:i<xs1.length
          ·rw [List.getElem?_append_left hlt] at hv
           obtain ⟨g1,v',g2,g3⟩:=r1 i v hv
           exact ⟨g1,v',g2,g3.mono s2⟩
          ·rw [List.getElem?_append_right (by omega)] at hv
           obtain ⟨v',g2,g3⟩:=r2.get' _ _ hv
           refine ⟨o2 v (List.mem_of_getElem? hv),v',?_,g3⟩
           have hi2:i-xs1.length<P.cellsOf e':=by
            have:=(List.getElem?_eq_some_iff.1 g2).1; omega
           have:=hcell (i-xs1.length) hi2
           rw [g2] at this
           rw [<-this]
           have e1:(a.add (j*P.cellsOf e')).add (i-xs1.length)=a.add (j*P.cellsOf e'+(i-xs1.length)):=(add_add a _ _).elim id id
           have e2:j*P.cellsOf e'+(i-xs1.length)=i:=by rw [hsz,<-l1]; omega
           rw [e1,e2]
         ·rw [<-List.append_assoc]
          refine (m7.app (m7.push q1) (b:=fun _=>0) ?_).congr (by simp)
          simp only [m7]
          exact ⟨xs2,[],fun _=>0,fun _=>0,by simp,G8.len e t2,q2,⟨rfl,by simp⟩,by simp⟩
         ·rcases List.mem_append.1 hz with hz | hz
          ·exact t1 z hz
          ·simp at hz; subst hz; exact t2
      obtain ⟨new,ι1,xs,vs,i1,s1,l1,r1,q1,n1,t1⟩:=elem len (Nat.le_refl _) hi
      have hxl:0<xs.length:=by rw [l1]; exact Nat.mul_pos (by omega) hpos
      obtain ⟨_,v0,hv0,_⟩:=r1 0 xs[0] (List.getElem?_eq_getElem hxl)
      have ha0:a.add 0=a:=by simp [Addr.add]
      rw [ha0] at hv0
      obtain ⟨c,el,fr,hc,hspot,_⟩:=aly hv0
      have inb:∀ i v,w.cell? (a.add i)=some v->a.off+i<c.size/\c[a.off+i]? = some v:=fun i v hv=>by
       obtain ⟨c',el',fr',hc',_,hx⟩:=aly hv
       rw [ath] at hc'
       rw [hc] at hc'
       cases hc'
       rw [awq] at hx
       exact ⟨(Array.getElem?_eq_some_iff.1 hx).1,hx⟩
      have hroom:a.off+cap*Q0 e<=c.size:=by
       have hlast:∃ ecs,w.cells? 0 (a.add ((cap-1)*P.cellsOf e')) (P.cellsOf e')=some ecs:=by
        by_cases hcl:cap=len
        ·have hg:=hget (cap-1) (by omega)
         have:∃ y,elems[cap-1]? = some y:=⟨elems[cap-1]'(by omega),List.getElem?_eq_getElem (by omega)⟩
         obtain ⟨y,hy⟩:=this
         rw [hy,Option.bind_eq_some_iff] at hg
         exact ⟨_,hg.choose_spec.1⟩
        ·obtain ⟨hrl,hr⟩:=hsp rfl
         have hg:=hr (cap-1-len) (by omega)
         have:∃ y,rest[cap-1-len]? = some y:=⟨rest[cap-1-len]'(by omega),List.getElem?_eq_getElem (by omega)⟩
         obtain ⟨y,hy⟩:=this
         rw [show len+(cap-1-len)=cap-1 by omega,hy,Option.bind_eq_some_iff] at hg
         exact ⟨_,hg.choose_spec.1⟩
       obtain ⟨ecs,hec⟩:=hlast
       obtain ⟨_,hl2,hcell⟩:=World.cells?_some hec
       rw [hsz] at *
       have hlt:Q0 e-1<ecs.length:=by omega
       have:=hcell (Q0 e-1) (by omega)
       rw [List.getElem?_eq_getElem hlt,(add_add a _ _).elim id id] at this
       have:=(inb _ _ this).1
       have hm:(cap-1)*Q0 e+Q0 e=cap*Q0 e:=by
        rw [<-Nat.succ_mul]; congr 1; omega
       omega
      have hblk:Y7 ι1 ⟨a.block,a.off,c.size-a.off,Q0 e⟩ ⟨xs,Q0 e,.ro,(hp++new).length,true⟩ w w.heap.size:=by
       refine ⟨c,el,fr,hc,by simp only; omega,?_,fun i v hv=>?_,fun h=>by cases h⟩
       ·simp only; rw [l1]
        have:=Nat.mul_le_mul_right (Q0 e) hlc
        omega
       ·obtain ⟨g1,v',g2,g3⟩:=r1 i v hv
        exact ⟨g1,v',(inb i v' g2).2,g3⟩
      obtain ⟨ι2,i2,s2,hat⟩:=i1.push hblk rfl
      refine ⟨new++[⟨xs,Q0 e,.ro,(hp++new).length,true⟩],ι2,[.slice (some ⟨(hp++new).length,0,none⟩) len (len+1)],[.sl false vs],by rw [<-List.append_assoc]; exact i2,s1.trans s2,?_,by simp [Value.oneCell'],?_,?_⟩
      ·refine .cons ?_ .nil
       have:=VR.slc (ι:=ι2) (o:=0) (n:=len) (c:=len+1) (c':=cap) hat (by omega) hlc (by omega) (by simp only; omega)
       have ea:(⟨a.block,a.off+0,none⟩:Addr)=a:=by
        obtain ⟨b,o,s⟩:=a
        simp only at hspot
        subst hspot; rfl
       simp only at this
       rw [ea] at this; exact this
      ·refine j0.one ?_
       rw [<-List.append_assoc]
       have hne:vs ≠ []:=fun e=>by rw [e] at n1; simp at n1; omega
       simp only [RV]
       refine .inr ⟨hne,(hp++new).length,0,⟨xs,Q0 e,.ro,(hp++new).length,true⟩,xs,len+1,fun _=>0,aqi (by simp),by simp,B2.nil,by rw [n1],hpos,?_,m7.push q1,.inl ⟨trivial,by simp,by simp⟩⟩
       show L1 xs 0 (vs.length*Q0 e)=some xs
       rw [M7 (by rw [n1,l1]; omega),List.drop_zero,List.take_of_length_le (by rw [n1,l1]; omega)]
      ·simp only [G8]
       exact ⟨vs,rfl,by rw [n1]; omega,t1⟩
   ·cases ht
 | .st fs,t,n,cs,x,hp,ι,ht,h,hi=>by
   simp only [ac9] at ht
   split at ht
   ·rename_i fields hu
    simp only [Bool.and_eq_true,decide_eq_true_eq] at ht
    obtain ⟨ht1,ht2⟩:=ht
    obtain ⟨xs,m,rfl,rfl,hlen,hxl,hget⟩:=DataW.trod_struct hu h
    obtain ⟨new,ι',ys,vs,g1,g2,g3,g4,g5,g6⟩:=awj fs (fields:=fields.toList) (off:=0) (cs:=cs) (m:=m) ht1 (by rw [hlen,ht2]; omega) (fun i f hf=>by
     have:=hget i f (by simpa using hf)
     have hi:i<xs.length:=by rw [hxl]; have:=(List.getElem?_eq_some_iff.1 hf).1; simpa using this
     exact ⟨xs[i],by rw [this,List.getElem?_eq_getElem hi]⟩) hi
    refine ⟨new,ι',ys,vs,g1,g2,?_,g4,g5,by simp only [G8]; exact g6⟩
    have:(cs.drop 0).take (abr fs)=cs:=by rw [List.drop_zero,List.take_of_length_le (by omega)]
    rw [this] at g3; exact g3
   ·cases ht
theorem awj:∀ (fs:List Ty) {fields:List Field} {off m:Nat} {cs:List Value} {hp:Heap} {ι:m8},alu P fs fields off=true->off+abr fs<=cs.length →
 (∀ (i:Nat) (f:Field),fields[i]? = some f->∃ y,DataW.trod enc P w 0 (fun _=>true) true m f.type ((cs.drop f.offset).take (P.cellsOf f.type))=some y)->S4 ι hp w →
 ∃ new ι' xs vs,S4 ι' (hp++new) w/\Sub ι ι'/\C0 ι' xs ((cs.drop off).take (abr fs))/\(∀ u ∈ xs,u.oneCell'=true)/\j0 ⟨hp++new,[],[]⟩ vs xs (fun _=>0)/\V3 fs vs
 | [],fields,off,m,cs,hp,ι,ht,hl,hg,hi=>⟨[],ι,[],[],by simpa using hi,Sub.refl ι,by simp [abr]; exact .nil,by simp,by simp [j0],by simp [V3]⟩
 | t::ts,fields,off,m,cs,hp,ι,ht,hl,hg,hi=>by
   cases fields with
   | nil=>simp only [alu] at ht; cases ht
   | cons f fields =>
     simp only [alu,Bool.and_eq_true,decide_eq_true_eq] at ht
     obtain ⟨⟨⟨h1,h2⟩,h3⟩,h4⟩:=ht
     simp only [abr] at hl
     obtain ⟨y,hy⟩:=hg 0 f (by simp)
     rw [h2,h3] at hy
     obtain ⟨new1,ι1,xs1,vs1,i1,s1,r1,o1,q1,t1⟩:=conv t h1 hy hi
     obtain ⟨new2,ι2,xs2,vs2,i2,s2,r2,o2,q2,t2⟩:=awj ts (fields:=fields) (off:=off+Q0 t) (cs:=cs) (m:=m) h4 (by omega) (fun i g hgi=>hg (i+1) g (by simpa using hgi)) i1
     refine ⟨new1++new2,ι2,xs1++xs2,vs1++vs2,by rw [<-List.append_assoc]; exact i2,s1.trans s2,?_,fun u hu=>?_,?_,by simp only [V3]; exact ⟨vs1,vs2,rfl,t1,t2⟩⟩
     ·have e:(cs.drop off).take (abr (t::ts))=(cs.drop off).take (Q0 t)++(cs.drop (off+Q0 t)).take (abr ts):=by
       simp only [abr]
       rw [<-List.drop_drop,List.take_add]
      rw [e]
      exact (r1.mono s2).append r2
     ·rcases List.mem_append.1 hu with hu | hu
      ·exact o1 u hu
      ·exact o2 u hu
     ·rw [<-List.append_assoc]
      exact ((j0.push q1).app q2).congr (by simp)
end
end
end Go.AM

/- Package variables that are listed az laid: rows of texts. -/
namespace Go.AM
set_option linter.unusedSimpArgs false
set_option linter.unusedVariables false
def acM (g:Nat) (cells:List Value):Heap:=(List.range g).map (fun b=>⟨[],1,.gone,b,true⟩)++[⟨cells,1,.ro,g,true⟩]
theorem ahd (g:Nat) (cells:List Value):(acM g cells).length=g+1:=by simp [acM]
theorem ans (g:Nat) (cells:List Value):(acM g cells)[g]? = some ⟨cells,1,.ro,g,true⟩:=by
 unfold acM
 rw [List.getElem?_append_right (by simp)]; simp
theorem alX {g b:Nat} {cells:List Value} {k:l3} (h:(acM g cells)[b]? = some k):(b<g/\k=⟨[],1,.gone,b,true⟩)\/(b=g/\k=⟨cells,1,.ro,g,true⟩):=by
 have hl:=(List.getElem?_eq_some_iff.1 h).1
 rw [ahd] at hl
 by_cases hb:b<g
 ·left
  unfold acM at h
  rw [List.getElem?_append_left (by simpa using hb)] at h
  simp [hb] at h
  exact ⟨hb,h.symm⟩
 ·obtain rfl:b=g:=by omega
  rw [ans] at h; cases h
  exact .inr ⟨rfl,rfl⟩
def alE (g room:Nat):m8:=fun b=>if b<=g then some ⟨b,0,if b=g then room else 0,1⟩ else none
def acb (ss:List (List UInt8)):List Value:=ss.map fun s => .string ⟨s.toArray⟩
theorem S4.ayQ {w:World} {g:Nat} {cs:Array Value} {el:TypeId} {fr:Nat × Nat} (hb:w.heap[g]? = some (.cells cs el fr)) {ss:List (List UInt8)} (hc:cs.toList=acb ss) :
 S4 (alE g cs.size) (acM g (acb ss)) w/\GOk (g+1) (alE g cs.size):=by
 refine ⟨⟨fun b k h=>?_,fun b x h=>?_,fun b x k hx hk=>?_⟩,fun b hb'=>?_⟩
 ·rcases alX h with ⟨_,rfl⟩ | ⟨rfl,rfl⟩
  ·exact ⟨.inr rfl,rfl,rfl⟩
  ·exact ⟨.inl rfl,rfl,rfl⟩
 ·unfold alE at h
  rw [ahd]
  split at h
  ·omega
  ·cases h
 ·unfold alE at hx
  split at hx
  ·cases hx
   rcases alX hk with ⟨hlt,rfl⟩ | ⟨rfl,rfl⟩
   ·exact ⟨fun q=>absurd rfl q,rfl⟩
   ·refine ⟨fun _=>⟨cs,el,fr,hb,by simp,?_,fun i v hv=>?_,fun q=>by cases q⟩,rfl⟩
    ·simp only [if_true]
     have:=congrArg List.length hc
     simp at this; simp [this]
    ·simp only at hv ⊢
     rw [<-hc] at hv
     have hv':cs[i]? = some v:=by simpa using hv
     have hm:v ∈ acb ss:=by rw [<-hc]; exact List.mem_of_getElem? hv
     unfold acb at hm
     obtain ⟨s,_,rfl⟩:=List.mem_map.1 hm
     exact ⟨rfl,_,by rw [Nat.zero_add]; exact hv',.str _⟩
  ·cases hx
 ·exact ⟨⟨b,0,if b=g then cs.size else 0,1⟩,by unfold alE; rw [if_pos (by omega)],rfl,rfl⟩
def alF (g:Nat) (ss:List (List UInt8)):Nat->Option (List V):=fun k=>match Nat.beq k g with | true=>some (ss.map .str) | false=>none
theorem apb {w:Wd}:∀ ss:List (List UInt8),j0 w (ss.map .str) (acb ss) (fun _=>0)
 | []=>by simp [j0,acb]
 | s::ss=>⟨_,_,fun _=>0,fun _=>0,rfl,by simp [RV],apb ss,by simp⟩
theorem arJ {g:Nat} {ss:List (List UInt8)} {k:Nat} {cs:List V} (h:alF g ss k=some cs):s7 cs=true:=by
 unfold alF at h
 split at h
 ·cases h
  induction ss with
  | nil=>rfl
  | cons s ss ih=>simp only [List.map_cons,s7,data,Bool.true_and]; exact ih
 ·cases h
theorem I2.start {X:XV} {g:Nat} {ss:List (List UInt8)} (hx:X.I1=alF g ss) (new:Heap):I2 X ⟨acM g (acb ss)++new,[],[]⟩:=fun k cs h=>by
 rw [hx] at h
 unfold alF at h
 split at h
 ·rename_i hk
  cases h
  obtain rfl:=Nat.eq_of_beq_eq_true hk
  refine ⟨⟨acb ss,1,.ro,k,true⟩,?_,B2.nil,apb ss,by simp,rfl⟩
  show l9 (acM k (acb ss)++new) k=_
  unfold l9
  rw [List.getElem?_append_left (by rw [ahd]; omega),ans]
  rfl
 ·cases h
theorem asG {P:Program} {w:World} {n:String} {d:DataW Unit} {g:Nat} {t e:TypeId} {k:Nat} {ss:List (List UInt8)} :
 ∀ {laid:List (String × DataW Unit)},laidMetH P laid w->(n,d) ∈ laid->d.handleName?.isNone=true->P.globalNamed n=some g->(P.globals[g]?).map (·.type)=some t->P.underlying t=some (.array k e)->P.underlying e=some .string →
 P.cellsOf e=1->P.cellsOf t=k->d = .agg (ss.map fun s => .lit (.string s))->∃ cs el fr,w.heap[g]? = some (.cells cs el fr)/\cs.toList=acb ss:=by
 intro laid h hm hh hg ht hu he h1 hk hd
 obtain ⟨h2,_⟩:=laidMetH_iff.1 h
 obtain ⟨ps,hv,-⟩:=h2
 have hm':(n,d) ∈ laid.filter fun x=>x.2.handleName?.isNone:=List.mem_filter.2 ⟨hm,hh⟩
 clear h hm hh
 generalize (laid.filter fun x=>x.2.handleName?.isNone)=l at hv hm'
 induction l generalizing ps with
 | nil=>cases hm'
 | cons y l ih =>
   obtain ⟨n',d'⟩:=y
   obtain ⟨g',t',cs,fuel,p,q,a1,a2,a3,a4,a5,a6⟩:=hv
   rcases List.mem_cons.1 hm' with e' | e'
   ·cases e'
    rw [hg] at a1; cases a1
    rw [ht] at a2; cases a2
    obtain ⟨cs',el,fr,b1,b2⟩:∃ cs' el fr,w.heap[g]? = some (.cells cs' el fr)/\cs'=cs:=by
     unfold World.var? at a3
     rw [hg] at a3
     simp only [Option.bind_some] at a3
     split at a3
     ·rename_i c el fr hc
      cases a3
      exact ⟨_,el,fr,hc,rfl⟩
     ·cases a3
    subst b2
    refine ⟨cs',el,fr,b1,?_⟩
    subst hd
    obtain ⟨xs,m,_,hx,hl,hxl,hf⟩:=DataW.trod_array hu a4
    simp only [Prod.mk.injEq,DataW.agg.injEq] at hx
    have hxs:=hx.1
    have hsl:ss.length=xs.length:=by simpa using congrArg List.length hxs
    rw [h1] at hf
    apply List.ext_getElem?
    intro i
    by_cases hi:i<k
    ·have hfi:=hf i hi
     have hxi:xs[i]? = some (xs[i]'(by omega)):=List.getElem?_eq_getElem (by omega)
     rw [hxi] at hfi
     obtain ⟨s,e1,e2,_⟩:=DataW.trod_string he hfi
     have e3:(ss.map fun s=>(DataW.lit (.string s):DataW Unit))[i]? = some (.lit (.string s.data.toList)):=by
      rw [hxs,List.getElem?_map,hxi,Option.map_some,e2]
     rw [List.getElem?_map] at e3
     have hsi:ss[i]? = some (ss[i]'(by omega)):=List.getElem?_eq_getElem (by omega)
     rw [hsi] at e3
     simp only [Option.map_some,Option.some.injEq,DataW.lit.injEq,Lit.string.injEq] at e3
     have e4:cs'.toList[i]? = some (.string s):=by
      rw [Nat.mul_one] at e1
      have:((cs'.toList.drop i).take 1)[0]? = some (.string s):=by rw [e1]; rfl
      rw [List.getElem?_take] at this
      simpa using this
     rw [e4]
     unfold acb
     rw [List.getElem?_map,hsi,Option.map_some,e3]
    ·rw [List.getElem?_eq_none (by omega),List.getElem?_eq_none (by unfold acb; simp; omega)]
   ·exact ih q a5 e'
end Go.AM

/- Objects: loading and storing through known pointers; the block that draws. -/
namespace Go.AM
set_option linter.unusedSimpArgs false
set_option linter.unusedVariables false
theorem auO {α:Type} {l:List α} {k:Nat} {a:α} (h:l[k]? = some a):l.set k a=l:=by
 apply List.ext_getElem?
 intro i
 rw [List.getElem?_set]
 split
 ·rename_i e
  subst e
  rw [h,if_pos (List.getElem?_eq_some_iff.1 h).1]
 ·rfl
theorem awP {g:Nat->Option (List V)} {n k off:Nat} {H:VH} {cs:List V} {v u:V} (h:H[k]? = some cs) (hv:cs[off]? = some v) (hu:strip v=u):O2 g false false n (.ptr k off) H=some (u,H):=by
 rw [<-hu]
 simp only [O2,h,aeF,hv,Option.bind_some,Option.map_some,auO h]
theorem amM {k off:Nat} {H:VH} {cs:List V} {v:V} (h:H[k]? = some cs) (ho:off<cs.length):stO (.ptr k off) [v] H=some (H.set k (cs.set off v)):=by
 have hb:Nat.ble (off+[v].length) cs.length=true:=Nat.ble_eq_true_of_le (by simp; omega)
 simp only [stO,h,hb]
 have:R3 cs off [v]=cs.set off v:=by
  simp only [R3]
  rw [List.set_eq_take_append_cons_drop,if_pos ho]; simp
 rw [this]
theorem auh {α:Type} (H:List α) (a:α):(H++[a])[H.length]? = some a:=by simp
def rdr (o:Bool) (xs:List UInt8) (p:Nat):List V:=[.sl o (vB xs),.int .i64 (p:Int)]
end Go.AM

/- Arguments: each az a value of the machines. -/
namespace Go.AM
open Go.WideShapes
set_option linter.unusedSimpArgs false
set_option linter.unusedVariables false
def ad0:Ty->V->Prop
 | .st fs,u=>∃ vs,u = .agg vs/\V3 fs vs
 | τ,u=>G8 τ [u]
theorem anY {H:Type} {enc:TypeId × Value->H} {P:Program} {w:World} {τ:Ty} {t:TypeId} {v:Value} {d:DataW H} {ps:List MemPlace} {base:Nat} {r:Reach} {hp:Heap} {ι:m8} (ht:ac9 P τ t=true)
 (h:DataW.Trod enc P w 0 (fun _=>true) true t v d ps) (hv:Value.okWide P w r base t v) (hi:S4 ι hp w) :
 ∃ new ι' x u,S4 ι' (hp++new) w/\Sub ι ι'/\VR ι' x v/\RV ⟨hp++new,[],[]⟩ u x (fun _=>0)/\ad0 τ u:=by
 obtain ⟨fuel,hf⟩:=h
 obtain ⟨new,ι',xs,vs,h1,h2,h3,h4,h5,h6⟩:=conv τ ht hf hi
 have single:∀ {c:Value},v.cells.toList=[c]->c=v->(∀ u,G8 τ [u]->ad0 τ u)->∃ new ι' x u,S4 ι' (hp++new) w/\Sub ι ι'/\VR ι' x v/\RV ⟨hp++new,[],[]⟩ u x (fun _=>0)/\ad0 τ u:=by
  intro c hc hcv hA
  rw [hc] at h3
  cases h3 with
  | cons g1 g2 =>
    cases g2
    rename_i x
    match vs,h5 with
    | [u],h5 =>
      simp only [j0] at h5
      obtain ⟨x',ys,c1,c2,e1,k1,⟨e2,k2⟩,k3⟩:=h5
      cases e1
      exact ⟨new,ι',x,u,h1,h2,by rw [<-hcv]; exact g1,k1.congr (fun i=>by have:=k3 i; omega),hA u h6⟩
    | [],h5=>simp only [j0] at h5; exact absurd h5.1 (by simp)
    | u::u2::l,h5 =>
      simp only [j0] at h5
      obtain ⟨x',ys,c1,c2,e1,k1,⟨x2,ys2,d1,d2,e2,_⟩,k3⟩:=h5
      cases e1; cases e2
 cases τ with
 | bool =>
   simp only [ac9] at ht
   split at ht
   ·rename_i hu
    obtain ⟨b,rfl⟩:=okWide_bool hu hv
    exact single rfl rfl (fun _ h=>h)
   ·cases ht
 | int k =>
   simp only [ac9] at ht
   split at ht
   ·rename_i hu
    obtain ⟨b,rfl⟩:=okWide_int hu hv
    exact single rfl rfl (fun _ h=>h)
   ·cases ht
 | str =>
   simp only [ac9] at ht
   split at ht
   ·rename_i hu
    obtain ⟨b,rfl⟩:=okWide_string hu hv
    exact single rfl rfl (fun _ h=>h)
   ·cases ht
 | sl e =>
   simp only [ac9] at ht
   split at ht
   ·rename_i hu
    obtain ⟨a,l,c,rfl⟩:=okWide_slice hu hv
    exact single rfl rfl (fun _ h=>h)
   ·cases ht
 | st fs =>
   simp only [ac9] at ht
   split at ht
   ·rename_i hu
    obtain ⟨⟨cs⟩,rfl,hsz⟩:=okWide_struct hu hv
    have h3':C0 ι' xs cs:=h3
    refine ⟨new,ι',.agg ⟨xs⟩,.agg vs,h1,h2,?_,?_,?_⟩
    ·refine .agg (by simp [h3'.ayf]) (fun i a b ha hb=>?_) (fun i a ha=>h4 a (List.mem_of_getElem? (by simpa using ha)))
     obtain ⟨y,g1,g2⟩:=h3'.get' i a (by simpa using ha)
     have:cs[i]? = some b:=by simpa using hb
     rw [this] at g1; cases g1; exact g2
    ·simp only [RV]; exact ⟨xs,rfl,h5⟩
    ·simp only [G8] at h6; exact ⟨vs,rfl,h6⟩
   ·cases ht
theorem RV.more {hp new:Heap} {u:V} {x:Value} (h:RV ⟨hp,[],[]⟩ u x (fun _=>0)):RV ⟨hp++new,[],[]⟩ u x (fun _=>0) :=
 RV.mono (agC hp new) u h (fun _ _=>trivial)
end Go.AM

/- Rows of values of a kind; mails, sessions, mailboxes az values. -/
namespace Go.AM
set_option linter.unusedSimpArgs false
set_option linter.unusedVariables false
abbrev Bs:=List UInt8
structure Ec (α:Type) where
 e:α->List V
 n:Nat
 len:∀ a,(e a).length=n
 st:∀ a,l8 (e a)=e a
 np:∀ a,y7 (e a)=true
 dt:∀ a,s7 (e a)=true
def vR {α:Type} (E:Ec α) (l:List α):List (List V):=l.map E.e
section
variable {α:Type} (E:Ec α) (l m:List α)
theorem aoX:(vR E l).length=l.length:=by simp [vR]
theorem acm:n7 (vR E l)=vR E l:=by
 induction l with
 | nil=>rfl
 | cons a l ih=>simp only [vR,List.map_cons,n7,E.st] at ih ⊢; rw [ih]
theorem anV:H5 (vR E l)=true:=by
 induction l with
 | nil=>rfl
 | cons a l ih=>simp only [vR,List.map_cons,H5,E.np,Bool.true_and] at ih ⊢; exact ih
theorem aeS:B6 (vR E l)=true:=by
 induction l with
 | nil=>rfl
 | cons a l ih=>simp only [vR,List.map_cons,B6,E.dt,Bool.true_and] at ih ⊢; exact ih
theorem atM:D6 E.n (vR E l)=true:=by simp [D6,vR,E.len]
theorem ayl:vR E l++vR E m=vR E (l++m):=by simp [vR]
end
def eT:Ec Bs:=⟨fun s=>[.str s],1,fun _=>rfl,fun _=>rfl,fun _=>rfl,fun _=>rfl⟩
structure s8 where
 from_:Bs
 to:List Bs
 lines:List Bs
 deriving DecidableEq
structure P5 where
 state:Int
 host:Bs
 N1:s8
 done:List s8
 deriving DecidableEq
structure z7 where
 path:Bs
 D2:List s8
 deriving DecidableEq
def cM (m:s8):List V:=[.str m.from_,.sl false (vT m.to),.sl false (vT m.lines)]
def eM:Ec s8 where
 e:=cM
 n:=3
 len:=fun _=>rfl
 st:=fun m=>by simp only [cM,l8,strip,S2]
 np:=fun m=>by simp only [cM,y7,C1,anS,Bool.and_self]
 dt:=fun m=>by simp only [cM,s7,data,acE,Bool.and_self]
def cS (s:P5):List V:=[.int .i64 s.state,.str s.host,.str s.N1.from_,.sl false (vT s.N1.to),.sl false (vT s.N1.lines),.sl false (vR eM s.done)]
def eS:Ec P5 where
 e:=cS
 n:=6
 len:=fun _=>rfl
 st:=fun m=>by simp only [cS,l8,strip,S2,acm]
 np:=fun m=>by simp only [cS,y7,C1,anS,anV,Bool.and_self]
 dt:=fun m=>by simp only [cS,s7,data,acE,aeS,Bool.and_self]
def cX (b:z7):List V:=[.str b.path,.sl false (vR eM b.D2)]
def eX:Ec z7 where
 e:=cX
 n:=2
 len:=fun _=>rfl
 st:=fun m=>by simp only [cX,l8,strip,acm]
 np:=fun m=>by simp only [cX,y7,C1,anV,Bool.and_self]
 dt:=fun m=>by simp only [cX,s7,data,aeS,Bool.and_self]
theorem ayb (a b:V):B3 2 (.agg [a,b])=some [a,b]:=by exact id rfl
theorem aw5 (a b c:V):B3 3 (.agg [a,b,c])=some [a,b,c]:=by exact id rfl
theorem ayi (a b c d e f:V):B3 6 (.agg [a,b,c,d,e,f])=some [a,b,c,d,e,f]:=by exact id rfl
theorem axu (a b c d e f g:V):B3 7 (.agg [a,b,c,d,e,f,g])=some [a,b,c,d,e,f,g]:=by exact id rfl
theorem axK (g:Nat->Option (List V)) (t:Bool) (a b:V) (H:VH):O2 g t true 2 (.I6 [a,b] 0) H=some (.agg [a,b],H):=by exact id rfl
theorem ays (g:Nat->Option (List V)) (t:Bool) (a b c:V) (H:VH):O2 g t true 3 (.I6 [a,b,c] 0) H=some (.agg [a,b,c],H):=by exact id rfl
theorem ax4 (g:Nat->Option (List V)) (t:Bool) (a b c d e f:V) (H:VH):O2 g t true 6 (.I6 [a,b,c,d,e,f] 0) H=some (.agg [a,b,c,d,e,f],H):=by exact id rfl
theorem asD (g:Nat->Option (List V)) (t:Bool) (n:Nat) (a:V) (l:List V) (H:VH):O2 g t false n (.I6 (a::l) 0) H=some (a,H):=by exact id rfl
theorem atD (g:Nat->Option (List V)) (t:Bool) (n:Nat) (a b:V) (l:List V) (H:VH):O2 g t false n (.I6 (a::b::l) 1) H=some (b,H):=by exact id rfl
theorem asE (g:Nat->Option (List V)) (t:Bool) (n:Nat) (a b c:V) (l:List V) (H:VH):O2 g t false n (.I6 (a::b::c::l) 2) H=some (c,H):=by exact id rfl
theorem ax1 (m:s8):eM.e m=[.str m.from_,.sl false (vT m.to),.sl false (vT m.lines)]:=by exact id rfl
theorem axb (s:P5):eS.e s=[.int .i64 s.state,.str s.host,.str s.N1.from_,.sl false (vT s.N1.to),.sl false (vT s.N1.lines),.sl false (vR eM s.done)]:=by exact id rfl
theorem axm (b:z7):eX.e b=[.str b.path,.sl false (vR eM b.D2)]:=by exact id rfl
theorem J0 (m:s8):cM m=[.str m.from_,.sl false (vT m.to),.sl false (vT m.lines)]:=by exact id rfl
theorem axT (s:P5):cS s=[.int .i64 s.state,.str s.host,.str s.N1.from_,.sl false (vT s.N1.to),.sl false (vT s.N1.lines),.sl false (vR eM s.done)]:=by exact id rfl
theorem axh (b:z7):cX b=[.str b.path,.sl false (vR eM b.D2)]:=by exact id rfl
theorem aqr (l:List s8):D6 3 (vR eM l)=true:=atM eM l
theorem aqP (l:List z7):D6 2 (vR eX l)=true:=atM eX l
def K9 {α:Type} (E:Ec α) (l:List α) (z:List V) (i:Nat):List V:=(vR E (l.take i)).flatten++Z5 (l.length-i) z
theorem ag1 {α:Type} (E:Ec α):∀ l:List α,(vR E l).flatten.length=l.length*E.n
 | []=>by simp [vR]
 | a::l=>by
   have:=ag1 E l
   simp only [vR,List.map_cons,List.flatten_cons,List.length_append,E.len,List.length_cons,Nat.succ_mul] at this ⊢
   omega
theorem as4 {α:Type} (E:Ec α) {l:List α} {z:List V} (hz:z.length=E.n) {i:Nat} (h:i<l.length):R3 (K9 E l z i) (i*E.n) (E.e l[i])=K9 E l z (i+1)/\i*E.n+E.n<=(K9 E l z i).length:=by
 have h1:(vR E (l.take i)).flatten.length=i*E.n:=by rw [ag1,List.length_take,Nat.min_eq_left (by omega)]
 obtain ⟨k,hk⟩:∃ k,l.length-i=k+1:=⟨l.length-i-1,by omega⟩
 have hk2:l.length-(i+1)=k:=by omega
 have e1:K9 E l z i=(vR E (l.take i)).flatten++z++Z5 k z:=by simp only [K9,hk,Z5,List.append_assoc]
 have e2:K9 E l z (i+1)=(vR E (l.take i)).flatten++E.e l[i]++Z5 k z:=by
  simp only [K9,hk2]
  rw [List.take_succ_eq_append_getElem h]
  simp only [vR,List.map_append,List.map_cons,List.map_nil,List.flatten_append,List.flatten_cons,List.flatten_nil,List.append_nil]
 constructor
 ·rw [e1,e2,<-h1]
  exact ag4 _ _ _ _ (by rw [hz,E.len])
 ·rw [e1]; simp only [List.length_append,h1,hz]; omega
theorem at4 {α:Type} (E:Ec α) (l:List α) (z:List V):K9 E l z l.length=(vR E l).flatten:=by simp [K9,Z5]
theorem alT {α:Type} (E:Ec α):∀ l:List α,A9 E.n l.length (vR E l).flatten=vR E l
 | []=>rfl
 | a::l=>by
   have:=alT E l
   simp only [vR,List.map_cons,List.flatten_cons,List.length_cons,A9] at this ⊢
   have h:=E.len a
   rw [<-h,List.take_left,List.drop_left,h,this]
theorem arl {α:Type} (E:Ec α) {H:VH} {k:Nat} {l:List α} (h:H[k]? = some (vR E l).flatten):al3 H (.o9 k 0 l.length E.n)=some (.sl false (vR E l)):=by
 simp only [al3,agc,h,Option.bind_some]
 rw [M7 (by rw [ag1]; omega),List.drop_zero,List.take_of_length_le (by rw [ag1]; omega)]
 simp only [Option.map_some,alT,acm]
theorem atx (k o n e:Nat):B9 (.o9 k o n e)=some (.int .i64 n):=by exact id rfl
theorem ak4 (k off n e:Nat) (q:IntKind) (i:Nat) (h:i<n):C3 e (.o9 k off n e) (.int q (i:Int))=some (.ptr k (off+i*e)):=by
 have hc:(0:Int)<=(i:Int)/\(i:Int)<(n:Int)/\e=e:=⟨by omega,by omega,rfl⟩
 simp only [C3]
 rw [if_pos (by simpa using hc)]; simp
theorem asf (k o n e:Nat):strip (.o9 k o n e) = .o9 k o n e:=by exact id rfl
theorem atG (k o n e:Nat):C1 (.o9 k o n e)=false:=by exact id rfl
theorem atU (b:Nat) (n:Nat) (h:n*b<=140737488355328) (h2:n<=9223372036854775807):agt b (.int .i64 (n:Int)) (.int .i64 (n:Int))=some (n,n):=by
 simp only [agt]
 rw [if_pos ⟨by omega,by omega,by simpa using h,by omega⟩]; simp
theorem axZ {k off:Nat} {H:VH} {cs c:List V} (h:H[k]? = some cs) (ho:off+c.length<=cs.length):stO (.ptr k off) c H=some (H.set k (R3 cs off c)):=by
 have hb:Nat.ble (off+c.length) cs.length=true:=Nat.ble_eq_true_of_le ho
 simp only [stO,h,hb]
theorem al0 {α:Type} (E:Ec α) {H:VH} {k:Nat} {l:List α} {z:List V} (hz:z.length=E.n) {i:Nat} (hi:i<l.length) (h:H[k]? = some (K9 E l z i)):stO (.ptr k (0+i*E.n)) (E.e l[i]) H=some (H.set k (K9 E l z (i+1))):=by
 obtain ⟨h1,h2⟩:=as4 E hz hi
 rw [Nat.zero_add,axZ h (by rw [E.len]; exact h2),h1]
theorem aw6 {α:Type} (E:Ec α) {call:y6} {f:FuncId} {args:List V} {H:VH} {k:Nat} {l:List α} (h:call f args []=some (.o9 k 0 l.length E.n,H)) (h1:y7 args=true) (hk:H[k]? = some (vR E l).flatten):W7 call f args=some (.sl false (vR E l)):=by
 simp only [W7,h1,h,Option.bind_some,data,arl E hk,aeS]
end Go.AM

/- Loops of common kinds. -/
namespace Go.AM
set_option linter.unusedSimpArgs false
set_option linter.unusedVariables false
abbrev LB:=List V->VH->Option (Option Nat × List V × VH)
section
variable {B:LB} {S:Nat->List V} {H:VH}
theorem ay1 {α:Type} [DecidableEq α] {m0 m1:Nat} {vs0 vs1:List V} (xs ys:List α) (hl:xs.length=ys.length) (hr:∀ (i:Nat) (h:i<xs.length),B (S i) H=if xs[i]=ys[i]'(by omega) then some (none,S (i+1),H) else some (some m1,vs1,H))
 (he:B (S xs.length) H=some (some m0,vs0,H)):m9 B (S 0) H=if xs=ys then some (m0,vs0,H) else some (m1,vs1,H):=by
 have key:∀ (n i:Nat),xs.length-i=n->i<=xs.length->m9 B (S i) H=if xs.drop i=ys.drop i then some (m0,vs0,H) else some (m1,vs1,H):=by
  intro n
  induction n with
  | zero =>
    intro i hn hi
    have:i=xs.length:=by omega
    subst this
    rw [aaK he,if_pos (by rw [List.drop_eq_nil_of_le (Nat.le_refl _),List.drop_eq_nil_of_le (by omega)])]
  | succ n ih =>
    intro i hn hi
    have h1:i<xs.length:=by omega
    have h2:i<ys.length:=by omega
    have hb:=hr i h1
    have key:(xs.drop i=ys.drop i)=(xs[i]=ys[i]/\xs.drop (i+1)=ys.drop (i+1)):=by
     rw [List.drop_eq_getElem_cons h1,List.drop_eq_getElem_cons h2,List.cons.injEq]
    by_cases e:xs[i]=ys[i]
    ·rw [if_pos e] at hb
     rw [aeR hb,ih (i+1) (by omega) (by omega)]
     simp only [key,e,true_and]
    ·rw [if_neg e] at hb
     rw [aaK hb,if_neg (by rw [key]; exact fun h=>e h.1)]
 have:=key xs.length 0 (by omega) (by omega)
 simpa using this
theorem ab2 {α:Type} {m0 m1:Nat} {vs0 vs1:List V} (xs:List α) (p:α->Bool) (hr:∀ (i:Nat) (h:i<xs.length),B (S i) H=if p xs[i]=true then some (some m1,vs1,H) else some (none,S (i+1),H))
 (he:B (S xs.length) H=some (some m0,vs0,H)):m9 B (S 0) H=if xs.any p=true then some (m1,vs1,H) else some (m0,vs0,H):=by
 have key:∀ (n i:Nat),xs.length-i=n->i<=xs.length->m9 B (S i) H=if (xs.drop i).any p=true then some (m1,vs1,H) else some (m0,vs0,H):=by
  intro n
  induction n with
  | zero =>
    intro i hn hi
    have:i=xs.length:=by omega
    subst this
    rw [aaK he,List.drop_eq_nil_of_le (Nat.le_refl _)]; rfl
  | succ n ih =>
    intro i hn hi
    have h1:i<xs.length:=by omega
    have hb:=hr i h1
    rw [List.drop_eq_getElem_cons h1,List.any_cons]
    by_cases e:p xs[i]=true
    ·rw [if_pos e] at hb
     rw [aaK hb,e]; rfl
    ·rw [if_neg e] at hb
     rw [aeR hb,ih (i+1) (by omega) (by omega)]
     have:p xs[i]=false:=by simpa using e
     rw [this,Bool.false_or]
 have:=key xs.length 0 (by omega) (by omega)
 simpa using this
def afa {α:Type} (f:α->Int->Int):List α->Int->Int
 | [],n=>n
 | a::l,n=>if f a n<0 then -1 else afa f l (f a n)
theorem ayV {α:Type} {f:α->Int->Int} {m0 m1:Nat} (S:Int->Nat->List V) (l:List α) (hf:∀ a ∈ l,∀ n,0<=n->f a n<=n)
 (hr:∀ (i:Nat) (h:i<l.length) (n:Int),0<=n->n<=1048576->B (S n i) H=if f l[i] n<0 then some (some m1,[.int .i64 (-1)],H) else some (none,S (f l[i] n) (i+1),H))
 (he:∀ n,B (S n l.length) H=some (some m0,[.int .i64 n],H)) (n:Int) (hn:0<=n) (hn2:n<=1048576):∃ m,m9 B (S n 0) H=some (m,[.int .i64 (afa f l n)],H)/\(m=m0\/m=m1):=by
 have key:∀ (k i:Nat) (n:Int),l.length-i=k->i<=l.length->0<=n->n<=1048576->∃ m,m9 B (S n i) H=some (m,[.int .i64 (afa f (l.drop i) n)],H)/\(m=m0\/m=m1):=by
  intro k
  induction k with
  | zero =>
    intro i n hk hi h1 h2
    have:i=l.length:=by omega
    subst this
    rw [List.drop_eq_nil_of_le (Nat.le_refl _)]
    exact ⟨m0,aaK (he n),.inl rfl⟩
  | succ k ih =>
    intro i n hk hi h1 h2
    have hi':i<l.length:=by omega
    have hb:=hr i hi' n h1 h2
    rw [List.drop_eq_getElem_cons hi']
    simp only [afa]
    by_cases e:f l[i] n<0
    ·rw [if_pos e] at hb ⊢
     exact ⟨m1,aaK hb,.inr rfl⟩
    ·rw [if_neg e] at hb ⊢
     rw [aeR hb]
     have:=hf l[i] (List.getElem_mem hi') n h1
     exact ih (i+1) _ (by omega) (by omega) (by omega) (by omega)
 have:=key l.length 0 n (by omega) (by omega) hn hn2
 simpa using this
theorem aqK {α:Type} {f:α->Int->Int} {l:List α} (hf:∀ a ∈ l,∀ n,0<=n->f a n<=n):∀ {n:Int},0<=n->afa f l n<=n:=by
 induction l with
 | nil=>intro n _; exact Int.le_refl _
 | cons a l ih =>
   intro n hn
   simp only [afa]
   have:=hf a (by simp) n hn
   split
   ·omega
   ·have:=ih (fun b hb=>hf b (by simp [hb])) (n:=f a n) (by omega)
    omega
theorem ajV {α:Type} {f:α->Int->Int} {l:List α} (hf:∀ a ∈ l,∀ n,0<=n->f a n<=n):∀ {n:Int},0<=n->0<=afa f l n->∀ a ∈ l,∃ k,0<=k/\k<=n/\0<=f a k:=by
 induction l with
 | nil=>intro n _ _ a ha; cases ha
 | cons b l ih =>
   intro n hn h a ha
   simp only [afa] at h
   split at h
   ·omega
   ·rename_i hb
    rcases List.mem_cons.1 ha with rfl | ha
    ·exact ⟨n,hn,Int.le_refl _,by omega⟩
    ·have:=hf b (by simp) n hn
     obtain ⟨k,h1,h2,h3⟩:=ih (fun b hb=>hf b (by simp [hb])) (n:=f b n) (by omega) h a ha
     exact ⟨k,h1,by omega,h3⟩
end
end Go.AM

/- More loops of common kinds, texts cut at a byte, and runs of which a part is known. -/
namespace Go.AM
set_option linter.unusedSimpArgs false
set_option linter.unusedVariables false
set_option maxRecDepth 10000
theorem akI {α:Type} {c:Prop} [Decidable c] {x y z:α} (h1:c->x=z) (h2:¬ c->y=z):(if c then x else y)=z:=by
 by_cases h:c
 ·rw [if_pos h]; exact h1 h
 ·rw [if_neg h]; exact h2 h
section
variable {B:LB} {S:Nat->List V} {H:VH}
theorem au7 {α:Type} {m0 m1:Nat} {vs0:List V} (xs:List α) (p:α->Bool) (hr:∀ (i:Nat) (h:i<xs.length),B (S i) H=if p xs[i]=true then some (some m1,[.int .i64 (i:Nat)],H) else some (none,S (i+1),H))
 (he:B (S xs.length) H=some (some m0,vs0,H)):m9 B (S 0) H=if xs.any p=true then some (m1,[.int .i64 (xs.findIdx p:Nat)],H) else some (m0,vs0,H):=by
 have key:∀ (n i:Nat),xs.length-i=n->i<=xs.length->m9 B (S i) H=if (xs.drop i).any p=true then some (m1,[.int .i64 (i+(xs.drop i).findIdx p:Nat)],H) else some (m0,vs0,H):=by
  intro n
  induction n with
  | zero =>
    intro i hn hi
    have:i=xs.length:=by omega
    subst this
    rw [aaK he,List.drop_eq_nil_of_le (Nat.le_refl _)]; rfl
  | succ n ih =>
    intro i hn hi
    have h1:i<xs.length:=by omega
    have hb:=hr i h1
    rw [List.drop_eq_getElem_cons h1,List.any_cons,List.findIdx_cons]
    by_cases e:p xs[i]=true
    ·rw [if_pos e] at hb
     rw [aaK hb,e]; rfl
    ·rw [if_neg e] at hb
     rw [aeR hb,ih (i+1) (by omega) (by omega)]
     have:p xs[i]=false:=by simpa using e
     rw [this,Bool.false_or]
     simp only [cond_false,Nat.add_assoc,Nat.add_comm 1]
 have:=key xs.length 0 (by omega) (by omega)
 simpa using this
theorem ate {α:Type} (E:Ec α) {l:List α} {k t:Nat} {z:List V} {H0:VH} {m:Nat} {vs:List V} (ht:t<=l.length) (h0:H0[k]? = some (K9 E l z 0)) (hr:∀ (i:Nat) (h:i<t) (H:VH),H[k]? = some (K9 E l z i)->B (S i) H=some (none,S (i+1),H.set k (K9 E l z (i+1))))
 (he:∀ H,H[k]? = some (K9 E l z t)->B (S t) H=some (some m,vs,H)):∃ H1,m9 B (S 0) H0=some (m,vs,H1)/\H1[k]? = some (K9 E l z t):=by
 have key:∀ (n i:Nat) (H:VH),t-i=n->i<=t->H[k]? = some (K9 E l z i)->∃ H1,m9 B (S i) H=some (m,vs,H1)/\H1[k]? = some (K9 E l z t):=by
  intro n
  induction n with
  | zero =>
    intro i H hn hi hk
    have:i=t:=by omega
    subst this
    exact ⟨H,aaK (he H hk),hk⟩
  | succ n ih =>
    intro i H hn hi hk
    have h1:i<t:=by omega
    rw [aeR (hr i h1 H hk)]
    exact ih (i+1) _ (by omega) (by omega) (by rw [List.getElem?_set,if_pos rfl,if_pos (List.getElem?_eq_some_iff.1 hk).1])
 exact key t 0 H0 (by omega) (by omega) h0
end
theorem ayH (c9 k o n h:Nat) (q:IntKind) (hh:h<=n):adu c9 (.o9 k o n c9) none (some (.int q (h:Int)))=some (.o9 k o h c9):=by
 simp only [adu,aek,Option.bind_some]
 rw [if_pos ⟨trivial,by omega,by omega,by omega⟩]
 simp
theorem ayW (k:IntKind) (a b:Int) (h:a<=b):aiQ (.int k a) (.int k b)=some (.int k a):=by
 simp only [aiQ,if_true]
 rw [if_neg (by omega)]
def cB (s:Bs):List V:=s.map fun b => .int .u8 (b.toNat:Int)
theorem awl (s:Bs):apj (.str s)=some (cB s):=rfl
theorem aid (s:Bs):(cB s).length=s.length:=by simp [cB]
theorem aqW:∀ s:Bs,acv (vB s)=some s
 | []=>rfl
 | b::l=>by
   have ih:=aqW l
   show (acv (vB l)).map _=_
   rw [ih]; simp
theorem aod:∀ s:Bs,A9 1 s.length (cB s)=vB s
 | []=>rfl
 | b::l=>by
   have ih:=aod l
   show [V.int .u8 (b.toNat:Int)]::A9 1 l.length (cB l)=_
   rw [ih]; rfl
theorem avP {H:VH} {k:Nat} {t:Bs} (h:H[k]? = some (cB t)):adw (.o9 k 0 t.length 1) H=some (.str t):=by
 simp only [adw,if_true,h,Option.bind_some]
 rw [M7 (by rw [aid]; omega),List.drop_zero,List.take_of_length_le (by rw [aid]; omega)]
 simp only [Option.bind_some,aod,aqW,Option.map_some]
theorem ax0 {g:Nat->Option (List V)} {H:VH} {k i:Nat} {t:Bs} (h:H[k]? = some (cB t)) (hi:i<t.length):O2 g false false 1 (.ptr k i) H=some (.int .u8 (t[i].toNat:Int),H) :=
 awP (v := .int .u8 (t[i].toNat:Int)) h (by simp [cB,List.getElem?_eq_getElem hi]) rfl
theorem axk {H:VH} {k i:Nat} {t:Bs} (b:UInt8) (h:H[k]? = some (cB t)) (hi:i<t.length):stO (.ptr k i) [.int .u8 (b.toNat:Int)] H=some (H.set k (cB (t.set i b))):=by
 rw [amM h (by rw [aid]; exact hi)]
 simp [cB,List.map_set]
theorem asn (tk:TK) (a b:Int) (h1:0<=a+b) (h2:a+b<=255):b9 tk .add (.int .u8 a) (.int .u8 b)=some (.int .u8 (a+b)):=by
 simp [b9,Z1,R1,Q3,ofA,IntWalk.u8_in _ ⟨h1,h2⟩]
def p9 {R:Type} (e:Option R) (Q:R->Prop):Prop:=∃ r,e=some r/\Q r
theorem p9.here {R:Type} {Q:R->Prop} {r:R} (h:Q r):p9 (some r) Q:=⟨r,rfl,h⟩
theorem p9.bind {R T:Type} {e:Option R} {P:R->Prop} {K:R->Option T} {Q:T->Prop} (h:p9 e P) (k:∀ r,P r->p9 (K r) Q):p9 (e.bind K) Q:=by
 obtain ⟨r,rfl,hr⟩:=h
 exact k r hr
theorem p9.mono {R:Type} {e:Option R} {P Q:R->Prop} (h:p9 e P) (k:∀ r,P r->Q r):p9 e Q:=by
 obtain ⟨r,e,hr⟩:=h
 exact ⟨r,e,k r hr⟩
theorem p9.ite {R:Type} {c:Prop} [Decidable c] {x y:Option R} {Q:R->Prop} (h1:c->p9 x Q) (h2:¬ c->p9 y Q):p9 (if c then x else y) Q:=by
 split
 ·exact h1 ‹_›
 ·exact h2 ‹_›
theorem p9.loop {B:LB} {I:Nat->List V->VH->Prop} {Q:Nat × List V × VH->Prop}
 (hr:∀ n s H,I n s H->p9 (B s H) fun r=>match r.1 with | some m=>Q (m,r.2) | none=>∃ n',n'<n/\I n' r.2.1 r.2.2) :
 ∀ (n:Nat) (s:List V) (H:VH),I n s H->p9 (m9 B s H) Q:=by
 intro n
 induction n using Nat.strongRecOn with
 | _ n ih =>
   intro s H hI
   obtain ⟨⟨m,vs,H'⟩,e,hq⟩:=hr n s H hI
   cases m with
   | some m=>exact ⟨_,aaK e,hq⟩
   | none =>
     obtain ⟨n',hn,hI'⟩:=hq
     rw [aeR e]
     exact ih n' hn _ _ hI'
def acd (e:Option (V × VH)) (P:V->VH->Prop):Prop:=∃ v H,e=some (v,H)/\P v H
theorem acd.bind {T:Type} {e:Option (V × VH)} {P:V->VH->Prop} {K:V × VH->Option T} {Q:T->Prop} (h:acd e P) (k:∀ v H,P v H->p9 (K (v,H)) Q):p9 (e.bind K) Q:=by
 obtain ⟨v,H,rfl,hr⟩:=h
 exact k v H hr
theorem acd.of {e:Option (V × VH)} {P:V->VH->Prop} (h:p9 e fun r=>P r.1 r.2):acd e P:=by
 obtain ⟨⟨v,H⟩,h1,h2⟩:=h
 exact ⟨v,H,h1,h2⟩
theorem p9.T6 {B:LB} {T:Type} {I:Nat->List V->VH->Prop} {P:Nat->List V->VH->Prop} {n:Nat} {s:List V} {H:VH} {K:Nat × List V × VH->Option T} {Q:T->Prop}
 (hr:∀ n s H,I n s H->p9 (B s H) fun r=>(∃ m,r.1=some m/\P m r.2.1 r.2.2)\/(r.1=none/\∃ n',n'<n/\I n' r.2.1 r.2.2))
 (h0:I n s H) (k:∀ m vs H',P m vs H'->p9 (K (m,vs,H')) Q):p9 ((m9 B s H).bind K) Q:=by
 refine (p9.loop (I:=I) (Q:=fun r=>P r.1 r.2.1 r.2.2) (fun n s H hI=>(hr n s H hI).mono fun r h=>?_) n s H h0).bind fun r h=>k r.1 r.2.1 r.2.2 h
 obtain ⟨r1,r2⟩:=r
 rcases h with ⟨m,h1,h2⟩ | ⟨h1,h2⟩
 ·cases h1; exact h2
 ·cases h1; exact h2
def Rd (k b:Nat) (H:VH):Prop:=∃ o xs p,H[k]? = some (rdr o xs p)/\p<=b/\xs.length<=2000
theorem Rd.le {k b b':Nat} {H:VH} (h:Rd k b H) (hb:b<=b'):Rd k b' H:=by
 obtain ⟨o,xs,p,h1,h2,h3⟩:=h
 exact ⟨o,xs,p,h1,by omega,h3⟩
theorem ay7 (s:Bs) (c:UInt8):Go.Lib.indexByte s c=if c ∈ s then ((s.idxOf c:Nat):Int) else -1:=by
 induction s with
 | nil=>rfl
 | cons b l ih =>
   unfold Go.Lib.indexByte
   rw [ih,List.idxOf_cons]
   by_cases h:b=c
   ·subst h; simp
   ·have h':¬ c=b:=fun e=>h e.symm
    by_cases hm:c ∈ l
    ·have:(b==c)=false:=by simpa using h
     simp only [this,hm,if_true,List.mem_cons,or_true,cond_false]
     have hn:((l.idxOf c:Nat):Int) ≠ -1:=by omega
     simp [hn]
    ·have:(b==c)=false:=by simpa using h
     simp [this,hm,h',h]
def R2 (c:UInt8) (s:Bs):Bs:=if c ∈ s then s.take (s.idxOf c) else s
def U0 (c:UInt8) (s:Bs):Bs:=if c ∈ s then s.drop (s.idxOf c+1) else []
def j5 (c:UInt8):Bs->List Bs
 | []=>[[]]
 | b::l=>if b=c then []::j5 c l else match j5 c l with | []=>[[b]] | x::r=>(b::x)::r
theorem acB (c:UInt8) (s:Bs):j5 c s ≠ []:=by
 cases s with
 | nil=>simp [j5]
 | cons b l =>
   unfold j5
   split
   ·simp
   ·split<;>simp
theorem abu (c:UInt8) (s:Bs):(j5 c s).length=s.count c+1:=by
 induction s with
 | nil=>rfl
 | cons b l ih =>
   unfold j5
   rw [List.count_cons]
   by_cases h:b=c
   ·simp [h,ih]
   ·have:(b==c)=false:=by simpa using h
    rw [if_neg h,this]
    split
    ·rename_i e; exact absurd e (acB c l)
    ·rename_i x r e; rw [e] at ih; simpa using ih
theorem afR (c:UInt8) (s:Bs) (h:c ∉ s):j5 c s=[s]:=by
 induction s with
 | nil=>rfl
 | cons b l ih =>
   unfold j5
   have h1:¬ b=c:=fun e=>h (by simp [e])
   rw [if_neg h1,ih (fun e=>h (by simp [e]))]
theorem agH (c:UInt8) (s:Bs) (h:c ∈ s):j5 c s=s.take (s.idxOf c)::j5 c (s.drop (s.idxOf c+1)):=by
 induction s with
 | nil=>cases h
 | cons b l ih =>
   rw [List.idxOf_cons]
   conv=>lhs; unfold j5
   by_cases h1:b=c
   ·subst h1; simp
   ·have h2:c ∈ l:=by rcases List.mem_cons.1 h with e | e; exact absurd e.symm h1; exact e
    have:(b==c)=false:=by simpa using h1
    rw [if_neg h1,ih h2,this]
    simp
theorem ade (c:UInt8) (s:Bs):∀ t ∈ j5 c s,t.length<=s.length:=by
 induction s with
 | nil=>intro t ht; simp [j5] at ht; subst ht; simp
 | cons b l ih =>
   intro t ht
   unfold j5 at ht
   split at ht
   ·rcases List.mem_cons.1 ht with rfl | ht
    ·simp
    ·have:=ih t ht; simp; omega
   ·split at ht
    ·simp at ht; subst ht; simp
    ·rename_i x r e
     rcases List.mem_cons.1 ht with rfl | ht
     ·have:=ih x (by rw [e]; simp); simp; omega
     ·have:=ih t (by rw [e]; simp [ht]); simp; omega
def G9 (c:UInt8) (s:Bs):Nat->Bs
 | 0=>s
 | i+1=>(G9 c s i).drop ((G9 c s i).idxOf c+1)
theorem af3 (c:UInt8) (s:Bs):∀ i,i<(j5 c s).length->j5 c (G9 c s i)=(j5 c s).drop i
 | 0,_=>rfl
 | i+1,h=>by
   have ih:=af3 c s i (by omega)
   have hm:c ∈ G9 c s i:=by
    by_cases hm:c ∈ G9 c s i
    ·exact hm
    ·rw [afR c _ hm] at ih
     have:=congrArg List.length ih
     simp at this; omega
   rw [agH c _ hm] at ih
   have:=congrArg List.tail ih
   simpa [G9] using this
theorem amV (c:UInt8) (s:Bs):∀ i,(G9 c s i).length<=s.length
 | 0=>Nat.le_refl _
 | i+1=>by have:=amV c s i; simp only [G9,List.length_drop]; omega
theorem g9:type_of% (And.intro @Nat.zero_add (And.intro @if_true.{1} (And.intro @if_false.{1} (And.intro @decide_true (And.intro @decide_false (And.intro @Bool.false_eq_true (And.intro @Bool.not_true (And.intro @Bool.not_false (And.intro @av4 (And.intro @aqy (And.intro @axO (And.intro @aw7 (And.intro @awf (And.intro @aqm (And.intro @atf (And.intro @ato (And.intro @aqT (And.intro @asU (And.intro @atX (And.intro @avM (And.intro @awc (And.intro @atd (And.intro @atZ (And.intro @aqY (And.intro @apB (And.intro @aor (And.intro @ano (And.intro @R7 (And.intro @M8 (And.intro @aaR (And.intro @aqk (And.intro @asF (And.intro @asm (And.intro @av9 (And.intro @ata (And.intro @as0 (And.intro @avJ (And.intro @asJ (And.intro @asi (And.intro @aqq (And.intro @ao3 (And.intro @aoG (And.intro @anu (And.intro @aph (And.intro @anw (And.intro @aqs (And.intro @atQ (And.intro @asN (And.intro @avV (And.intro @atW (And.intro @asT (And.intro @awi (And.intro @aqp (And.intro @ao0 (And.intro @apn (And.intro @am9 (And.intro @aso (And.intro @awh (And.intro @avE (And.intro @ayI (And.intro @av7 (And.intro @awd (And.intro @atq (And.intro @aqZ (And.intro @aql (And.intro @apH (And.intro @aqO (And.intro @atC (And.intro @ar8 (And.intro @att (And.intro @aq3 (And.intro @atI (And.intro @asd (And.intro @aty (And.intro @aqA (And.intro @avX (And.intro @asA (And.intro @ax5 (And.intro @aqo (And.intro @axA (And.intro @ayp (And.intro @ayh (And.intro @in_1 (And.intro @axf (And.intro @ayw (And.intro @axM (And.intro @aym (And.intro @axH (And.intro @axt (And.intro @ayo (And.intro @ayr (And.intro @ayk (And.intro @axF (And.intro @ayF (And.intro @axU (And.intro @ax9 (And.intro @avN (And.intro @ayK (And.intro @axs (And.intro @ayM (And.intro @ax2 (And.intro @axW (And.intro @ayn (And.intro @ayG (And.intro @ayy (And.intro @ayJ (And.intro @ayj (And.intro @awn (And.intro @av1 (And.intro @avr (And.intro @avR (And.intro @avO (And.intro @awb (And.intro @avK (And.intro @av0 (And.intro @avy (And.intro @av8 (And.intro @avD (And.intro @avx (And.intro @avL (And.intro @avw (And.intro @avZ (And.intro @awp (And.intro @av5 (And.intro @avq (And.intro @av2 (And.intro @avs (And.intro @avW (And.intro @avF (And.intro @avT (And.intro @avv (And.intro @avt (And.intro @asw (And.intro @alK (And.intro @als (And.intro @asK (And.intro @as7 (And.intro @atK (And.intro @as9 (And.intro @atT (And.intro @awm (And.intro @asB (And.intro @avB (And.intro @auR (And.intro @avI (And.intro @axr (And.intro @axa (And.intro @av6 (And.intro @axD (And.intro @ayL (And.intro @axS (And.intro @axz (And.intro @axc (And.intro @axE (And.intro @U9 (And.intro @asu (And.intro @atl (And.intro @S2 (And.intro @aoy (And.intro @aoj (And.intro @anS (And.intro @avG (And.intro @avS (And.intro @acE (And.intro @aqM (And.intro @aqX (And.intro @aaY (And.intro @atO (And.intro @as2 (And.intro @ayb (And.intro @aw5 (And.intro @ayi (And.intro @axu (And.intro @axK (And.intro @ays (And.intro @ax4 (And.intro @asD (And.intro @atD (And.intro @asE (And.intro @ax1 (And.intro @axb (And.intro @axm (And.intro @J0 (And.intro @axT (And.intro @axh (And.intro @aoX (And.intro @acm (And.intro @anV (And.intro @aeS (And.intro @aqr (And.intro @aqP (And.intro @atx (And.intro @asf @atG))))))))))))))))))))))))))))))))))))))))))))))))))))))))))))))))))))))))))))))))))))))))))))))))))))))))))))))))))))))))))))))))))))))))))))))))))))))))))))))))))))))))))))))))))))))))))))))))):=And.intro @Nat.zero_add (And.intro @if_true.{1} (And.intro @if_false.{1} (And.intro @decide_true (And.intro @decide_false (And.intro @Bool.false_eq_true (And.intro @Bool.not_true (And.intro @Bool.not_false (And.intro @av4 (And.intro @aqy (And.intro @axO (And.intro @aw7 (And.intro @awf (And.intro @aqm (And.intro @atf (And.intro @ato (And.intro @aqT (And.intro @asU (And.intro @atX (And.intro @avM (And.intro @awc (And.intro @atd (And.intro @atZ (And.intro @aqY (And.intro @apB (And.intro @aor (And.intro @ano (And.intro @R7 (And.intro @M8 (And.intro @aaR (And.intro @aqk (And.intro @asF (And.intro @asm (And.intro @av9 (And.intro @ata (And.intro @as0 (And.intro @avJ (And.intro @asJ (And.intro @asi (And.intro @aqq (And.intro @ao3 (And.intro @aoG (And.intro @anu (And.intro @aph (And.intro @anw (And.intro @aqs (And.intro @atQ (And.intro @asN (And.intro @avV (And.intro @atW (And.intro @asT (And.intro @awi (And.intro @aqp (And.intro @ao0 (And.intro @apn (And.intro @am9 (And.intro @aso (And.intro @awh (And.intro @avE (And.intro @ayI (And.intro @av7 (And.intro @awd (And.intro @atq (And.intro @aqZ (And.intro @aql (And.intro @apH (And.intro @aqO (And.intro @atC (And.intro @ar8 (And.intro @att (And.intro @aq3 (And.intro @atI (And.intro @asd (And.intro @aty (And.intro @aqA (And.intro @avX (And.intro @asA (And.intro @ax5 (And.intro @aqo (And.intro @axA (And.intro @ayp (And.intro @ayh (And.intro @in_1 (And.intro @axf (And.intro @ayw (And.intro @axM (And.intro @aym (And.intro @axH (And.intro @axt (And.intro @ayo (And.intro @ayr (And.intro @ayk (And.intro @axF (And.intro @ayF (And.intro @axU (And.intro @ax9 (And.intro @avN (And.intro @ayK (And.intro @axs (And.intro @ayM (And.intro @ax2 (And.intro @axW (And.intro @ayn (And.intro @ayG (And.intro @ayy (And.intro @ayJ (And.intro @ayj (And.intro @awn (And.intro @av1 (And.intro @avr (And.intro @avR (And.intro @avO (And.intro @awb (And.intro @avK (And.intro @av0 (And.intro @avy (And.intro @av8 (And.intro @avD (And.intro @avx (And.intro @avL (And.intro @avw (And.intro @avZ (And.intro @awp (And.intro @av5 (And.intro @avq (And.intro @av2 (And.intro @avs (And.intro @avW (And.intro @avF (And.intro @avT (And.intro @avv (And.intro @avt (And.intro @asw (And.intro @alK (And.intro @als (And.intro @asK (And.intro @as7 (And.intro @atK (And.intro @as9 (And.intro @atT (And.intro @awm (And.intro @asB (And.intro @avB (And.intro @auR (And.intro @avI (And.intro @axr (And.intro @axa (And.intro @av6 (And.intro @axD (And.intro @ayL (And.intro @axS (And.intro @axz (And.intro @axc (And.intro @axE (And.intro @U9 (And.intro @asu (And.intro @atl (And.intro @S2 (And.intro @aoy (And.intro @aoj (And.intro @anS (And.intro @avG (And.intro @avS (And.intro @acE (And.intro @aqM (And.intro @aqX (And.intro @aaY (And.intro @atO (And.intro @as2 (And.intro @ayb (And.intro @aw5 (And.intro @ayi (And.intro @axu (And.intro @axK (And.intro @ays (And.intro @ax4 (And.intro @asD (And.intro @atD (And.intro @asE (And.intro @ax1 (And.intro @axb (And.intro @axm (And.intro @J0 (And.intro @axT (And.intro @axh (And.intro @aoX (And.intro @acm (And.intro @anV (And.intro @aeS (And.intro @aqr (And.intro @aqP (And.intro @atx (And.intro @asf @atG))))))))))))))))))))))))))))))))))))))))))))))))))))))))))))))))))))))))))))))))))))))))))))))))))))))))))))))))))))))))))))))))))))))))))))))))))))))))))))))))))))))))))))))))))))))))))))))))
end Go.AM

/- Rows in objects: what calls see of them, what becomes of rows that calls give. -/
namespace Go.AM
set_option linter.unusedSimpArgs false
set_option linter.unusedVariables false
mutual
theorem akn (G:VH):∀ v:V,data v=true->O8 G v=strip v
 | .bool b,_=>rfl
 | .int k n,_=>rfl
 | .str s,_=>rfl
 | .g8,_=>rfl
 | .V9,_=>rfl
 | .ub,_=>rfl
 | .gp g off,h=>by simp only [data] at h; cases h
 | .I6 cs off,h=>by simp only [data] at h; cases h
 | .ptr k off,h=>by simp only [data] at h; cases h
 | .o9 k off n e,h=>by simp only [data] at h; cases h
 | .fn f cs,h=>by simp only [data] at h; cases h
 | .sl ow xs,h=>by simp only [data] at h; simp only [O8,strip,ala G xs h]
 | .agg cs,h=>by simp only [data] at h; simp only [O8,strip,afN G cs h]
 | .A5 cs,h=>by simp only [data] at h; simp only [O8,strip,afN G cs h]
theorem afN (G:VH):∀ l:List V,s7 l=true->abc G l=l8 l
 | [],_=>rfl
 | v::l,h=>by
   simp only [s7,Bool.and_eq_true] at h
   simp only [abc,l8,akn G v h.1,afN G l h.2]
theorem ala (G:VH):∀ l:List (List V),B6 l=true->abC G l=n7 l
 | [],_=>rfl
 | v::l,h=>by
   simp only [B6,Bool.and_eq_true] at h
   simp only [abC,n7,afN G v h.1,ala G l h.2]
end
theorem V8 (d:Nat) (H:VH) (v:V) (h:data v=true):I5 d H v=strip v:=by
 cases d with
 | zero=>exact akn _ v h
 | succ d=>exact akn _ v h
mutual
theorem arB:∀ v:V,data v=true->adN v=true
 | .bool b,_=>rfl
 | .int k n,_=>rfl
 | .str s,_=>rfl
 | .g8,_=>rfl
 | .V9,_=>rfl
 | .ub,_=>rfl
 | .gp g off,h=>by simp only [data] at h; cases h
 | .I6 cs off,h=>by simp only [data] at h; cases h
 | .ptr k off,h=>by simp only [data] at h; cases h
 | .o9 k off n e,h=>by simp only [data] at h; cases h
 | .fn f cs,h=>by simp only [data] at h; cases h
 | .sl ow xs,h=>by simp only [data] at h; simp only [adN,aij xs h]
 | .agg cs,h=>by simp only [data] at h; simp only [adN,aaI cs h]
 | .A5 cs,h=>by simp only [data] at h; simp only [adN,aaI cs h]
theorem aaI:∀ l:List V,s7 l=true->I3 l=true
 | [],_=>rfl
 | v::l,h=>by
   simp only [s7,Bool.and_eq_true] at h
   simp only [I3,arB v h.1,aaI l h.2,Bool.and_self]
theorem aij:∀ l:List (List V),B6 l=true->aiL l=true
 | [],_=>rfl
 | v::l,h=>by
   simp only [B6,Bool.and_eq_true] at h
   simp only [aiL,aaI v h.1,aij l h.2,Bool.and_self]
end
theorem anl:∀ {a b:List V},s7 a=true->s7 b=true->s7 (a++b)=true
 | [],b,_,h=>h
 | v::a,b,h,g=>by
   simp only [List.cons_append,s7,Bool.and_eq_true] at h ⊢
   exact ⟨h.1,anl h.2 g⟩
theorem akZ:∀ {r:List (List V)},B6 r=true->s7 r.flatten=true
 | [],_=>rfl
 | x::r,h=>by
   simp only [B6,Bool.and_eq_true] at h
   rw [List.flatten_cons]
   exact anl h.1 (akZ h.2)
theorem arc (a b:List V):l8 (a++b)=l8 a++l8 b:=by rw [F5,F5,F5,List.map_append]
theorem ajx:∀ r:List (List V),l8 r.flatten=(n7 r).flatten
 | []=>rfl
 | x::r=>by rw [List.flatten_cons,arc,ajx r]; rfl
def Rows (e:Nat) (r:List (List V)):Prop:=∀ x ∈ r,x.length=e
theorem Rows.flat {e:Nat}:∀ {r:List (List V)},Rows e r->r.flatten.length=r.length*e
 | [],_=>by simp
 | x::r,h=>by
   have h1:=h x (by simp)
   have h2:=Rows.flat (r:=r) (fun y hy=>h y (by simp [hy]))
   rw [List.flatten_cons,List.length_append,h1,h2,List.length_cons,Nat.succ_mul,Nat.add_comm]
theorem Rows.chunk {e:Nat}:∀ {r:List (List V)},Rows e r->A9 e r.length r.flatten=r
 | [],_=>rfl
 | x::r,h=>by
   have h1:=h x (by simp)
   have h2:=Rows.chunk (r:=r) (fun y hy=>h y (by simp [hy]))
   simp only [List.length_cons,A9,List.flatten_cons]
   rw [<-h1,List.take_left,List.drop_left,h1,h2]
theorem Rows.strip {e:Nat} {r:List (List V)} (h:Rows e r):Rows e (n7 r):=fun x hx=>by
 rw [abV] at hx
 obtain ⟨y,hy,rfl⟩:=List.mem_map.1 hx
 rw [List.length_map]; exact h y hy
theorem Rows.get {e:Nat} {j:Nat} (hj:j<e):∀ {r:List (List V)} {i:Nat} {x:List V},Rows e r->r[i]? = some x->r.flatten[i*e+j]? = x[j]?
 | [],i,x,_,h=>by simp at h
 | y::r,0,x,hr,h=>by
   simp at h; subst h
   have h1:=hr y (by simp)
   rw [List.flatten_cons,Nat.zero_mul,Nat.zero_add,List.getElem?_append_left (by omega)]
 | y::r,i+1,x,hr,h=>by
   have h1:=hr y (by simp)
   simp at h
   rw [List.flatten_cons,List.getElem?_append_right (by rw [h1,Nat.succ_mul]; omega),h1]
   have:(i+1)*e+j-e=i*e+j:=by rw [Nat.succ_mul]; omega
   rw [this]
   exact Rows.get hj (fun z hz=>hr z (by simp [hz])) h
theorem Rows.set {e:Nat} {j:Nat} (hj:j<e) {v:V}:∀ {r:List (List V)} {i:Nat} {x:List V},Rows e r->r[i]? = some x->R3 r.flatten (i*e+j) [v]=(r.set i (x.set j v)).flatten
 | [],i,x,_,h=>by simp at h
 | y::r,0,x,hr,h=>by
   simp at h; subst h
   have h1:=hr y (by simp)
   simp only [List.flatten_cons,Nat.zero_mul,Nat.zero_add,List.set_cons_zero,R3,List.length_singleton]
   rw [List.take_append_of_le_length (by omega),List.drop_append_of_le_length (by omega),<-List.append_assoc]
   congr 1
   rw [List.set_eq_take_append_cons_drop,if_pos (by omega)]; simp
 | y::r,i+1,x,hr,h=>by
   have h1:=hr y (by simp)
   simp at h
   have ih:=Rows.set hj (v:=v) (r:=r) (i:=i) (fun z hz=>hr z (by simp [hz])) h
   simp only [R3,List.length_singleton] at ih
   simp only [List.flatten_cons,List.set_cons_succ,R3,List.length_singleton]
   have e1:(i+1)*e+j=y.length+(i*e+j):=by rw [Nat.succ_mul]; omega
   rw [e1,List.take_length_add_append,Nat.add_assoc,List.drop_length_add_append,List.append_assoc,List.append_assoc,<-ih,List.append_assoc]
theorem awz (d:Nat) {H:VH} {k e:Nat} {r:List (List V)} (hk:H[k]? = some r.flatten) (hr:Rows e r) (hd:B6 r=true):I5 d H (.o9 k 0 r.length e) = .sl false (n7 r):=by
 have fin:∀ G:VH,G[k]? = some (l8 r.flatten)->O8 G (.o9 k 0 r.length e) = .sl false (n7 r):=fun G hG=>by
  have h1:G.getD k []=(n7 r).flatten:=by rw [List.getD_eq_getElem?_getD,hG,ajx]; rfl
  have h2:=hr.strip.flat
  rw [R6] at h2
  simp only [O8,h1]
  rw [M7 (by omega)]
  simp only [List.drop_zero]
  rw [List.take_of_length_le (by omega)]
  have h3:=hr.strip.chunk
  rw [R6] at h3
  rw [h3]
 cases d with
 | zero =>
   refine fin _ ?_
   rw [List.getElem?_map,hk]; rfl
 | succ d =>
   refine fin _ ?_
   rw [List.getElem?_map,hk]
   simp only [Option.map_some]
   rw [F5]
   congr 1
   have:∀ {l:List V},s7 l=true->l.map (I5 d H)=l.map strip:=by
    intro l
    induction l with
    | nil=>intro _; rfl
    | cons v l ih =>
      intro h
      simp only [s7,Bool.and_eq_true] at h
      simp only [List.map_cons,V8 d H v h.1,ih h.2]
   exact this (akZ hd)
theorem atj {call:y6} {f:FuncId} {H:VH} {vs:List V} (h:I3 vs=true):K5 call f H vs=M0 call f (vs.map (j7 H)):=by unfold K5; rw [h]
theorem ass {call:y6} {f:FuncId} {H:VH} {vs:List V} (h:I3 vs=false):K5 call f H vs=M0 call f (vs.map (I5 3 H)):=by unfold K5; rw [h]
theorem auM {call:y6} {f:FuncId} {H:VH} {vs:List V} (h:I3 vs=true):V4 call f H vs=W7 call f (vs.map (j7 H)):=by unfold V4; rw [h]
mutual
theorem atp (H:VH):∀ v:V,prom 0 H v=(v,H)
 | .bool b=>rfl
 | .int k n=>rfl
 | .str s=>rfl
 | .g8=>rfl
 | .V9=>rfl
 | .ub=>rfl
 | .gp g off=>rfl
 | .I6 cs off=>rfl
 | .ptr k off=>rfl
 | .o9 k off n e=>rfl
 | .fn f cs=>rfl
 | .sl ow xs=>by cases xs<;>simp only [prom]
 | .agg cs=>by simp only [prom,aey H cs]
 | .A5 cs=>by simp only [prom,aey H cs]
theorem aey (H:VH):∀ l:List V,T5 0 H l=(l,H)
 | []=>rfl
 | v::l=>by simp only [T5,atp H v,aey H l]
end
theorem afY (H:VH):∀ l:List (List V),aaG 0 H l=(l.flatten,H)
 | []=>rfl
 | v::l=>by simp only [aaG,aey H v,afY H l,List.flatten_cons]
theorem auT {H:VH} {v:V} (h:data v=true):j7 H v=strip v:=by
 cases v<;>first | rfl | (simp only [data] at h; cases h)
theorem amt {H:VH}:∀ {vs:List V},s7 vs=true->vs.map (j7 H)=vs.map strip
 | [],_=>rfl
 | v::vs,h=>by
   simp only [s7,Bool.and_eq_true] at h
   simp only [List.map_cons,auT h.1,amt h.2]
theorem ags {d:Nat} {H:VH}:∀ {vs:List V},s7 vs=true->vs.map (I5 d H)=vs.map strip
 | [],_=>rfl
 | v::vs,h=>by
   simp only [s7,Bool.and_eq_true] at h
   simp only [List.map_cons,V8 d H v h.1,ags h.2]
theorem amX {call:y6} {f:FuncId} {H:VH} {vs:List V} (h:s7 vs=true):K5 call f H vs=M0 call f (vs.map strip):=by rw [atj (aaI vs h),amt h]
theorem aok {call:y6} {f:FuncId} {H:VH} {vs:List V} (h:s7 vs=true):V4 call f H vs=W7 call f (vs.map strip):=by rw [auM (aaI vs h),amt h]
theorem ash {k n e i:Nat} {kk:IntKind} (h:i<n):C3 e (.o9 k 0 n e) (.int kk (i:Int))=some (.ptr k (i*e)):=by
 simp only [C3]
 rw [if_pos ⟨by omega,by omega,trivial⟩]
 simp
end Go.AM

/- Laws of a dialogue: what is valid stays valid; replies; letters do not matter. -/
import Derived.Test.YtaapfgpeeghmeaaGreatDoorScriptMailC74sayimplZ
namespace Go.Proofs.YtaapfgpeeghmeaaGreatDoor.Q
open Go Go.AM
set_option linter.unusedSimpArgs false
set_option linter.unusedVariables false
set_option linter.unusedSectionVars false
structure SOk (s:y6):Prop where
 st:0<=s.state/\s.state<=5
 dr:D6 s.j0 0 31=true
 dn:s.done.length<=5
 dv:∀ m ∈ s.done,D6 m 1 30=true
 ho:s.host=[]\/V7 s.host=true
 h0:s.state ≠ 5->((s.host=[])<->s.state=0)
 t0:0<s.j0.to.length<->(s.state=3\/s.state=4)
 l0:0<s.j0.lines.length->s.state=4
 f0:s.j0.from_=[]\/s.state=2\/s.state=3\/s.state=4
theorem avL (s:y6):afX s=true<->SOk s:=by
 unfold afX stateT
 simp only [Bool.and_eq_true,Bool.or_eq_true,decide_eq_true_eq,Bool.not_eq_true',List.any_eq_false]
 constructor
 ·rintro ⟨h1,h2,⟨h3,h4⟩,h5,h6,h7,h8,h9⟩
  exact ⟨h1,h2,by omega,fun m hm=>by have:=h4 m hm; simpa using this,h5,h6,h7,h8,h9⟩
 ·rintro ⟨h1,h2,h3,h4,h5,h6,h7,h8,h9⟩
  exact ⟨h1,h2,⟨by omega,fun m hm=>by rw [h4 m hm]; simp⟩,h5,h6,h7,h8,h9⟩
theorem acB (m:l9) (a b:Int):D6 m a b=true<->(abE m.from_=true/\(m.to.length:Int)>=a/\(m.to.length:Int)<=10/\(∀ t ∈ m.to,G0 t=true)/\(m.lines.length:Int)<=b/\∀ t ∈ m.lines,A6 t=true):=by
 unfold D6
 simp only [Bool.and_eq_true,decide_eq_true_eq,Bool.not_eq_true',List.any_eq_false]
 constructor
 ·rintro ⟨h1,h2,h3,h4,h5,h6⟩
  exact ⟨h1,h2,h3,fun t ht=>by have:=h4 t ht; simpa using this,h5,fun t ht=>by have:=h6 t ht; simpa using this⟩
 ·rintro ⟨h1,h2,h3,h4,h5,h6⟩
  exact ⟨h1,h2,h3,fun t ht=>by rw [h4 t ht]; simp,h5,fun t ht=>by rw [h6 t ht]; simp⟩
theorem aDy:D6 noM 0 31=true:=by decide
theorem ayu {l:Bs} (h:A6 l=true):A6 (ae6 l)=true:=by
 unfold ae6
 split
 ·simp only [A6,Bool.and_eq_true,Bool.not_eq_true',decide_eq_true_eq,List.any_eq_false] at h ⊢
  exact ⟨fun b hb=>h.1 b (List.mem_of_mem_drop hb),by simp; omega⟩
 ·exact h
theorem auF {w r p:Bs} (h:aem w r=some p):abE p=true:=by
 unfold aem at h
 split at h
 ·cases hi:agC (r.drop w.length) with
  | none=>rw [hi] at h; cases h
  | some q =>
    rw [hi,Option.bind_some] at h
    unfold okP at h
    split at h
    ·rename_i hf; rw [<-Option.some.inj h]; exact hf
    ·cases h
 ·cases h
theorem SOk.next {s:y6} {line:Bs} (h:SOk s) (hb:okB s line=true):SOk (V5 s line).1:=by
 simp only [okB,Bool.and_eq_true,Bool.not_eq_true',decide_eq_false_iff_not] at hb
 obtain ⟨h5,htx⟩:=hb
 have hd0:V7 []=false:=by decide
 have hdr:=(acB _ _ _).1 h.dr
 have none5:∀ st host done,(0<=st/\st<=5)->(host=[]\/V7 host=true)->(st ≠ 5->(host=[]<->st=0))->st ≠ 3->st ≠ 4->done.length<=5->(∀ m ∈ done,D6 m 1 30=true)->SOk ⟨st,host,noM,done⟩:=fun st host done a b c d3 d4 e f =>
  ⟨a,aDy,e,f,b,c,by simp [noM,d3,d4],by simp [noM],.inl rfl⟩
 unfold V5
 split
 ·rename_i h4
  have hh:s.host=[]<->s.state=0:=h.h0 h5
  have ht:=h.t0.2 (.inr h4)
  have base:SOk ⟨1,s.host,noM,s.done⟩:=none5 1 s.host s.done (by omega) h.ho (fun _=>⟨fun e=>by have:=hh.1 e; omega,fun e=>by omega⟩) (by omega) (by omega) h.dn h.dv
  unfold aiu
  split
  ·split
   ·exact base
   ·split
    ·exact base
    ·rename_i h6 h7
     refine none5 1 s.host _ (by omega) h.ho base.h0 (by omega) (by omega) (by have:=h.dn; simp; omega) fun m hm=>?_
     rcases List.mem_append.1 hm with hm | hm
     ·exact h.dv m hm
     ·simp at hm; subst hm
      exact (acB _ _ _).2 ⟨hdr.1,by omega,hdr.2.2.1,hdr.2.2.2.1,by omega,hdr.2.2.2.2.2⟩
  ·split
   ·rename_i h6
    refine ⟨h.st,(acB _ _ _).2 ⟨hdr.1,hdr.2.1,hdr.2.2.1,hdr.2.2.2.1,by show (((s.j0.lines++[ae6 line]).length:Nat):Int)<=31; simp; omega,fun t ht=>?_⟩,h.dn,h.dv,h.ho,h.h0,h.t0,fun _=>h4,h.f0⟩
    rcases List.mem_append.1 ht with ht | ht
    ·exact hdr.2.2.2.2.2 t ht
    ·simp at ht; subst ht; exact ayu htx
   ·exact h
 ·rename_i h4
  unfold aiN
  split
  ·unfold apz
   split
   ·rename_i hd
    exact none5 1 _ _ (by omega) (.inr hd) (fun _=>⟨fun e=>(by rw [e,hd0] at hd; cases hd),fun e=>by omega⟩) (by omega) (by omega) h.dn h.dv
   ·exact h
  ·split
   ·cases hp:aem [102,114,111,109,58] (E5 32 line) with
    | none=>exact h
    | some p =>
      unfold asx
      simp only
      split
      ·rename_i h1
       have hh:s.host=[]<->s.state=0:=h.h0 h5
       exact ⟨by show (0:Int)<=2/\(2:Int)<=5; omega,(acB _ _ _).2 ⟨auF hp,by simp,by simp,by simp,by simp,by simp⟩,h.dn,h.dv,h.ho,fun _=>⟨fun e=>by have:=hh.1 e; omega,fun e=>by cases e⟩,by simp,by simp,.inr (.inl rfl)⟩
      ·exact h
   ·split
    ·cases hp:aem [116,111,58] (E5 32 line) with
     | none=>exact h
     | some p =>
       unfold toF
       simp only
       split
       ·exact h
       ·rename_i hpn
        split
        ·rename_i h23
         split
         ·exact h
         ·rename_i h10
          have hh:s.host=[]<->s.state=0:=h.h0 h5
          have hpp:G0 p=true:=by
           have:=auF hp
           unfold abE at this
           rw [decide_eq_false hpn,Bool.false_or] at this
           exact this
          refine ⟨by show (0:Int)<=3/\(3:Int)<=5; omega,(acB _ _ _).2 ⟨hdr.1,by simp; omega,by have:=hdr.2.2.1; simp; omega,fun t ht=>?_,hdr.2.2.2.2⟩,h.dn,h.dv,h.ho,fun _=>⟨fun e=>by have:=hh.1 e; omega,fun e=>by cases e⟩,by simp,fun hl=>by have:=h.l0 hl; omega,.inr (.inr (.inl rfl))⟩
          rcases List.mem_append.1 ht with ht | ht
          ·exact hdr.2.2.2.1 t ht
          ·simp at ht; subst ht; exact hpp
        ·exact h
    ·unfold ao5
     split
     ·split
      ·rename_i h3
       have hh:s.host=[]<->s.state=0:=h.h0 h5
       have ht:=h.t0.2 (.inl h3)
       exact ⟨by show (0:Int)<=4/\(4:Int)<=5; omega,h.dr,h.dn,h.dv,h.ho,fun _=>⟨fun e=>by have:=hh.1 e; omega,fun e=>by cases e⟩,⟨fun _ => .inr rfl,fun _=>ht⟩,fun _=>rfl,.inr (.inr (.inr rfl))⟩
      ·exact h
     ·split
      ·have hh:s.host=[]<->s.state=0:=h.h0 h5
       refine none5 _ s.host s.done (by split<;>omega) h.ho (fun _=>?_) (by split<;>omega) (by split<;>omega) h.dn h.dv
       split
       ·exact hh
       ·rename_i h0
        exact ⟨fun e=>absurd (hh.1 e) h0,fun e=>by omega⟩
      ·split
       ·exact h
       ·split
        ·exact none5 5 s.host s.done (by omega) h.ho (fun e=>absurd rfl e) (by omega) (by omega) h.dn h.dv
        ·exact h
end Go.Proofs.YtaapfgpeeghmeaaGreatDoor.Q

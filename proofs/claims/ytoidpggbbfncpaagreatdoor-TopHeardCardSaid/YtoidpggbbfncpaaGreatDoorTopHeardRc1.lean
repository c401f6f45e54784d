/- What the functions that the law of this seat reaches compute, and the plain laws of it. No condition. -/
import Derived.Test.YtoidpggbbfncpaaGreatDoorTopHeardEc3
import Derived.Test.YtoidpggbbfncpaaGreatDoorTopHeardRa1
import Derived.Test.YtoidpggbbfncpaaGreatDoorTopHeardRb1
set_option linter.unusedSimpArgs false
set_option linter.unusedVariables false
/- Who is far perceives nothing: plain laws. -/
namespace Go.Ing
open Go
namespace AG
theorem Iq (w:AG)(e:Event):∀ n:Nat,(w.Hz e n).kind=e.kind∧(w.Hz e n).DK=e.DK∧(w.Hz e n).room=e.room∧(w.Hz e n).other=e.other∧(w.Hz e n).n=e.n∧(w.Hz e n).Hb=e.Hb∧(w.Hz e n).EV=e.EV∧(w.Hz e n).BJ=e.BJ∧(w.Hz e n).text=e.text
 | 0=>⟨rfl,rfl,rfl,rfl,rfl,rfl,rfl,rfl,rfl⟩
 | k+1=>Iq w e k
end AG
namespace AE
section
variable {b c rc:Int} {S:Int→Prop} {T:AE}
section
variable (c0:0≤c) (c6:c < 6) (hn:c≠b)
include c0 c6 hn
end
end
end AE
end Go.Ing
/- What others are told is not empty: plain laws. -/
namespace Go.Ing
open Go
namespace AG
end AG
theorem Mu {α:Type}{d:α}{xs:List α}{i:Nat}(h:i < xs.length):xs.getD i d∈xs:=by
 rw [List.getD_eq_getElem?_getD,List.getElem?_eq_getElem h]
 exact List.getElem_mem h
namespace AE
theorem NA:∀(l:List Int) (T:AE),(T.DG l).out.length=T.out.length+l.length
 | [],T=>rfl
 | i :: r,T=>by rw [DG,NA r,Fg];show T.out.length+1+r.length=_;rw [List.length_cons];omega
theorem PF (v to:Int):∀(l:List Int) (T:AE),(T.Es v to l).out.length≤T.out.length+l.length
 | [],T=>Nat.le_refl _
 | i :: r,T=>by
  have h1:=PF v to r (T.Cs v to i)
  have h2:=T.PW v to i
  rw [Es,List.length_cons];omega
theorem SZ (T:AE){l:List Int}(hl:l.length≤9)(o:Order):(T.Kg l o).out.length≤T.out.length+10:=by
 have h:=(Ea T.w l o.nth o.name o.Bm).length_le
 unfold Kg
 rw [NA]
 split
 ·rw [CG];omega
 ·omega
theorem Z5 (T:AE)(o:Order):(T.get o).out.length≤T.out.length+11:=by
 have hb:=T.IE o.second
 unfold get
 split
 ·split
  ·omega
  ·have:=SZ (T.box o.second).1 (AG.IN (T.box o.second).1.w 2 (T.box o.second).2.1) o
   omega
 ·have:=SZ T T.Im o
  omega
theorem WE (T:AE)(o:Order):(T.FH o).out.length≤T.out.length+11:=by
 have hb:=T.P2 o
 unfold FH
 split
 ·omega
 ·unfold Sa
  have h:=(Ea (T.Cu o).1.w (T.Cu o).1.own o.nth o.name o.Bm).length_le
  have h9:=(T.Cu o).1.KR
  refine Nat.le_trans (PF _ _ _ _) ?_
  split
  ·rw [CG];omega
  ·omega
theorem Vy (T:AE)(o:Order):(T.E7 o).out.length≤T.out.length+2:=by
 unfold E7
 generalize (if (!decide (o.nth=1) || o.Bm)=true then [] else o.name)=nm
 have hs:=T.HO nm
 split
 ·omega
 ·refine Nat.le_trans (Nat.le_of_eq (CG _ _)) ?_
  split
  ·show(T.A6 nm).1.out.length+1≤_;omega
  ·show(T.A6 nm).1.out.length+1≤_;omega
theorem No (T:AE)(first:Bool)(i:Int)(v:Bool)(k:Int):(T.before first i v k).out.length=T.out.length+1:=by
 unfold before
 split
 ·rw [Fg];rfl
 ·exact Fg T k i
theorem ZN (T:AE)(o:Order):(T.set o).out.length≤T.out.length+1:=by
 unfold set
 split
 ·unfold Gi
  split
  ·rw [CG];exact Nat.le_refl _
  ·split
   ·rw [CG];exact Nat.le_refl _
   ·refine Nat.le_trans (Nat.le_of_eq (Cg _ _)) ?_
    split<;>exact Nat.le_refl _
 ·split
  ·rw [CG];exact Nat.le_refl _
  ·split
   ·rw [CG];exact Nat.le_refl _
   ·split
    ·exact Nat.le_of_eq (No T _ _ _ _)
    ·exact Nat.le_of_eq (No T _ _ _ _)
theorem XJ (T:AE)(d:Int):(T.walk d).out.length≤T.out.length+11:=by
 unfold walk
 split
 ·rw [CG];omega
 ·split
  ·rw [CG];omega
  ·refine Nat.le_trans (KF _).2.2 ?_
   rw [Cg]
   show(T.out ++ [_]).length+1+9≤_
   simp
theorem Ui (T:AE)(o:Order):(T.act o).out.length≤T.out.length+11:=by
 unfold act
 split
 ·exact T.XJ _
 ·split
  ·exact Nat.le_trans (T.KF).2.2 (by omega)
  ·split
   ·rw [(T.Hq _ _).2.2];omega
   ·split
    ·rw [Cg];omega
    ·split
     ·rw [(T.O4).2.1,LY];omega
     ·split
      ·exact Nat.le_trans (T.Vy o) (by omega)
      ·split
       ·exact T.Z5 o
       ·split
        ·exact T.WE o
        ·exact Nat.le_trans (T.ZN o) (by omega)
theorem Yi.len {X:AG}{b:Int}{o:Order}(h:Yi X b o):(EF X b o).2.1.length≤11:=by rw [h.out];exact Ui ⟨X,b,[]⟩ o
end AE
end Go.Ing
/- A round of all fights: plain functions and laws. -/
namespace Go.Ing
open Go
theorem Ct (d:Int):-2≤d.tmod 3∧d.tmod 3≤2:=by
 have h1:=Int.tmod_lt_of_pos d (show(0:Int) < 3 by decide)
 have h2:=Int.tmod_lt_of_pos (-d) (show(0:Int) < 3 by decide)
 rw [Int.neg_tmod] at h2
 omega
namespace AE
def FV (w:AG)(b:Int):AE:=⟨w.Cw b { w.AN.at b with BI:=1 },b,[]⟩
def F7 (w:AG)(b:Int):AE:=((FV w b).kind 15).FD
def JK (w:AG)(b:Int):AE:=(F7 w b).DW b { (F7 w b).w.AN.at b with room:=0,BI:=10 }
def H2 (w:AG)(b:Int):AE:=if decide (b < 2)=true then(F7 w b).DW b default else((JK w b).kind 17).look
def Le (draw b:Int):Int:=1+(draw.tmod 3+3+b).tmod 3
def B9 (w:AG)(b B2 n:Int):AE:=(AE.BP ⟨w,b,[]⟩ { F2 14 with other:=B2,n:=n }).DW B2 { w.AN.at B2 with BI:=max 0 ((w.AN.at B2).BI - n) }
def EN (draw b:Int)(s:AG × List Event):AG × List Event:=
 if (!(s.1.AN.at b).here || decide ((s.1.AN.at b).B2=0))=true then s
 else if (!(s.1.AN.at ((s.1.AN.at b).B2 - 1)).here || !decide ((s.1.AN.at ((s.1.AN.at b).B2 - 1)).room=(s.1.AN.at b).room))=true then(s.1.Cw b { s.1.AN.at b with B2:=0 },s.2)
 else if decide (((B9 s.1 b ((s.1.AN.at b).B2 - 1) (Le draw b)).w.AN.at ((s.1.AN.at b).B2 - 1)).BI=0)=true then((H2 (B9 s.1 b ((s.1.AN.at b).B2 - 1) (Le draw b)).w ((s.1.AN.at b).B2 - 1)).w,(s.2++(B9 s.1 b ((s.1.AN.at b).B2 - 1) (Le draw b)).out)++(H2 (B9 s.1 b ((s.1.AN.at b).B2 - 1) (Le draw b)).w ((s.1.AN.at b).B2 - 1)).out)
 else((B9 s.1 b ((s.1.AN.at b).B2 - 1) (Le draw b)).w,s.2++(B9 s.1 b ((s.1.AN.at b).B2 - 1) (Le draw b)).out)
def DZ (X:AG)(draw:Int):Nat→AG × List Event
 | 0=>(X,[])
 | k+1=>EN draw k (DZ X draw k)
def CW (X:AG)(draw:Int):AG × List Event × Int:=if (!X.Bh)=true then(X,[],2) else((DZ X draw 6).1,(DZ X draw 6).2,0)
theorem ID {X:AG}{draw k:Int}(h:0≤k):DZ X draw (k+1).toNat=EN draw k (DZ X draw k.toNat):=by
 obtain⟨m,rfl⟩:=Int.eq_ofNat_of_zero_le h
 rfl
theorem MB {draw b:Int}(h:0≤b):1≤Le draw b∧Le draw b≤3:=by
 unfold Le
 have:=Ct draw
 have h2:0≤draw.tmod 3+3+b:=by omega
 have h3:=Int.tmod_nonneg (a:=draw.tmod 3+3+b) 3 h2
 have h4:=Int.tmod_lt_of_pos (draw.tmod 3+3+b) (show(0:Int) < 3 by decide)
 omega
structure Z7 (x:Aj):Prop where
 room:0≤x.room∧x.room < 6
 BI:0≤x.BI∧x.BI≤10
 B2:0≤x.B2∧x.B2≤6
 off:x.here=false→x.B2=0
 alive:x.here=decide (0 < x.BI)
theorem eE {x:Aj}(h:AG.Dm x=false):Z7 x:=by
 simp only [AG.Dm,Bool.or_eq_false_iff,decide_eq_false_iff_not,Bool.and_eq_false_iff,Bool.not_eq_false',bne_eq_false_iff_eq] at h
 obtain⟨⟨⟨⟨⟨⟨⟨q1,q2⟩,q3⟩,q4⟩,q5⟩,q6⟩,q7⟩,q8⟩:=h
 refine⟨by omega,by omega,by omega,fun e=>?_,q8⟩
 rcases q7 with q | q
 ·rw [e] at q;cases q
 ·exact of_decide_eq_true q
theorem dq {x:Aj}(h:Z7 x):AG.Dm x=false:=by
 have h1:=h.room;have h2:=h.BI;have h3:=h.B2
 simp only [AG.Dm,Bool.or_eq_false_iff,decide_eq_false_iff_not,Bool.and_eq_false_iff,Bool.not_eq_false',bne_eq_false_iff_eq]
 refine⟨⟨⟨⟨⟨⟨⟨by omega,by omega⟩,by omega⟩,by omega⟩,by omega⟩,by omega⟩,?_⟩,h.alive⟩
 cases hh:x.here with
 | true=>exact .inl rfl
 | false=>exact .inr (decide_eq_true (h.off hh))
theorem HM {X:AG}(h:X.Bh=true){b:Int}(h0:0≤b)(h6:b < 6):Z7 (X.AN.at b):=eE (AG.FW h h0 h6)
theorem Ju {X:AG}(h:X.Bh=true){b:Int}(h0:0≤b)(h6:b < 6){x:Aj}(hx:Z7 x)(hh:(X.AN.at b).here=true→x.here=true):(X.Cw b x).Bh=true:=
 AG.I0 h h0 h6 (dq hx) fun i i0 i9 e1 e2=>by
  rcases (AG.Hh h i0 i9).CZ with ⟨a,_⟩ | ⟨_,_,a⟩ | ⟨a,_⟩
  ·omega
  ·rw [e2] at a;exact hh a
  ·omega
theorem WT (X:AG)(b:Int)(x y:Aj):(X.Cw b x).Cw b y=X.Cw b y:=by
 unfold AG.Cw
 show({ X with AN:=(X.AN.put b x).put b y }:AG)=_
 rw [Vector.Ep]
section
variable {w:AG} {b B2 n:Int} (hg:w.Bh=true) (hw:w.DL) (f0:0≤B2) (f6:B2 < 6) (hh:(w.AN.at B2).here=true)
include hg hw f0 f6 hh
theorem LP:(FV (B9 w b B2 n).w B2).Fit:=by
 have e:(B9 w b B2 n).w.Cw B2 { (B9 w b B2 n).w.AN.at B2 with BI:=1 }=w.Cw B2 { w.AN.at B2 with BI:=1 }:=by
  show(w.Cw B2 _).Cw B2 { (w.Cw B2 _).AN.at B2 with BI:=1 }=_
  rw [WT,AG.EK f0 f6]
 have k:=HM hg f0 f6
 refine⟨⟨f0,f6⟩,?_,?_,?_⟩
 ·show((B9 w b B2 n).w.Cw B2 _).DL
  rw [e];exact Eo hw (hw.be B2)
 ·show((B9 w b B2 n).w.Cw B2 _).Bh=true
  rw [e]
  exact Ju hg f0 f6 ⟨k.room,⟨show(0:Int)≤1 by decide,show(1:Int)≤10 by decide⟩,k.B2,k.off,by rw [show({ w.AN.at B2 with BI:=1 }:Aj).here=true from hh];rfl⟩ fun _=>hh
 ·show(((B9 w b B2 n).w.Cw B2 _).AN.at B2).here=true
  rw [e,AG.EK f0 f6];exact hh
theorem SE (hn:0 < (w.AN.at B2).BI - n)(h1:0≤n):(B9 w b B2 n).w.Bh=true∧(B9 w b B2 n).w.DL:=by
 have k:=HM hg f0 f6
 have hk:=k.BI
 refine⟨Ju hg f0 f6 ⟨k.room,⟨?_,?_⟩,k.B2,k.off,?_⟩ fun _=>hh,Eo hw (hw.be B2)⟩
 ·show 0≤max 0 ((w.AN.at B2).BI - n);omega
 ·show max 0 ((w.AN.at B2).BI - n)≤10;omega
 ·show(w.AN.at B2).here=decide (0 < max 0 ((w.AN.at B2).BI - n))
  rw [hh,decide_eq_true (by omega)]
end
theorem Jr (w:AG)(b:Int):(F7 w b).b=b∧(F7 w b).out=((FV w b).kind 15).out:=RN ((FV w b).kind 15)
theorem Q9 (w:AG)(b:Int):(JK w b).b=b∧(JK w b).out=((FV w b).kind 15).out∧(JK w b).w=(F7 w b).w.Cw b { (F7 w b).w.AN.at b with room:=0,BI:=10 }:=by
 have h:=Jr w b
 unfold JK
 rw [(DD _ _ _).1,(DD _ _ _).2.1,(DD _ _ _).2.2]
 exact⟨h.1,h.2,rfl⟩
theorem aD (D:AG){b:Int}(hb:0≤b∧b < 6):({ D with AN:=(D.AN.put b { D.AN.at b with room:=0 }).put b { (D.AN.put b { D.AN.at b with room:=0 }).at b with BI:=10 } }:AG)=D.Cw b { D.AN.at b with room:=0,BI:=10 }:=by
 rw [Vector.CE hb.1 hb.2,Vector.Ep];rfl
theorem VH {X F:AG}{b:Int}(h:F=((FV X b).kind 15).FD.w)(x:Aj):(F7 X b).DW b x=⟨F.Cw b x,b,((FV X b).kind 15).out⟩:=by
 subst h
 have e:=Jr X b
 have h1:=DD (F7 X b) b x
 cases hT:(F7 X b).DW b x with
 | mk w' b' o'=>
  rw [hT] at h1
  obtain⟨q1,q2,q3⟩:=h1
  simp only at q1 q2 q3
  rw [q1,q2,q3,e.1,e.2]
  rfl
theorem Zr {X F:AG}{b:Int}(h:F=((FV X b).kind 15).FD.w):JK X b=⟨F.Cw b { F.AN.at b with room:=0,BI:=10 },b,((FV X b).kind 15).out⟩:=by
 have h':(F7 X b).w=F:=h.symm
 unfold JK
 rw [h',VH h]
theorem Q3 {w:AG}{b:Int}(h:(FV w b).Fit):DJ (FV w b) (F7 w b)∧∀ j,0≤j→j < 9→¬ (((F7 w b).w.AO.at j).CZ=1∧((F7 w b).w.AO.at j).at_=b):=by
 have g1:DJ (FV w b) ((FV w b).kind 15):=h.goes.Ei rfl rfl
 obtain⟨g2,k⟩:=Qi g1.fit
 exact⟨g1.trans g2,k⟩
theorem Rp {w:AG}{b:Int}(h:(FV w b).Fit):(JK w b).Fit:=by
 have g:=(Q3 h).1.fit
 have hb:0≤b∧b < 6:=h.b
 have e:=Q9 w b
 have eb:=(Jr w b).1
 have gb:=g.b
 have gh:=g.here
 rw [eb] at gb gh
 have k:=HM g.gd hb.1 hb.2
 have gbr:=g.br
 have ggd:=g.gd
 obtain⟨e1,_,e3⟩:=e
 generalize hD:(F7 w b).w=D at *
 have hx:(D.Cw b { D.AN.at b with room:=0,BI:=10 }).Bh=true:=Ju ggd hb.1 hb.2 ⟨⟨Int.le_refl _,show(0:Int) < 6 by decide⟩,⟨show(0:Int)≤10 by decide,show(10:Int)≤10 by decide⟩,k.B2,k.off,gh⟩ fun _=>gh
 have hy:(D.Cw b { D.AN.at b with room:=0,BI:=10 }).DL:=Eo gbr (gbr.be b)
 have hz:((D.Cw b { D.AN.at b with room:=0,BI:=10 }).AN.at b).here=true:=by rw [AG.EK hb.1 hb.2];exact gh
 exact⟨by rw [e1];exact hb,by rw [e3];exact hy,by rw [e3];exact hx,by rw [e1,e3];exact hz⟩
theorem Qj {w:AG}{b:Int}(h:(FV w b).Fit):(H2 w b).w.Bh=true∧(H2 w b).w.DL∧(H2 w b).out.length≤12:=by
 have hb:0≤b∧b < 6:=h.b
 obtain⟨g,hk⟩:=Q3 h
 unfold H2
 split
 ·rw [(DD _ _ _).2.1,(DD _ _ _).2.2]
  refine⟨AG.I0 (X:=(F7 w b).w) g.fit.gd hb.1 hb.2 (by decide) fun i i0 i9 e1 e2=>absurd ⟨e1,e2⟩ (hk i i0 i9),Eo (X:=(F7 w b).w) g.fit.br (by decide),?_⟩
  rw [(Jr w b).2,LY]
  exact(by decide:(0:Nat)+1≤12)
 ·have f:=Rp h
  have hl:=KF ((JK w b).kind 17)
  refine⟨by rw [hl.1];exact f.gd,by rw [hl.1];exact f.br,?_⟩
  have h2:=hl.2.2
  rw [LY,(Q9 w b).2.1,LY] at h2
  exact Nat.le_trans h2 (by decide:(0:Nat)+1+1+9≤12)
theorem Fc {s:AG × List Event}{draw b:Int}(hg:s.1.Bh=true)(hw:s.1.DL)(h0:0≤b)(h6:b < 6):(EN draw b s).1.Bh=true∧(EN draw b s).1.DL∧(EN draw b s).2.length≤s.2.length+13:=by
 have kb:=HM hg h0 h6
 have hn:=MB (draw:=draw) h0
 unfold EN
 split
 ·exact⟨hg,hw,by omega⟩
 ·rename_i h1
  simp only [Bool.or_eq_true,Bool.not_eq_true',decide_eq_true_eq,not_or,Bool.not_eq_false] at h1
  have kf:=kb.B2
  split
  ·exact⟨Ju hg h0 h6 ⟨kb.room,kb.BI,⟨Int.le_refl _,show(0:Int)≤6 by decide⟩,fun _=>rfl,kb.alive⟩ fun h=>h,Eo hw (hw.be b),Nat.le_add_right _ _⟩
  ·rename_i h2
   simp only [Bool.or_eq_true,Bool.not_eq_true',decide_eq_false_iff_not,not_or,Bool.not_eq_false,Decidable.not_not] at h2
   have hf:=LP (b:=b) (n:=Le draw b) hg hw (B2:=(s.1.AN.at b).B2 - 1) (by omega) (by omega) h2.1
   have hso:(B9 s.1 b ((s.1.AN.at b).B2 - 1) (Le draw b)).out.length=1:=rfl
   split
   ·obtain⟨d1,d2,d3⟩:=Qj hf
    refine⟨d1,d2,?_⟩
    show((s.2++_)++_).length≤_
    rw [List.length_append,List.length_append,hso];omega
   ·rename_i h3
    have h3':¬ ((B9 s.1 b ((s.1.AN.at b).B2 - 1) (Le draw b)).w.AN.at ((s.1.AN.at b).B2 - 1)).BI=0:=fun e=>h3 (decide_eq_true e)
    have e:((B9 s.1 b ((s.1.AN.at b).B2 - 1) (Le draw b)).w.AN.at ((s.1.AN.at b).B2 - 1))={ s.1.AN.at ((s.1.AN.at b).B2 - 1) with BI:=max 0 ((s.1.AN.at ((s.1.AN.at b).B2 - 1)).BI - Le draw b) }:=Vector.CE (by omega) (by omega)
    rw [e] at h3'
    have h3'':¬ max 0 ((s.1.AN.at ((s.1.AN.at b).B2 - 1)).BI - Le draw b)=0:=h3'
    obtain⟨d1,d2⟩:=SE (b:=b) (n:=Le draw b) hg hw (B2:=(s.1.AN.at b).B2 - 1) (by omega) (by omega) h2.1 (by omega) (by omega)
    refine⟨d1,d2,?_⟩
    show(s.2++_).length≤_
    rw [List.length_append,hso];omega
end AE
end Go.Ing
/- What a round takes: plain laws. -/
namespace Go.Ing
open Go
namespace AE
def Ql (v:Vector Int 6)(e:Event):Vector Int 6:=if decide (e.kind=14)=true then v.put e.other (v.at e.other+e.n) else v
def QF (v:Vector Bool 6)(e:Event):Vector Bool 6:=if decide (e.kind=15)=true then v.put e.DK true else v
def EJ (l:List Event):Vector Int 6:=l.foldl Ql (Vector.replicate 6 default)
def Fj (l:List Event):Vector Bool 6:=l.foldl QF (Vector.replicate 6 default)
theorem O9 (l:List Event)(e:Event):EJ (l ++ [e])=Ql (EJ l) e:=by simp [EJ]
theorem OD (l:List Event)(e:Event):Fj (l ++ [e])=QF (Fj l) e:=by simp [Fj]
def Quiet (q:List Event):Prop:=∀ e∈q,e.kind≠14∧e.kind≠15
theorem Nq:∀ {q:List Event} (v:Vector Int 6) (u:Vector Bool 6),Quiet q→q.foldl Ql v=v∧q.foldl QF u=u
 | [],_,_,_=>⟨rfl,rfl⟩
 | e :: r,v,u,h=>by
  have he:=h e (List.mem_cons_self ..)
  have hr:Quiet r:=fun x hx=>h x (List.mem_cons_of_mem _ hx)
  rw [List.foldl_cons,List.foldl_cons,Ql,if_neg (by simp [he.1]),QF,if_neg (by simp [he.2])]
  exact Nq v u hr
theorem S5 {l q:List Event}(h:Quiet q):EJ (l++q)=EJ l∧Fj (l++q)=Fj l:=by
 unfold EJ Fj
 rw [List.foldl_append,List.foldl_append]
 exact Nq _ _ h
theorem IF (T:AE)(e:Event):∃ x:Event,(T.BP e).out=T.out ++ [x]∧x.kind=e.kind∧x.DK=T.b∧x.other=e.other∧x.n=e.n:=by
 obtain⟨a1,a2,_,a4,a5,_⟩:=AG.Iq T.w (T.Da e) 6
 have e2:(T.Da e).kind=e.kind∧(T.Da e).DK=T.b∧(T.Da e).other=e.other∧(T.Da e).n=e.n:=by
  unfold Da
  split<;>exact⟨rfl,rfl,rfl,rfl⟩
 exact⟨_,rfl,a1.trans e2.1,a2.trans e2.2.1,a4.trans e2.2.2.1,a5.trans e2.2.2.2⟩
def NN (T T':AE):Prop:=∃ q,T'.out=T.out++q∧∀ e∈q,e.kind=16
theorem NN.refl (T:AE):NN T T:=⟨[],by simp,fun _ h=>by cases h⟩
theorem NN.tell {T T':AE}(h:NN T T')(s:Ao):NN T (T'.tell s):=by
 obtain⟨q,e,k⟩:=h
 obtain⟨x,e2,k2,_⟩:=IF T' { F2 16 with text:=s }
 refine⟨q ++ [x],?_,fun y hy=>?_⟩
 ·show(T'.BP _).out=_
  rw [e2,e,List.append_assoc]
 ·rcases List.mem_append.1 hy with hy | hy
  ·exact k y hy
  ·have:y=x:=by simpa using hy
   rw [this];exact k2
theorem NN.look {T T':AE}(h:NN T T'):NN T T'.look:=by
 have hk:∀ {T'':AE},NN T T''→∀ k:Nat,NN T (T''.Fe k):=fun {T''} h' k=>by
  induction k with
  | zero=>exact h'
  | succ k ih=>
   unfold Fe
   split
   ·exact ih.tell _
   ·exact ih
 unfold AE.look
 split
 ·exact h.tell _
 ·refine hk ?_ 6
  have ha:NN T T'.Jv:=(h.tell _).tell _
  unfold EE
  split
  ·exact ha.tell _
  ·exact ha
/-! #### who is struck, who dies -/
def calm (b:Int)(x:Aj):Aj:={ x with B2:=if x.B2=b+1 then 0 else x.B2 }
theorem XW {b:Int}{x:Aj}(h:x.B2=b+1):calm b x={ x with B2:=0 }:=by unfold calm;rw [if_pos h]
theorem XN {b:Int}{x:Aj}(h:¬ x.B2=b+1):calm b x=x:=by unfold calm;rw [if_neg h]
theorem S1 (T:AE)(hb:0≤T.b):∀ k:Nat,k≤6→∀ c:Int,0≤c→c < 6→(T.DY k).w.AN.at c=if c < (k:Int) then calm T.b (T.w.AN.at c) else T.w.AN.at c
 | 0,_,c,c0,_=>by rw [if_neg (by omega)];rfl
 | k+1,hk,c,c0,c6=>by
  have ih:=S1 T hb k (by omega)
  have ihk:=ih k (by omega) (by omega)
  rw [if_neg (by omega)] at ihk
  have ihc:=ih c c0 c6
  unfold DY
  rw [ihk]
  by_cases e:(T.w.AN.at (k:Int)).B2=T.b+1
  ·rw [if_pos (decide_eq_true e)]
   show(((T.DY k).w.AN.put (k:Int) { (T.DY k).w.AN.at (k:Int) with B2:=0 }).at c)=_
   rw [IY _ _ _ _ (by omega) (by omega) c0]
   by_cases ec:c=(k:Int)
   ·subst ec
    rw [if_pos rfl,if_pos (by omega),ihk,XW e]
   ·rw [if_neg ec,ihc]
    by_cases hl:c < (k:Int)
    ·rw [if_pos hl,if_pos (by omega)]
    ·rw [if_neg hl,if_neg (by omega)]
  ·rw [if_neg (by simpa using e),ihc]
   by_cases hl:c < (k:Int)
   ·rw [if_pos hl,if_pos (by omega)]
   ·rw [if_neg hl]
    by_cases ec:c=(k:Int)
    ·subst ec
     rw [if_pos (by omega),XN e]
    ·rw [if_neg (by omega)]
theorem OX:∀(l:List Int) (T:AE),(T.Cd l).w.AN=T.w.AN
 | [],_=>rfl
 | i :: r,T=>(OX r (T.E3 i)).trans rfl
theorem aE (T:AE)(hb:0≤T.b∧T.b < 6){c:Int}(c0:0≤c)(c6:c < 6):T.FD.w.AN.at c=if c=T.b then { T.w.AN.at c with B2:=0 } else calm T.b (T.w.AN.at c):=by
 have hd:=OX T.own T
 have hdb:=(I6 T.own T).1
 have hk:=S1 (T.Cd T.own) (by rw [hdb];exact hb.1) 6 (Nat.le_refl _)
 rw [hd,hdb] at hk
 rw [Li]
 generalize (T.Cd T.own).DY 6=D at *
 show(D.w.AN.put T.b { D.w.AN.at T.b with B2:=0 }).at c=_
 rw [IY _ _ _ _ hb.1 hb.2 c0]
 have hc:=hk c c0 c6
 rw [if_pos (by omega)] at hc
 by_cases e:c=T.b
 ·rw [if_pos e,if_pos e,← e,hc];rfl
 ·rw [if_neg e,if_neg e,hc]
structure dh (w w':AG)(f:Int):Prop where
 eY:∀ c,0≤c→c < 6→c≠f→(w'.AN.at c).BI=(w.AN.at c).BI∧(w'.AN.at c).room=(w.AN.at c).room∧(w'.AN.at c).here=(w.AN.at c).here∧((w'.AN.at c).B2=(w.AN.at c).B2∨(w'.AN.at c).B2=0)∧(w'.AN.at c).B2≠f+1
 here:(w'.AN.at f).here=decide (2≤f)
 B2:(w'.AN.at f).B2=0
theorem Ur {w:AG}{f c:Int}(hf:0≤f∧f < 6)(c0:0≤c)(c6:c < 6):(F7 w f).w.AN.at c=if c=f then { (FV w f).w.AN.at c with B2:=0 } else calm f ((FV w f).w.AN.at c):=aE ((FV w f).kind 15) hf c0 c6
theorem X6 {w:AG}{f c:Int}(hf:0≤f∧f < 6)(c0:0≤c)(c6:c < 6)(hn:c≠f):(F7 w f).w.AN.at c=calm f (w.AN.at c):=by
 have h0:(FV w f).w.AN.at c=w.AN.at c:=AG.GS hf.1 hf.2 c0 hn _
 rw [Ur hf c0 c6,h0,if_neg hn]
theorem Zg (f:Int)(hf:0≤f)(x:Aj):(calm f x).BI=x.BI∧(calm f x).room=x.room∧(calm f x).here=x.here∧((calm f x).B2=x.B2∨(calm f x).B2=0)∧(calm f x).B2≠f+1:=by
 by_cases e:x.B2=f+1
 ·rw [XW e]
  refine⟨rfl,rfl,rfl, .inr rfl,?_⟩
  show(0:Int)≠f+1
  omega
 ·rw [XN e]
  exact⟨rfl,rfl,rfl, .inl rfl,e⟩
theorem U1 {w w1 w':AG}{f:Int}(hf:0≤f∧f < 6)(ho:∀ c,0≤c→c < 6→c≠f→w1.AN.at c=calm f (w.AN.at c))(he:∀ c,0≤c→c < 6→c≠f→w'.AN.at c=w1.AN.at c)(h1:(w'.AN.at f).here=decide (2≤f))(h2:(w'.AN.at f).B2=0):dh w w' f:=by
 refine⟨fun c c0 c6 hn=>?_,h1,h2⟩
 rw [he c c0 c6 hn,ho c c0 c6 hn]
 exact Zg f hf.1 _
theorem Va {w:AG}{f:Int}(h:(FV w f).Fit):dh w (H2 w f).w f∧∃ x q,(H2 w f).out=x :: q∧x.kind=15∧x.DK=f∧Quiet q:=by
 have hf:0≤f∧f < 6:=h.b
 have ho:∀ c,0≤c→c < 6→c≠f→(F7 w f).w.AN.at c=calm f (w.AN.at c):=fun c c0 c6 hn=>X6 hf c0 c6 hn
 obtain⟨x,e1,k1,k2,_⟩:=IF (FV w f) (F2 15)
 have hout:((FV w f).kind 15).out = [x]:=e1
 have g:=(Q3 h).1.fit
 have gh:=g.here
 rw [(Jr w f).1] at gh
 have hme:=Ur (w:=w) hf hf.1 hf.2
 rw [if_pos rfl] at hme
 have hfoe:((F7 w f).w.AN.at f).B2=0:=by rw [hme]
 unfold H2
 split
 ·rename_i c2
  have c2':=of_decide_eq_true c2
  rw [(DD _ _ _).2.1,(DD _ _ _).2.2,(Jr w f).2,hout]
  generalize (F7 w f).w=D at *
  refine⟨U1 (w1:=D) hf ho (fun c c0 _ hn=>AG.GS hf.1 hf.2 c0 hn _) ?_ ?_,x,[],rfl,k1,k2,fun e he=>by cases he⟩
  ·show((D.Cw f default).AN.at f).here=_
   rw [AG.EK hf.1 hf.2,decide_eq_false (by omega)];rfl
  ·show((D.Cw f default).AN.at f).B2=_
   rw [AG.EK hf.1 hf.2];rfl
 ·rename_i c2
  have c2':¬ f < 2:=fun e=>c2 (decide_eq_true e)
  have hl:=KF ((JK w f).kind 17)
  have e2:=Q9 w f
  obtain⟨y,e3,k3,_⟩:=IF (JK w f) (F2 17)
  obtain⟨q,e4,k4⟩:=(NN.refl ((JK w f).kind 17)).look
  have e3':((JK w f).kind 17).out = [x] ++ [y]:=by rw [show((JK w f).kind 17).out=_ from e3,e2.2.1,hout]
  rw [hl.1,e4,e3',show((JK w f).kind 17).w=(JK w f).w from rfl,e2.2.2]
  generalize (F7 w f).w=D at *
  refine⟨U1 (w1:=D) hf ho (fun c c0 _ hn=>AG.GS hf.1 hf.2 c0 hn _) ?_ ?_,x,y :: q,rfl,k1,k2,fun e he=>?_⟩
  ·rw [AG.EK hf.1 hf.2,decide_eq_true (by omega)];exact gh
  ·rw [AG.EK hf.1 hf.2];exact hfoe
  ·rcases List.mem_cons.1 he with he | he
   ·rw [he,k3];exact⟨by decide,by decide⟩
   ·rw [k4 e he];exact⟨by decide,by decide⟩
/-! #### the count of a round -/
def fy (e:Event):Prop:=(e.kind=14→1≤e.n∧e.n≤3∧0≤e.other∧e.other < 6)∧(e.kind=15→0≤e.DK∧e.DK < 6)
structure UD (X:AG)(s:AG × List Event):Prop where
 ev:∀ e∈s.2,fy e
 un:∀ c,0≤c→c < 6→(Fj s.2).at c=false→(s.1.AN.at c).BI=(X.AN.at c).BI - (EJ s.2).at c∧(s.1.AN.at c).room=(X.AN.at c).room∧(s.1.AN.at c).here=(X.AN.at c).here
 di:∀ c,0≤c→c < 6→(Fj s.2).at c=true→(X.AN.at c).BI≤(EJ s.2).at c∧(s.1.AN.at c).here=decide (2≤c)∧(s.1.AN.at c).B2=0∧∀ a,0≤a→a < 6→(s.1.AN.at a).B2≠c+1
theorem Yr {α:Type}[Inhabited α](c:Int)(c0:0≤c)(c6:c < 6):(Vector.replicate 6 (default:α)).at c=default:=by
 have:c=0∨c=1∨c=2∨c=3∨c=4∨c=5:=by omega
 rcases this with rfl | rfl | rfl | rfl | rfl | rfl<;>rfl
theorem UD.start (X:AG):UD X (X,[]):=by
 have hh:∀ c,0≤c→c < 6→(EJ []).at c=0:=fun c c0 c6=>Yr c c0 c6
 have hd:∀ c,0≤c→c < 6→(Fj []).at c=false:=fun c c0 c6=>Yr c c0 c6
 refine⟨fun _ h=>(by cases h),fun c c0 c6 _=>⟨?_,rfl,rfl⟩,fun c c0 c6 h=>?_⟩
 ·show(X.AN.at c).BI=(X.AN.at c).BI - (EJ []).at c
  rw [hh c c0 c6];omega
 ·have h':(Fj []).at c=true:=h
  rw [hd c c0 c6] at h';cases h'
theorem UD.next {X:AG}{s:AG × List Event}{draw b:Int}(h:UD X s)(hg:s.1.Bh=true)(hw:s.1.DL)(h0:0≤b)(h6:b < 6):UD X (EN draw b s):=by
 have kb:=HM hg h0 h6
 have hn:=MB (draw:=draw) h0
 unfold EN
 split
 ·exact h
 ·rename_i h1
  simp only [Bool.or_eq_true,Bool.not_eq_true',decide_eq_true_eq,not_or,Bool.not_eq_false] at h1
  have kf:=kb.B2
  split
  ·have hb:∀ c,0≤c→((s.1.Cw b { s.1.AN.at b with B2:=0 }).AN.at c).BI=(s.1.AN.at c).BI∧((s.1.Cw b { s.1.AN.at b with B2:=0 }).AN.at c).room=(s.1.AN.at c).room∧((s.1.Cw b { s.1.AN.at b with B2:=0 }).AN.at c).here=(s.1.AN.at c).here∧(((s.1.Cw b { s.1.AN.at b with B2:=0 }).AN.at c).B2=(s.1.AN.at c).B2∨((s.1.Cw b { s.1.AN.at b with B2:=0 }).AN.at c).B2=0):=fun c c0=>by
    by_cases e:c=b
    ·subst e;rw [AG.EK h0 h6];exact⟨rfl,rfl,rfl, .inr rfl⟩
    ·rw [AG.GS h0 h6 c0 e];exact⟨rfl,rfl,rfl, .inl rfl⟩
   refine⟨h.ev,fun c c0 c6 hd=>?_,fun c c0 c6 hd=>?_⟩
   ·obtain⟨q1,q2,q3⟩:=h.un c c0 c6 hd
    obtain⟨r1,r2,r3,_⟩:=hb c c0
    exact⟨r1.trans q1,r2.trans q2,r3.trans q3⟩
   ·obtain⟨q1,q2,q3,q4⟩:=h.di c c0 c6 hd
    obtain⟨_,_,r3,r4⟩:=hb c c0
    refine⟨q1,r3.trans q2,?_,fun a a0 a6=>?_⟩
    ·rcases r4 with r4 | r4
     ·exact r4.trans q3
     ·exact r4
    ·have:=q4 a a0 a6
     rcases (hb a a0).2.2.2 with r | r
     ·rw [r];exact this
     ·rw [r];omega
  ·rename_i h2
   simp only [Bool.or_eq_true,Bool.not_eq_true',decide_eq_false_iff_not,not_or,Bool.not_eq_false,Decidable.not_not] at h2
   generalize hfo:(s.1.AN.at b).B2 - 1=f at *
   generalize Le draw b=n at *
   have f0:0≤f:=by omega
   have f6:f < 6:=by omega
   have hf:=LP (b:=b) (n:=n) hg hw (B2:=f) f0 f6 h2.1
   have kf2:=(HM hg f0 f6).BI
   obtain⟨x,ex,k1,k2,k3,k4⟩:=IF ⟨s.1,b,[]⟩ { F2 14 with other:=f,n:=n }
   have hso:(B9 s.1 b f n).out = [x]:=ex
   have hsw:(B9 s.1 b f n).w=s.1.Cw f { s.1.AN.at f with BI:=max 0 ((s.1.AN.at f).BI - n) }:=rfl
   have k1':x.kind=14:=k1
   have k3':x.other=f:=k3
   have k4':x.n=n:=k4
   have hH:EJ (s.2 ++ [x])=(EJ s.2).put f ((EJ s.2).at f+n):=by rw [O9,Ql,if_pos (decide_eq_true k1'),k3',k4']
   have hD:Fj (s.2 ++ [x])=Fj s.2:=by rw [OD,QF,if_neg (by rw [k1'];decide)]
   have hnd:(Fj s.2).at f=false:=by
    cases hh:(Fj s.2).at f with
    | false=>rfl
    | true=>exact absurd (by omega:(s.1.AN.at b).B2=f+1) ((h.di f f0 f6 hh).2.2.2 b h0 h6)
   have hfe:=h.un f f0 f6 hnd
   have hxe:fy x:=⟨fun _=>by rw [k3',k4'];omega,fun e=>by rw [k1'] at e;cases e⟩
   have hev:∀ e∈s.2 ++ [x],fy e:=fun e he=>by
    rcases List.mem_append.1 he with he | he
    ·exact h.ev e he
    ·have:e=x:=by simpa using he
     rw [this];exact hxe
   have hwc:∀ c,0≤c→c≠f→(B9 s.1 b f n).w.AN.at c=s.1.AN.at c:=fun c c0 hne=>by rw [hsw];exact AG.GS f0 f6 c0 hne _
   have hwf:(B9 s.1 b f n).w.AN.at f={ s.1.AN.at f with BI:=max 0 ((s.1.AN.at f).BI - n) }:=by rw [hsw];exact AG.EK f0 f6 _
   have hwa:∀ a,0≤a→((B9 s.1 b f n).w.AN.at a).B2=(s.1.AN.at a).B2:=fun a a0=>by
    by_cases e:a=f
    ·rw [e,hwf]
    ·rw [hwc a a0 e]
   have hHc:∀ c,0≤c→c≠f→((EJ s.2).put f ((EJ s.2).at f+n)).at c=(EJ s.2).at c:=fun c c0 hne=>Vector.Ee f0 f6 c0 hne
   have hHf:((EJ s.2).put f ((EJ s.2).at f+n)).at f=(EJ s.2).at f+n:=Vector.CE f0 f6
   split
   ·rename_i h3
    have h3':=of_decide_eq_true h3
    rw [hwf] at h3'
    have h3'':max 0 ((s.1.AN.at f).BI - n)=0:=h3'
    obtain⟨dd,y,q,e2,y1,y2,y3⟩:=Va hf
    rw [e2,hso]
    generalize (H2 (B9 s.1 b f n).w f).w=W at *
    have hA:EJ (s.2 ++ [x]++y :: q)=(EJ s.2).put f ((EJ s.2).at f+n)∧Fj (s.2 ++ [x]++y :: q)=(Fj s.2).put f true:=by
     have hq:=S5 (l:=s.2 ++ [x] ++ [y]) y3
     rw [show s.2 ++ [x]++y :: q=s.2 ++ [x] ++ [y]++q by simp,hq.1,hq.2,O9,OD,hH,hD,Ql,if_neg (by rw [y1];decide),QF,if_pos (decide_eq_true y1),y2]
     exact⟨rfl,rfl⟩
    refine⟨fun e he=>?_,fun c c0 c6 hd=>?_,fun c c0 c6 hd=>?_⟩
    ·rcases List.mem_append.1 he with he | he
     ·exact hev e he
     ·rcases List.mem_cons.1 he with he | he
      ·rw [he];exact⟨fun e=>absurd (y1.symm.trans e) (by decide),fun _=>by rw [y2];exact⟨f0,f6⟩⟩
      ·exact⟨fun e'=>absurd e' (y3 e he).1,fun e'=>absurd e' (y3 e he).2⟩
    ·have hd':((Fj s.2).put f true).at c=false:=by rw [← hA.2];exact hd
     have hne:c≠f:=fun e=>by
      rw [e,Vector.CE f0 f6] at hd';cases hd'
     rw [Vector.Ee f0 f6 c0 hne] at hd'
     obtain⟨q1,q2,q3⟩:=h.un c c0 c6 hd'
     obtain⟨r1,r2,r3,_⟩:=dd.eY c c0 c6 hne
     rw [hwc c c0 hne] at r1 r2 r3
     show(W.AN.at c).BI=(X.AN.at c).BI - (EJ (s.2 ++ [x]++y :: q)).at c∧_
     rw [hA.1,hHc c c0 hne]
     exact⟨r1.trans q1,r2.trans q2,r3.trans q3⟩
    ·have hd':((Fj s.2).put f true).at c=true:=by rw [← hA.2];exact hd
     show(X.AN.at c).BI≤(EJ (s.2 ++ [x]++y :: q)).at c∧_
     rw [hA.1]
     by_cases hne:c=f
     ·subst hne
      rw [hHf]
      refine⟨by omega,dd.here,dd.B2,fun a a0 a6=>?_⟩
      by_cases ea:a=c
      ·rw [ea,dd.B2];omega
      ·exact(dd.eY a a0 a6 ea).2.2.2.2
     ·rw [Vector.Ee f0 f6 c0 hne] at hd'
      rw [hHc c c0 hne]
      obtain⟨q1,q2,q3,q4⟩:=h.di c c0 c6 hd'
      obtain⟨_,_,r3,r4,_⟩:=dd.eY c c0 c6 hne
      rw [hwc c c0 hne] at r3 r4
      refine⟨q1,r3.trans q2,?_,fun a a0 a6=>?_⟩
      ·rcases r4 with r4 | r4
       ·exact r4.trans q3
       ·exact r4
      ·by_cases ea:a=f
       ·rw [ea,dd.B2];omega
       ·have:=q4 a a0 a6
        have r:=(dd.eY a a0 a6 ea).2.2.2.1
        rw [hwc a a0 ea] at r
        rcases r with r | r
        ·rw [r];exact this
        ·rw [r];omega
   ·rename_i h3
    have h3':¬ ((B9 s.1 b f n).w.AN.at f).BI=0:=fun e=>h3 (decide_eq_true e)
    rw [hwf] at h3'
    have h3'':¬ max 0 ((s.1.AN.at f).BI - n)=0:=h3'
    rw [hso]
    refine⟨hev,fun c c0 c6 hd=>?_,fun c c0 c6 hd=>?_⟩
    ·have hd':(Fj s.2).at c=false:=by rw [← hD];exact hd
     show((B9 s.1 b f n).w.AN.at c).BI=(X.AN.at c).BI - (EJ (s.2 ++ [x])).at c∧_
     rw [hH]
     by_cases hne:c=f
     ·subst hne
      rw [hHf,hwf]
      refine⟨?_,hfe.2.1,hfe.2.2⟩
      show max 0 ((s.1.AN.at c).BI - n)=_
      have:=hfe.1
      omega
     ·rw [hHc c c0 hne,hwc c c0 hne]
      exact h.un c c0 c6 hd'
    ·have hd':(Fj s.2).at c=true:=by rw [← hD];exact hd
     have hne:c≠f:=fun e=>by rw [e,hnd] at hd';cases hd'
     show(X.AN.at c).BI≤(EJ (s.2 ++ [x])).at c∧_
     rw [hH,hHc c c0 hne]
     obtain⟨q1,q2,q3,q4⟩:=h.di c c0 c6 hd'
     refine⟨q1,by rw [hwc c c0 hne];exact q2,by rw [hwc c c0 hne];exact q3,fun a a0 a6=>by rw [hwa a a0];exact q4 a a0 a6⟩
theorem QG {X:AG}{draw:Int}(hg:X.Bh=true)(hw:X.DL):∀ k:Nat,k≤6→UD X (DZ X draw k)∧(DZ X draw k).1.Bh=true∧(DZ X draw k).1.DL∧(DZ X draw k).2.length≤13 * k
 | 0,_=>⟨.start X,hg,hw,Nat.le_refl _⟩
 | k+1,hk=>by
  obtain⟨h1,h2,h3,h4⟩:=QG hg hw k (by omega)
  obtain⟨g1,g2,g3⟩:=Fc (draw:=draw) (b:=(k:Int)) h2 h3 (by omega) (by omega)
  exact⟨h1.next h2 h3 (by omega) (by omega),g1,g2,by show(EN draw k (DZ X draw k)).2.length≤_;omega⟩
theorem Yh {X:AG}{draw:Int}(hw:X.DL)(h:(CW X draw).2.2=0):UD X ((CW X draw).1,(CW X draw).2.1)∧(CW X draw).1.Bh=true∧(CW X draw).2.1.length≤78:=by
 unfold CW at h ⊢
 split at h
 ·cases h
 ·rename_i h1
  rw [if_neg h1]
  obtain⟨q1,q2,_,q4⟩:=QG (draw:=draw) (by simpa using h1) hw 6 (Nat.le_refl _)
  generalize DZ X draw 6=S at *
  exact⟨q1,q2,Nat.le_trans q4 (by decide)⟩
end AE
end Go.Ing
/- The document's side of what beings do: plain functions and laws. -/
namespace Go.Ing
open Go
namespace AE
/-! #### names of players -/
def low (c:UInt8):Bool:=decide ((c.toNat:Int) < 97) || decide (122 < (c.toNat:Int))
def Hv (s:Ao)(k:Nat):Bool:=(s.drop k).all fun c=>!low c
theorem Vb {s:Ao}{k:Int}(h0:0≤k)(h1:k < s.length):Hv s k.toNat=(!low (s.getD k.toNat 0) && Hv s (k+1).toNat):=by
 have hk:k.toNat < s.length:=by omega
 unfold Hv
 rw [List.drop_eq_getElem_cons hk,show(k+1).toNat=k.toNat+1 by omega,List.getD_eq_getElem?_getD,List.getElem?_eq_getElem hk]
 rfl
theorem ZK (s:Ao):Hv s (s.length:Int).toNat=true:=by
 unfold Hv
 rw [show(s.length:Int).toNat=s.length by omega,List.drop_length];rfl
def Yd:Ao:= [115,111,109,101,111,110,101]
def fm:Ao:= [121,111,117]
def FR (s:Ao):Bool:=Hv s 0 && (decide (1≤(s.length:Int)) && decide ((s.length:Int)≤8) && !decide (s=Yd) && !decide (s=fm))
/-! #### who enters -/
def Ik (X:AG)(s:Ao)(k:Int):Bool:=(X.AN.at k).here && decide ((X.AN.at k).name=s)
def CK (X:AG):Nat→Int
 | 0=>-1
 | n+1=>if (!(X.AN.at ((5 - n:Nat):Int)).here && decide (2≤((5 - n:Nat):Int)))=true then((5 - n:Nat):Int) else CK X n
theorem OE {X:AG}{k:Int}(h0:0≤k)(h5:k≤5):CK X (5 - (k - 1)).toNat=if (!(X.AN.at k).here && decide (2≤k))=true then k else CK X (5 - k).toNat:=by
 have e:(5 - (k - 1)).toNat=(5 - k).toNat+1:=by omega
 rw [e,CK,show((5 - (5 - k).toNat:Nat):Int)=k by omega]
theorem Xv {X:AG}{k:Int}(h2:2≤k)(h5:k≤5)(h:(!(X.AN.at k).here)=false):CK X (5 - (k - 1)).toNat=CK X (5 - k).toNat:=by
 rw [OE (by omega) h5,h];rfl
theorem Wi {X:AG}{k:Int}(h2:2≤k)(h5:k≤5)(h:(!(X.AN.at k).here)=true):CK X (5 - (k - 1)).toNat=k:=by
 rw [OE (by omega) h5,h,decide_eq_true h2];rfl
theorem Vw (X:AG):CK X 6=CK X 4:=by
 have h1:CK X 6=CK X 5:=by
  rw [CK,if_neg (by simp)]
 have h2:CK X 5=CK X 4:=by
  rw [CK,if_neg (by simp)]
 rw [h1,h2]
theorem Mg (X:AG):∀ n:Nat,n≤6→CK X n=-1∨(2≤CK X n∧CK X n≤5)
 | 0,_=> .inl rfl
 | n+1,h=>by
  unfold CK
  split
  ·rename_i c
   rw [Bool.and_eq_true] at c
   have:=of_decide_eq_true c.2
   exact .inr ⟨this,by omega⟩
  ·exact Mg X n (by omega)
def IZ (s:Ao):Aj:={ (default:Aj) with name:=s,here:=true,BI:=10 }
def Hp (X:AG)(s:Ao)(b:Int):AE:=((⟨X.Cw b (IZ s),b,[]⟩:AE).kind 17).look
def BW (X:AG)(s:Ao):AG × Int × List Event × Int:=
 if (!X.Bh)=true then(X,0,[],2)
 else if (!FR s)=true then(X,0,[],1)
 else if (!B8 6 (fun k=>!Ik X s k) 6)=true then(X,0,[],1)
 else if decide (CK X 6 < 0)=true then(X,0,[],4)
 else((Hp X s (CK X 6)).w,CK X 6,(Hp X s (CK X 6)).out,0)
theorem P6 (X:AG)(s:Ao):(BW X s).2.2.1.length≤10:=by
 unfold BW
 split
 ·exact Nat.zero_le _
 ·split
  ·exact Nat.zero_le _
  ·split
   ·exact Nat.zero_le _
   ·split
    ·exact Nat.zero_le _
    ·exact(KF _).2.2
theorem Qb {X:AG}{s:Ao}{b:Int}(hg:X.Bh=true)(hw:X.DL)(hs:s.length≤140737488351232)(h0:0≤b)(h6:b < 6):Fit ⟨X.Cw b (IZ s),b,[]⟩:=
 ⟨⟨h0,h6⟩,Eo hw hs,Ju hg h0 h6 ⟨⟨Int.le_refl _,show(0:Int) < 6 by decide⟩,⟨show(0:Int)≤10 by decide,show(10:Int)≤10 by decide⟩,⟨Int.le_refl _,show(0:Int)≤6 by decide⟩,fun _=>rfl,rfl⟩ fun _=>rfl,by
  show((X.Cw b (IZ s)).AN.at b).here=true
  rw [AG.EK h0 h6];rfl⟩
end AE
end Go.Ing
/- A round, as the document says it: plain laws. -/
namespace Go.Ing
open Go
theorem Uw {α:Type}[Inhabited α]{n:Nat}{v u:Vector α n}(h:∀ i:Int,0≤i→i < n→v.at i=u.at i):v=u:=by
 apply Vector.ext
 intro i hi
 have:=h (i:Int) (by omega) (by omega)
 unfold Vector.at at this
 rw [List.getD_eq_getElem?_getD,List.getD_eq_getElem?_getD] at this
 simpa [hi] using this
namespace AE
def pre (o:List Event)(T:AE):AE:=⟨T.w,T.b,o++T.out⟩
theorem Q4 (T:AE){i:Int}(h0:0≤i)(h9:i < 9)(c:decide ((((T.w.AO.put i { T.w.AO.at i with CZ:=0 }).put i { (T.w.AO.put i { T.w.AO.at i with CZ:=0 }).at i with at_:=(T.w.AN.at T.b).room }).at i).kind=2)=true):({ T.w with AO:=((T.w.AO.put i { T.w.AO.at i with CZ:=0 }).put i { (T.w.AO.put i { T.w.AO.at i with CZ:=0 }).at i with at_:=(T.w.AN.at T.b).room }).put i { ((T.w.AO.put i { T.w.AO.at i with CZ:=0 }).put i { (T.w.AO.put i { T.w.AO.at i with CZ:=0 }).at i with at_:=(T.w.AN.at T.b).room }).at i with on:=false } }:AG)=(T.E3 i).w:=by
 rw [Vector.CE h0 h9,Vector.CE h0 h9] at c
 rw [Vector.CE h0 h9,Vector.Ep,Vector.CE h0 h9,Vector.Ep]
 unfold E3
 rw [if_pos (show decide ((T.w.AO.at i).kind=2)=true from c)];rfl
theorem U5 (T:AE){i:Int}(h0:0≤i)(h9:i < 9)(c:decide ((((T.w.AO.put i { T.w.AO.at i with CZ:=0 }).put i { (T.w.AO.put i { T.w.AO.at i with CZ:=0 }).at i with at_:=(T.w.AN.at T.b).room }).at i).kind=2)=false):({ T.w with AO:=(T.w.AO.put i { T.w.AO.at i with CZ:=0 }).put i { (T.w.AO.put i { T.w.AO.at i with CZ:=0 }).at i with at_:=(T.w.AN.at T.b).room } }:AG)=(T.E3 i).w:=by
 rw [Vector.CE h0 h9,Vector.CE h0 h9] at c
 rw [Vector.CE h0 h9,Vector.Ep]
 unfold E3
 rw [if_neg (show ¬ decide ((T.w.AO.at i).kind=2)=true from by rw [show decide ((T.w.AO.at i).kind=2)=false from c];decide)];rfl
theorem P9 {X:AG}(hw:X.DL)(draw:Int):(CW X draw).2.1.length≤78:=by
 by_cases h:(CW X draw).2.2=0
 ·exact(Yh hw h).2.2
 ·unfold CW at h ⊢
  split
  ·exact Nat.zero_le _
  ·rename_i h1
   rw [if_neg h1] at h
   exact absurd rfl h
end AE
end Go.Ing
/- What beings do, as the document says it: plain laws. -/
namespace Go.Ing
open Go
namespace AE
def skip (w:AG)(u:Ao)(i:Int):Bool:=!decide (u = []) && !decide (u=(w.AO.at i).name)
/-! #### what is taken -/
/-! #### what is set -/
/-! #### what is let go of -/
theorem Uk (T:AE)(o:Order):(T.Cu o).1.w=T.w∧(T.Cu o).1.b=T.b:=by
 unfold Cu
 split
 ·exact T.KC o.second
 ·split
  ·exact T.JA o.second
  ·exact⟨rfl,rfl⟩
theorem Qh (T:AE)(o:Order):0≤(T.Cu o).2.1∧(T.Cu o).2.1 < 9:=by
 unfold Cu
 split
 ·exact T.Zo o.second
 ·split
  ·have:=T.La o.second;omega
  ·exact⟨Int.le_refl 0,show(0:Int) < 9 by decide⟩
theorem Yu {T:AE}{o:Order}(hv:o.verb=8∨o.verb=9∨o.verb=10)(h:(T.Cu o).2.2=true):NJ (T.Cu o).1 o.verb (T.Cu o).2.1:=by
 unfold NJ
 rw [(T.Uk o).1]
 unfold Cu at h ⊢
 split at h
 ·rename_i h2
  rw [if_pos h2]
  obtain⟨a0,a9,hk,_⟩:=YE h
  have:=of_decide_eq_true h2
  exact .inr (.inr ⟨by omega,by omega,a0,a9,hk⟩)
 ·rename_i h2
  rw [if_neg h2]
  split at h
  ·rename_i h3
   rw [if_pos h3]
   obtain⟨a0,a6,_,hs⟩:=J5 h
   exact .inr (.inl ⟨of_decide_eq_true h3,a0,a6,(AG.HP (AG.K5 hs).2.1).2.2⟩)
  ·rename_i h3
   rw [if_neg h3]
   refine .inl ?_
   rcases hv with e | e | e
   ·exact e
   ·exact absurd (decide_eq_true e) h2
   ·exact absurd (decide_eq_true e) h3
def Kt (T:AE)(o:Order):List Int:=BQ T.w T.own o.nth o.name o.Bm
def RM (T:AE)(o:Order):AE:=if decide (((T.Kt o).length:Int)=0)=true then T.tell Mi else T
theorem bW {T:AE}{o:Order}(h:decide (((T.Kt o).length:Int)=0)=true):T.RM o=T.tell Mi:=if_pos h
theorem cD {T:AE}{o:Order}(h:decide (((T.Kt o).length:Int)=0)=false):T.RM o=T:=if_neg (by rw [h];decide)
theorem bB (T:AE)(o:Order):(T.RM o).w=T.w∧(T.RM o).b=T.b∧(T.RM o).out.length≤T.out.length+1:=by
 unfold RM
 split
 ·exact⟨rfl,rfl,by rw [CG];exact Nat.le_refl _⟩
 ·exact⟨rfl,rfl,Nat.le_succ _⟩
def Q7 (T:AE)(to:Int)(o:Order)(k:Nat):AE:=(T.RM o).Es o.verb to ((T.Kt o).take k)
theorem My {v to:Int}:∀(l:List Int) (T:AE) (i:Int),T.Es v to (l ++ [i])=(T.Es v to l).Cs v to i
 | [],_,_=>rfl
 | _ :: r,_,i=>My r _ i
theorem ZP {l:List Int}{k:Int}(h0:0≤k)(h1:k < l.length):l.take (k+1).toNat=l.take k.toNat ++ [l.getD k.toNat 0]:=by
 obtain⟨m,rfl⟩:=Int.eq_ofNat_of_zero_le h0
 have hm:m < l.length:=by omega
 show l.take (m+1)=l.take m ++ [l.getD m 0]
 rw [List.take_add_one,List.getElem?_eq_getElem hm,List.getD_eq_getElem?_getD,List.getElem?_eq_getElem hm]
 rfl
theorem I1 {T:AE}{to:Int}{o:Order}{k:Int}(h0:0≤k)(h1:k < (T.Kt o).length):T.Q7 to o (k+1).toNat=(T.Q7 to o k.toNat).Cs o.verb to ((T.Kt o).getD k.toNat 0):=by
 unfold Q7
 rw [ZP h0 h1,My]
theorem Xd {T:AE}{to:Int}{o:Order}:T.Q7 to o ((T.Kt o).length:Int).toNat=T.Sa to o:=by
 unfold Q7
 rw [show((T.Kt o).length:Int).toNat=(T.Kt o).length by omega,List.take_length]
 rfl
theorem Sv {T:AE}{o:Order}:(∀ i∈T.Kt o,Iy T.w T.b i)∧(T.Kt o).Nodup∧(T.Kt o).length≤9:=
 ⟨fun _ hi=>(FO (Dt hi)).Qq,List.Nodup.sublist (Ea ..) (AG.QW ..),Nat.le_trans (Ea ..).length_le (AE.KR T)⟩
theorem OJ (v to:Int):∀(l:List Int) (T:AE),(T.Es v to l).out.length≤T.out.length+l.length∧(T.Es v to l).b=T.b
 | [],_=>⟨Nat.le_refl _,rfl⟩
 | i :: r,T=>by
  obtain⟨h1,h2⟩:=OJ v to r (T.Cs v to i)
  have h3:=T.PW v to i
  rw [Es,List.length_cons]
  exact⟨by omega,h2.trans (T.X1 v to i)⟩
theorem ZC (T:AE)(to:Int)(o:Order)(k:Nat):(T.Q7 to o k).out.length≤T.out.length+10∧(T.Q7 to o k).b=T.b:=by
 have hs:=T.bB o
 obtain⟨h1,h2⟩:=OJ o.verb to ((T.Kt o).take k) (T.RM o)
 have h3:=(Sv (T:=T) (o:=o)).2.2
 have h4:((T.Kt o).take k).length≤(T.Kt o).length:=(List.take_sublist ..).length_le
 unfold Q7
 exact⟨by omega,h2.trans hs.2.1⟩
theorem NJ.gS {T:AE}{v to:Int}(h:NJ T v to)(hv:v=10):to < 6:=by
 rcases h with h | ⟨_,_,h,_⟩ | ⟨_,h,_⟩<;>omega
theorem Wp {T X:AE}{o:Order}{p:Bool}(hX:X=(T.Cu o).1)(hp:p=(T.Cu o).2.2)(h:(!p)=true):T.FH o=X:=by
 rw [hp] at h
 rw [hX]
 exact if_pos h
theorem TE {T X:AE}{o:Order}{to:Int}{p:Bool}(hX:X=(T.Cu o).1)(ht:to=(T.Cu o).2.1)(hp:p=(T.Cu o).2.2)(h:(!p)=false):T.FH o=X.Sa to o∧0≤to∧to < 9∧(o.verb=8∨o.verb=9∨o.verb=10→NJ X o.verb to):=by
 rw [hp] at h
 have h2:(T.Cu o).2.2=true:=by simpa using h
 rw [hX,ht]
 exact⟨if_neg (by rw [h];decide),(T.Qh o).1,(T.Qh o).2,fun hv=>Yu hv h2⟩
/-! #### what a being does -/
theorem GI {T:AE}{o:Order}(h:o.verb < 6):T.act o=T.walk o.verb:=by
 unfold act;rw [if_pos (decide_eq_true h)]
theorem NZ (X:AG)(b:Int)(o:Order):(EF X b o).2.1.length≤11:=by
 unfold EF
 split
 ·exact Nat.zero_le _
 ·split
  ·exact Nat.zero_le _
  ·split
   ·exact Nat.zero_le _
   ·have:=Ui (⟨X,b,[]⟩:AE) o
    exact Nat.le_trans this (Nat.le_refl 11)
end AE
end Go.Ing
/- Engine: the same rules, said shorter. -/
namespace Go.Ing
open Go
section
variable {F:List (Nat × Value)} {v0 v1 v2 v3 v4 v5 v6 v7 v8 v9 v10 v11:Value}
theorem Sub.t1 (k0:Nat)(h0:lk k0 F=some v0:=by rfl):Sub F [(k0,v0)]:= .cons h0 (.nil _)
theorem Sub.t2 (k0 k1:Nat)(h0:lk k0 F=some v0:=by rfl)(h1:lk k1 F=some v1:=by rfl):Sub F [(k0,v0),(k1,v1)]:= .cons h0 (.cons h1 (.nil _))
theorem Sub.t3 (k0 k1 k2:Nat)(h0:lk k0 F=some v0:=by rfl)(h1:lk k1 F=some v1:=by rfl)(h2:lk k2 F=some v2:=by rfl):Sub F [(k0,v0),(k1,v1),(k2,v2)]:= .cons h0 (.cons h1 (.cons h2 (.nil _)))
theorem Sub.t4 (k0 k1 k2 k3:Nat)(h0:lk k0 F=some v0:=by rfl)(h1:lk k1 F=some v1:=by rfl)(h2:lk k2 F=some v2:=by rfl)(h3:lk k3 F=some v3:=by rfl):Sub F [(k0,v0),(k1,v1),(k2,v2),(k3,v3)]:= .cons h0 (.cons h1 (.cons h2 (.cons h3 (.nil _))))
theorem Sub.t5 (k0 k1 k2 k3 k4:Nat)(h0:lk k0 F=some v0:=by rfl)(h1:lk k1 F=some v1:=by rfl)(h2:lk k2 F=some v2:=by rfl)(h3:lk k3 F=some v3:=by rfl)(h4:lk k4 F=some v4:=by rfl):Sub F [(k0,v0),(k1,v1),(k2,v2),(k3,v3),(k4,v4)]:= .cons h0 (.cons h1 (.cons h2 (.cons h3 (.cons h4 (.nil _)))))
theorem Sub.t6 (k0 k1 k2 k3 k4 k5:Nat)(h0:lk k0 F=some v0:=by rfl)(h1:lk k1 F=some v1:=by rfl)(h2:lk k2 F=some v2:=by rfl)(h3:lk k3 F=some v3:=by rfl)(h4:lk k4 F=some v4:=by rfl)(h5:lk k5 F=some v5:=by rfl):Sub F [(k0,v0),(k1,v1),(k2,v2),(k3,v3),(k4,v4),(k5,v5)]:= .cons h0 (.cons h1 (.cons h2 (.cons h3 (.cons h4 (.cons h5 (.nil _))))))
theorem Sub.t7 (k0 k1 k2 k3 k4 k5 k6:Nat)(h0:lk k0 F=some v0:=by rfl)(h1:lk k1 F=some v1:=by rfl)(h2:lk k2 F=some v2:=by rfl)(h3:lk k3 F=some v3:=by rfl)(h4:lk k4 F=some v4:=by rfl)(h5:lk k5 F=some v5:=by rfl)(h6:lk k6 F=some v6:=by rfl):Sub F [(k0,v0),(k1,v1),(k2,v2),(k3,v3),(k4,v4),(k5,v5),(k6,v6)]:= .cons h0 (.cons h1 (.cons h2 (.cons h3 (.cons h4 (.cons h5 (.cons h6 (.nil _)))))))
theorem Sub.t8 (k0 k1 k2 k3 k4 k5 k6 k7:Nat)(h0:lk k0 F=some v0:=by rfl)(h1:lk k1 F=some v1:=by rfl)(h2:lk k2 F=some v2:=by rfl)(h3:lk k3 F=some v3:=by rfl)(h4:lk k4 F=some v4:=by rfl)(h5:lk k5 F=some v5:=by rfl)(h6:lk k6 F=some v6:=by rfl)(h7:lk k7 F=some v7:=by rfl):Sub F [(k0,v0),(k1,v1),(k2,v2),(k3,v3),(k4,v4),(k5,v5),(k6,v6),(k7,v7)]:= .cons h0 (.cons h1 (.cons h2 (.cons h3 (.cons h4 (.cons h5 (.cons h6 (.cons h7 (.nil _))))))))
theorem Sub.t9 (k0 k1 k2 k3 k4 k5 k6 k7 k8:Nat)(h0:lk k0 F=some v0:=by rfl)(h1:lk k1 F=some v1:=by rfl)(h2:lk k2 F=some v2:=by rfl)(h3:lk k3 F=some v3:=by rfl)(h4:lk k4 F=some v4:=by rfl)(h5:lk k5 F=some v5:=by rfl)(h6:lk k6 F=some v6:=by rfl)(h7:lk k7 F=some v7:=by rfl)(h8:lk k8 F=some v8:=by rfl):Sub F [(k0,v0),(k1,v1),(k2,v2),(k3,v3),(k4,v4),(k5,v5),(k6,v6),(k7,v7),(k8,v8)]:= .cons h0 (.cons h1 (.cons h2 (.cons h3 (.cons h4 (.cons h5 (.cons h6 (.cons h7 (.cons h8 (.nil _)))))))))
theorem Sub.t10 (k0 k1 k2 k3 k4 k5 k6 k7 k8 k9:Nat)(h0:lk k0 F=some v0:=by rfl)(h1:lk k1 F=some v1:=by rfl)(h2:lk k2 F=some v2:=by rfl)(h3:lk k3 F=some v3:=by rfl)(h4:lk k4 F=some v4:=by rfl)(h5:lk k5 F=some v5:=by rfl)(h6:lk k6 F=some v6:=by rfl)(h7:lk k7 F=some v7:=by rfl)(h8:lk k8 F=some v8:=by rfl)(h9:lk k9 F=some v9:=by rfl):Sub F [(k0,v0),(k1,v1),(k2,v2),(k3,v3),(k4,v4),(k5,v5),(k6,v6),(k7,v7),(k8,v8),(k9,v9)]:= .cons h0 (.cons h1 (.cons h2 (.cons h3 (.cons h4 (.cons h5 (.cons h6 (.cons h7 (.cons h8 (.cons h9 (.nil _))))))))))
theorem Sub.t11 (k0 k1 k2 k3 k4 k5 k6 k7 k8 k9 k10:Nat)(h0:lk k0 F=some v0:=by rfl)(h1:lk k1 F=some v1:=by rfl)(h2:lk k2 F=some v2:=by rfl)(h3:lk k3 F=some v3:=by rfl)(h4:lk k4 F=some v4:=by rfl)(h5:lk k5 F=some v5:=by rfl)(h6:lk k6 F=some v6:=by rfl)(h7:lk k7 F=some v7:=by rfl)(h8:lk k8 F=some v8:=by rfl)(h9:lk k9 F=some v9:=by rfl)(h10:lk k10 F=some v10:=by rfl):Sub F [(k0,v0),(k1,v1),(k2,v2),(k3,v3),(k4,v4),(k5,v5),(k6,v6),(k7,v7),(k8,v8),(k9,v9),(k10,v10)]:= .cons h0 (.cons h1 (.cons h2 (.cons h3 (.cons h4 (.cons h5 (.cons h6 (.cons h7 (.cons h8 (.cons h9 (.cons h10 (.nil _)))))))))))
theorem Sub.t12 (k0 k1 k2 k3 k4 k5 k6 k7 k8 k9 k10 k11:Nat)(h0:lk k0 F=some v0:=by rfl)(h1:lk k1 F=some v1:=by rfl)(h2:lk k2 F=some v2:=by rfl)(h3:lk k3 F=some v3:=by rfl)(h4:lk k4 F=some v4:=by rfl)(h5:lk k5 F=some v5:=by rfl)(h6:lk k6 F=some v6:=by rfl)(h7:lk k7 F=some v7:=by rfl)(h8:lk k8 F=some v8:=by rfl)(h9:lk k9 F=some v9:=by rfl)(h10:lk k10 F=some v10:=by rfl)(h11:lk k11 F=some v11:=by rfl):Sub F [(k0,v0),(k1,v1),(k2,v2),(k3,v3),(k4,v4),(k5,v5),(k6,v6),(k7,v7),(k8,v8),(k9,v9),(k10,v10),(k11,v11)]:= .cons h0 (.cons h1 (.cons h2 (.cons h3 (.cons h4 (.cons h5 (.cons h6 (.cons h7 (.cons h8 (.cons h9 (.cons h10 (.cons h11 (.nil _))))))))))))
end
section
variable {P:Program} {n:Nat} {w0:World} {M:List Nat} {Q:Exit→Go.Act→World→Prop} {F F':List (Nat × Value)} {L L' A K:List Ac} {ops:Array Oper} {rest l:List Oper} {d id:Nat} {op:Op} {T:TypeId} {pos:String} {Cq:Array Edge} {v v':Value} {x y:Code}
theorem Gs (h:GL P n w0 M l.toArray (Exit.then (y.wp P Q) Q) l F L):G P n w0 M (.seq (.region id l.toArray false) y) Q F L:=Ap (AJ h)
theorem CD {z:Code}(h:GL P n w0 M l.toArray (Exit.then (y.wp P (Exit.then (z.wp P Q) Q)) (Exit.then (z.wp P Q) Q)) l F L):G P n w0 M (.seq (.seq (.region id l.toArray false) y) z) Q F L:=Ap (Ap (AJ h))
theorem Gn (hs:Sub F F')(h:G P n w0 M y Q F' L):GL P n w0 M ops (Exit.then (y.wp P Q) Q) [] F L:=AQ (AB hs (AA h))
theorem Gt (h:PS P n w0 M op T F L v L')(k:GL P n w0 M ops Q rest ((d,v) :: F) L')(hd:Nat.blt d n=true:=by rfl):GL P n w0 M ops Q (⟨some d,op,T,pos,Cq,none⟩ :: rest) F L:=KN hd h k
theorem Gm {x:Operand}(h:ev F x=some v)(k:GL P n w0 M ops Q rest ((d,v) :: F) L)(hd:Nat.blt d n=true:=by rfl):GL P n w0 M ops Q (⟨some d, .move x,T,pos,Cq,none⟩ :: rest) F L:=KN hd (AF h) k
theorem Ga {x:Operand}(h:ev F x=some v)(k:GL P n w0 M ops Q rest ((d,v) :: F) L)(hd:Nat.blt d n=true:=by rfl):GL P n w0 M ops Q (⟨some d, .assign x,T,pos,Cq,none⟩ :: rest) F L:=KN hd (A0 h) k
theorem Bo {j:Nat}{z:Bool}(t:Nat)(hj:(ops[j]?).bind (·.dst)=some t)(hb:lk t F=some (.bool z))(h:z=true→PS P n w0 M op T F L v L)(k:GL P n w0 M ops Q rest ((d,cv z v) :: F) L)(hd:Nat.blt d n=true:=by rfl):GL P n w0 M ops Q (⟨some d,op,T,pos,Cq,some (j,true)⟩ :: rest) F L:=aQ hj hb hd h k
theorem Bc {j:Nat}{z:Bool}(t:Nat)(hj:(ops[j]?).bind (·.dst)=some t)(hb:lk t F=some (.bool z))(h:z=false→PS P n w0 M op T F L v L)(k:GL P n w0 M ops Q rest ((d,cv (!z) v) :: F) L)(hd:Nat.blt d n=true:=by rfl):GL P n w0 M ops Q (⟨some d,op,T,pos,Cq,some (j,false)⟩ :: rest) F L:=aZ hj hb hd h k
theorem Gc {c:Operand}{b:Bool}(ht:b=true→G P n w0 M x Q F L)(hf:b=false→G P n w0 M y Q F L)(hc:ev F c=some (.bool b):=by rfl):G P n w0 M (.cond c x y) Q F L:=N2 hc ht hf
end
section
variable {P:Program} {n:Nat} {w0:World} {M:List Nat} {Q:Exit→Go.Act→World→Prop} {l:List Oper} {Rs:List Nat} {F:List (Nat × Value)}
variable {k i j d:Nat} {V A:List Nat} {D:List (Nat × (Nat × Value))} {L:List Ac} {op:Op} {T:TypeId} {pos:String} {Cq:Array Edge} {v v':Value}
theorem Pf (i:Nat)(ho:l[i]?=some ⟨some d,op,T,pos,Cq,none⟩)(h:PS P n w0 M op T (E4 D Cq.toList++F) L v L)(k':I8 P n w0 M Q l Rs F k (i :: V) (i :: A) ((i,(d,v)) :: D) L)(hc:YC l V i Cq.toList=true:=by kernel_rfl)(hlk:TO F d v:=by first | exact .inl rfl | exact .inr rfl):I8 P n w0 M Q l Rs F (k+1) V A D L:=
 Bb i ho rfl hc (L9 (Is h)) k' hlk
theorem Ht {j:Nat}{y:Bool}(i t:Nat)(ho:l[i]?=some ⟨some d,op,T,pos,Cq,some (j,false)⟩)(hj:(l.toArray[j]?).bind (·.dst)=some t)(hb:lk t (E4 D Cq.toList++F)=some (.bool y))(h:y=false→PS P n w0 M op T (E4 D Cq.toList++F) L v L)(k':I8 P n w0 M Q l Rs F k (i :: V) (i :: A) ((i,(d,cv (!y) v)) :: D) L)(hc:YC l V i Cq.toList=true:=by kernel_rfl)(hlk:TO F d (cv (!y) v):=by first | exact .inl rfl | exact .inr rfl):I8 P n w0 M Q l Rs F (k+1) V A D L:=
 Bb i ho rfl hc (HE (t:=t) hj hb (fun q=>Is (h q))) k' hlk
theorem Mr {j:Nat}{y:Bool}(i t:Nat)(ho:l[i]?=some ⟨some d,op,T,pos,Cq,some (j,true)⟩)(hj:(l.toArray[j]?).bind (·.dst)=some t)(hb:lk t (E4 D Cq.toList++F)=some (.bool y))(h:y=true→PS P n w0 M op T (E4 D Cq.toList++F) L v L)(k':I8 P n w0 M Q l Rs F k (i :: V) (i :: A) ((i,(d,cv y v)) :: D) L)(hc:YC l V i Cq.toList=true:=by kernel_rfl)(hlk:TO F d (cv y v):=by first | exact .inl rfl | exact .inr rfl):I8 P n w0 M Q l Rs F (k+1) V A D L:=
 Bb i ho rfl hc (Sk (t:=t) hj hb (fun q=>Is (h q))) k' hlk
theorem Pk (h:Jb P n w0 M Q l Rs F i D L A)(hr:reaches Rs i j=true:=by kernel_rfl):Jb P n w0 M Q l Rs F i D L (j :: A):=VU hr h
theorem Po (ho:l[j]?=some ⟨some d,op,T,pos,Cq,none⟩)(h:PS P n w0 M op T (E4 D Cq.toList++F) L v' L)(hl:NV j D=some (d,v))(e:v'=v)(k':Jb P n w0 M Q l Rs F i D L A):Jb P n w0 M Q l Rs F i D L (j :: A):=W5 ho (L9 (Is h)) hl e k'
end
section
variable {P:Program} {n:Nat} {w0:World} {M:List Nat} {F:List (Nat × Value)} {L:List Ac}
theorem cF {x:Operand}{c:Bool}{v:Value}(h:ev F x=some (cv (!c) v))(q:c=false):ev F x=some v:=Bj h (by rw [q];rfl)
theorem Ai {T U f off b o:Nat}{x:Operand}(hf:FA P T f off)(hx:ev F x=some (.pointer (some ⟨b,o,none⟩))):PS P n w0 M (.fieldAddr T x f) U F L (.pointer (some ⟨b,o+off,none⟩)) L:=RE hf hx
theorem BV {T:TypeId}{x:Operand}{p:Addr}(hx:ev F x=some (.pointer (some p))):PS P n w0 M (.nilCheck x) T F L (.pointer (some p)) L:=R2 hx
end
theorem AU.ar {α:Type}{n:Nat}[Inhabited α]{e:α→List Value}{sz:Nat}(fe:Flat e sz){i:Int}(h:0≤i∧i < (n:Int)):AU (B3 (n:=n) e) e (i.toNat * sz) sz (fun v=>v.at i) (fun v y=>v.put i y):=AU.arr fe h.1 h.2
class Nz (a:Prop) (b:outParam Prop):Prop where
 h:a→b
theorem kz {a b:Prop}[i:Nz a b](h:a):b:=i.h h
section
variable {p:Prop} [Decidable p] {a b:Bool} {x y:Prop} {m n:Int}
instance (priority:=low):Nz p p:=⟨id⟩
instance:Nz (decide p=true) p:=⟨of_decide_eq_true⟩
instance (priority:=low):Nz (decide p=false) (¬ p):=⟨of_decide_eq_false⟩
instance:Nz (decide (m < n)=false) (n≤m):=⟨fun h=>Int.not_lt.1 (of_decide_eq_false h)⟩
instance:Nz (decide (m≤n)=false) (n < m):=⟨fun h=>Int.not_le.1 (of_decide_eq_false h)⟩
instance [i:Nz (a=false) x]:Nz ((!a)=true) x:=⟨fun h=>i.h (by simpa using h)⟩
instance [i:Nz (a=true) x]:Nz ((!a)=false) x:=⟨fun h=>i.h (by simpa using h)⟩
instance [i:Nz (a=true) x][j:Nz (b=true) y]:Nz ((a && b)=true) (x∧y):=⟨fun h=>⟨i.h (gH ▸ h).1,j.h (gH ▸ h).2⟩⟩
instance [i:Nz (a=false) x][j:Nz (b=false) y]:Nz ((a || b)=false) (x∧y):=⟨fun h=>⟨i.h (gK ▸ h).1,j.h (gK ▸ h).2⟩⟩
instance [i:Nz (a=true) x][j:Nz (b=true) y]:Nz ((a || b)=true) (x∨y):=⟨fun h=>(gL ▸ h:a=true∨b=true).imp i.h j.h⟩
instance [i:Nz (a=false) x][j:Nz (b=false) y]:Nz ((a && b)=false) (x∨y):=⟨fun h=>(gT ▸ h:a=false∨b=false).imp i.h j.h⟩
end
section
variable {F:List (Nat × Value)} {P:Program} {L L' K rs:List Ac} {r r' s:Ac} {x:Operand} {v:Value} {xs:List Operand} {vs:List Value}
theorem LN.h:LN (r :: L) r r' (r' :: L):= .head
theorem LN.t (h:LN L r r' L'):LN (s :: L) r r' (s :: L'):= .tail h
theorem MF.h:MF (r :: L) r L:= .head
theorem MF.t (h:MF L r L'):MF (s :: L) r (s :: L'):= .tail h
theorem Ay.n:Ay L [] L:= .nil
theorem Ay.c (h:MF L r L')(hs:Ay L' rs K):Ay L (r :: rs) K:= .cons h hs
theorem Nf.n:Nf F [] []:= .nil
theorem Nf.c (h:ev F x=some v)(hs:Nf F xs vs):Nf F (x :: xs) (v :: vs):= .cons h hs
theorem Rs.n:Rs P F L [] []:= .nil
end
section
variable {α:Type} {a b c d e f g h i j:α} {l:List α}
theorem _root_.List.Mem.m0:List.Mem a (a :: l):= .head _
theorem _root_.List.Mem.m1:List.Mem a (b :: a :: l):= .tail _ .m0
theorem _root_.List.Mem.m2:List.Mem a (b :: c :: a :: l):= .tail _ .m1
theorem _root_.List.Mem.m3:List.Mem a (b :: c :: d :: a :: l):= .tail _ .m2
theorem _root_.List.Mem.m4:List.Mem a (b :: c :: d :: e :: a :: l):= .tail _ .m3
theorem _root_.List.Mem.m5:List.Mem a (b :: c :: d :: e :: f :: a :: l):= .tail _ .m4
theorem _root_.List.Mem.m6:List.Mem a (b :: c :: d :: e :: f :: g :: a :: l):= .tail _ .m5
theorem _root_.List.Mem.m7:List.Mem a (b :: c :: d :: e :: f :: g :: h :: a :: l):= .tail _ .m6
end
end Go.Ing
/- A house's data, in Lean, and their parts. -/
namespace Go.Ing
open Go
structure A2 where
 state:Int
 Au:Int
 Ds:AP
 Eg:BN
 out:Az
 told:Hd
instance:Inhabited A2:=⟨⟨0,0,default,⟨[],false,false,⟨none,0,0⟩⟩,⟨⟨none,0,0⟩,0,false,[],false⟩,⟨none,0,0⟩⟩⟩
def A2.enc (x:A2):List Value:=Aw x.state++Aw x.Au++AP.enc x.Ds++BN.enc x.Eg++Az.enc x.out++Ek x.told
theorem A2.fl:Flat A2.enc 22:=⟨fun x=>by simp [A2.enc,BN.fl.len,Az.fl.len,AP.fl.len,Ph.len,B1.len],fun x v hv=>by
 simp only [A2.enc,List.mem_append] at hv
 rcases hv with ((((h | h) | h) | h) | h) | h
 ·exact B1.one _ v h
 ·exact B1.one _ v h
 ·exact AP.fl.one _ v h
 ·exact BN.fl.one _ v h
 ·exact Az.fl.one _ v h
 ·exact Ph.one _ v h⟩
theorem A2.l0:AU A2.enc (Aw) 0 1 (fun x=>x.state) (fun x y=>{ x with state:=y }):=
 AU.El B1 (fun _=> []) (fun x=>Aw x.Au++AP.enc x.Ds++BN.enc x.Eg++Az.enc x.out++Ek x.told) (fun _=>rfl) (fun x=>by simp [A2.enc]) (fun x y=>by simp [A2.enc])
theorem A2.l1:AU A2.enc (Aw) 1 1 (fun x=>x.Au) (fun x y=>{ x with Au:=y }):=
 AU.El B1 (fun x=>Aw x.state) (fun x=>AP.enc x.Ds++BN.enc x.Eg++Az.enc x.out++Ek x.told) (fun x=>by simp [B1.len]) (fun x=>by simp [A2.enc]) (fun x y=>by simp [A2.enc])
theorem A2.l2:AU A2.enc (AP.enc) 2 10 (fun x=>x.Ds) (fun x y=>{ x with Ds:=y }):=
 AU.El AP.fl (fun x=>Aw x.state++Aw x.Au) (fun x=>BN.enc x.Eg++Az.enc x.out++Ek x.told) (fun x=>by simp [B1.len]) (fun x=>by simp [A2.enc]) (fun x y=>by simp [A2.enc])
theorem A2.l3:AU A2.enc (BN.enc) 12 4 (fun x=>x.Eg) (fun x y=>{ x with Eg:=y }):=
 AU.El BN.fl (fun x=>Aw x.state++Aw x.Au++AP.enc x.Ds) (fun x=>Az.enc x.out++Ek x.told) (fun x=>by simp [AP.fl.len,B1.len]) (fun x=>by simp [A2.enc]) (fun x y=>by simp [A2.enc])
theorem A2.l4:AU A2.enc (Az.enc) 16 5 (fun x=>x.out) (fun x y=>{ x with out:=y }):=
 AU.El Az.fl (fun x=>Aw x.state++Aw x.Au++AP.enc x.Ds++BN.enc x.Eg) (fun x=>Ek x.told) (fun x=>by simp [BN.fl.len,AP.fl.len,B1.len]) (fun x=>by simp [A2.enc]) (fun x y=>by simp [A2.enc])
theorem A2.l5:AU A2.enc (Ek) 21 1 (fun x=>x.told) (fun x y=>{ x with told:=y }):=
 AU.El Ph (fun x=>Aw x.state++Aw x.Au++AP.enc x.Ds++BN.enc x.Eg++Az.enc x.out) (fun _=> []) (fun x=>by simp [BN.fl.len,Az.fl.len,AP.fl.len,B1.len]) (fun x=>by simp [A2.enc]) (fun x y=>by simp [A2.enc])
structure AL where
 w:AG
 Ax:Su A2 4
 B7:Int
 last:Hd
def AL.enc (x:AL):List Value:=AG.enc x.w++B3 A2.enc x.Ax++Aw x.B7++Ek x.last
theorem AL.fl:Flat AL.enc 255:=⟨fun x=>by simp [AL.enc,(Iz A2.fl).len,AG.fl.len,Ph.len,B1.len],fun x v hv=>by
 simp only [AL.enc,List.mem_append] at hv
 rcases hv with ((h | h) | h) | h
 ·exact AG.fl.one _ v h
 ·exact(Iz A2.fl).one _ v h
 ·exact B1.one _ v h
 ·exact Ph.one _ v h⟩
theorem AL.l0:AU AL.enc (AG.enc) 0 165 (fun x=>x.w) (fun x y=>{ x with w:=y }):=
 AU.El AG.fl (fun _=> []) (fun x=>B3 A2.enc x.Ax++Aw x.B7++Ek x.last) (fun _=>rfl) (fun x=>by simp [AL.enc]) (fun x y=>by simp [AL.enc])
theorem AL.l1:AU AL.enc (B3 A2.enc) 165 88 (fun x=>x.Ax) (fun x y=>{ x with Ax:=y }):=
 AU.El (Iz A2.fl) (fun x=>AG.enc x.w) (fun x=>Aw x.B7++Ek x.last) (fun x=>by simp [AG.fl.len]) (fun x=>by simp [AL.enc]) (fun x y=>by simp [AL.enc])
theorem AL.l2:AU AL.enc (Aw) 253 1 (fun x=>x.B7) (fun x y=>{ x with B7:=y }):=
 AU.El B1 (fun x=>AG.enc x.w++B3 A2.enc x.Ax) (fun x=>Ek x.last) (fun x=>by simp [(Iz A2.fl).len,AG.fl.len]) (fun x=>by simp [AL.enc]) (fun x y=>by simp [AL.enc])
theorem AL.l3:AU AL.enc (Ek) 254 1 (fun x=>x.last) (fun x y=>{ x with last:=y }):=
 AU.El Ph (fun x=>AG.enc x.w++B3 A2.enc x.Ax++Aw x.B7) (fun _=> []) (fun x=>by simp [(Iz A2.fl).len,AG.fl.len,B1.len]) (fun x=>by simp [AL.enc]) (fun x y=>by simp [AL.enc])
end Go.Ing
/- What a house does: plain functions. -/
namespace Go.Ing
open Go
structure Aq where
 state:Int
 Au:Int
 Ds:AP
 now:Ao
 Cy:Bool
 ret:Bool
 queue:List Ao
 pg:Page.Pg
 wait:List Ao
 told:List Ao
instance:Inhabited Aq:=⟨⟨0,0,default,[],false,false,[],⟨0,false,[],false⟩,[],[]⟩⟩
structure AI where
 w:AG
 Ax:Vector Aq 4
 B7:Int
 last:List Event
namespace Aq
def Lq (s:Aq):Bool:=decide ((s.wait.length:Int)≤60) && decide ((s.pg.ring.length:Int)≤700) && decide (0≤s.pg.shown) && decide (s.pg.shown≤200)
def line (s:Aq)(u:Ao):Aq:=
 if (!s.Lq)=true then s else if s.pg.cut=true then s
 else if decide (60≤(s.wait.length:Int))=true then { s with pg:={ s.pg with cut:=true } } else { s with wait:=s.wait ++ [u] }
def note (s:Aq)(u:Ao):Aq:=if (!s.pg.cut)=true then { s with told:=s.told ++ [u] } else s
def tell (s:Aq)(u:Ao):Aq:=(s.line u).note u
def send (s:Aq)(u:Ao):Aq:=if (!s.Lq)=true then s else if s.pg.cut=true then s else { s with pg:=Page.put s.pg u }
def BX (s:Aq):Aq:=
 if (!s.Lq || decide (s.Ds.B0 < 0) || decide (200 < s.Ds.B0))=true then s
 else { s with pg:=(Page.BX s.Ds.B0 s.wait s.pg).1,wait:=(Page.BX s.Ds.B0 s.wait s.pg).2 }
def Fb (s:Aq):Aq:={ s with pg:={ s.pg with shown:=0,CC:=false } }
def eG (s:Aq)(n:Int):Nat:=(max 0 (min n (s.pg.ring.length:Int))).toNat
def G3 (s:Aq)(n:Int):Aq:={ s with pg:={ s.pg with ring:=s.pg.ring.drop (s.eG n) } }
def out (s:Aq)(n:Int):Ao:=s.pg.ring.take (s.eG n)
def Kw (s:Aq):Bool:=
 !(decide (60 < (s.now.length:Int)) || decide (6 < (s.queue.length:Int)) || (s.Cy && decide (60 < (s.now.length:Int))) || (s.ret && (!decide (s.now = []) || s.Cy))) && (s.queue ++ [s.now]).all Bg.F8
def typed (s:Aq)(u:Ao):Aq × Int:=
 if (!s.Kw)=true then(s,0)
 else
  let x:=Bg.feed ⟨s.now,s.Cy,s.ret,s.queue,0⟩ u
  ({ s with now:=x.now,Cy:=x.Cy,ret:=x.ret,queue:=x.queue },x.lost)
def bytes (s:Aq)(u:Ao):Aq × Ao:=({ s with Ds:=(s.Ds.Di u).1 }.send (s.Ds.Di u).2.2.1,(s.Ds.Di u).2.1)
def offer (s:Aq)(opt:Int):Aq:=
 if decide ((s.Ds.DQ opt).2.1 = [])=true then { s with Ds:=((s.Ds.DQ opt).1.Ask opt).1 }.send ([]++((s.Ds.DQ opt).1.Ask opt).2.1)
 else { s with Ds:=(s.Ds.DQ opt).1 }.send ((s.Ds.DQ opt).2.1 ++ [])
end Aq
namespace AI
def at_ (H:AI)(k:Int):Aq:=H.Ax.at k
def set (H:AI)(k:Int)(s:Aq):AI:={ H with Ax:=H.Ax.put k s }
def tell (H:AI)(k:Int)(u:Ao):AI:=H.set k ((H.at_ k).tell u)
def CH (e:Event)(H:AI):Nat→AI
 | 0=>H
 | k+1=>if (!decide (((CH e H k).at_ k).state=2))=true then CH e H k else if (AG.tell e ((CH e H k).at_ k).Au).2=true then(CH e H k).tell k (AG.tell e ((CH e H k).at_ k).Au).1 else CH e H k
def Ha (H:AI)(l:List Event):AI:=l.foldl (fun X e=>CH e X 4) H
def G2 (H:AI)(l:List Event):AI:={ H with last:=H.last++l }.Ha l
def EG:Order:={ (default:Order) with verb:=20 }
def UK (H:AI)(k:Int):AI:={ H with w:=(AE.EF H.w (H.at_ k).Au EG).1 }
def leave (H:AI)(k:Int):AI:=
 (if (decide ((H.at_ k).state=2) && (H.w.AN.at (H.at_ k).Au).here)=true then((H.UK k).set k default).G2 (AE.EF H.w (H.at_ k).Au EG).2.1 else H).set k default
def Ch (H:AI):Nat→AI × Bool
 | 0=>(H,false)
 | k+1=>
  if decide (((Ch H k).1.at_ k).state=0)=true then Ch H k
  else if (((Ch H k).1.at_ k).BX).pg.cut=true then(((Ch H k).1.set k (((Ch H k).1.at_ k).BX)).leave k,true)
  else((Ch H k).1.set k (((Ch H k).1.at_ k).BX),(Ch H k).2)
def Hm (H:AI):Nat→AI
 | 0=>H
 | n+1=>if (!(H.Ch 4).2)=true then(H.Ch 4).1 else(H.Ch 4).1.Hm n
def BX (H:AI):AI:=H.Hm 5
def Hb:Ao:= [87,104,111,32,97,114,101,32,121,111,117,63]
def Md:Ao:= [78,111,116,32,115,111,32,102,97,115,116,46]
def Yj:Ao:= [87,104,97,116,63]
def Mh:Ao:= [84,104,97,116,32,105,115,32,110,111,32,110,97,109,101,46]
def noRoom:Ao:= [84,104,101,114,101,32,105,115,32,110,111,32,114,111,111,109,46]
def J9 (H:AI)(k:Int):AI:=((H.set k ((({ (default:Aq) with state:=1,Au:=-1 }).offer 3).offer 31)).tell k Hb).BX
def named (H:AI)(k:Int)(u:Ao):AI:=
 if decide ((AE.BW H.w u).2.2.2=0)=true then({ H with w:=(AE.BW H.w u).1 }.set k { H.at_ k with state:=2,Au:=(AE.BW H.w u).2.1 }).G2 (AE.BW H.w u).2.2.1
 else if decide ((AE.BW H.w u).2.2.2=4)=true then H.tell k noRoom
 else H.tell k Mh
def order (H:AI)(k:Int)(u:Ao):AI:=
 if (!decide ((Words.parse u).2=0))=true then H.tell k Yj
 else if decide ((Words.parse u).1.verb=20)=true then H.leave k
 else { H with w:=(AE.EF H.w (H.at_ k).Au (Words.parse u).1).1 }.G2 (AE.EF H.w (H.at_ k).Au (Words.parse u).1).2.1
def EW (H:AI)(k:Int):AI:=
 if decide ((H.at_ k).state=0)=true then H
 else match (H.at_ k).queue with
  | []=>H
  | q :: r=>
   let H1:=H.set k { H.at_ k with queue:=r }.Fb
   if (H.at_ k).pg.CC=true then H1
   else if decide ((H.at_ k).state=1)=true then H1.named k (Words.QZ 32 (Words.R9 32 q))
   else H1.order k q
def turns (H:AI):Nat→AI
 | 0=>H
 | k+1=>(turns H k).EW k
def Om (H:AI)(d:Int):AI:=
 let X:=H.turns 4
 ({ X with w:=(AE.CW X.w d).1 }.G2 (AE.CW X.w d).2.1).BX
def Ef (H:AI):Nat→AI
 | 0=>H
 | k+1=>(Ef H k).set k { (Ef H k).at_ k with told:= [] }
def begun (H:AI):AI:={ H with B7:=H.B7+1,last:= [] }.Ef 4
def ok:Bq:=⟨0,[]⟩
def byte (H:AI)(k:Int)(u:Ao):AI:=
 let s1:=(H.at_ k).bytes u
 let s2:=s1.1.typed s1.2
 ((if decide (0 < s2.2)=true then(H.set k s2.1).tell k Md else H.set k s2.1)).BX
def D0 (X:AI)(a:Bx):AI × Bq:=
 if decide (a.kind=5)=true then(X.Om a.n,ok)
 else if (decide (a.kind < 1) || decide (5 < a.kind))=true then(X,⟨5,[]⟩)
 else if (decide (a.BM < 0) || decide (4≤a.BM))=true then(X,⟨2,[]⟩)
 else if (decide ((X.at_ a.BM).state=0) != decide (a.kind=1))=true then(X,⟨3,[]⟩)
 else if decide (a.kind=1)=true then(X.J9 a.BM,ok)
 else if decide (a.kind=2)=true then(X.byte a.BM a.bytes,ok)
 else if decide (a.kind=3)=true then((X.set a.BM ((X.at_ a.BM).G3 a.n)).BX,⟨0,(X.at_ a.BM).out a.n⟩)
 else((X.leave a.BM).BX,ok)
def act (H:AI)(a:Bx):AI × Bq:=if decide (400≤H.B7)=true then(H,⟨4,[]⟩) else H.begun.D0 a
def new:AI:=⟨AG.new,Vector.replicate 4 default,0,[]⟩
def run:AI→List Bx→AI × List Bq
 | H,[]=>(H,[])
 | H,a :: l=>((run (H.act a).1 l).1,(H.act a).2 :: (run (H.act a).1 l).2)
end AI
end Go.Ing
/- Engine: several slices together; a seat of a house. -/
namespace Go.Ing
open Go
def Ac.D7 (l:List Ac):Ac where
 CT:=l.flatMap Ac.CT
 ok w:=(∀ r∈l,r.ok w)∧l.Pairwise fun r s=>∀ b:Nat,b∈r.CT→b ∉ s.CT
 loc w w' h hw:=⟨fun r hr=>r.loc w w' (fun b hb=>h b (List.mem_flatMap.2 ⟨r,hr,hb⟩)) (hw.1 r hr),hw.2⟩
section
variable {w0 w:World} {M:List Nat} {l L:List Ac}
theorem St.aW (h:St w0 M w (Ac.D7 l :: L)):St w0 M w (l++L):=by
 have hm:∀ r∈l,∀ b∈r.CT,b∈(Ac.D7 l).CT:=fun r hr b hb=>List.mem_flatMap.2 ⟨r,hr,hb⟩
 have hf:=h.ok (Ac.D7 l) (List.mem_cons_self ..)
 refine⟨h.os,h.tape,h.output,h.size,h.IX,fun r hr=>?_,fun r hr=>?_,List.pairwise_append.2 ⟨hf.2,(List.pairwise_cons.1 h.JN).2,fun r hr s hs b hb=>(List.pairwise_cons.1 h.JN).1 s hs b (hm r hr b hb)⟩⟩
 ·rcases List.mem_append.1 hr with hr | hr
  ·exact hf.1 r hr
  ·exact h.ok r (List.mem_cons_of_mem _ hr)
 ·rcases List.mem_append.1 hr with hr | hr
  ·exact fun b hb=>h.CT _ (List.mem_cons_self ..) b (hm r hr b hb)
  ·exact h.CT r (List.mem_cons_of_mem _ hr)
theorem St.aO (h:St w0 M w (l++L)):St w0 M w (Ac.D7 l :: L):=by
 have hd:=List.pairwise_append.1 h.JN
 refine⟨h.os,h.tape,h.output,h.size,h.IX,fun r hr=>?_,fun r hr=>?_,List.pairwise_cons.2 ⟨fun s hs b hb=>?_,hd.2.1⟩⟩
 ·rcases List.mem_cons.1 hr with rfl | hr
  ·exact⟨fun r hr=>h.ok r (List.mem_append_left _ hr),hd.1⟩
  ·exact h.ok r (List.mem_append_right _ hr)
 ·rcases List.mem_cons.1 hr with rfl | hr
  ·intro b hb
   obtain⟨r,hr,hb'⟩:=List.mem_flatMap.1 hb
   exact h.CT r (List.mem_append_left _ hr) b hb'
  ·exact h.CT r (List.mem_append_right _ hr)
 ·obtain⟨r,hr,hb'⟩:=List.mem_flatMap.1 hb
  exact hd.2.2 r hr s hs b hb'
end
structure BG where
 queue:List Ao
 wait:List Ao
 told:List Ao
 deriving Inhabited
def Fm (T:Nat)(v:A2)(l:BG):List Ac:= [Ac.own v.Eg.queue T 1 (l.queue.flatMap A7),Ac.own v.out.wait T 1 (l.wait.flatMap A7),Ac.own v.told T 1 (l.told.flatMap A7)]
def CJ (T:Nat)(vs:Vector A2 4)(ls:Vector BG 4):List Ac:=Fm T (vs.at 0) (ls.at 0)++(Fm T (vs.at 1) (ls.at 1)++(Fm T (vs.at 2) (ls.at 2)++Fm T (vs.at 3) (ls.at 3)))
def Gv (T:Nat)(k:Int)(vs:Vector A2 4)(ls:Vector BG 4):List Ac:=
 if k=0 then Fm T (vs.at 1) (ls.at 1)++(Fm T (vs.at 2) (ls.at 2)++Fm T (vs.at 3) (ls.at 3))
 else if k=1 then Fm T (vs.at 0) (ls.at 0)++(Fm T (vs.at 2) (ls.at 2)++Fm T (vs.at 3) (ls.at 3))
 else if k=2 then Fm T (vs.at 0) (ls.at 0)++(Fm T (vs.at 1) (ls.at 1)++Fm T (vs.at 3) (ls.at 3))
 else Fm T (vs.at 0) (ls.at 0)++(Fm T (vs.at 1) (ls.at 1)++Fm T (vs.at 2) (ls.at 2))
theorem JE {α:Type}(a b c:List α):(a++(b++c)).Perm (b++(a++c)):=by
 rw [← List.append_assoc,← List.append_assoc]
 exact List.perm_append_comm.append_right c
theorem four {k:Int}(h0:0≤k)(h1:k < 4):k=0∨k=1∨k=2∨k=3:=by omega
theorem QR (T:Nat){k:Int}(h0:0≤k)(h1:k < 4)(vs:Vector A2 4)(ls:Vector BG 4):(CJ T vs ls).Perm (Fm T (vs.at k) (ls.at k)++Gv T k vs ls):=by
 unfold CJ Gv
 rcases four h0 h1 with e | e | e | e<;>subst e
 ·exact .refl _
 ·exact JE _ _ _
 ·exact((JE _ _ _).append_left _).trans (JE _ _ _)
 ·exact(((List.perm_append_comm).append_left _).append_left _).trans (((JE _ _ _).append_left _).trans (JE _ _ _))
theorem WV (T:Nat){k:Int}(h0:0≤k)(h1:k < 4)(vs:Vector A2 4)(ls:Vector BG 4)(v:A2)(l:BG):Gv T k (vs.put k v) (ls.put k l)=Gv T k vs ls:=by
 have hv:∀ i:Int,0≤i→i≠k→(vs.put k v).at i=vs.at i:=fun i hi hn=>Vector.Ee h0 h1 hi hn
 have hl:∀ i:Int,0≤i→i≠k→(ls.put k l).at i=ls.at i:=fun i hi hn=>Vector.Ee h0 h1 hi hn
 unfold Gv
 rcases four h0 h1 with e | e | e | e<;>subst e
 ·rw [if_pos rfl,if_pos rfl,hv 1 (by decide) (by decide),hv 2 (by decide) (by decide),hv 3 (by decide) (by decide),hl 1 (by decide) (by decide),hl 2 (by decide) (by decide),hl 3 (by decide) (by decide)]
 ·rw [if_neg (by decide),if_pos rfl,if_neg (by decide),if_pos rfl,hv 0 (by decide) (by decide),hv 2 (by decide) (by decide),hv 3 (by decide) (by decide),hl 0 (by decide) (by decide),hl 2 (by decide) (by decide),hl 3 (by decide) (by decide)]
 ·rw [if_neg (by decide),if_neg (by decide),if_pos rfl,if_neg (by decide),if_neg (by decide),if_pos rfl,hv 0 (by decide) (by decide),hv 1 (by decide) (by decide),hv 3 (by decide) (by decide),hl 0 (by decide) (by decide),hl 1 (by decide) (by decide),hl 3 (by decide) (by decide)]
 ·rw [if_neg (by decide),if_neg (by decide),if_neg (by decide),if_neg (by decide),if_neg (by decide),if_neg (by decide),hv 0 (by decide) (by decide),hv 1 (by decide) (by decide),hv 2 (by decide) (by decide),hl 0 (by decide) (by decide),hl 1 (by decide) (by decide),hl 2 (by decide) (by decide)]
def AL.BM (V:AL)(k:Int)(s:A2):AL:={ V with Ax:=V.Ax.put k s }
def Jq (V:AL)(k:Int)(s:A2):List Value:=(V.BM k s).enc
theorem AU.BM (V:AL){k:Int}(h0:0≤k)(h1:k < 4):AU (Jq V k) A2.enc (165+k.toNat * 22) 22 (fun s=>s) (fun _ y=>y):=by
 have hl:=AL.l1.comp (AU.arr (n:=4) A2.fl h0 h1)
 refine⟨fun x=>?_,hl.len,fun x=>hl.Xy _,fun x y=>?_,hl.one⟩
 ·have:=hl.get (V.BM k x)
  rw [show((V.BM k x).Ax.at k)=x from Vector.CE h0 h1] at this
  exact this
 ·have:=hl.set (V.BM k x) y
  rw [show({ V.BM k x with Ax:=(V.BM k x).Ax.put k y }:AL)=V.BM k y from by unfold AL.BM;rw [Vector.Ep]] at this
  exact this
theorem Vector.Qu {α:Type}[Inhabited α]{n:Nat}(v:Vector α n){k:Int}(h0:0≤k)(h1:k < n):v.put k (v.at k)=v:=by
 apply Uw
 intro i i0 i1
 by_cases e:i=k
 ·subst e;rw [Vector.CE h0 h1]
 ·rw [Vector.Ee h0 h1 i0 e]
theorem AL.P8 (V:AL){k:Int}(h0:0≤k)(h1:k < 4):V.BM k (V.Ax.at k)=V:=by
 unfold AL.BM;rw [Vector.Qu _ h0 h1]
def Cp (v:A2)(l:BG):Aq:=⟨v.state,v.Au,v.Ds,v.Eg.now,v.Eg.Cy,v.Eg.ret,l.queue,Page.of v.out,l.wait,l.told⟩
def A5 (V:AL)(ls:Vector BG 4)(ev:List Event):AI:=⟨V.w,Vector.ofFn fun i=>Cp (V.Ax.at ((i:Nat):Int)) (ls.at ((i:Nat):Int)),V.B7,ev⟩
theorem CY (V:AL)(ls:Vector BG 4)(ev:List Event){k:Int}(h0:0≤k)(h1:k < 4):(A5 V ls ev).at_ k=Cp (V.Ax.at k) (ls.at k):=by
 rcases four h0 h1 with e | e | e | e<;>subst e<;>rfl
theorem Iv (V:AL)(ls:Vector BG 4)(ev:List Event){k:Int}(h0:0≤k)(h1:k < 4)(v:A2)(l:BG):A5 (V.BM k v) (ls.put k l) ev=(A5 V ls ev).set k (Cp v l):=by
 unfold A5 AI.set AL.BM
 congr 1
 apply Uw
 intro i i0 i1
 have hof:∀(f:Fin 4→Aq),(Vector.ofFn f).at i=f ⟨i.toNat,by omega⟩:=fun f=>by
  rcases four i0 i1 with e | e | e | e<;>subst e<;>rfl
 rw [hof]
 have hi:((i.toNat:Nat):Int)=i:=by omega
 by_cases e:i=k
 ·subst e
  rw [Vector.CE h0 h1]
  show Cp ((V.Ax.put i v).at ((i.toNat:Nat):Int)) ((ls.put i l).at ((i.toNat:Nat):Int))=_
  rw [hi,Vector.CE h0 h1,Vector.CE h0 h1]
 ·rw [Vector.Ee h0 h1 i0 e,hof]
  show Cp ((V.Ax.put k v).at ((i.toNat:Nat):Int)) ((ls.put k l).at ((i.toNat:Nat):Int))=Cp (V.Ax.at ((i.toNat:Nat):Int)) (ls.at ((i.toNat:Nat):Int))
  rw [hi,Vector.Ee h0 h1 i0 e,Vector.Ee h0 h1 i0 e]
section
variable {P:Program} {n:Nat} {w0 w:World} {M:List Nat} {Q:Exit→Go.Act→World→Prop} {F:List (Nat × Value)} {L K:List Ac} {cd:Code} {b T TS:Nat} {V:AL} {ls:Vector BG 4} {k:Int}
theorem St.dQ (h0:0≤k)(h1:k < 4)(h:St w0 M w (Ac.box b T V.enc :: Ac.D7 (CJ TS V.Ax ls) :: K)) :
  St w0 M w (Ac.own (V.Ax.at k).Eg.queue TS 1 ((ls.at k).queue.flatMap A7) :: Ac.own (V.Ax.at k).out.wait TS 1 ((ls.at k).wait.flatMap A7) :: Ac.own (V.Ax.at k).told TS 1 ((ls.at k).told.flatMap A7) :: Ac.box b T (Jq V k (V.Ax.at k)) :: Ac.D7 (Gv TS k V.Ax ls) :: K):=by
 have h2:St w0 M w (CJ TS V.Ax ls++(Ac.box b T V.enc :: K)):=(h.perm (List.Perm.swap ..)).aW
 have h3:=h2.perm ((QR TS h0 h1 V.Ax ls).append_right _)
 have h4:St w0 M w (Gv TS k V.Ax ls++(Fm TS (V.Ax.at k) (ls.at k)++(Ac.box b T V.enc :: K))):=by
  refine h3.perm ?_
  rw [List.append_assoc]
  exact JE _ _ _
 have h5:=h4.aO
 unfold Jq
 rw [V.P8 h0 h1]
 refine h5.perm ?_
 exact(JE [Ac.D7 (Gv TS k V.Ax ls)] (Fm TS (V.Ax.at k) (ls.at k) ++ [Ac.box b T V.enc]) K).trans (.of_eq (by simp [Fm]))
theorem St.close' (h0:0≤k)(h1:k < 4){s:A2}{qs ws ts:List Ao}{q w' t:Hd}(hq:s.Eg.queue=q)(hw:s.out.wait=w')(ht:s.told=t)
  (h:St w0 M w (Ac.own q TS 1 (qs.flatMap A7) :: Ac.own w' TS 1 (ws.flatMap A7) :: Ac.own t TS 1 (ts.flatMap A7) :: Ac.box b T (Jq V k s) :: Ac.D7 (Gv TS k V.Ax ls) :: K)) :
  St w0 M w (Ac.box b T (V.BM k s).enc :: Ac.D7 (CJ TS (V.BM k s).Ax (ls.put k ⟨qs,ws,ts⟩)) :: K):=by
 subst hq hw ht
 have e1:(V.BM k s).Ax.at k=s:=Vector.CE h0 h1
 have e2:(ls.put k ⟨qs,ws,ts⟩).at k=⟨qs,ws,ts⟩:=Vector.CE h0 h1
 have hp:=QR TS h0 h1 (V.BM k s).Ax (ls.put k ⟨qs,ws,ts⟩)
 rw [e1,e2,show Gv TS k (V.BM k s).Ax (ls.put k ⟨qs,ws,ts⟩)=Gv TS k V.Ax ls from WV TS h0 h1 _ _ _ _] at hp
 have h2:St w0 M w (Ac.D7 (Gv TS k V.Ax ls) :: (Fm TS s ⟨qs,ws,ts⟩++(Ac.box b T (V.BM k s).enc :: K))):=
  h.perm ((JE [Ac.D7 (Gv TS k V.Ax ls)] (Fm TS s ⟨qs,ws,ts⟩ ++ [Ac.box b T (V.BM k s).enc]) K).symm.trans (.of_eq (by simp [Fm]))|>.symm.symm)
 have h3:=h2.aW
 have h4:St w0 M w ((Fm TS s ⟨qs,ws,ts⟩++Gv TS k V.Ax ls)++(Ac.box b T (V.BM k s).enc :: K)):=h3.perm (by rw [List.append_assoc];exact JE _ _ _)
 have h5:=(h4.perm (hp.symm.append_right _)).aO
 exact h5.perm (List.Perm.swap ..)
theorem Ft (h0:0≤k)(h1:k < 4)(h:∀ s l,V.Ax.at k=s→ls.at k=l→(s.Eg.queue.len=l.queue.length∧s.out.wait.len=l.wait.length∧s.told.len=l.told.length)→G P n w0 M cd Q F (Ac.own s.Eg.queue TS 1 (l.queue.flatMap A7) :: Ac.own s.out.wait TS 1 (l.wait.flatMap A7) :: Ac.own s.told TS 1 (l.told.flatMap A7) :: Ac.box b T (Jq V k s) :: Ac.D7 (Gv TS k V.Ax ls) :: K)) :
  G P n w0 M cd Q F (Ac.box b T V.enc :: Ac.D7 (CJ TS V.Ax ls) :: K):=fun a w hF hS=>
 have hO:=hS.dQ h0 h1
 h _ _ rfl rfl ⟨(Kn.own (.head _) w hO).LO DO (by decide),(Kn.own (.tail _ (.head _)) w hO).LO DO (by decide),(Kn.own (.tail _ (.tail _ (.head _))) w hO).LO DO (by decide)⟩ a w hF hO
theorem HG (h0:0≤k)(h1:k < 4){s:A2}{qs ws ts:List Ao}{q w' t:Hd}(hq:s.Eg.queue=q)(hw:s.out.wait=w')(ht:s.told=t)(h:G P n w0 M cd Q F (Ac.box b T (V.BM k s).enc :: Ac.D7 (CJ TS (V.BM k s).Ax (ls.put k ⟨qs,ws,ts⟩)) :: K)) :
  G P n w0 M cd Q F (Ac.own q TS 1 (qs.flatMap A7) :: Ac.own w' TS 1 (ws.flatMap A7) :: Ac.own t TS 1 (ts.flatMap A7) :: Ac.box b T (Jq V k s) :: Ac.D7 (Gv TS k V.Ax ls) :: K):=fun a w hF hS=>h a w hF (hS.close' h0 h1 hq hw ht)
theorem TA {x:Exit}(h0:0≤k)(h1:k < 4){s:A2}{qs ws ts:List Ao}{q w' t:Hd}(hq:s.Eg.queue=q)(hw:s.out.wait=w')(ht:s.told=t)(h:GQ n w0 M Q x F (Ac.box b T (V.BM k s).enc :: Ac.D7 (CJ TS (V.BM k s).Ax (ls.put k ⟨qs,ws,ts⟩)) :: K)) :
  GQ n w0 M Q x F (Ac.own q TS 1 (qs.flatMap A7) :: Ac.own w' TS 1 (ws.flatMap A7) :: Ac.own t TS 1 (ts.flatMap A7) :: Ac.box b T (Jq V k s) :: Ac.D7 (Gv TS k V.Ax ls) :: K):=fun a w hF hS=>h a w hF (hS.close' h0 h1 hq hw ht)
end
theorem En {V:AL}{ls:Vector BG 4}{ev:List Event}{k:Int}(h0:0≤k)(h1:k < 4){s v:A2}{l l':BG}(hs:V.Ax.at k=s)(hl:ls.at k=l){f:Aq→Aq}(e:Cp v l'=f (Cp s l)):A5 (V.BM k v) (ls.put k l') ev=(A5 V ls ev).set k (f ((A5 V ls ev).at_ k)):=by
 rw [Iv V ls ev h0 h1,CY V ls ev h0 h1,hs,hl,e]
theorem JU {v:A2}{l:BG}(h:v.out.wait.len=l.wait.length):(Cp v l).Lq=Page.Bh v.out:=by
 unfold Aq.Lq Page.Bh
 rw [h];rfl
end Go.Ing
/- A house: plain laws for the walks. -/
namespace Go.Ing
open Go
theorem X9 {v:A2}{l:BG}{u:Ao}(hw:v.out.wait.len=l.wait.length)(h:Page.Bh v.out=false):(Cp v l).line u=Cp v l:=if_pos (by rw [JU hw,h];rfl)
theorem ZL {v:A2}{l:BG}{u:Ao}(hw:v.out.wait.len=l.wait.length)(h:Page.Bh v.out=true)(c:v.out.cut=true):(Cp v l).line u=Cp v l:=(if_neg (by rw [JU hw,h];decide)).trans (if_pos c)
theorem Wt {v:A2}{l:BG}{u:Ao}(hw:v.out.wait.len=l.wait.length)(h:Page.Bh v.out=true)(c:v.out.cut=false)(n:60≤l.wait.length):(Cp v l).line u=Cp { v with out:=⟨v.out.wait,v.out.shown,v.out.CC,v.out.ring,true⟩ } l:=
 (if_neg (by rw [JU hw,h];decide)).trans ((if_neg (by show ¬ v.out.cut=true;rw [c];decide)).trans (if_pos (decide_eq_true (show(60:Int)≤(l.wait.length:Int) by omega))))
theorem Wd {v:A2}{l:BG}{u:Ao}(hw:v.out.wait.len=l.wait.length)(h:Page.Bh v.out=true)(c:v.out.cut=false)(n:l.wait.length < 60)(w:Hd):(Cp v l).line u=Cp { v with out:=⟨w,v.out.shown,v.out.CC,v.out.ring,v.out.cut⟩ } ⟨l.queue,l.wait ++ [u],l.told⟩:=
 (if_neg (by rw [JU hw,h];decide)).trans ((if_neg (by show ¬ v.out.cut=true;rw [c];decide)).trans (if_neg (by rw [decide_eq_true_eq];show ¬ (60:Int)≤(l.wait.length:Int);omega)))
theorem bY {v:A2}{l:BG}{u:Ao}(h:(!v.out.cut)=true)(t:Hd):(Cp v l).note u=Cp { v with told:=t } ⟨l.queue,l.wait,l.told ++ [u]⟩:=if_pos h
theorem bN {v:A2}{l:BG}{u:Ao}(h:(!v.out.cut)=false):(Cp v l).note u=Cp v l:=if_neg (by show ¬ (!v.out.cut)=true;rw [h];decide)
theorem AI.Cl (H:AI){k j:Int}(h0:0≤k)(h1:k < 4)(j0:0≤j)(s:Aq):(H.set k s).at_ j=if j=k then s else H.at_ j:=by
 unfold AI.set AI.at_
 by_cases e:j=k
 ·subst e;rw [if_pos rfl];exact Vector.CE h0 h1
 ·rw [if_neg e];exact Vector.Ee h0 h1 j0 e
theorem CG (s:Aq)(u:Ao):(s.tell u).told.length≤s.told.length+1:=by
 have h:(s.line u).told=s.told:=by
  unfold Aq.line;split
  ·rfl
  ·split
   ·rfl
   ·split<;>rfl
 unfold Aq.tell Aq.note
 split
 ·show((s.line u).told ++ [u]).length≤_
  rw [h,List.length_append];exact Nat.le_refl _
 ·rw [h];exact Nat.le_succ _
theorem LD {V V':AL}{ls ls':Vector BG 4}{ev ev':List Event}{k:Int}{u:Ao}(h0:0≤k)(h1:k < 4)(e:A5 V' ls' ev'=(A5 V ls ev).tell k u){j:Int}(j0:0≤j)(j1:j < 4) :
  (ls'.at j).told.length≤(ls.at j).told.length+1∧(j≠k→(ls'.at j).told=(ls.at j).told):=by
 have h:=congrArg (fun H=>(AI.at_ H j).told) e
 simp only [AI.tell] at h
 rw [CY _ _ _ j0 j1,AI.Cl _ h0 h1 j0] at h
 have h':(ls'.at j).told=(if j=k then((A5 V ls ev).at_ k).tell u else(A5 V ls ev).at_ j).told:=h
 by_cases c:j=k
 ·subst c
  rw [if_pos rfl,CY _ _ _ j0 j1] at h'
  exact⟨by rw [h'];exact CG _ _,fun hn=>absurd rfl hn⟩
 ·rw [if_neg c,CY _ _ _ j0 j1] at h'
  exact⟨by rw [h'];exact Nat.le_succ _,fun _=>h'⟩
theorem K4 {V:AL}{ls:Vector BG 4}{ev:List Event}{e:Event}{X:AI}{i:Int}(h0:0≤i)(h1:i < 4)(h:A5 V ls ev=AI.CH e X i.toNat):AI.CH e X (i+1).toNat=if (!decide ((V.Ax.at i).state=2))=true then A5 V ls ev else if (AG.tell e (V.Ax.at i).Au).2=true then(A5 V ls ev).tell i (AG.tell e (V.Ax.at i).Au).1 else A5 V ls ev:=by
 obtain⟨m,rfl⟩:=Int.eq_ofNat_of_zero_le h0
 have ha:=CY V ls ev h0 h1
 rw [show((m:Int)+1).toNat=m+1 by omega,AI.CH]
 rw [show((m:Int)).toNat=m by omega] at h
 rw [← h,ha]
 rfl
theorem TW {H:AI}{es:List Event}{k:Int}(h0:0≤k)(h1:k < es.length):H.Ha (es.take (k+1).toNat)=AI.CH (es.getD k.toNat default) (H.Ha (es.take k.toNat)) 4:=by
 obtain⟨m,rfl⟩:=Int.eq_ofNat_of_zero_le h0
 have hm:m < es.length:=by omega
 show H.Ha (es.take (m+1))=AI.CH (es.getD m default) (H.Ha (es.take m)) 4
 unfold AI.Ha
 rw [List.take_add_one,List.getElem?_eq_getElem hm,List.foldl_append,List.getD_eq_getElem?_getD,List.getElem?_eq_getElem hm]
 rfl
def Xt (ls:Vector BG 4)(n:Nat):Prop:=∀ j:Int,0≤j→j < 4→(ls.at j).told.length≤n
theorem XI {H:AI}{ev es:List Event}(h:H.last=ev):AI.G2 H es=({ H with last:=ev++es }:AI).Ha es:=by subst h;rfl
end Go.Ing
/- What is said in a land of short names is short: plain laws. -/
namespace Go.Ing
open Go
namespace AG
structure LS (w:AG):Prop where
 th:∀ i,(w.AO.at i).name.length≤100
 be:∀ i,(w.AN.at i).name.length≤100
 ro:∀ i,(w.BS.at i).name.length≤100
theorem LS.HS {w:AG}(h:w.LS):w.DL:=⟨fun i=>Nat.le_trans (h.th i) (by decide),fun i=>Nat.le_trans (h.be i) (by decide),fun i=>Nat.le_trans (h.ro i) (by decide)⟩
theorem Ys {X:AG}(h:X.LS){i:Int}{t:Am}(ht:t.name.length≤100):(X.Gw i t).LS:=⟨fun j=>by
 rcases Vector.P1 X.AO i j t with e | e
 ·show((X.AO.put i t).at j).name.length≤_;rw [e];exact ht
 ·show((X.AO.put i t).at j).name.length≤_;rw [e];exact h.th j,h.be,h.ro⟩
theorem I4 {X:AG}(h:X.LS){i:Int}{t:Aj}(ht:t.name.length≤100):(X.Cw i t).LS:=⟨h.th,fun j=>by
 rcases Vector.P1 X.AN i j t with e | e
 ·show((X.AN.put i t).at j).name.length≤_;rw [e];exact ht
 ·show((X.AN.put i t).at j).name.length≤_;rw [e];exact h.be j,h.ro⟩
theorem YD {X:AG}(h:X.LS){r d:Int}{v:Bool}:(X.NH r d v).LS:=⟨h.th,h.be,fun j=>by
 rcases Vector.P1 X.BS r j { X.BS.at r with shut:=(X.BS.at r).shut.put d v } with e | e
 ·show((X.BS.put r _).at j).name.length≤_;rw [e];exact h.ro r
 ·show((X.BS.put r _).at j).name.length≤_;rw [e];exact h.ro j⟩
end AG
namespace AE
structure Cz (T:AE):Prop where
 FP:T.w.LS
 out:∀ e∈T.out,AG.Small e
theorem Mn {w:AG}(hw:w.LS):∀(l:List Int) (s:Ao),(HB w s l).length≤s.length+l.length * 102
 | [],s=>by simp [HB]
 | i :: r,s=>by
  have hn:=hw.th i
  unfold HB
  split
  ·have:=Mn hw r (s ++ [32]++(w.AO.at i).name ++ [42])
   simp only [List.length_append,List.length_cons,List.length_nil] at this ⊢
   omega
  ·have:=Mn hw r (s ++ [32]++(w.AO.at i).name)
   simp only [List.length_append,List.length_cons,List.length_nil] at this ⊢
   omega
theorem NF:(default:Aj).name.length≤100:=by decide
section
variable {T:AE}
theorem Cz.BP (h:Cz T){e:Event}(h1:e.BJ.length≤1000000)(h2:e.text.length≤1000000)(h3:e.EV.length≤1000000)(h4:-9223372036854775808≤e.n)(h5:e.n≤9223372036854775807):Cz (T.BP e):=by
 refine⟨h.FP,fun x hx=>?_⟩
 rcases List.mem_append.1 (show x∈T.out ++ [T.w.Hz (T.Da e) 6] from hx) with hx | hx
 ·exact h.out x hx
 ·have hx':x=T.w.Hz (T.Da e) 6:=by simpa using hx
  subst hx'
  obtain⟨a1,a2,a3,a4,a5,a6,a7,a8,a9⟩:=AG.Iq T.w (T.Da e) 6
  have e2:(T.Da e).n=e.n∧(T.Da e).Hb=T.me.name∧(T.Da e).EV.length≤1000000∧(T.Da e).BJ=e.BJ∧(T.Da e).text=e.text:=by
   unfold Da
   split
   ·exact⟨rfl,rfl,Nat.le_trans (h.FP.be _) (by decide),rfl,rfl⟩
   ·exact⟨rfl,rfl,h3,rfl,rfl⟩
  obtain⟨b4,b5,b6,b7,b8⟩:=e2
  refine⟨?_,?_,?_,?_,?_,?_⟩
  ·rw [a6,b5];exact Nat.le_trans (h.FP.be T.b) (by decide)
  ·rw [a7];exact Nat.le_trans b6 (by decide)
  ·rw [a8,b7];exact Nat.le_trans h1 (by decide)
  ·rw [a9,b8];exact Nat.le_trans h2 (by decide)
  ·rw [a5,b4];exact h4
  ·rw [a5,b4];exact h5
theorem Cz.tell (h:Cz T){s:Ao}(hs:s.length≤1000000):Cz (T.tell s):=h.BP (Nat.zero_le _) hs (Nat.zero_le _) (show(-9223372036854775808:Int)≤0 by decide) (show(0:Int)≤9223372036854775807 by decide)
theorem Cz.kind (h:Cz T)(k:Int):Cz (T.kind k):=h.BP (Nat.zero_le _) (Nat.zero_le _) (Nat.zero_le _) (show(-9223372036854775808:Int)≤0 by decide) (show(0:Int)≤9223372036854775807 by decide)
theorem Cz.BJ (h:Cz T)(k i:Int):Cz (T.BJ k i):=h.BP (Nat.le_trans (h.FP.th i) (by decide)) (Nat.zero_le _) (Nat.zero_le _) (show(-9223372036854775808:Int)≤0 by decide) (show(0:Int)≤9223372036854775807 by decide)
theorem Cz.land (h:Cz T){w':AG}(ht:w'.LS):Cz { T with w:=w' }:=⟨ht,h.out⟩
theorem Cz.DA (h:Cz T){i:Int}{t:Am}(ht:t.name=(T.w.AO.at i).name):Cz (T.DA i t):=h.land (w':=T.w.Gw i t) (AG.Ys h.FP (by rw [ht];exact h.FP.th i))
theorem Cz.place (h:Cz T)(i CZ at_:Int):Cz (T.place i CZ at_):=h.DA rfl
theorem Cz.Cj (h:Cz T)(k f:Int):Cz (T.Cj k f):=h.land (w':=T.w.Cw k { T.w.AN.at k with B2:=f }) (AG.I4 h.FP (h.FP.be k))
theorem Cz.DW (h:Cz T)(k:Int){x:Aj}(hx:x.name.length≤100):Cz (T.DW k x):=h.land (w':=T.w.Cw k x) (AG.I4 h.FP hx)
theorem Cz.C7 (h:Cz T)(r d:Int)(v:Bool):Cz (T.C7 r d v):=h.land (w':=T.w.NH r d v) (AG.YD h.FP)
theorem Cz.Fu (h:Cz T)(r:Int):Cz (T.Fu r):=h.land (w':=T.w.Cw T.b { T.me with room:=r,B2:=0 }) (AG.I4 h.FP (h.FP.be T.b))
theorem Cz.list (h:Cz T){s:Ao}(hs:s.length≤100){l:List Int}(hl:l.length≤9):Cz (T.list s l):=by
 refine h.tell ?_
 have:=Mn h.FP l s
 unfold ND
 split<;>simp only [List.length_append,List.length_cons,List.length_nil]<;>omega
theorem Cz.look (h:Cz T):Cz T.look:=by
 have hk:∀ {T':AE},Cz T'→∀ k:Nat,Cz (T'.Fe k):=fun {T'} h' k=>by
  induction k with
  | zero=>exact h'
  | succ k ih=>
   unfold Fe
   split
   ·exact ih.tell (by
     have:=ih.FP.be k
     have e:(T'.Fe k).w=T'.w:=(KS T' k).1
     rw [e] at this
     simp only [List.length_append,List.length_cons,List.length_nil];omega)
   ·exact ih
 unfold AE.look
 split
 ·exact h.tell (by show([73,116,32,105,115,32,100,97,114,107,46]:Ao).length≤_;decide)
 ·refine hk ?_ 6
  have ha:Cz T.Jv:=(h.tell (by
   have:=h.FP.ro T.me.room
   simp only [List.length_append,List.length_cons,List.length_nil];omega)).tell (by
   have:=MU (T.w.BS.at T.me.room) 6
   omega)
  unfold EE
  split
  ·exact ha.list (by decide) (AG.IN ..)
  ·exact ha
theorem Cz.walk (h:Cz T)(d:Int):Cz (T.walk d):=by
 unfold AE.walk
 split
 ·exact h.tell (by decide)
 ·split
  ·exact h.tell (by decide)
  ·have i1:Cz (T.BP { F2 1 with dir:=d }):=h.BP (Nat.zero_le _) (Nat.zero_le _) (Nat.zero_le _) (show(-9223372036854775808:Int)≤0 by decide) (show(0:Int)≤9223372036854775807 by decide)
   exact((i1.Fu _).BP (e:={ F2 2 with dir:=AG.opposite d }) (Nat.zero_le _) (Nat.zero_le _) (Nat.zero_le _) (show(-9223372036854775808:Int)≤0 by decide) (show(0:Int)≤9223372036854775807 by decide)).look
theorem Cz.box (h:Cz T)(u:Ao):Cz (T.box u).1:=by
 unfold AE.box
 split
 ·exact h.tell (by decide)
 ·split
  ·exact h.tell (by decide)
  ·exact h
theorem Cz.A6 (h:Cz T)(u:Ao):Cz (T.A6 u).1:=by
 unfold AE.A6
 split
 ·split
  ·exact h
  ·exact h.tell (by decide)
 ·exact h.tell (by decide)
theorem Cz.DG (l:List Int):∀ {T':AE},Cz T'→Cz (T'.DG l):=by
 induction l with
 | nil=>exact fun h=>h
 | cons i r ih=>exact fun {T'} h=>ih ((h.place i 1 T'.b).BJ 3 i)
theorem Cz.Kg (h:Cz T)(l:List Int)(o:Order):Cz (T.Kg l o):=by
 unfold AE.Kg
 refine Cz.DG _ ?_
 split
 ·exact h.tell (by decide)
 ·exact h
theorem Cz.get (h:Cz T)(o:Order):Cz (T.get o):=by
 unfold AE.get
 split
 ·split
  ·exact h.box _
  ·exact(h.box _).Kg _ _
 ·exact h.Kg _ _
theorem Cz.Cs (h:Cz T)(v to i:Int):Cz (T.Cs v to i):=by
 unfold AE.Cs
 split
 ·exact h.tell (by decide)
 ·split
  ·exact(h.place _ _ _).BJ _ _
  ·split
   ·exact(h.place i 1 to).BP (e:={ F2 6 with other:=to,BJ:=(T.w.AO.at i).name }) (Nat.le_trans (h.FP.th i) (by decide)) (Nat.zero_le _) (Nat.zero_le _) (show(-9223372036854775808:Int)≤0 by decide) (show(0:Int)≤9223372036854775807 by decide)
   ·split
    ·exact h.tell (by decide)
    ·exact(h.place i 2 to).BP (e:={ F2 5 with BJ:=(T.w.AO.at i).name,text:=(T.w.AO.at to).name }) (Nat.le_trans (h.FP.th i) (by decide)) (Nat.le_trans (h.FP.th to) (by decide)) (Nat.zero_le _) (show(-9223372036854775808:Int)≤0 by decide) (show(0:Int)≤9223372036854775807 by decide)
theorem Cz.Es {v to:Int}(l:List Int):∀ {T':AE},Cz T'→Cz (T'.Es v to l):=by
 induction l with
 | nil=>exact fun h=>h
 | cons i r ih=>exact fun h=>ih (h.Cs v to i)
theorem Cz.FH (h:Cz T)(o:Order):Cz (T.FH o):=by
 have ht:Cz (T.Cu o).1:=by
  unfold Cu
  split
  ·exact h.box _
  ·split
   ·exact h.A6 _
   ·exact h
 unfold AE.FH
 split
 ·exact ht
 ·unfold Sa
  refine Cz.Es _ ?_
  split
  ·exact ht.tell (by decide)
  ·exact ht
theorem Cz.E7 (h:Cz T)(o:Order):Cz (T.E7 o):=by
 unfold AE.E7
 generalize (if (!decide (o.nth=1) || o.Bm)=true then [] else o.name)=nm
 have hs:=h.A6 nm
 split
 ·exact hs
 ·refine Cz.tell ?_ (by decide)
  split
  ·exact(hs.Cj _ _).Cj _ _
  ·exact hs.Cj _ _
theorem Cz.before (h:Cz T)(first:Bool)(i:Int)(v:Bool)(k:Int):Cz (T.before first i v k):=by
 unfold AE.before
 split
 ·exact(Cz.DA h (i:=i) (t:={ T.w.AO.at i with on:=v }) rfl).BJ _ _
 ·exact(h.BJ k i).DA rfl
theorem Cz.Gi (h:Cz T)(d:Int)(on:Bool)(k:Int):Cz (T.Gi d on k):=by
 unfold AE.Gi
 split
 ·exact h.tell (by decide)
 ·split
  ·exact h.tell (by decide)
  ·refine Cz.BP ?_ (by show([100,111,111,114]:Ao).length≤1000000;decide) (Nat.zero_le _) (Nat.zero_le _) (show(-9223372036854775808:Int)≤0 by decide) (show(0:Int)≤9223372036854775807 by decide)
   split
   ·exact(h.C7 _ _ _).C7 _ _ _
   ·exact h.C7 _ _ _
theorem Cz.set (h:Cz T)(o:Order):Cz (T.set o):=by
 unfold AE.set
 split
 ·exact h.Gi _ _ _
 ·split
  ·exact h.tell (by decide)
  ·split
   ·exact h.tell (by decide)
   ·split
    ·exact h.before _ _ _ _
    ·exact h.before _ _ _ _
theorem Cz.Cd (l:List Int):∀ {T':AE},Cz T'→Cz (T'.Cd l):=by
 induction l with
 | nil=>exact fun h=>h
 | cons i r ih=>exact fun {T'} h=>ih (Cz.DA h (i:=i) rfl)
theorem Cz.DY (h:Cz T):∀ k:Nat,Cz (T.DY k)
 | 0=>h
 | k+1=>by
  unfold AE.DY
  split
  ·exact(Cz.DY h k).Cj _ _
  ·exact Cz.DY h k
theorem Cz.FD (h:Cz T):Cz T.FD:=by
 rw [Li]
 exact((Cz.Cd _ h).DY 6).Cj _ _
theorem Cz.GG (h:Cz T):Cz T.GG:=by
 have hf:=Cz.FD (h.kind 18)
 unfold AE.GG
 generalize (T.kind 18).FD=F at *
 exact hf.DW T.b (x:=default) NF
theorem Cz.act (h:Cz T){o:Order}(hx:o.text.length≤1000000):Cz (T.act o):=by
 unfold AE.act
 split
 ·exact h.walk _
 ·split
  ·exact h.look
  ·split
   ·exact h.list (by decide) (AG.IN ..)
   ·split
    ·exact h.BP (e:={ F2 7 with text:=o.text }) (Nat.zero_le _) hx (Nat.zero_le _) (show(-9223372036854775808:Int)≤0 by decide) (show(0:Int)≤9223372036854775807 by decide)
    ·split
     ·exact h.GG
     ·split
      ·exact h.E7 _
      ·split
       ·exact h.get _
       ·split
        ·exact h.FH _
        ·exact h.set _
end
theorem IC {X:AG}{b:Int}{o:Order}(hw:X.LS)(hx:o.text.length≤1000000):(EF X b o).1.LS∧∀ e∈(EF X b o).2.1,AG.Small e:=by
 unfold EF
 split
 ·exact⟨hw,fun e h=>by cases h⟩
 ·split
  ·exact⟨hw,fun e h=>by cases h⟩
  ·split
   ·exact⟨hw,fun e h=>by cases h⟩
   ·have:=Cz.act (T:=⟨X,b,[]⟩) ⟨hw,fun e h=>by cases h⟩ hx
    exact⟨this.FP,this.out⟩
theorem Hg {X:AG}{s:Ao}(hw:X.LS):(BW X s).1.LS∧∀ e∈(BW X s).2.2.1,AG.Small e:=by
 unfold BW
 split
 ·exact⟨hw,fun e h=>by cases h⟩
 ·split
  ·exact⟨hw,fun e h=>by cases h⟩
  ·rename_i h1
   split
   ·exact⟨hw,fun e h=>by cases h⟩
   ·split
    ·exact⟨hw,fun e h=>by cases h⟩
    ·have hn:s.length≤8:=by
      have h2:FR s=true:=by simpa using h1
      simp only [FR,Bool.and_eq_true,decide_eq_true_eq] at h2
      omega
     have h0:Cz ⟨X.Cw (CK X 6) (IZ s),CK X 6,[]⟩:=⟨AG.I4 hw (by show s.length≤100;omega),fun e h=>by cases h⟩
     have:=(h0.kind 17).look
     exact⟨this.FP,this.out⟩
theorem TK {w:AG}{b B2 n:Int}(hw:w.LS)(h0:1≤n)(h1:n≤3):Cz (B9 w b B2 n):=by
 have hs:Cz ⟨w,b,[]⟩:=⟨hw,fun e h=>by cases h⟩
 unfold B9
 exact(hs.BP (e:={ F2 14 with other:=B2,n:=n }) (Nat.zero_le _) (Nat.zero_le _) (Nat.zero_le _) (show -9223372036854775808≤n by omega) (show n≤9223372036854775807 by omega)).DW _ (hw.be B2)
theorem Cz.fh {T:AE}(h:Cz T)(b:Int):Cz (T.DW b { T.w.AN.at b with room:=0,BI:=10 }):=h.DW b (h.FP.be b)
theorem Xb {w:AG}{b:Int}(hw:w.LS):Cz (H2 w b):=by
 have h0:Cz (FV w b):=⟨AG.I4 hw (hw.be b),fun e h=>by cases h⟩
 have h1:Cz (F7 w b):=by unfold F7;exact(h0.kind 15).FD
 unfold H2
 split
 ·generalize F7 w b=F at *
  exact h1.DW b (x:=default) NF
 ·have h2:Cz (JK w b):=by unfold JK;exact h1.fh b
  exact(h2.kind 17).look
theorem TN {draw b:Int}(hb:0≤b){s:AG × List Event}(h:s.1.LS∧∀ e∈s.2,AG.Small e):(EN draw b s).1.LS∧∀ e∈(EN draw b s).2,AG.Small e:=by
 have hh:=MB (draw:=draw) hb
 unfold EN
 split
 ·exact h
 ·split
  ·exact⟨AG.I4 h.1 (h.1.be b),h.2⟩
  ·have hk:=TK (b:=b) (B2:=(s.1.AN.at b).B2 - 1) h.1 hh.1 hh.2
   split
   ·have hd:=Xb (b:=(s.1.AN.at b).B2 - 1) hk.FP
    refine⟨hd.FP,fun e he=>?_⟩
    rcases List.mem_append.1 he with he | he
    ·rcases List.mem_append.1 he with he | he
     ·exact h.2 e he
     ·exact hk.out e he
    ·exact hd.out e he
   ·refine⟨hk.FP,fun e he=>?_⟩
    rcases List.mem_append.1 he with he | he
    ·exact h.2 e he
    ·exact hk.out e he
theorem Pb {X:AG}{draw:Int}(hw:X.LS):∀ k:Nat,(DZ X draw k).1.LS∧∀ e∈(DZ X draw k).2,AG.Small e
 | 0=>⟨hw,fun e h=>by cases h⟩
 | k+1=>TN (by omega) (Pb hw k)
theorem JR {X:AG}{draw:Int}(hw:X.LS):(CW X draw).1.LS∧∀ e∈(CW X draw).2.1,AG.Small e:=by
 unfold CW
 split
 ·exact⟨hw,fun e h=>by cases h⟩
 ·have h:=Pb (draw:=draw) hw 6
  generalize DZ X draw 6=r at *
  exact h
end AE
end Go.Ing
/- What a house keeps: plain laws. -/
namespace Go.Ing
open Go
namespace AI
def cM (q:List Ao):Prop:=q.length≤6∧∀ s∈q,s.length≤60
structure Fit (H:AI)(n m:Nat):Prop where
 FP:H.w.LS
 told:∀ k:Int,0≤k→k < 4→(H.at_ k).told.length≤n
 last:H.last.length≤m
 Au:∀ k:Int,0≤k→k < 4→(H.at_ k).state=2→0≤(H.at_ k).Au∧(H.at_ k).Au < 6
 wait:∀ k:Int,0≤k→k < 4→∀ s∈(H.at_ k).wait,s.length≤70368744000000
 queue:∀ k:Int,0≤k→k < 4→cM (H.at_ k).queue
variable {H:AI} {n m:Nat}
theorem Fit.mono (h:H.Fit n m){n' m':Nat}(hn:n≤n')(hm:m≤m'):H.Fit n' m':=⟨h.FP,fun k a b=>Nat.le_trans (h.told k a b) hn,Nat.le_trans h.last hm,h.Au,h.wait,h.queue⟩
theorem Fit.set (h:H.Fit n m){k:Int}(h0:0≤k)(h1:k < 4){s:Aq}(ht:s.told.length≤n)(hb:s.state=2→0≤s.Au∧s.Au < 6)(hw:∀ u∈s.wait,u.length≤70368744000000)(hq:cM s.queue):(H.set k s).Fit n m:=by
 have e:∀ j:Int,0≤j→(H.set k s).at_ j=if j=k then s else H.at_ j:=fun j j0=>AI.Cl H h0 h1 j0 s
 refine⟨h.FP,fun j a b=>?_,h.last,fun j a b=>?_,fun j a b=>?_,fun j a b=>?_⟩<;>rw [e j a]<;>split
 ·exact ht
 ·exact h.told j a b
 ·exact hb
 ·exact h.Au j a b
 ·exact hw
 ·exact h.wait j a b
 ·exact hq
 ·exact h.queue j a b
theorem Fit.land (h:H.Fit n m){w:AG}(hw:w.LS):({ H with w:=w }:AI).Fit n m:=⟨hw,h.told,h.last,h.Au,h.wait,h.queue⟩
theorem Qk (s:Aq)(u:Ao):(s.line u).wait=s.wait∨(s.line u).wait=s.wait ++ [u]:=by
 unfold Aq.line
 split
 ·exact .inl rfl
 ·split
  ·exact .inl rfl
  ·split
   ·exact .inl rfl
   ·exact .inr rfl
theorem QI (s:Aq)(u:Ao):(s.line u).state=s.state∧(s.line u).Au=s.Au∧(s.line u).queue=s.queue∧(s.line u).told=s.told:=by
 unfold Aq.line
 split
 ·exact⟨rfl,rfl,rfl,rfl⟩
 ·split
  ·exact⟨rfl,rfl,rfl,rfl⟩
  ·split<;>exact⟨rfl,rfl,rfl,rfl⟩
theorem Ex (s:Aq)(u:Ao):(s.tell u).state=s.state∧(s.tell u).Au=s.Au∧(s.tell u).queue=s.queue∧(s.tell u).wait=(s.line u).wait:=by
 obtain⟨a,b,c,_⟩:=QI s u
 unfold Aq.tell Aq.note
 split
 ·exact⟨a,b,c,rfl⟩
 ·exact⟨a,b,c,rfl⟩
theorem Fit.tell (h:H.Fit n m){k:Int}(h0:0≤k)(h1:k < 4){u:Ao}(hu:u.length≤70368744000000):(H.tell k u).Fit (n+1) m:=by
 obtain⟨a,b,c,d⟩:=Ex (H.at_ k) u
 refine(h.mono (Nat.le_succ n) (Nat.le_refl m)).set h0 h1 (Nat.le_trans (CG _ _) (Nat.succ_le_succ (h.told k h0 h1))) (by rw [a,b];exact h.Au k h0 h1) (fun s hs=>?_) (by rw [c];exact h.queue k h0 h1)
 rw [d] at hs
 rcases Qk (H.at_ k) u with e | e<;>rw [e] at hs
 ·exact h.wait k h0 h1 s hs
 ·rcases List.mem_append.1 hs with hs | hs
  ·exact h.wait k h0 h1 s hs
  ·rw [List.mem_singleton.1 hs];exact hu
theorem Z6 {e:Event}(he:AG.Small e)(b:Int):(AG.tell e b).1.length≤70368744000000:=by
 unfold AG.tell
 split
 ·exact Nat.zero_le _
 ·split
  ·exact Nat.zero_le _
  ·refine Nat.le_trans (AG.Oe he (AG.QV he b) (AG.Ny he b) _ _) ?_
   have:=AG.PR e b
   omega
theorem U9 {k j:Int}(h0:0≤k)(h1:k < 4)(j0:0≤j)(hn:j≠k)(u:Ao):(H.tell k u).at_ j=H.at_ j:=by
 unfold AI.tell
 rw [AI.Cl H h0 h1 j0,if_neg hn]
theorem K6 (e:Event)(H:AI):∀ k:Nat,k≤4→∀ j:Int,(k:Int)≤j→j < 4→(CH e H k).at_ j=H.at_ j
 | 0,_,_,_,_=>rfl
 | k+1,hk,j,h0,h1=>by
  have ih:=K6 e H k (by omega) j (by omega) h1
  unfold CH
  split
  ·exact ih
  ·split
   ·rw [U9 (by omega) (by omega) (by omega) (by omega)];exact ih
   ·exact ih
theorem O3 {e:Event}(he:AG.Small e)(h:H.Fit n m):∀ k:Nat,k≤4→(CH e H k).Fit (n+1) m
 | 0,_=>h.mono (Nat.le_succ n) (Nat.le_refl m)
 | k+1,hk=>by
  have ih:=O3 he h k (by omega)
  unfold CH
  split
  ·exact ih
  ·split
   ·have hr:=K6 e H k (by omega) k (Int.le_refl _) (by omega)
    obtain⟨a,b,c,d⟩:=Ex ((CH e H k).at_ k) (AG.tell e ((CH e H k).at_ k).Au).1
    unfold AI.tell
    refine ih.set (by omega) (by omega) ?_ (by rw [a,b];exact ih.Au k (by omega) (by omega)) (fun s hs=>?_) (by rw [c];exact ih.queue k (by omega) (by omega))
    ·refine Nat.le_trans (CG _ _) ?_
     rw [hr];exact Nat.succ_le_succ (h.told k (by omega) (by omega))
    ·rw [d] at hs
     rcases Qk ((CH e H k).at_ k) (AG.tell e ((CH e H k).at_ k).Au).1 with q | q<;>rw [q] at hs
     ·exact ih.wait k (by omega) (by omega) s hs
     ·rcases List.mem_append.1 hs with hs | hs
      ·exact ih.wait k (by omega) (by omega) s hs
      ·rw [List.mem_singleton.1 hs];exact Z6 he _
   ·exact ih
theorem QY:∀(es:List Event) {H:AI} {n:Nat},(∀ e∈es,AG.Small e)→H.Fit n m→(H.Ha es).Fit (n+es.length) m
 | [],_,_,_,h=>h
 | e :: r,H,n,he,h=>by
  have h1:=O3 (he e (List.mem_cons_self ..)) h 4 (Nat.le_refl 4)
  have h2:=QY r (fun x hx=>he x (List.mem_cons_of_mem _ hx)) h1
  rw [List.length_cons,show n+(r.length+1)=n+1+r.length by omega]
  exact h2
theorem Fit.G2 (h:H.Fit n m){es:List Event}(he:∀ e∈es,AG.Small e):(H.G2 es).Fit (n+es.length) (m+es.length):=by
 refine QY (m:=m+es.length) es he ?_
 exact⟨h.FP,h.told,by show(H.last++es).length≤_;rw [List.length_append];exact Nat.add_le_add_right h.last _,h.Au,h.wait,h.queue⟩
theorem Fit.free (h:H.Fit n m){k:Int}(h0:0≤k)(h1:k < 4):(H.set k default).Fit n m:=
 h.set h0 h1 (Nat.zero_le _) (fun e=>absurd (show(0:Int)=2 from e) (by decide)) (fun u hu=>by cases hu) ⟨Nat.zero_le _,fun u hu=>by cases hu⟩
theorem KV:EG.text.length≤1000000:=Nat.zero_le _
theorem Fit.leave (h:H.Fit n m){k:Int}(h0:0≤k)(h1:k < 4):(H.leave k).Fit (n+11) (m+11):=by
 unfold AI.leave
 refine Fit.free ?_ h0 h1
 split
 ·have hd:=AE.IC (b:=(H.at_ k).Au) (o:=EG) h.FP KV
  have hl:=AE.NZ H.w (H.at_ k).Au EG
  exact(((h.land hd.1).free h0 h1).G2 hd.2).mono (Nat.add_le_add_left hl n) (Nat.add_le_add_left hl m)
 ·exact h.mono (Nat.le_add_right ..) (Nat.le_add_right ..)
theorem R4 (ht:Int):∀(l:List Ao) (x:Page.Pg),∀ s∈(Page.BX ht l x).2,s∈l
 | [],_,s,h=>h
 | q :: r,x,s,h=>by
  unfold Page.BX at h
  split at h
  ·exact h
  ·split at h
   ·exact h
   ·exact List.mem_cons_of_mem _ (R4 ht r _ s h)
theorem Fh (s:Aq):s.BX.told=s.told∧s.BX.state=s.state∧s.BX.Au=s.Au∧s.BX.queue=s.queue∧∀ u∈s.BX.wait,u∈s.wait:=by
 unfold Aq.BX
 split
 ·exact⟨rfl,rfl,rfl,rfl,fun _ h=>h⟩
 ·exact⟨rfl,rfl,rfl,rfl,R4 _ _ _⟩
theorem Fit.XA (h:H.Fit n m){k:Int}(h0:0≤k)(h1:k < 4):(H.set k (H.at_ k).BX).Fit n m:=by
 obtain⟨a,b,c,d,e⟩:=Fh (H.at_ k)
 exact h.set h0 h1 (by rw [a];exact h.told k h0 h1) (by rw [b,c];exact h.Au k h0 h1) (fun u hu=>h.wait k h0 h1 u (e u hu)) (by rw [d];exact h.queue k h0 h1)
theorem MV (h:H.Fit n m):∀ k:Nat,k≤4→(H.Ch k).1.Fit (n+11 * k) (m+11 * k)
 | 0,_=>h
 | k+1,hk=>by
  have ih:=MV h k (by omega)
  unfold Ch
  split
  ·exact ih.mono (by omega) (by omega)
  ·split
   ·exact((ih.XA (by omega) (by omega)).leave (by omega) (by omega)).mono (by omega) (by omega)
   ·exact(ih.XA (by omega) (by omega)).mono (by omega) (by omega)
theorem P7:∀(r:Nat) {H:AI} {n m:Nat},H.Fit n m→(H.Hm r).Fit (n+44 * r) (m+44 * r)
 | 0,_,_,_,h=>h
 | r+1,H,n,m,h=>by
  have h1:=MV h 4 (Nat.le_refl 4)
  unfold Hm
  split
  ·exact h1.mono (by omega) (by omega)
  ·exact(P7 r h1).mono (by omega) (by omega)
theorem Fit.BX (h:H.Fit n m):H.BX.Fit (n+220) (m+220):=P7 5 h
end AI
end Go.Ing
/- A house: plain laws for the walks, on. -/
namespace Go.Ing
open Go
theorem Ib {V:AL}{ls:Vector BG 4}{ev:List Event}{k:Int}(h0:0≤k)(h1:k < 4):A5 (V.BM k default) (ls.put k ⟨[],[],[]⟩) ev=(A5 V ls ev).set k default:=Iv V ls ev h0 h1 _ _
theorem OT {V:AL}{ls:Vector BG 4}{ev:List Event}{w:AG}:A5 { V with w:=w } ls ev={ A5 V ls ev with w:=w }:=rfl
theorem Q4 {V V4:AL}{ls ls4:Vector BG 4}{ev ev4:List Event}{k:Int}(h0:0≤k)(h1:k < 4)(c:(decide ((V.Ax.at k).state=2) && (V.w.AN.at (V.Ax.at k).Au).here)=true)
  (e:A5 V4 ls4 ev4=(A5 (AL.BM { V with w:=(AE.EF V.w (V.Ax.at k).Au AI.EG).1 } k default) (ls.put k ⟨[],[],[]⟩) ev).G2 (AE.EF V.w (V.Ax.at k).Au AI.EG).2.1) :
  A5 (V4.BM k default) (ls4.put k ⟨[],[],[]⟩) ev4=(A5 V ls ev).leave k:=by
 rw [Ib h0 h1,e,Ib h0 h1,OT]
 have ha:=CY V ls ev h0 h1
 unfold AI.leave AI.UK
 rw [ha]
 rw [if_pos (show(decide ((Cp (V.Ax.at k) (ls.at k)).state=2) && ((A5 V ls ev).w.AN.at (Cp (V.Ax.at k) (ls.at k)).Au).here)=true from c)]
 rfl
theorem U5 {V:AL}{ls:Vector BG 4}{ev:List Event}{k:Int}(h0:0≤k)(h1:k < 4)(c:(decide ((V.Ax.at k).state=2) && (V.w.AN.at (V.Ax.at k).Au).here)=false) :
  A5 (V.BM k default) (ls.put k ⟨[],[],[]⟩) ev=(A5 V ls ev).leave k:=by
 rw [Ib h0 h1]
 have ha:=CY V ls ev h0 h1
 unfold AI.leave
 rw [ha]
 rw [if_neg (show ¬ (decide ((Cp (V.Ax.at k) (ls.at k)).state=2) && ((A5 V ls ev).w.AN.at (Cp (V.Ax.at k) (ls.at k)).Au).here)=true by rw [show(decide ((Cp (V.Ax.at k) (ls.at k)).state=2) && ((A5 V ls ev).w.AN.at (Cp (V.Ax.at k) (ls.at k)).Au).here)=false from c];decide)]
theorem Gp {V:AL}{ls:Vector BG 4}{ev:List Event}{n m:Nat}(h:(A5 V ls ev).Fit n m):Xt ls n:=fun j j0 j1=>by
 have:=h.told j j0 j1
 rw [CY V ls ev j0 j1] at this
 exact this
theorem Wx {V:AL}{ls:Vector BG 4}{ev:List Event}{n m:Nat}(h:(A5 V ls ev).Fit n m){k:Int}(h0:0≤k)(h1:k < 4):(V.Ax.at k).state≠2∨(0≤(V.Ax.at k).Au∧(V.Ax.at k).Au < 6):=by
 have:=h.Au k h0 h1
 rw [CY V ls ev h0 h1] at this
 by_cases c:(V.Ax.at k).state=2
 ·exact .inr (this c)
 ·exact .inl c
theorem St.or {w0 w:World}{M:List Nat}{L:List Ac}{T TS:Nat}{h f g:Hd}{xs qs zs:List Ao}(ho:cU T h xs TS f qs TS g zs)(hS:St w0 M w (Ac.own g TS 1 (zs.flatMap A7) :: Ac.own f TS 1 (qs.flatMap A7) :: L)):St w0 M w (Ac.own h TS 1 (xs.flatMap A7) :: L):=by
 rcases ho with ⟨_,rfl,rfl,_,_⟩ | ⟨_,rfl,rfl⟩
 ·exact hS.sub (List.sublist_cons_self ..)
 ·exact hS.sub (List.Sublist.cons_cons _ (List.sublist_cons_self ..))
theorem dt {n:Nat}{w0:World}{M:List Nat}{Q:Exit→Go.Act→World→Prop}{F:List (Nat × Value)}{L:List Ac}{x:Exit}{T TS:Nat}{h f g:Hd}{xs qs zs:List Ao}(ho:cU T h xs TS f qs TS g zs)(k:GQ n w0 M Q x F (Ac.own h TS 1 (xs.flatMap A7) :: L)):GQ n w0 M Q x F (Ac.own g TS 1 (zs.flatMap A7) :: Ac.own f TS 1 (qs.flatMap A7) :: L):=fun a w hF hS=>k a w hF (St.or ho hS)
theorem Lp {v:A2}{l:BG}(hw:v.out.wait.len=l.wait.length)(h:(!Page.Bh v.out || decide (v.Ds.B0 < 0) || decide (200 < v.Ds.B0))=true):Cp v l=(Cp v l).BX:=
 (if_pos (show(!(Cp v l).Lq || decide (v.Ds.B0 < 0) || decide (200 < v.Ds.B0))=true by rw [JU hw];exact h)).symm
theorem Z0 {v:A2}{l:BG}(hw:v.out.wait.len=l.wait.length)(h:(!Page.Bh v.out || decide (v.Ds.B0 < 0) || decide (200 < v.Ds.B0))=false)(w:Hd) :
  Cp { v with out:=⟨w,(Page.BX v.Ds.B0 l.wait (Page.of v.out)).1.shown,(Page.BX v.Ds.B0 l.wait (Page.of v.out)).1.CC,(Page.BX v.Ds.B0 l.wait (Page.of v.out)).1.ring,(Page.BX v.Ds.B0 l.wait (Page.of v.out)).1.cut⟩ } ⟨l.queue,(Page.BX v.Ds.B0 l.wait (Page.of v.out)).2,l.told⟩=(Cp v l).BX:=
 ((if_neg (show ¬ (!(Cp v l).Lq || decide (v.Ds.B0 < 0) || decide (200 < v.Ds.B0))=true by rw [JU hw,h];decide)).trans rfl).symm
theorem LQ {V:AL}{ls:Vector BG 4}{ev:List Event}{c:Bool}{H:AI}{i:Int}(h0:0≤i)(h1:i < 4)(h:(A5 V ls ev,c)=H.Ch i.toNat) :
  H.Ch (i+1).toNat=if decide ((V.Ax.at i).state=0)=true then(A5 V ls ev,c) else if (((A5 V ls ev).at_ i).BX).pg.cut=true then(((A5 V ls ev).set i ((A5 V ls ev).at_ i).BX).leave i,true) else((A5 V ls ev).set i ((A5 V ls ev).at_ i).BX,c):=by
 obtain⟨m,rfl⟩:=Int.eq_ofNat_of_zero_le h0
 have ha:=CY V ls ev h0 h1
 rw [show((m:Int)+1).toNat=m+1 by omega,AI.Ch]
 rw [show((m:Int)).toNat=m by omega] at h
 rw [← h]
 rw [show decide (((A5 V ls ev).at_ (m:Int)).state=0)=decide ((V.Ax.at (m:Int)).state=0) by rw [ha];rfl]
theorem VL {V V':AL}{ls ls':Vector BG 4}{ev ev':List Event}{i:Int}(h0:0≤i)(h1:i < 4){s:Aq}(e:A5 V' ls' ev'=(A5 V ls ev).set i s):(V'.Ax.at i).out.cut=s.pg.cut:=by
 have h:=congrArg (fun H=>(AI.at_ H i).pg.cut) e
 rw [CY V' ls' ev' h0 h1,AI.Cl _ h0 h1 h0,if_pos rfl] at h
 exact h
theorem Ob {X:AI}{k:Int}(h0:0≤k)(h1:k < 5):X.Hm (5 - k).toNat=if (!(X.Ch 4).2)=true then(X.Ch 4).1 else(X.Ch 4).1.Hm (5 - (k+1)).toNat:=by
 rw [show(5 - k).toNat=(5 - (k+1)).toNat+1 by omega,AI.Hm]
theorem QT {H:AI}{n m:Nat}(h:H.Fit n m){V:AL}{ls:Vector BG 4}{ev:List Event}{c:Bool}{i:Int}(h0:0≤i)(h1:i≤4)(e:(A5 V ls ev,c)=H.Ch i.toNat):(A5 V ls ev).Fit (n+44) (m+44):=by
 have:=AI.MV h i.toNat (by omega)
 rw [← e] at this
 exact this.mono (by omega) (by omega)
theorem Xw {V:AL}{ls:Vector BG 4}{ev:List Event}{n m:Nat}(h:(A5 V ls ev).Fit n m){k:Int}(h0:0≤k)(h1:k < 4):∀ s∈(ls.at k).wait,s.length≤70368744000000:=by
 have:=h.wait k h0 h1
 rw [CY V ls ev h0 h1] at this
 exact this
end Go.Ing
/- A house: who comes, and what is typed: plain laws for the walks. -/
namespace Go.Ing
open Go
namespace Words
def OR (N:Nat)(o:Order):Prop:=o.name.length≤N∧o.second.length≤N∧o.text.length≤N
theorem Fi (N:Nat):OR N default:=⟨Nat.zero_le _,Nat.zero_le _,Nat.zero_le _⟩
theorem Xc (u p:Ao):(NY u p).1.length≤u.length:=by
 unfold NY
 split
 ·exact Nat.le_refl _
 ·show(List.drop _ u).length≤_
  rw [List.length_drop];omega
theorem X7 (u:Ao):(EM u).2.1.length≤u.length:=by
 unfold EM
 split
 ·exact Nat.zero_le _
 ·split
  ·exact Xc u _
  ·split
   ·split
    ·exact Nat.zero_le _
    ·exact Nat.le_refl _
   ·unfold Pw
    have:=(Nd 46 u).2
    split
    ·split
     ·exact Nat.zero_le _
     ·exact this
    ·exact Nat.zero_le _
theorem YU {N:Nat}{o:Order}{j:Ao × Bool}{W:List Ao}{m:Nat}(h:OR N o)(hw:(W.getD 0 []).length≤N):OR N (Q6 o j W m).1:=by
 unfold Q6
 split
 ·exact h
 ·split
  ·exact Fi N
  ·exact⟨h.1,hw,h.2.2⟩
theorem bp {N:Nat}{o:Order}{j:Ao × Bool}{W:List Ao}{m:Nat}(h:OR N o)(hw:∀ i,(W.getD i []).length≤N):OR N (TP o j W m).1:=by
 unfold TP
 split
 ·split
  ·exact Fi N
  ·refine YU h ?_
   have:=hw 1
   rw [List.getD_eq_getElem?_getD,List.getElem?_drop,← List.getD_eq_getElem?_getD]
   exact this
 ·exact YU h (hw 0)
theorem YH {N:Nat}{v:Int}{W:List Ao}{m:Nat}(hw:∀ i,(W.getD i []).length≤N):OR N (Q2 v W m).1:=by
 unfold Q2
 split
 ·exact Fi N
 ·refine bp ⟨Nat.le_trans (X7 _) (hw 0),Nat.zero_le _,Nat.zero_le _⟩ (fun i=>?_)
  rw [List.getD_eq_getElem?_getD,List.getElem?_drop,← List.getD_eq_getElem?_getD]
  exact hw (1+i)
theorem Sh (i:Nat):(AG.Gj.getD i []).length≤20:=by
 rw [List.getD_eq_getElem?_getD]
 cases h:AG.Gj[i]? with
 | none=>exact Nat.zero_le _
 | some w=>
  have hm:w∈AG.Gj:=List.mem_of_getElem? h
  have:∀ w∈AG.Gj,w.length≤20:=by decide
  exact this w hm
theorem Jy (s:Ao):OR (s.length+20) (parse s).1:=by
 have hw:∀ i,(((words s).drop 1).getD i []).length≤s.length+20:=fun i=>Nat.le_trans (Mf s i 1) (by omega)
 unfold parse
 split
 ·exact Fi _
 ·split
  ·exact Fi _
  ·unfold X3
   split
   ·split
    ·exact Fi _
    ·refine⟨Nat.zero_le _,Nat.zero_le _,?_⟩
     show(said s).length≤_
     unfold said
     have h1:=Lh 32 (R9 32 (cut 32 (QZ 32 s)).2.1)
     have h2:=Rc 32 (cut 32 (QZ 32 s)).2.1
     have h3:=(Nd 32 (QZ 32 s)).2
     have h4:=Lh 32 s
     omega
   ·split
    ·split
     ·exact Fi _
     ·exact⟨Nat.zero_le _,Nat.zero_le _,Nat.zero_le _⟩
    ·split
     ·exact Fi _
     ·split
      ·split
       ·exact⟨Nat.le_trans (Sh _) (by omega),Nat.zero_le _,Nat.zero_le _⟩
       ·exact YH hw
      ·exact YH hw
end Words
theorem WQ {V:AL}{ls:Vector BG 4}{ev:List Event}{n m:Nat}(h:(A5 V ls ev).Fit n m){k:Int}(h0:0≤k)(h1:k < 4):AI.cM (ls.at k).queue:=by
 have:=h.queue k h0 h1
 rw [CY V ls ev h0 h1] at this
 exact this
theorem AI.L5 (H:AI){k:Int}(h0:0≤k)(h1:k < 4):H.set k (H.at_ k)=H:=by
 unfold AI.set AI.at_
 rw [Vector.Qu _ h0 h1]
theorem Sd {X:AG}{s:Ao}(h:(AE.BW X s).2.2.2=0):0≤(AE.BW X s).2.1∧(AE.BW X s).2.1 < 6:=by
 have hf:=AE.Mg X 6 (Nat.le_refl 6)
 unfold AE.BW at h ⊢
 split
 ·exact⟨Int.le_refl 0,show(0:Int) < 6 by decide⟩
 ·split
  ·exact⟨Int.le_refl 0,show(0:Int) < 6 by decide⟩
  ·split
   ·exact⟨Int.le_refl 0,show(0:Int) < 6 by decide⟩
   ·split
    ·rename_i h1 h2 h3 h4
     rw [if_neg h1,if_neg h2,if_neg h3,if_pos h4] at h
     exact absurd h (show ¬ (4:Int)=0 by decide)
    ·rename_i h4
     show 0≤AE.CK X 6∧AE.CK X 6 < 6
     rw [decide_eq_true_eq] at h4
     omega
namespace AI
variable {H:AI} {n m:Nat}
theorem Fit.enters (h:H.Fit n m){k:Int}(h0:0≤k)(h1:k < 4){u:Ao}(c:(AE.BW H.w u).2.2.2=0):(({ H with w:=(AE.BW H.w u).1 }:AI).set k { H.at_ k with state:=2,Au:=(AE.BW H.w u).2.1 }).Fit n m:=by
 have hs:=AE.Hg (s:=u) h.FP
 exact(h.land hs.1).set h0 h1 (h.told k h0 h1) (fun _=>Sd c) (h.wait k h0 h1) (h.queue k h0 h1)
theorem Fit.named (h:H.Fit n m){k:Int}(h0:0≤k)(h1:k < 4)(u:Ao):(H.named k u).Fit (n+11) (m+11):=by
 unfold AI.named
 split
 ·rename_i c
  have hs:=AE.Hg (s:=u) h.FP
  have hl:=AE.P6 H.w u
  exact((h.enters h0 h1 (of_decide_eq_true c)).G2 hs.2).mono (by omega) (by omega)
 ·split
  ·exact(h.tell h0 h1 (show noRoom.length≤_ by decide)).mono (by omega) (by omega)
  ·exact(h.tell h0 h1 (show Mh.length≤_ by decide)).mono (by omega) (by omega)
theorem Fit.order (h:H.Fit n m){k:Int}(h0:0≤k)(h1:k < 4){u:Ao}(hu:u.length≤1000):(H.order k u).Fit (n+11) (m+11):=by
 unfold AI.order
 split
 ·exact(h.tell h0 h1 (show Yj.length≤_ by decide)).mono (by omega) (by omega)
 ·split
  ·exact h.leave h0 h1
  ·have hp:=Words.Jy u
   have hd:=AE.IC (b:=(H.at_ k).Au) (o:=(Words.parse u).1) h.FP (by have:=hp.2.2;omega)
   have hl:=AE.NZ H.w (H.at_ k).Au (Words.parse u).1
   exact((h.land hd.1).G2 hd.2).mono (by omega) (by omega)
theorem Fit.Fb (h:H.Fit n m){k:Int}(h0:0≤k)(h1:k < 4){q:Ao}{r:List Ao}(e:(H.at_ k).queue=q :: r):(H.set k { H.at_ k with queue:=r }.Fb).Fit n m:=
 h.set h0 h1 (h.told k h0 h1) (h.Au k h0 h1) (h.wait k h0 h1) (by
  have hq:=h.queue k h0 h1
  rw [e] at hq
  exact⟨Nat.le_of_succ_le hq.1,fun u hu=>hq.2 u (List.mem_cons_of_mem _ hu)⟩)
theorem Fit.EW (h:H.Fit n m){k:Int}(h0:0≤k)(h1:k < 4):(H.EW k).Fit (n+11) (m+11):=by
 unfold AI.EW
 split
 ·exact h.mono (by omega) (by omega)
 ·split
  ·exact h.mono (by omega) (by omega)
  ·rename_i q r e
   have ht:=h.Fb h0 h1 e
   have hq:=(h.queue k h0 h1).2 q (by rw [e];exact List.mem_cons_self ..)
   simp only []
   split
   ·exact ht.mono (by omega) (by omega)
   ·split
    ·exact ht.named h0 h1 _
    ·exact ht.order h0 h1 (by omega)
theorem KP (h:H.Fit n m):∀ k:Nat,k≤4→(H.turns k).Fit (n+11 * k) (m+11 * k)
 | 0,_=>h
 | k+1,hk=>by
  have ih:=KP h k (by omega)
  unfold AI.turns
  exact(ih.EW (by omega) (by omega)).mono (by omega) (by omega)
end AI
theorem Zd {V V3 V4:AL}{ls ls3 ls4:Vector BG 4}{ev ev4:List Event}{k:Int}{u:Ao}(c:decide ((AE.BW V.w u).2.2.2=0)=true)
  (e3:A5 V3 ls3 ev=({ A5 V ls ev with w:=(AE.BW V.w u).1 }:AI).set k { (A5 V ls ev).at_ k with state:=2,Au:=(AE.BW V.w u).2.1 })
  (e:A5 V4 ls4 ev4=(A5 V3 ls3 ev).G2 (AE.BW V.w u).2.2.1):A5 V4 ls4 ev4=(A5 V ls ev).named k u:=by
 rw [e,e3]
 exact(if_pos c).symm
theorem Zl {V V4:AL}{ls ls4:Vector BG 4}{ev ev4:List Event}{k:Int}{u:Ao}(c:decide ((AE.BW V.w u).2.2.2=0)=false)(c2:decide ((AE.BW V.w u).2.2.2=4)=true)
  (e:A5 V4 ls4 ev4=(A5 V ls ev).tell k AI.noRoom):A5 V4 ls4 ev4=(A5 V ls ev).named k u:=e.trans ((if_neg (by show ¬ decide ((AE.BW V.w u).2.2.2=0)=true;rw [c];decide)).trans (if_pos c2)).symm
theorem ZY {V V4:AL}{ls ls4:Vector BG 4}{ev ev4:List Event}{k:Int}{u:Ao}(c:decide ((AE.BW V.w u).2.2.2=0)=false)(c2:decide ((AE.BW V.w u).2.2.2=4)=false)
  (e:A5 V4 ls4 ev4=(A5 V ls ev).tell k AI.Mh):A5 V4 ls4 ev4=(A5 V ls ev).named k u:=e.trans ((if_neg (by show ¬ decide ((AE.BW V.w u).2.2.2=0)=true;rw [c];decide)).trans (if_neg (by show ¬ decide ((AE.BW V.w u).2.2.2=4)=true;rw [c2];decide))).symm
theorem VG {V V4:AL}{ls ls4:Vector BG 4}{ev ev4:List Event}{k:Int}{u:Ao}(h0:0≤k)(h1:k < 4)(c:(!decide ((Words.parse u).2=0))=false)(c2:decide ((Words.parse u).1.verb=20)=false)
  (e:A5 V4 ls4 ev4=(A5 { V with w:=(AE.EF V.w (V.Ax.at k).Au (Words.parse u).1).1 } ls ev).G2 (AE.EF V.w (V.Ax.at k).Au (Words.parse u).1).2.1):A5 V4 ls4 ev4=(A5 V ls ev).order k u:=by
 rw [e,OT]
 have ha:=CY V ls ev h0 h1
 unfold AI.order
 rw [if_neg (by rw [c];decide),if_neg (by rw [c2];decide),ha]
 rfl
theorem VV {V:AL}{ls:Vector BG 4}{ev:List Event}{k:Int}(h0:0≤k)(h1:k < 4)(c:decide ((V.Ax.at k).state=0)=true):A5 V ls ev=(A5 V ls ev).EW k:=by
 have ha:=CY V ls ev h0 h1
 exact(if_pos (show decide (((A5 V ls ev).at_ k).state=0)=true by rw [ha];exact c)).symm
theorem V7 {V:AL}{ls:Vector BG 4}{ev:List Event}{k:Int}(h0:0≤k)(h1:k < 4){sv:A2}{sl:BG}(hs:V.Ax.at k=sv)(hl:ls.at k=sl)(hq:sl.queue = [])(c:decide ((V.Ax.at k).state=0)=false) :
  A5 (V.BM k sv) (ls.put k ⟨sl.queue,sl.wait,sl.told⟩) ev=(A5 V ls ev).EW k:=by
 have ha:=CY V ls ev h0 h1
 rw [En h0 h1 hs hl (f:=fun x=>x) rfl,AI.L5 _ h0 h1]
 unfold AI.EW
 rw [if_neg (show ¬ decide (((A5 V ls ev).at_ k).state=0)=true by rw [ha];show ¬ decide ((V.Ax.at k).state=0)=true;rw [c];decide)]
 have e:((A5 V ls ev).at_ k).queue = []:=by rw [ha,hl];exact hq
 split
 ·rfl
 ·rename_i q r e2;rw [e] at e2;cases e2
theorem Dk {V:AL}{ls:Vector BG 4}{ev:List Event}{k:Int}(h0:0≤k)(h1:k < 4){sv:A2}{sl:BG}(hs:V.Ax.at k=sv)(hl:ls.at k=sl){q:Ao}{r:List Ao}(hq:sl.queue=q :: r)(c:decide ((V.Ax.at k).state=0)=false)(h':Hd) :
  A5 (V.BM k { sv with Eg:=⟨sv.Eg.now,sv.Eg.Cy,sv.Eg.ret,h'⟩,out:=⟨sv.out.wait,0,false,sv.out.ring,sv.out.cut⟩ }) (ls.put k ⟨r,sl.wait,sl.told⟩) ev=(A5 V ls ev).set k { (A5 V ls ev).at_ k with queue:=r }.Fb∧((A5 V ls ev).at_ k).queue=q :: r ∧
  (A5 V ls ev).EW k=if sv.out.CC=true then(A5 V ls ev).set k { (A5 V ls ev).at_ k with queue:=r }.Fb else if decide (sv.state=1)=true then((A5 V ls ev).set k { (A5 V ls ev).at_ k with queue:=r }.Fb).named k (Words.QZ 32 (Words.R9 32 q)) else((A5 V ls ev).set k { (A5 V ls ev).at_ k with queue:=r }.Fb).order k q:=by
 have ha:=CY V ls ev h0 h1
 have e:((A5 V ls ev).at_ k).queue=q :: r:=by rw [ha,hl];exact hq
 refine⟨En h0 h1 hs hl (f:=fun x=>{ x with queue:=r }.Fb) rfl,e,?_⟩
 unfold AI.EW
 rw [if_neg (show ¬ decide (((A5 V ls ev).at_ k).state=0)=true by rw [ha];show ¬ decide ((V.Ax.at k).state=0)=true;rw [c];decide)]
 split
 ·rename_i e2;rw [e] at e2;cases e2
 ·rename_i q' r' e2
  rw [e] at e2
  obtain⟨rfl,rfl⟩:=List.cons.inj e2
  have e3:((A5 V ls ev).at_ k).pg.CC=sv.out.CC:=by rw [ha,hs];rfl
  have e4:((A5 V ls ev).at_ k).state=sv.state:=by rw [ha,hs];rfl
  simp only [e3,e4]
theorem Tu {H:AI}{i:Int}(h0:0≤i):H.turns (i+1).toNat=(H.turns i.toNat).EW i:=by
 obtain⟨m,rfl⟩:=Int.eq_ofNat_of_zero_le h0
 rfl
end Go.Ing
/- A house: who comes, bytes that come: plain laws for the walks. -/
namespace Go.Ing
open Go
def Zw:Hd:=⟨none,0,0⟩
def ES (t:AP)(g:Page.Pg):A2:=⟨1,-1,t,⟨[],false,false,Zw⟩,⟨Zw,g.shown,g.CC,g.ring,g.cut⟩,Zw⟩
def Zb:BG:=⟨[],[],[]⟩
theorem SD {v:A2}{l:BG}{u:Ao}(hw:v.out.wait.len=l.wait.length):(Cp v l).send u=Cp { v with out:=⟨v.out.wait,(Page.send v.out u).1.shown,(Page.send v.out u).1.CC,(Page.send v.out u).1.ring,(Page.send v.out u).1.cut⟩ } l:=by
 unfold Aq.send Page.send
 rw [JU hw]
 cases h:Page.Bh v.out with
 | false=>rfl
 | true=>
  have e:(Cp v l).pg.cut=v.out.cut:=rfl
  cases hc:v.out.cut with
  | true=>rw [e,hc];show Cp v l=Cp { v with out:=⟨v.out.wait,v.out.shown,v.out.CC,v.out.ring,v.out.cut⟩ } l;rfl
  | false=>rw [e,hc];rfl
def IP (t:AP)(opt:Int):AP:=if decide ((t.DQ opt).2.1 = [])=true then((t.DQ opt).1.Ask opt).1 else(t.DQ opt).1
def MK (t:AP)(opt:Int):Ao:=if decide ((t.DQ opt).2.1 = [])=true then(t.DQ opt).2.1++((t.DQ opt).1.Ask opt).2.1 else(t.DQ opt).2.1 ++ []
def LM (t:AP)(g:Page.Pg)(opt:Int):Page.Pg:=(Page.send ⟨Zw,g.shown,g.CC,g.ring,g.cut⟩ (MK t opt)).1
theorem M1 (t:AP)(g:Page.Pg)(opt:Int):(Cp (ES t g) Zb).offer opt=Cp (ES (IP t opt) (LM t g opt)) Zb:=by
 have h:=SD (v:=ES (IP t opt) g) (l:=Zb) (u:=MK t opt) rfl
 unfold Aq.offer
 have e:(Cp (ES t g) Zb).Ds=t:=rfl
 rw [e]
 by_cases c:decide ((t.DQ opt).2.1 = [])=true
 ·rw [if_pos c]
  have e1:IP t opt=((t.DQ opt).1.Ask opt).1:=if_pos c
  have e2:MK t opt = []++((t.DQ opt).1.Ask opt).2.1:=(if_pos c).trans (by rw [of_decide_eq_true c])
  rw [← e1,← e2]
  exact h
 ·rw [if_neg c]
  have e1:IP t opt=(t.DQ opt).1:=if_neg c
  have e2:MK t opt=(t.DQ opt).2.1 ++ []:=if_neg c
  rw [← e1,← e2]
  exact h
def Dy (j:Int):Int:=(((Vector.replicate 2 (default:Int)).put 0 3).put 1 31).at j
def Ew:Nat→AP × Page.Pg
 | 0=>(default,⟨0,false,[],false⟩)
 | j+1=>(IP (Ew j).1 (Dy j),LM (Ew j).1 (Ew j).2 (Dy j))
theorem HH {j:Int}(h0:0≤j):Ew (j+1).toNat=(IP (Ew j.toNat).1 (Dy j),LM (Ew j.toNat).1 (Ew j.toNat).2 (Dy j)):=by
 obtain⟨m,rfl⟩:=Int.eq_ofNat_of_zero_le h0
 rfl
theorem Pa:Cp (ES (Ew 2).1 (Ew 2).2) Zb=(({ (default:Aq) with state:=1,Au:=-1 }).offer 3).offer 31:=by
 have h0:({ (default:Aq) with state:=1,Au:=-1 }:Aq)=Cp (ES (Ew 0).1 (Ew 0).2) Zb:=rfl
 rw [h0,M1,M1]
 rfl
theorem Fk (t:AP)(opt:Int):(t.DQ opt).2.1.length≤3:=by
 unfold AP.DQ
 split
 ·exact Nat.zero_le _
 ·split
  ·exact Nat.zero_le _
  ·split
   ·exact Nat.zero_le _
   ·exact Nat.le_refl 3
theorem IG (t:AP)(opt:Int):(t.Ask opt).2.1.length≤3:=by
 unfold AP.Ask
 split
 ·exact Nat.zero_le _
 ·split
  ·exact Nat.zero_le _
  ·split
   ·exact Nat.zero_le _
   ·exact Nat.le_refl 3
theorem AI.Fit.comes {H:AI}{n m:Nat}(h:H.Fit n m){k:Int}(h0:0≤k)(h1:k < 4)(t:AP)(g:Page.Pg):(H.set k (Cp (ES t g) Zb)).Fit n m:=
 h.set h0 h1 (Nat.zero_le _) (fun e=>absurd (show(1:Int)=2 from e) (by decide)) (fun u hu=>by cases hu) ⟨Nat.zero_le _,fun u hu=>by cases hu⟩
theorem AI.Fit.J9 {H:AI}{n m:Nat}(h:H.Fit n m){k:Int}(h0:0≤k)(h1:k < 4):(H.J9 k).Fit (n+221) (m+220):=by
 unfold AI.J9
 rw [← Pa]
 exact((h.comes h0 h1 _ _).tell h0 h1 (show AI.Hb.length≤_ by decide)).BX.mono (by omega) (by omega)
end Go.Ing
/- A house: an act: plain laws for the walks. -/
namespace Go.Ing
open Go
theorem Qf {v:A2}{l:BG}(h:v.Eg.queue.len=l.queue.length):(Cp v l).Kw=Bg.Bh v.Eg l.queue:=by
 unfold Aq.Kw Bg.Bh Bg.JT
 rw [h];rfl
theorem Vg {v:A2}{l:BG}{u:Ao}(h:v.Eg.queue.len=l.queue.length)(c:Bg.Bh v.Eg l.queue=false):(Cp v l).typed u=(Cp v l,0):=if_pos (by rw [Qf h,c];rfl)
theorem ZA {v:A2}{l:BG}{u:Ao}(h:v.Eg.queue.len=l.queue.length)(c:Bg.Bh v.Eg l.queue=true)(q:Hd) :
  (Cp v l).typed u=(Cp { v with Eg:=⟨(Bg.feed (Bg.start v.Eg l.queue) u).now,(Bg.feed (Bg.start v.Eg l.queue) u).Cy,(Bg.feed (Bg.start v.Eg l.queue) u).ret,q⟩ } ⟨(Bg.feed (Bg.start v.Eg l.queue) u).queue,l.wait,l.told⟩,(Bg.feed (Bg.start v.Eg l.queue) u).lost):=
 (if_neg (by rw [Qf h,c];decide)).trans rfl
theorem R8 (s:Aq)(u:Ao):(s.typed u).1.told=s.told∧(s.typed u).1.state=s.state∧(s.typed u).1.Au=s.Au∧(s.typed u).1.wait=s.wait∧(AI.cM s.queue→AI.cM (s.typed u).1.queue):=by
 unfold Aq.typed
 split
 ·exact⟨rfl,rfl,rfl,rfl,fun h=>h⟩
 ·rename_i c
  refine⟨rfl,rfl,rfl,rfl,fun _=>?_⟩
  have hg:Bg.Bh ⟨s.now,s.Cy,s.ret,⟨none,s.queue.length,0⟩⟩ s.queue=true:=by
   have:s.Kw=true:=by simpa using c
   exact this
  have ho:=Bg.Ul u ((Bg.HT (l:=⟨s.now,s.Cy,s.ret,⟨none,s.queue.length,0⟩⟩) rfl).1 hg)
  exact⟨ho.len,fun q hq=>((Bg.GB q).1 (ho.queue q hq)).1⟩
theorem PQ (s:Aq)(u:Ao):(s.send u).told=s.told∧(s.send u).state=s.state∧(s.send u).Au=s.Au∧(s.send u).wait=s.wait∧(s.send u).queue=s.queue:=by
 unfold Aq.send
 split
 ·exact⟨rfl,rfl,rfl,rfl,rfl⟩
 ·split<;>exact⟨rfl,rfl,rfl,rfl,rfl⟩
def C6 (s:Aq)(u:Ao):Aq × Int:=(s.bytes u).1.typed (s.bytes u).2
theorem Dw (s:Aq)(u:Ao):(C6 s u).1.told=s.told∧(C6 s u).1.state=s.state∧(C6 s u).1.Au=s.Au∧(C6 s u).1.wait=s.wait∧(AI.cM s.queue→AI.cM (C6 s u).1.queue):=by
 have h1:=R8 (s.bytes u).1 (s.bytes u).2
 have h2:=PQ { s with Ds:=(s.Ds.Di u).1 } (s.Ds.Di u).2.2.1
 obtain⟨a,b,c,d,e⟩:=h1
 obtain⟨a',b',c',d',e'⟩:=h2
 exact⟨a.trans a',b.trans b',c.trans c',d.trans d',fun hq=>e (by rw [show(s.bytes u).1.queue=s.queue from e'];exact hq)⟩
theorem I7 (H:AI)(k:Int)(u:Ao):H.byte k u=(if decide (0 < (C6 (H.at_ k) u).2)=true then(H.set k (C6 (H.at_ k) u).1).tell k AI.Md else H.set k (C6 (H.at_ k) u).1).BX:=rfl
def heard (v:A2)(u:Ao):A2:={ v with Ds:=(v.Ds.Di u).1,out:=⟨v.out.wait,(Page.send v.out (v.Ds.Di u).2.2.1).1.shown,(Page.send v.out (v.Ds.Di u).2.2.1).1.CC,(Page.send v.out (v.Ds.Di u).2.2.1).1.ring,(Page.send v.out (v.Ds.Di u).2.2.1).1.cut⟩ }
theorem QQ {v:A2}{l:BG}{u:Ao}(hw:v.out.wait.len=l.wait.length):(Cp v l).bytes u=(Cp (heard v u) l,(v.Ds.Di u).2.1):=by
 unfold Aq.bytes
 exact congrArg (fun x=>(x,_)) (SD (v:={ v with Ds:=(v.Ds.Di u).1 }) (l:=l) (u:=(v.Ds.Di u).2.2.1) hw)
theorem Hl {v:A2}{l:BG}{u:Ao}(hw:v.out.wait.len=l.wait.length)(h:v.Eg.queue.len=l.queue.length)(c:Bg.Bh v.Eg l.queue=false):C6 (Cp v l) u=(Cp (heard v u) l,0):=by
 unfold C6
 rw [QQ hw]
 exact Vg (v:=heard v u) h c
theorem Iu {v:A2}{l:BG}{u:Ao}(hw:v.out.wait.len=l.wait.length)(h:v.Eg.queue.len=l.queue.length)(c:Bg.Bh v.Eg l.queue=true)(q:Hd) :
  C6 (Cp v l) u=(Cp { heard v u with Eg:=⟨(Bg.feed (Bg.start v.Eg l.queue) (v.Ds.Di u).2.1).now,(Bg.feed (Bg.start v.Eg l.queue) (v.Ds.Di u).2.1).Cy,(Bg.feed (Bg.start v.Eg l.queue) (v.Ds.Di u).2.1).ret,q⟩ } ⟨(Bg.feed (Bg.start v.Eg l.queue) (v.Ds.Di u).2.1).queue,l.wait,l.told⟩,(Bg.feed (Bg.start v.Eg l.queue) (v.Ds.Di u).2.1).lost):=by
 unfold C6
 rw [QQ hw]
 exact ZA (v:=heard v u) h c q
namespace AI
variable {H:AI} {n m:Nat}
theorem RG {i:Int}(h0:0≤i):H.Ef (i+1).toNat=(H.Ef i.toNat).set i { (H.Ef i.toNat).at_ i with told:= [] }:=by
 obtain⟨k,rfl⟩:=Int.eq_ofNat_of_zero_le h0
 rfl
theorem HJ:∀ k:Nat,(H.Ef k).w=H.w∧(H.Ef k).last=H.last∧(H.Ef k).B7=H.B7
 | 0=>⟨rfl,rfl,rfl⟩
 | k+1=>HJ k
theorem N9:∀ k:Nat,k≤4→∀ j:Int,0≤j→j < 4→(H.Ef k).at_ j=if j < k then { H.at_ j with told:= [] } else H.at_ j
 | 0,_,j,j0,_=>by rw [if_neg (by omega)];rfl
 | k+1,hk,j,j0,j1=>by
  have ih:=N9 k (by omega)
  show(((H.Ef k).set k _).at_ j)=_
  rw [Cl _ (by omega) (by omega) j0]
  by_cases c:j=(k:Int)
  ·subst c
   rw [if_pos rfl,if_pos (by omega),ih _ j0 j1,if_neg (by omega)]
  ·rw [if_neg c,ih j j0 j1]
   by_cases c2:j < (k:Int)
   ·rw [if_pos c2,if_pos (by omega)]
   ·rw [if_neg c2,if_neg (by omega)]
theorem Gy {j:Int}(j0:0≤j)(j1:j < 4):H.begun.at_ j={ H.at_ j with told:= [] }:=by
 have:=N9 (H:={ H with B7:=H.B7+1,last:= [] }) 4 (Nat.le_refl 4) j j0 j1
 rw [if_pos (by omega)] at this
 exact this
theorem Fit.begun (h:H.Fit n m):H.begun.Fit 0 0:=by
 have hs:=HJ (H:={ H with B7:=H.B7+1,last:= [] }) 4
 refine⟨by show(Ef _ 4).w.LS;rw [hs.1];exact h.FP,fun j a b=>?_,by show(Ef _ 4).last.length≤0;rw [hs.2.1];exact Nat.le_refl 0,fun j a b=>?_,fun j a b=>?_,fun j a b=>?_⟩<;>rw [Gy a b]
 ·exact Nat.le_refl 0
 ·exact h.Au j a b
 ·exact h.wait j a b
 ·exact h.queue j a b
theorem Fit.typed (h:H.Fit n m){k:Int}(h0:0≤k)(h1:k < 4)(u:Ao):(H.set k (C6 (H.at_ k) u).1).Fit n m:=by
 obtain⟨a,b,c,d,e⟩:=Dw (H.at_ k) u
 exact h.set h0 h1 (by rw [a];exact h.told k h0 h1) (by rw [b,c];exact h.Au k h0 h1) (by rw [d];exact h.wait k h0 h1) (e (h.queue k h0 h1))
theorem Fit.G3 (h:H.Fit n m){k:Int}(h0:0≤k)(h1:k < 4)(z:Int):(H.set k ((H.at_ k).G3 z)).Fit n m:=
 h.set h0 h1 (h.told k h0 h1) (h.Au k h0 h1) (h.wait k h0 h1) (h.queue k h0 h1)
theorem Fit.Om (h:H.Fit n m)(d:Int):(H.Om d).Fit (n+400) (m+400):=by
 have h1:=KP h 4 (Nat.le_refl 4)
 have hr:=AE.JR (draw:=d) h1.FP
 have hl:=AE.P9 h1.FP.HS d
 exact(((h1.land hr.1).G2 hr.2).BX).mono (by omega) (by omega)
theorem Fit.byte (h:H.Fit 0 0){k:Int}(h0:0≤k)(h1:k < 4)(u:Ao):(H.byte k u).Fit 1000 1000:=by
 rw [I7]
 refine(Fit.BX (n:=1) (m:=0) ?_).mono (by omega) (by omega)
 split
 ·exact(h.typed h0 h1 _).tell h0 h1 (show Md.length≤_ by decide)
 ·exact(h.typed h0 h1 _).mono (by omega) (by omega)
theorem JP (P:AI→Prop)(h0:P H)(hp:∀ d,P (H.Om d))(hc:∀ k,0≤k→k < 4→P (H.J9 k))(hb:∀ k u,0≤k→k < 4→P (H.byte k u))(ht:∀ k z,0≤k→k < 4→P ((H.set k ((H.at_ k).G3 z)).BX))(hl:∀ k,0≤k→k < 4→P (H.leave k).BX)(a:Bx):P (H.D0 a).1:=by
 unfold AI.D0
 split
 ·dsimp only;exact hp a.n
 ·split
  ·dsimp only;exact h0
  ·split
   ·dsimp only;exact h0
   ·rename_i c
    have hs:0≤a.BM∧a.BM < 4:=by simp only [Bool.or_eq_true,decide_eq_true_eq] at c;omega
    split
    ·dsimp only;exact h0
    ·split
     ·dsimp only;exact hc _ hs.1 hs.2
     ·split
      ·dsimp only;exact hb _ _ hs.1 hs.2
      ·split
       ·dsimp only;exact ht _ _ hs.1 hs.2
       ·dsimp only;exact hl _ hs.1 hs.2
theorem Fit.D0 (h:H.Fit 0 0)(a:Bx):(H.D0 a).1.Fit 1000 1000:=
 JP (fun X=>X.Fit 1000 1000) (h.mono (by omega) (by omega)) (fun d=>(h.Om d).mono (by omega) (by omega)) (fun k h0 h1=>(h.J9 h0 h1).mono (by omega) (by omega)) (fun k u h0 h1=>h.byte h0 h1 u)
  (fun k z h0 h1=>((h.G3 h0 h1 z).BX).mono (by omega) (by omega)) (fun k h0 h1=>((h.leave h0 h1).BX).mono (by omega) (by omega)) a
theorem Fit.act (h:H.Fit n m)(a:Bx):(H.act a).1.Fit (n+1000) (m+1000):=by
 unfold AI.act
 split
 ·exact h.mono (by omega) (by omega)
 ·exact(h.begun.D0 a).mono (by omega) (by omega)
theorem GI {H:AI}(c:decide (400≤H.B7)=false)(a:Bx):H.act a=H.begun.D0 a:=if_neg (by rw [c];decide)
end AI
theorem Gf (V:AL)(ls:Vector BG 4)(ev:List Event){k:Int}(h0:0≤k)(h1:k < 4):decide (((A5 V ls ev).at_ k).state=0)=decide ((V.Ax.at k).state=0):=by rw [CY V ls ev h0 h1];rfl
theorem FG {V:AL}{ls:Vector BG 4}{ev:List Event}{k:Int}(h0:0≤k)(h1:k < 4){sv v:A2}{sl l:BG}(hs:V.Ax.at k=sv)(hl:ls.at k=sl){u:Ao}{z:Int}(e:C6 (Cp sv sl) u=(Cp v l,z)) :
  A5 (V.BM k v) (ls.put k l) ev=(A5 V ls ev).set k (C6 ((A5 V ls ev).at_ k) u).1∧(C6 ((A5 V ls ev).at_ k) u).2=z:=by
 have ha:C6 ((A5 V ls ev).at_ k) u=(Cp v l,z):=by rw [CY V ls ev h0 h1,hs,hl];exact e
 rw [Iv V ls ev h0 h1,ha]
 exact⟨rfl,rfl⟩
theorem I3 {V V2:AL}{ls ls2:Vector BG 4}{ev:List Event}{k:Int}(h0:0≤k)(h1:k < 4){u:Ao}{z:Int}(e:A5 V2 ls2 ev=(A5 V ls ev).set k (C6 ((A5 V ls ev).at_ k) u).1∧(C6 ((A5 V ls ev).at_ k) u).2=z)(hF:(A5 V ls ev).Fit 0 0):(A5 V2 ls2 ev).Fit 0 0:=by
 rw [e.1];exact hF.typed h0 h1 u
theorem Ld {V V2 V3 V4:AL}{ls ls2 ls3 ls4:Vector BG 4}{ev ev3 ev4:List Event}{k:Int}(_:0≤k)(_:k < 4){u:Ao}{z:Int}(e:A5 V2 ls2 ev=(A5 V ls ev).set k (C6 ((A5 V ls ev).at_ k) u).1∧(C6 ((A5 V ls ev).at_ k) u).2=z)
  (e3:(decide (0 < z)=true∧A5 V3 ls3 ev3=(A5 V2 ls2 ev).tell k AI.Md)∨(decide (0 < z)=false∧A5 V3 ls3 ev3=A5 V2 ls2 ev)) (e4:A5 V4 ls4 ev4=(A5 V3 ls3 ev3).BX):A5 V4 ls4 ev4=(A5 V ls ev).byte k u:=by
 rw [e4,I7,e.2]
 rcases e3 with ⟨c,e3⟩ | ⟨c,e3⟩
 ·rw [e3,if_pos c,e.1]
 ·rw [e3,if_neg (by rw [c];decide),e.1]
theorem YT (V:AL)(ls:Vector BG 4)(ev:List Event){k:Int}(h0:0≤k)(h1:k < 4){sv:A2}(hs:V.Ax.at k=sv)(n:Int):sv.out.ring.take (max 0 (min n (sv.out.ring.length:Int))).toNat=((A5 V ls ev).at_ k).out n:=by
 rw [CY V ls ev h0 h1,hs];rfl
theorem V0 (t:AP)(u:Ao):(t.Di u).2.1.length≤u.length:=by
 unfold AP.Di
 split
 ·exact Nat.zero_le _
 ·exact(AP.Xx u t).1
end Go.Ing
/- A house, from outside: plain laws for the walks. -/
namespace Go.Ing
open Go
namespace AI
def DR (H:AI)(i:Int):Int × Int:=if decide ((H.at_ i).state=2)=true then(2,(H.at_ i).Au) else((H.at_ i).state,-1)
theorem SO:∀(l:List Bx) (H:AI) (a:Bx),run H (l ++ [a])=(((run H l).1.act a).1,(run H l).2 ++ [((run H l).1.act a).2])
 | [],_,_=>rfl
 | b :: r,H,a=>by
  have ih:=SO r (H.act b).1 a
  show((run (H.act b).1 (r ++ [a])).1,(H.act b).2 :: (run (H.act b).1 (r ++ [a])).2)=_
  rw [ih];rfl
theorem Yf {H:AI}{xs:List Bx}{k:Int}(h0:0≤k)(h1:k < xs.length):run H (xs.take (k+1).toNat)=(((run H (xs.take k.toNat)).1.act (xs.getD k.toNat default)).1,(run H (xs.take k.toNat)).2 ++ [((run H (xs.take k.toNat)).1.act (xs.getD k.toNat default)).2]):=by
 obtain⟨m,rfl⟩:=Int.eq_ofNat_of_zero_le h0
 have hm:m < xs.length:=by omega
 show run H (xs.take (m+1))=(((run H (xs.take m)).1.act (xs.getD m default)).1,(run H (xs.take m)).2 ++ [((run H (xs.take m)).1.act (xs.getD m default)).2])
 rw [List.take_add_one,List.getElem?_eq_getElem hm,List.getD_eq_getElem?_getD,List.getElem?_eq_getElem hm]
 exact SO _ _ _
def Fits (H:AI):Prop:=∃ n m,H.Fit n m
theorem Fits.act {H:AI}(h:H.Fits)(a:Bx):(H.act a).1.Fits:=by
 obtain⟨n,m,h⟩:=h
 exact⟨_,_,h.act a⟩
theorem Fits.run:∀(l:List Bx) {H:AI},H.Fits→(run H l).1.Fits
 | [],_,h=>h
 | a :: r,_,h=>Fits.run r (h.act a)
theorem U8:AG.new.LS:=by
 refine⟨fun i=>?_,fun i=>?_,fun i=>?_⟩
 ·rcases Vector.Nu AG.new.AO i with e | ⟨j,j0,j1,e⟩
  ·rw [e];exact Nat.zero_le _
  ·rw [e]
   have:j=0∨j=1∨j=2∨j=3∨j=4∨j=5∨j=6∨j=7∨j=8:=by omega
   rcases this with h | h | h | h | h | h | h | h | h<;>subst h<;>decide
 ·rcases Vector.Nu AG.new.AN i with e | ⟨j,j0,j1,e⟩
  ·rw [e];exact Nat.zero_le _
  ·rw [e]
   have:j=0∨j=1∨j=2∨j=3∨j=4∨j=5:=by omega
   rcases this with h | h | h | h | h | h<;>subst h<;>decide
 ·rcases Vector.Nu AG.new.BS i with e | ⟨j,j0,j1,e⟩
  ·rw [e];exact Nat.zero_le _
  ·rw [e]
   have:j=0∨j=1∨j=2∨j=3∨j=4∨j=5:=by omega
   rcases this with h | h | h | h | h | h<;>subst h<;>decide
theorem MN {k:Int}(h0:0≤k)(h1:k < 4):AI.new.at_ k=default:=by
 rcases four h0 h1 with e | e | e | e<;>subst e<;>rfl
theorem Z2:AI.new.Fit 0 0:=by
 refine⟨U8,fun k a b=>?_,Nat.le_refl 0,fun k a b=>?_,fun k a b=>?_,fun k a b=>?_⟩<;>rw [MN a b]
 ·exact Nat.le_refl 0
 ·exact fun e=>absurd (show(0:Int)=2 from e) (by decide)
 ·exact fun u hu=>by cases hu
 ·exact⟨Nat.zero_le _,fun u hu=>by cases hu⟩
end AI
theorem St.Zu {w0 w:World}{M:List Nat}{L l:List Ac}(h:St w0 M w L)(hl:∀ r∈l,r.CT = []∧r.ok w):St w0 M w (Ac.D7 l :: L):=by
 have hf:(Ac.D7 l).CT = []:=by
  show l.flatMap Ac.CT = []
  rw [List.flatMap_eq_nil_iff]
  exact fun r hr=>(hl r hr).1
 refine⟨h.os,h.tape,h.output,h.size,h.IX,fun r hr=>?_,fun r hr=>?_,List.pairwise_cons.2 ⟨fun s hs b hb=>?_,h.JN⟩⟩
 ·rcases List.mem_cons.1 hr with rfl | hr
  ·refine⟨fun r hr=>(hl r hr).2,?_⟩
   refine List.Pairwise.imp_of_mem (R:=fun _ _=>True) (fun {a b} ha hb _ x hx=>?_) (List.pairwise_of_forall (fun _ _=>trivial))
   rw [(hl a ha).1] at hx;cases hx
  ·exact h.ok r hr
 ·rcases List.mem_cons.1 hr with rfl | hr
  ·rw [hf];exact fun b hb=>by cases hb
  ·exact h.CT r hr
 ·rw [hf] at hb;cases hb
def Ni:Vector A2 4:=Vector.replicate 4 default
def Nh:Vector BG 4:=Vector.replicate 4 ⟨[],[],[]⟩
theorem Yz (T:Nat)(w:World):∀ r∈CJ T Ni Nh,r.CT = []∧r.ok w:=by
 have hs:∀ r∈Fm T default ⟨[],[],[]⟩,r.CT = []∧r.ok w:=fun r hr=>by
  unfold Fm at hr
  simp only [List.mem_cons,List.mem_nil_iff,or_false] at hr
  rcases hr with rfl | rfl | rfl<;>exact⟨rfl, .inl ⟨rfl,rfl⟩⟩
 intro r hr
 have e:CJ T Ni Nh=Fm T default ⟨[],[],[]⟩++(Fm T default ⟨[],[],[]⟩++(Fm T default ⟨[],[],[]⟩++Fm T default ⟨[],[],[]⟩)):=rfl
 rw [e] at hr
 simp only [List.mem_append] at hr
 rcases hr with h | h | h | h<;>exact hs r h
def Ci (v:A2):Int × Int:=if decide (v.state=2)=true then(2,v.Au) else(v.state,-1)
theorem LW (V:AL)(ls:Vector BG 4)(ev:List Event){i:Int}(h0:0≤i)(h1:i < 4):Ci (V.Ax.at i)=(A5 V ls ev).DR i:=by
 unfold AI.DR
 rw [CY V ls ev h0 h1]
 rfl
end Go.Ing
/- Engine: calls of closures that read what they are handed; slices that are only read, beside boxes. -/
namespace Go.Ing
open Go
section
variable {P:Program} {n:Nat} {w0:World} {M:List Nat} {Q:Exit→Go.Act→World→Prop} {F:List (Nat × Value)} {L:List Ac} {ops:Array Oper} {rest:List Oper}
theorem Wa {d:Nat}{f:FuncId}{t:Nat}{caps:List Value}{args:List Operand}{ts:Array TypeId}{T:TypeId}{pos:String}{Cq:Array Edge}{vs:List Value}{H:World→Prop}{Post:Value→List Ac→Prop}{A K:List Ac}(hd:Nat.blt d n=true)(hc:CF P f)(hf:lk t F=some (.func (.func f) #[] caps.toArray))(ha:Nf F args vs)(hL:Ay L A K)
  (h:FC P f (vs++caps).toArray A H Post) (hH:∀ w,St w0 M w L→H w)
  (k:∀ v B,Post v B→GL P n w0 M ops Q rest ((d,v) :: F) (B++K)):GL P n w0 M ops Q (⟨some d, .call ⟨.value (.tmp t),args.toArray,ts⟩,T,pos,Cq,none⟩ :: rest) F L:=by
 intro a w hF hS
 refine wpList_plain rfl fun K' hK=>?_
 unfold Oper.wp
 rw [Qg hc hF hf ha]
 show Calls _ _ _ _ _
 refine Calls.mono (h w (hS.perm hL.perm).focus (hH w hS)) fun e w' he=>?_
 obtain⟨v,rfl,B,hP,hB⟩:=he
 exact hK _ _ (k v B hP _ _ (hF.put (by simpa [Nat.blt_eq] using hd) v) ((hS.perm hL.perm).frame hB))
def fP (w:World)(M:List Nat)(h:Hd)(T sz:Nat)(cs:List Value):Prop:=Rd w h T sz cs∧(cs≠ []→∀ b o,h.a=some ⟨b,o,none⟩→b ∉ M)
theorem Kn.Zt {h:Hd}{T sz:Nat}{cs:List Value}(hr:fP w0 M h T sz cs):Kn w0 M L h T sz cs:=fun w hS=>by
 by_cases hc:cs = []
 ·subst hc;exact⟨hr.1.1,fun h=>absurd rfl h⟩
 ·exact hS.gR hr.1 (hr.2 hc)
end
theorem Rd.pull {w0 w:World}{L A K:List Ac}{h:Hd}{T sz:Nat}{cs:List Value}(hr:Rd w0 h T sz cs)(hS:St w0 [] w L)(hp:Ay L A K):fP w (Cc A) h T sz cs:=
 ⟨hS.rd hr,fun hne b o e=>by
  obtain⟨b',o',C,fz,h1,h2,_⟩:=hr.2 hne
  rw [e] at h1
  injection h1 with h1
  injection h1 with h1
  subst h1
  exact Ot h2 (by simp) hS hp⟩
instance:Inhabited AL:=⟨⟨default,Vector.replicate 4 default,0,⟨none,0,0⟩⟩⟩
end Go.Ing
/- Engine: the texts in a slice of acts that came in, and how much they can take. -/
namespace Go.Ing
open Go Go.RowKit Go.ChangeShapes Go.WideShapes Go.ChangeAt
section
variable {H:Type} {enc:TypeId × Value→H} {P:Program} {w:World}
theorem M3 {e:TypeId}{d:DataW H}:∀ {l:List (DataW H)},d∈l→∀ n∈d.weights P e,n∈DataW.weightsAll P e l
 | [],h,_,_=>by cases h
 | x :: r,h,n,hn=>by
  simp only [DataW.weightsAll]
  rcases List.mem_cons.1 h with rfl | h
  ·exact List.mem_append_left _ hn
  ·exact List.mem_append_right _ (M3 h n hn)
theorem Ts {t E TS:TypeId}{fs:Array Field}{h:Hd}{d:DataW H}{p:List MemPlace}{T0:Nat}{xs:List Bx}(hT:P.underlying t=some (.slice E))(hE:P.underlying E=some (.struct fs))(hf:(fs[3]?).map (fun f=>(f.type,f.offset))=some (TS,3))(hS:P.underlying TS=some .string)(zE:P.cellsOf E=4)(zS:P.cellsOf TS=1)
  (hd:DataW.Trod enc P w 0 (fun _=>true) true t h.val d p) (hr:Rd w h T0 4 (xs.flatMap Bx.enc)) (hw:∀ n∈d.weights P t,n≤reachBytes):∀ a∈xs,a.bytes.length≤140737488351232:=by
 have hlen:h.len=xs.length:=hr.LO Bx.fl (by decide)
 intro a ha
 obtain⟨i,hi,rfl⟩:=List.getElem_of_mem ha
 have hb:∃ b o,h.a=some ⟨b,o,none⟩:=by
  have hne:xs.flatMap Bx.enc≠ []:=fun e=>by
   have:=congrArg List.length e
   rw [C1 Bx.fl.len] at this
   simp only [List.length_nil] at this
   omega
  obtain⟨b,o,_,_,e,_⟩:=hr.2 hne
  exact⟨b,o,e⟩
 obtain⟨b,o,hb⟩:=hb
 obtain⟨fuel,hfu⟩:=hd
 have hv:h.val = .slice (some ⟨b,o,none⟩) h.len h.cap:=by rw [← hb];rfl
 have hcs:h.val.cells.toList = [.slice (some ⟨b,o,none⟩) h.len h.cap]:=by rw [hv];rfl
 rw [hcs] at hfu
 rcases DataW.trod_slice hT hfu with ⟨h3,_⟩ | ⟨a',len,cap,elems,rest,m,_,h3,h4,_,hlc,_,h5,hel,_⟩
 ·simp at h3
 ·simp at h3
  obtain⟨rfl,rfl,rfl⟩:=h3
  have hd':d = .slice (elems.map (·.1)) (rest.map (·.1)):=congrArg Prod.fst h4
  have h6:=hel i (by omega)
  have hi':i < elems.length:=by omega
  rw [List.getElem?_eq_getElem hi',Option.bind_eq_some_iff] at h6
  obtain⟨c,h7,h9⟩:=h6
  obtain⟨ys,q,_,hx,hl,hlen',hfl⟩:=DataW.trod_struct hE h9
  cases hf3:fs[3]? with
  | none=>rw [hf3] at hf;cases hf
  | some f=>
   rw [hf3] at hf
   simp at hf
   obtain⟨rfl,hoff⟩:=hf
   have h1:=hfl 3 f hf3
   have h3s:3 < fs.size:=by
    rcases Nat.lt_or_ge 3 fs.size with h' | h'
    ·exact h'
    ·rw [Array.getElem?_eq_none h'] at hf3;cases hf3
   have h2:ys[3]?=some (ys[3]'(by omega)):=List.getElem?_eq_getElem (by omega)
   rw [h2,zS,hoff] at h1
   obtain⟨s,e1,e2,_⟩:=DataW.trod_string hS h1
   have hc:=World.cells?_some h7
   rw [zE] at hc
   have h10:=hc.2.2 3 (by omega)
   have h11:c[3]?=some (.string s):=by
    have:=congrArg (fun l=>l[0]?) e1
    simp only [List.getElem?_take,List.getElem?_drop] at this
    simpa using this
   obtain⟨b',o',C,fz,k1,k2,k3,k4⟩:=Pe Bx.fl Bx.l3 hr hi (by decide)
   have k1':(some ⟨b,o,none⟩:Option Addr)=some ⟨b',o',none⟩:=hb.symm.trans k1
   injection k1' with k1'
   injection k1' with kb ko
   subst kb;subst ko
   rw [Ec,Ec] at h10
   unfold World.cell? at h10
   simp only [k2] at h10
   have k5:C[o+i * 4+3]?=some (BU xs[i].bytes):=by
    have:=congrArg (fun l=>l[0]?) k4
    simp only [List.getElem?_take,List.getElem?_drop] at this
    simpa [A7] using this
   have k6:BU xs[i].bytes = .string s:=by
    rw [h11] at h10
    have:C[o+i * 4+3]?=some (Value.string s):=by simpa using h10
    rw [k5] at this
    injection this
   have k7:s.data.toList=xs[i].bytes:=by
    simp [BU] at k6
    rw [← k6]
   have hmem:xs[i].bytes.length∈d.weights P t:=by
    rw [hd']
    simp only [DataW.weights,hT]
    refine List.mem_cons_of_mem _ (List.mem_append_left _ (M3 (d:=elems[i].1) (List.mem_map.2 ⟨elems[i],List.getElem_mem _,rfl⟩) _ ?_))
    have hx':elems[i].1 = .agg (ys.map (·.1)):=congrArg Prod.fst hx
    rw [hx']
    simp only [DataW.weights,hE]
    refine DataW.weights_mem_each (j:=3) (t:=f.type) (d:=(ys[3]'(by omega)).1) ?_ ?_ _ ?_
    ·rw [List.getElem?_map];simp [hf3]
    ·rw [List.getElem?_map,h2];rfl
    ·rw [e2,k7];simp [DataW.weights]
   exact hw _ hmem
end
end Go.Ing
/- What every turn keeps: a principle. -/
namespace Go.Ing
open Go
namespace AE
inductive Ss (w:AG):Ao→Prop
 | word {s:Ao}:s∈ [Lw,UC,Q8,JI,Mi,Mb,bM,Yb,Zk,PG]→Ss w s
 | room (r:Int):Ss w ([84,104,101,32]++(w.BS.at r).name ++ [46])
 | ways (r:Room):Ss w (Hf r 6)
 | list {s:Ao} (l:List Int):s∈ [[72,101,114,101,32,105,115],[89,111,117,32,104,97,118,101]]→Ss w (ND w s l ++ [46])
 | seen (k:Int):Ss w ((w.AN.at k).name ++ [32,105,115,32,104,101,114,101,46])
inductive Shape (x:Ao)(w:AG):Event→Prop
 | cJ {s:Ao}:Ss w s→Shape x w { F2 16 with text:=s }
 | said:Shape x w { F2 7 with text:=x }
 | kind {k:Int}:k=15∨k=17→Shape x w (F2 k)
 | dir {k d:Int}:k=1∨k=2→Shape x w { F2 k with dir:=d }
 | BJ {k i:Int}:k=3∨k=4∨(8≤k∧k≤13)→Shape x w { F2 k with BJ:=(w.AO.at i).name }
 | Gi {k:Int}:k=8∨k=9→Shape x w { F2 k with BJ:=QS }
 | cI {i to:Int}:Shape x w { F2 6 with other:=to,BJ:=(w.AO.at i).name }
 | TX {i to:Int}:Shape x w { F2 5 with BJ:=(w.AO.at i).name,text:=(w.AO.at to).name }
 | B9 {B2 n:Int}:1≤n→n≤3→Shape x w { F2 14 with other:=B2,n:=n }
def ev (w:AG)(b:Int)(e:Event):Event:=w.Hz (Da ⟨w,b,[]⟩ e) 6
theorem OP (T:AE)(e:Event):(T.BP e).out=T.out ++ [ev T.w T.b e]:=rfl
structure Rel (x:Ao)(q:Prop)(b:Int)(R:AG→List Event→AG→Prop):Prop where
 refl:∀ w,R w [] w
 trans:∀ {X l Y m Z},R X l Y→R Y m Z→R X (l++m) Z
 cS:∀ {w e},Shape x w e→R w [ev w b e] w
 BJ:∀ {w:AG} {i:Int} {t:Am},t.name=(w.AO.at i).name→t.kind=(w.AO.at i).kind→R w [] (w.Gw i t)
 B2:∀ {w:AG} {k f:Int},R w [] (w.Cw k { w.AN.at k with B2:=f })
 shut:∀ {w:AG} {r d:Int} {v:Bool},R w [] (w.NH r d v)
 Fu:∀ {w:AG} {d r:Int},R w [ev w b { F2 1 with dir:=d }] (w.Cw b { w.AN.at b with room:=r,B2:=0 })
 GG:q→∀ {w},R w [ev w b (F2 18)] w
 gone:∀ {X l w},R X l w→(∃ e∈l,(e.kind=18∨(e.kind=15∧b < 2))∧e.DK=b)→R X l (w.Cw b default)
structure On (R:AG→List Event→AG→Prop)(X:AG)(b:Int)(T:AE):Prop where
 b:T.b=b
 r:R X T.out T.w
theorem Ov (T:AE)(i j CZ at_:Int):((T.place i CZ at_).w.AO.at j).name=(T.w.AO.at j).name:=by
 show((T.w.AO.put i { T.w.AO.at i with CZ:=CZ,at_:=at_ }).at j).name=_
 unfold Vector.put Vector.at
 rw [List.getD_eq_getElem?_getD,List.getD_eq_getElem?_getD,List.getD_eq_getElem?_getD]
 simp only [Vector.toList_setIfInBounds]
 rw [List.getElem?_set]
 split
 ·rename_i h1
  split
  ·rw [h1];rfl
  ·rename_i h2
   rw [← h1,List.getElem?_eq_none (by omega)]
 ·rfl
theorem FQ (w:AG)(b:Int)(e:Event):(ev w b e).kind=e.kind∧(ev w b e).DK=b:=by
 obtain⟨a1,a2,_⟩:=AG.Iq w (Da ⟨w,b,[]⟩ e) 6
 refine⟨a1.trans ?_,a2.trans ?_⟩
 ·unfold Da;split<;>rfl
 ·unfold Da;split<;>rfl
section
variable {x:Ao} {q:Prop} {b:Int} {R:AG→List Event→AG→Prop} (K:Rel x q b R) {X:AG} {T:AE}
include K
theorem On.start (X:AG):On R X b ⟨X,b,[]⟩:=⟨rfl,K.refl X⟩
theorem On.land (h:On R X b T){w':AG}(hr:R T.w [] w'):On R X b { T with w:=w' }:=⟨h.b,by have:=K.trans h.r hr;rwa [List.append_nil] at this⟩
theorem On.BP (h:On R X b T){e:Event}(he:Shape x T.w e):On R X b (T.BP e):=⟨h.b,by rw [OP,h.b];exact K.trans h.r (K.cS he)⟩
theorem On.tell (h:On R X b T){s:Ao}(hs:Ss T.w s):On R X b (T.tell s):=h.BP K (.cJ hs)
theorem On.kind (h:On R X b T){k:Int}(hk:k=15∨k=17):On R X b (T.kind k):=h.BP K (.kind hk)
theorem On.ed (h:On R X b T){k:Int}(i:Int)(hk:k=3∨k=4∨(8≤k∧k≤13)):On R X b (T.BJ k i):=h.BP K (.BJ hk)
theorem On.DA (h:On R X b T){i:Int}{t:Am}(hn:t.name=(T.w.AO.at i).name)(hk:t.kind=(T.w.AO.at i).kind):On R X b (T.DA i t):=h.land K (w':=T.w.Gw i t) (K.BJ hn hk)
theorem On.place (h:On R X b T)(i CZ at_:Int):On R X b (T.place i CZ at_):=h.DA K rfl rfl
theorem On.Cj (h:On R X b T)(k f:Int):On R X b (T.Cj k f):=h.land K (w':=T.w.Cw k { T.w.AN.at k with B2:=f }) K.B2
theorem On.C7 (h:On R X b T)(r d:Int)(v:Bool):On R X b (T.C7 r d v):=h.land K (w':=T.w.NH r d v) K.shut
theorem On.list (h:On R X b T){s:Ao}(hs:s∈ [[72,101,114,101,32,105,115],[89,111,117,32,104,97,118,101]])(l:List Int):On R X b (T.list s l):=h.tell K (.list l hs)
theorem On.look (h:On R X b T):On R X b T.look:=by
 have hk:∀ {T':AE},On R X b T'→∀ k:Nat,On R X b (T'.Fe k):=fun {T'} h' k=>by
  induction k with
  | zero=>exact h'
  | succ k ih=>
   unfold Fe
   split
   ·refine ih.tell K ?_
    rw [(KS T' k).1]
    exact .seen k
   ·exact ih
 unfold AE.look
 split
 ·exact h.tell K (.word (by simp))
 ·refine hk ?_ 6
  have ha:On R X b T.Jv:=(h.tell K (.room _)).tell K (.ways _)
  unfold EE
  split
  ·exact ha.list K (by simp) _
  ·exact ha
theorem On.walk (h:On R X b T)(d:Int):On R X b (T.walk d):=by
 unfold AE.walk
 split
 ·exact h.tell K (.word (by simp))
 ·split
  ·exact h.tell K (.word (by simp))
  ·have i1:On R X b ((T.BP { F2 1 with dir:=d }).Fu ((T.w.BS.at T.me.room).CP.at d - 1)):=⟨h.b,by
    have:=K.trans h.r (K.Fu (w:=T.w) (d:=d) (r:=(T.w.BS.at T.me.room).CP.at d - 1))
    rw [← h.b] at this
    exact this⟩
   exact(i1.BP K (.dir (.inr rfl))).look K
theorem On.box (h:On R X b T)(u:Ao):On R X b (T.box u).1:=by
 unfold AE.box
 split
 ·exact h.tell K (.word (by simp))
 ·split
  ·exact h.tell K (.word (by simp))
  ·exact h
theorem On.A6 (h:On R X b T)(u:Ao):On R X b (T.A6 u).1:=by
 unfold AE.A6
 split
 ·split
  ·exact h
  ·exact h.tell K (.word (by simp))
 ·exact h.tell K (.word (by simp))
theorem On.DG (l:List Int):∀ {T':AE},On R X b T'→On R X b (T'.DG l):=by
 induction l with
 | nil=>exact fun h=>h
 | cons i r ih=>exact fun {T'} h=>ih ((h.place K i 1 T'.b).ed K i (.inl rfl))
theorem On.Kg (h:On R X b T)(l:List Int)(o:Order):On R X b (T.Kg l o):=by
 unfold AE.Kg
 refine On.DG K _ ?_
 split
 ·exact h.tell K (.word (by simp))
 ·exact h
theorem On.get (h:On R X b T)(o:Order):On R X b (T.get o):=by
 unfold AE.get
 split
 ·split
  ·exact h.box K _
  ·exact(h.box K _).Kg K _ _
 ·exact h.Kg K _ _
theorem On.Cs (h:On R X b T)(v to i:Int):On R X b (T.Cs v to i):=by
 unfold AE.Cs
 split
 ·exact h.tell K (.word (by simp))
 ·split
  ·exact(h.place K _ _ _).ed K _ (.inr (.inl rfl))
  ·split
   ·refine(h.place K i 1 to).BP K ?_
    rw [← Ov T i i 1 to]
    exact .cI
   ·split
    ·exact h.tell K (.word (by simp))
    ·refine(h.place K i 2 to).BP K ?_
     rw [← Ov T i i 2 to,← Ov T i to 2 to]
     exact .TX
theorem On.Es {v to:Int}(l:List Int):∀ {T':AE},On R X b T'→On R X b (T'.Es v to l):=by
 induction l with
 | nil=>exact fun h=>h
 | cons i r ih=>exact fun h=>ih (h.Cs K v to i)
theorem On.FH (h:On R X b T)(o:Order):On R X b (T.FH o):=by
 have ht:On R X b (T.Cu o).1:=by
  unfold Cu
  split
  ·exact h.box K _
  ·split
   ·exact h.A6 K _
   ·exact h
 unfold AE.FH
 split
 ·exact ht
 ·unfold Sa
  refine On.Es K _ ?_
  split
  ·exact ht.tell K (.word (by simp))
  ·exact ht
theorem On.E7 (h:On R X b T)(o:Order):On R X b (T.E7 o):=by
 unfold AE.E7
 generalize (if (!decide (o.nth=1) || o.Bm)=true then [] else o.name)=nm
 have hs:=h.A6 K nm
 split
 ·exact hs
 ·refine On.tell K ?_ (.word (by simp))
  split
  ·exact(hs.Cj K _ _).Cj K _ _
  ·exact hs.Cj K _ _
theorem On.before (h:On R X b T)(first:Bool)(i:Int)(v:Bool){k:Int}(hk:k=3∨k=4∨(8≤k∧k≤13)):On R X b (T.before first i v k):=by
 unfold AE.before
 split
 ·exact(On.DA K h (i:=i) (t:={ T.w.AO.at i with on:=v }) rfl rfl).ed K _ hk
 ·exact(h.ed K i hk).DA K rfl rfl
theorem On.Gi (h:On R X b T)(d:Int)(on:Bool){k:Int}(hk:k=8∨k=9):On R X b (T.Gi d on k):=by
 unfold AE.Gi
 split
 ·exact h.tell K (.word (by simp))
 ·split
  ·exact h.tell K (.word (by simp))
  ·refine On.BP K ?_ (.Gi hk)
   split
   ·exact(h.C7 K _ _ _).C7 K _ _ _
   ·exact h.C7 K _ _ _
theorem On.set (h:On R X b T){o:Order}(h0:12≤o.verb)(h1:o.verb≤17):On R X b (T.set o):=by
 unfold AE.set
 split
 ·rename_i c
  rw [Bool.and_eq_true] at c
  have h3:=of_decide_eq_true c.2
  have:o.verb=12∨o.verb=13:=by
   unfold setKind at h3
   split at h3
   ·omega
   ·split at h3
    ·omega
    ·rename_i c1 c2
     simp only [Bool.or_eq_true,decide_eq_true_eq,not_or] at c1 c2
     omega
  exact h.Gi K _ _ (by unfold Og;omega)
 ·split
  ·exact h.tell K (.word (by simp))
  ·split
   ·exact h.tell K (.word (by simp))
   ·split
    ·exact h.before K _ _ _ (by unfold Og;omega)
    ·exact h.before K _ _ _ (by unfold Og;omega)
theorem On.Cd (l:List Int):∀ {T':AE},On R X b T'→On R X b (T'.Cd l):=by
 induction l with
 | nil=>exact fun h=>h
 | cons i r ih=>exact fun {T'} h=>ih (On.DA K h (i:=i) rfl rfl)
theorem On.DY (h:On R X b T):∀ k:Nat,On R X b (T.DY k)
 | 0=>h
 | k+1=>by
  unfold AE.DY
  split
  ·exact(On.DY h k).Cj K _ _
  ·exact On.DY h k
theorem On.FD (h:On R X b T):On R X b T.FD:=by
 rw [Li]
 exact((On.Cd K _ h).DY K 6).Cj K _ _
theorem On.GG (h:On R X b T)(hq:q):On R X b T.GG:=by
 have h18:On R X b (T.kind 18):=⟨h.b,by show R X (T.BP (F2 18)).out _;rw [OP,h.b];exact K.trans h.r (K.GG hq)⟩
 have hf:=On.FD K h18
 have hb:=T.O4
 refine⟨hb.1.trans h.b,?_⟩
 rw [hb.2.1,hb.2.2]
 have h2:=hf.r
 rw [(RN (T.kind 18)).2] at h2
 have:=K.gone h2 ⟨ev T.w T.b (F2 18),by show _∈T.out ++ [_];exact List.mem_append_right _ (List.mem_cons_self ..), .inl (FQ ..).1,(FQ ..).2.trans h.b⟩
 rw [← h.b] at this
 exact this
theorem On.act (h:On R X b T){o:Order}(hx:o.text=x)(hq:o.verb=20→q)(h0:0≤o.verb)(h20:o.verb≤20):On R X b (T.act o):=by
 unfold AE.act
 split
 ·exact h.walk K _
 ·split
  ·exact h.look K
  ·split
   ·exact h.list K (by simp) _
   ·split
    ·refine h.BP K ?_;rw [hx];exact .said
    ·split
     ·rename_i c;exact h.GG K (hq (of_decide_eq_true c))
     ·split
      ·exact h.E7 K _
      ·split
       ·exact h.get K _
       ·split
        ·exact h.FH K _
        ·rename_i c1 c2 c3 c4 c5 c6 c7 c8
         simp only [Bool.or_eq_true,decide_eq_true_eq,not_or] at c1 c2 c3 c4 c5 c6 c7 c8
         exact h.set K (by omega) (by omega)
theorem Mm {o:Order}(hx:o.text=x)(hq:o.verb=20→q):R X (EF X b o).2.1 (EF X b o).1:=by
 unfold EF
 split
 ·exact K.refl X
 ·split
  ·exact K.refl X
  ·split
   ·exact K.refl X
   ·rename_i c
    simp only [Bool.or_eq_true,decide_eq_true_eq,not_or] at c
    exact((On.start K X).act K hx hq (by omega) (by omega)).r
end
end AE
end Go.Ing
/- What every round of fights keeps, and every coming in: a principle. -/
namespace Go.Ing
open Go
namespace AE
structure ZB (R:AG→List Event→AG→Prop):Prop where
 all:∀ b,0≤b→b < 6→Rel [] False b R
 cq:∀ {w:AG} {k h:Int},R w [] (w.Cw k { w.AN.at k with BI:=h })
 fg:∀ {X l w} {b:Int},2≤b→R X l w→(∃ e∈l,e.kind=15∧e.DK=b)→R X l (w.Cw b { w.AN.at b with room:=0,BI:=10 })
section
variable {R:AG→List Event→AG→Prop} (K:ZB R)
include K
theorem U4 {X:AG}:R X [] X:=(K.all 0 (Int.le_refl _) (by decide)).refl X
theorem rel_trans {X Y Z:AG}{l m:List Event}(h:R X l Y)(k:R Y m Z):R X (l++m) Z:=(K.all 0 (Int.le_refl _) (by decide)).trans h k
theorem UI {w:AG}{b B2 n:Int}(b0:0≤b)(b6:b < 6)(h1:1≤n)(h3:n≤3):R w (B9 w b B2 n).out (B9 w b B2 n).w:=by
 have a:=(On.start (K.all b b0 b6) w).BP (K.all b b0 b6) (e:={ F2 14 with other:=B2,n:=n }) (.B9 h1 h3)
 have:=rel_trans K a.r (K.cq (k:=B2) (h:=max 0 ((w.AN.at B2).BI - n)))
 rw [List.append_nil] at this
 exact this
theorem Zq {w:AG}{b:Int}(b0:0≤b)(b6:b < 6):R w (H2 w b).out (H2 w b).w:=by
 have KB:=K.all b b0 b6
 have h0:On R w b (FV w b):=⟨rfl,K.cq⟩
 have h1:=On.FD KB (h0.kind KB (k:=15) (.inl rfl))
 have e1:((FV w b).kind 15).FD=F7 w b:=rfl
 have hm:∃ e∈(F7 w b).out,e.kind=15∧e.DK=b:=by
  rw [(Jr w b).2]
  exact⟨ev (FV w b).w b (F2 15),List.mem_append_right _ (List.mem_cons_self ..),(FQ ..).1,(FQ ..).2⟩
 rw [e1] at h1
 clear e1
 unfold H2
 split
 ·rename_i c
  have c2:=of_decide_eq_true c
  rw [(DD _ _ _).2.1,(DD _ _ _).2.2]
  obtain⟨e,he,hk,ha⟩:=hm
  exact KB.gone h1.r ⟨e,he, .inr ⟨hk,c2⟩,ha⟩
 ·rename_i c
  have h2:On R w b (JK w b):=by
   obtain⟨d1,d2,d3⟩:=Q9 w b
   refine⟨d1,?_⟩
   rw [d3,d2,← (Jr w b).2]
   have hb2:2≤b:=Int.not_lt.1 fun e=>c (decide_eq_true e)
   exact K.fg (b:=b) hb2 h1.r hm
  exact((h2.kind KB (k:=17) (.inr rfl)).look KB).r
theorem TM {X:AG}{s:AG × List Event}{draw b:Int}(b0:0≤b)(b6:b < 6)(hg:s.1.Bh=true)(h:R X s.2 s.1):R X (EN draw b s).2 (EN draw b s).1:=by
 have hh:=MB (draw:=draw) b0
 have kb:=(HM hg b0 b6).B2
 unfold EN
 split
 ·exact h
 ·rename_i c0
  simp only [Bool.or_eq_true,Bool.not_eq_true',decide_eq_true_eq,not_or,Bool.not_eq_false] at c0
  split
  ·have:=rel_trans K h ((K.all b b0 b6).B2 (k:=b) (f:=0))
   rw [List.append_nil] at this
   exact this
  ·have hk:=UI K (w:=s.1) (b:=b) (B2:=(s.1.AN.at b).B2 - 1) b0 b6 hh.1 hh.2
   split
   ·exact rel_trans K (rel_trans K h hk) (Zq K (by omega) (by omega))
   ·exact rel_trans K h hk
theorem K7 {X:AG}{draw:Int}(hg:X.Bh=true)(hw:X.DL):∀ k:Nat,k≤6→R X (DZ X draw k).2 (DZ X draw k).1∧(DZ X draw k).1.Bh=true∧(DZ X draw k).1.DL
 | 0,_=>⟨U4 K,hg,hw⟩
 | k+1,hk=>by
  obtain⟨a,b,c⟩:=K7 hg hw k (by omega)
  have:=Fc (draw:=draw) (b:=k) b c (by omega) (by omega)
  exact⟨TM K (by omega) (by omega) b a,this.1,this.2.1⟩
theorem MM {X:AG}{draw:Int}(hw:X.DL):R X (CW X draw).2.1 (CW X draw).1:=by
 unfold CW
 split
 ·exact U4 K
 ·rename_i c
  have h:=(K7 K (draw:=draw) (show X.Bh=true by simpa using c) hw 6 (Nat.le_refl 6)).1
  generalize DZ X draw 6=r at *
  exact h
theorem XT {X:AG}{s:Ao}{b:Int}(b0:0≤b)(b6:b < 6):R (X.Cw b (IZ s)) (Hp X s b).out (Hp X s b).w:=by
 have KB:=K.all b b0 b6
 have h:On R (X.Cw b (IZ s)) b ((⟨X.Cw b (IZ s),b,[]⟩:AE).kind 17):=(On.start KB (X.Cw b (IZ s))).kind KB (k:=17) (.inr rfl)
 exact(h.look KB).r
omit K in
theorem NC (X:AG)(s:Ao):((BW X s).2.2.2≠0∧(BW X s).1=X∧(BW X s).2.2.1 = [])∨(BW X s=((Hp X s (CK X 6)).w,CK X 6,(Hp X s (CK X 6)).out,0)∧2≤CK X 6∧CK X 6≤5∧FR s=true∧X.Bh=true∧∀ k,0≤k→k < 6→Ik X s k=false):=by
 have bad:∀ z:Int,z≠0→BW X s=(X,0,[],z)→(BW X s).2.2.2≠0∧(BW X s).1=X∧(BW X s).2.2.1 = []:=fun z hz e=>by rw [e];exact⟨hz,rfl,rfl⟩
 cases c1:X.Bh with
 | false=>exact .inl (bad 2 (by decide) (if_pos (by rw [c1];rfl)))
 | true=>
  have e1:BW X s=if (!FR s)=true then(X,0,[],1) else if (!B8 6 (fun k=>!Ik X s k) 6)=true then(X,0,[],1) else if decide (CK X 6 < 0)=true then(X,0,[],4) else((Hp X s (CK X 6)).w,CK X 6,(Hp X s (CK X 6)).out,0):=if_neg (by rw [c1];decide)
  cases c2:FR s with
  | false=>exact .inl (bad 1 (by decide) (e1.trans (if_pos (by rw [c2];rfl))))
  | true=>
   have e2:=e1.trans (if_neg (by rw [c2];decide))
   cases c3:B8 6 (fun k=>!Ik X s k) 6 with
   | false=>exact .inl (bad 1 (by decide) (e2.trans (if_pos (by rw [c3];rfl))))
   | true=>
    have e3:=e2.trans (if_neg (by rw [c3];decide))
    cases c4:decide (CK X 6 < 0) with
    | true=>exact .inl (bad 4 (by decide) (e3.trans (if_pos c4)))
    | false=>
     have e4:=e3.trans (if_neg (by rw [c4];decide))
     have hf:2≤CK X 6∧CK X 6≤5:=by
      rcases Mg X 6 (Nat.le_refl 6) with e | e
      ·exact absurd (show CK X 6 < 0 by omega) (of_decide_eq_false c4)
      ·exact e
     refine .inr ⟨e4,hf.1,hf.2,rfl,rfl,fun k k0 k6=>?_⟩
     have:=(Dg 6).1 c3 k (by omega) k6
     simpa using this
end
end AE
end Go.Ing
/- What happens within an act of a house, in small steps. -/
namespace Go.Ing
open Go
namespace Aq
def CH (s:Aq)(e:Event):Aq:=if (AG.tell e s.Au).2=true then s.tell (AG.tell e s.Au).1 else s
def Dx (s:Aq)(es:List Event):Aq:=if s.state=2 then es.foldl CH s else s
end Aq
theorem lt_next {j:Int}{k:Nat}(c:¬ j=(k:Int)):(j < ((k+1:Nat):Int))=(j < (k:Int)):=propext ⟨fun _=>by omega,fun _=>by omega⟩
namespace AI
theorem Kk (e:Event)(H:AI):∀ k:Nat,k≤4→∀ j:Int,0≤j→j < 4→(CH e H k).at_ j=if j < k∧(H.at_ j).state=2 then(H.at_ j).CH e else H.at_ j
 | 0,_,j,h0,_=>by rw [if_neg (by omega)];rfl
 | k+1,hk,j,h0,h1=>by
  have ih:=Kk e H k (by omega) j h0 h1
  have ihk:=K6 e H k (by omega) k (Int.le_refl _) (by omega)
  by_cases c:j=(k:Int)
  ·subst c
   unfold CH
   rw [ihk]
   split
   ·rename_i c1
    rw [if_neg (by simp at c1;exact fun h=>c1 h.2)];exact ihk
   ·rename_i c1
    have hr:(if (k:Int) < ((k+1:Nat):Int)∧(H.at_ k).state=2 then(H.at_ k).CH e else H.at_ k)=if (AG.tell e (H.at_ k).Au).2=true then(H.at_ k).tell (AG.tell e (H.at_ k).Au).1 else H.at_ k:=if_pos ⟨by omega,by simpa using c1⟩
    rw [hr]
    by_cases c2:(AG.tell e (H.at_ k).Au).2=true
    ·rw [if_pos c2,if_pos c2]
     unfold AI.tell
     rw [AI.Cl _ (by omega) (by omega) h0,if_pos rfl,ihk]
    ·rw [if_neg c2,if_neg c2];exact ihk
  ·have e2:(CH e H (k+1)).at_ j=(CH e H k).at_ j:=by
    rw [CH.eq_2]
    split
    ·rfl
    ·split
     ·exact U9 (by omega) (by omega) h0 c _
     ·rfl
   rw [e2,ih];simp only [lt_next c]
theorem Ol (e:Event)(H:AI):∀ k:Nat,(CH e H k).w=H.w∧(CH e H k).last=H.last∧(CH e H k).B7=H.B7
 | 0=>⟨rfl,rfl,rfl⟩
 | k+1=>by
  have ih:=Ol e H k
  rw [CH.eq_2]
  split
  ·exact ih
  ·split
   ·exact ih
   ·exact ih
theorem Qx (s:Aq)(e:Event):(s.CH e).state=s.state∧(s.CH e).Au=s.Au:=by
 unfold Aq.CH
 split
 ·exact⟨(Ex _ _).1,(Ex _ _).2.1⟩
 ·exact⟨rfl,rfl⟩
theorem SV {j:Int}(j0:0≤j)(j1:j < 4):∀(es:List Event) (H:AI),(H.Ha es).at_ j=(H.at_ j).Dx es
 | [],H=>by show H.at_ j=_;unfold Aq.Dx;split<;>rfl
 | e :: r,H=>by
  have ih:=SV j0 j1 r (CH e H 4)
  show((CH e H 4).Ha r).at_ j=_
  have h1:=Kk e H 4 (Nat.le_refl 4) j j0 j1
  rw [ih,h1]
  by_cases c:(H.at_ j).state=2
  ·rw [if_pos ⟨by omega,c⟩]
   unfold Aq.Dx
   rw [if_pos c,if_pos (by rw [(Qx _ e).1];exact c)]
   rfl
  ·rw [if_neg (fun h=>c h.2)]
   unfold Aq.Dx
   rw [if_neg c,if_neg c]
theorem Nr:∀(es:List Event) (H:AI),(H.Ha es).w=H.w∧(H.Ha es).last=H.last∧(H.Ha es).B7=H.B7
 | [],H=>⟨rfl,rfl,rfl⟩
 | e :: r,H=>by
  have ih:=Nr r (CH e H 4)
  have h1:=Ol e H 4
  exact⟨ih.1.trans h1.1,ih.2.1.trans h1.2.1,ih.2.2.trans h1.2.2⟩
theorem U6 (H:AI)(es:List Event){j:Int}(j0:0≤j)(j1:j < 4):(H.G2 es).at_ j=(H.at_ j).Dx es:=SV j0 j1 es _
theorem Vj (H:AI)(es:List Event):(H.G2 es).w=H.w∧(H.G2 es).last=H.last++es∧(H.G2 es).B7=H.B7:=Nr es _
def NM:List Ao:= [Hb,Md,Yj,Mh,noRoom]
inductive DJ (U:Ao→Prop)(H:AI):Int→AG→Aq→List Event→Prop
 | left {k:Int}:(H.at_ k).state=2→(H.w.AN.at (H.at_ k).Au).here=true→DJ U H k (AE.EF H.w (H.at_ k).Au EG).1 default (AE.EF H.w (H.at_ k).Au EG).2.1
 | L4 {k:Int} {u:Ao}:(H.at_ k).state=1→(AE.BW H.w u).2.2.2=0→DJ U H k (AE.BW H.w u).1 { H.at_ k with state:=2,Au:=(AE.BW H.w u).2.1 } (AE.BW H.w u).2.2.1
 | cO {k:Int} {q:Ao}:U q→(H.at_ k).state≠0→(H.at_ k).state≠1→(Words.parse q).1.verb≠20→DJ U H k (AE.EF H.w (H.at_ k).Au (Words.parse q).1).1 (H.at_ k) (AE.EF H.w (H.at_ k).Au (Words.parse q).1).2.1
 | round {d:Int}:DJ U H 0 (AE.CW H.w d).1 (H.at_ 0) (AE.CW H.w d).2.1
def Hk (H:AI)(k:Int)(w:AG)(s:Aq)(es:List Event):AI:=({ H with w:=w }.set k s).G2 es
inductive Step (U:Ao→Prop)(H:AI):AI→Prop
 | told {k:Int} {u:Ao}:0≤k→k < 4→(H.at_ k).state≠0→u∈NM→Step U H (H.tell k u)
 | BX {k:Int}:0≤k→k < 4→(H.at_ k).state≠0→Step U H (H.set k (H.at_ k).BX)
 | goes {k:Int} {w:AG} {s:Aq} {es:List Event}:0≤k→k < 4→DJ U H k w s es→Step U H (H.Hk k w s es)
 | free {k:Int}:0≤k→k < 4→¬ ((H.at_ k).state=2∧(H.w.AN.at (H.at_ k).Au).here=true)→Step U H (H.set k default)
inductive Steps (U:Ao→Prop)(H:AI):AI→Prop
 | refl:Steps U H H
 | tail {X Y:AI}:Steps U H X→Step U X Y→Steps U H Y
section
variable {U:Ao→Prop} {H X Y:AI}
theorem Step.one (h:Step U H X):Steps U H X:= .tail .refl h
theorem Steps.trans (h:Steps U H X)(k:Steps U X Y):Steps U H Y:=by
 induction k with
 | refl=>exact h
 | tail _ s ih=>exact ih.tail s
theorem Steps.Jx {P:AI→Prop}(hs:∀ {H X:AI},P H→Step U H X→P X)(h:P H)(k:Steps U H X):P X:=by
 induction k with
 | refl=>exact h
 | tail _ s ih=>exact hs ih s
theorem GX (H:AI){k:Int}(h0:0≤k)(h1:k < 4)(w:AG)(s:Aq)(es:List Event){j:Int}(j0:0≤j)(j1:j < 4):(H.Hk k w s es).at_ j=(if j=k then s else H.at_ j).Dx es:=by
 unfold Hk
 rw [U6 _ _ j0 j1,Cl _ h0 h1 j0]
 rfl
theorem KY (H:AI)(k:Int)(w:AG)(s:Aq)(es:List Event):(H.Hk k w s es).w=w∧(H.Hk k w s es).last=H.last++es∧(H.Hk k w s es).B7=H.B7:=Vj _ es
theorem OL (es:List Event):(default:Aq).Dx es=default:=if_neg (show ¬ (0:Int)=2 by decide)
theorem Gl (H:AI){k:Int}(h0:0≤k)(h1:k < 4):Steps U H (H.leave k):=by
 unfold AI.leave
 split
 ·rename_i c
  rw [Bool.and_eq_true,decide_eq_true_eq] at c
  have s:Step U H (H.Hk k (AE.EF H.w (H.at_ k).Au EG).1 default (AE.EF H.w (H.at_ k).Au EG).2.1):= .goes h0 h1 (.left c.1 c.2)
  have e:(((H.UK k).set k default).G2 (AE.EF H.w (H.at_ k).Au EG).2.1).set k default=H.Hk k (AE.EF H.w (H.at_ k).Au EG).1 default (AE.EF H.w (H.at_ k).Au EG).2.1:=by
   show(H.Hk k _ default _).set k default=_
   have:=GX H h0 h1 (AE.EF H.w (H.at_ k).Au EG).1 default (AE.EF H.w (H.at_ k).Au EG).2.1 h0 h1
   rw [if_pos rfl,OL] at this
   have h2:=L5 (H.Hk k (AE.EF H.w (H.at_ k).Au EG).1 default (AE.EF H.w (H.at_ k).Au EG).2.1) h0 h1
   rw [this] at h2
   exact h2
  rw [e]
  exact s.one
 ·rename_i c
  exact(Step.free h0 h1 (fun h=>c (by rw [Bool.and_eq_true,decide_eq_true_eq];exact h))).one
theorem H9 (H:AI):∀ k:Nat,k≤4→Steps U H (H.Ch k).1
 | 0,_=> .refl
 | k+1,hk=>by
  have ih:=H9 H k (by omega)
  unfold Ch
  split
  ·exact ih
  ·rename_i c
   have s:Step U (H.Ch k).1 ((H.Ch k).1.set k (((H.Ch k).1.at_ k).BX)):= .BX (by omega) (by omega) (by simpa using c)
   split
   ·exact(ih.tail s).trans (Gl _ (by omega) (by omega))
   ·exact ih.tail s
theorem M7:∀(n:Nat) (H:AI),Steps U H (H.Hm n)
 | 0,_=> .refl
 | n+1,H=>by
  unfold Hm
  split
  ·exact H9 H 4 (Nat.le_refl 4)
  ·exact(H9 H 4 (Nat.le_refl 4)).trans (M7 n _)
theorem Nn (H:AI):Steps U H H.BX:=M7 5 H
theorem SU (H:AI){k:Int}(h0:0≤k)(h1:k < 4)(hs:(H.at_ k).state=1)(u:Ao):Steps U H (H.named k u):=by
 unfold AI.named
 split
 ·rename_i c
  exact(Step.goes h0 h1 (.L4 hs (of_decide_eq_true c))).one
 ·have hn:(H.at_ k).state≠0:=by omega
  split
  ·exact(Step.told h0 h1 hn (by simp [NM])).one
  ·exact(Step.told h0 h1 hn (by simp [NM])).one
theorem Sg (H:AI){k:Int}(h0:0≤k)(h1:k < 4)(hs:(H.at_ k).state≠0)(h2:(H.at_ k).state≠1){u:Ao}(hu:U u):Steps U H (H.order k u):=by
 unfold AI.order
 split
 ·exact(Step.told h0 h1 hs (by simp [NM])).one
 ·split
  ·exact Gl H h0 h1
  ·rename_i c
   have:=(Step.goes (H:=H) h0 h1 (.cO hu hs h2 (fun e=>c (decide_eq_true e)))).one
   unfold Hk at this
   rw [show({ H with w:=(AE.EF H.w (H.at_ k).Au (Words.parse u).1).1 }:AI).set k (H.at_ k)={ H with w:=(AE.EF H.w (H.at_ k).Au (Words.parse u).1).1 } from L5 { H with w:=(AE.EF H.w (H.at_ k).Au (Words.parse u).1).1 } h0 h1] at this
   exact this
theorem J3 (H:AI)(d:Int):Steps U H ({ H with w:=(AE.CW H.w d).1 }.G2 (AE.CW H.w d).2.1):=by
 have:=(Step.goes (U:=U) (H:=H) (Int.le_refl 0) (by decide) (.round (d:=d))).one
 unfold Hk at this
 rw [show({ H with w:=(AE.CW H.w d).1 }:AI).set 0 (H.at_ 0)={ H with w:=(AE.CW H.w d).1 } from L5 { H with w:=(AE.CW H.w d).1 } (Int.le_refl 0) (by decide)] at this
 exact this
def next (H:AI)(k:Int)(r:List Ao):AI:=H.set k { H.at_ k with queue:=r }.Fb
theorem O8 (H:AI){k:Int}(h0:0≤k)(h1:k < 4)(hU:∀ q∈(H.at_ k).queue,U q):(((H.at_ k).state=0∨(H.at_ k).queue = [])∧H.EW k=H)∨∃ q r,(H.at_ k).state≠0∧(H.at_ k).queue=q :: r∧Steps U (H.next k r) (H.EW k):=by
 unfold AI.EW
 split
 ·rename_i c;exact .inl ⟨.inl (of_decide_eq_true c),rfl⟩
 ·rename_i c
  have c':(H.at_ k).state≠0:=fun e=>c (decide_eq_true e)
  split
  ·rename_i e;exact .inl ⟨.inr e,rfl⟩
  ·rename_i q r e
   refine .inr ⟨q,r,c',e,?_⟩
   have ha:(H.next k r).at_ k={ H.at_ k with queue:=r }.Fb:=by unfold next;rw [Cl _ h0 h1 h0,if_pos rfl]
   have hst:((H.next k r).at_ k).state=(H.at_ k).state:=by rw [ha];rfl
   show Steps U (H.next k r) (if (H.at_ k).pg.CC=true then H.next k r else if decide ((H.at_ k).state=1)=true then(H.next k r).named k (Words.QZ 32 (Words.R9 32 q)) else(H.next k r).order k q)
   split
   ·exact .refl
   ·split
    ·rename_i c2
     exact SU _ h0 h1 (by rw [hst];exact of_decide_eq_true c2) _
    ·rename_i c2
     exact Sg _ h0 h1 (by rw [hst];exact c') (by rw [hst];exact fun e=>c2 (decide_eq_true e)) (hU q (by rw [e];exact List.mem_cons_self ..))
end
end AI
end Go.Ing
/- What a seat is behind every act: plain laws. -/
namespace Go.Ing
open Go
namespace Page
theorem Qd (ht:Int):∀(l:List Ao) (x:Pg),BX ht (BX ht l x).2 (BX ht l x).1=BX ht l x
 | [],x=>rfl
 | s :: r,x=>by
  by_cases c1:(x.CC || x.cut)=true
  ·have e:BX ht (s :: r) x=(x,s :: r):=by rw [BX,if_pos c1]
   rw [e];exact e
  ·by_cases c2:(decide (0 < ht) && decide (ht≤x.shown))=true
   ·have e:BX ht (s :: r) x=(put { x with CC:=true } Un,s :: r):=by rw [BX,if_neg c1,if_pos c2]
    rw [e]
    have ha:(put { x with CC:=true } Un).CC=true:=by
     unfold put;split
     ·rfl
     ·split<;>rfl
    rw [BX,if_pos (by rw [ha];rfl)]
   ·have e:BX ht (s :: r) x=BX ht r (put { x with shown:=min (x.shown+1) 200 } (escape s ++ [13,10])):=by rw [BX,if_neg c1,if_neg c2]
    rw [e]
    exact Qd ht r _
theorem O7 (ht:Int):∀(l:List Ao) (x:Pg),x.ring.length≤700→0≤x.shown→x.shown≤200→(BX ht l x).1.ring.length≤700∧0≤(BX ht l x).1.shown∧(BX ht l x).1.shown≤200
 | [],x,h1,h2,h3=>⟨h1,h2,h3⟩
 | s :: r,x,h1,h2,h3=>by
  unfold BX
  split
  ·exact⟨h1,h2,h3⟩
  ·split
   ·refine⟨L2 h1,?_,?_⟩<;>rw [HR]
    ·exact h2
    ·exact h3
   ·refine O7 ht r _ (L2 h1) ?_ ?_<;>rw [HR]
    ·show 0≤min (x.shown+1) 200;omega
    ·show min (x.shown+1) 200≤200;omega
end Page
namespace Aq
structure Ok (s:Aq):Prop where
 st:0≤s.state∧s.state≤2
 n:s.wait.length≤60
 ring:s.pg.ring.length≤700
 s0:0≤s.pg.shown
 s1:s.pg.shown≤200
 ln:Bg.Ok ⟨s.now,s.Cy,s.ret,s.queue,0⟩
theorem XX (s:Aq):s.Lq=true↔s.wait.length≤60∧s.pg.ring.length≤700∧0≤s.pg.shown∧s.pg.shown≤200:=by
 simp only [Lq,Bool.and_eq_true,decide_eq_true_eq];omega
theorem bg (s:Aq):s.Kw=true↔Bg.Ok ⟨s.now,s.Cy,s.ret,s.queue,0⟩:=
 Bg.HT (l:=⟨s.now,s.Cy,s.ret,⟨none,s.queue.length,0⟩⟩) (qs:=s.queue) rfl
variable {s:Aq}
theorem Ok.Lq (h:s.Ok):s.Lq=true:=(XX s).2 ⟨h.n,h.ring,h.s0,h.s1⟩
theorem Ok.Kw (h:s.Ok):s.Kw=true:=(bg s).2 h.ln
theorem DP:(default:Aq).Ok:=⟨⟨Int.le_refl 0,by decide⟩,Nat.zero_le _,Nat.zero_le _,Int.le_refl 0,by decide,(⟨Bg.Mj,(fun s hs=>by cases hs),Nat.zero_le _,(fun h=>by cases h)⟩:Bg.Ok ⟨[],false,false,[],0⟩)⟩
theorem Ok.line (h:s.Ok)(u:Ao):(s.line u).Ok:=by
 unfold Aq.line
 split
 ·exact h
 ·split
  ·exact h
  ·split
   ·exact⟨h.st,h.n,h.ring,h.s0,h.s1,h.ln⟩
   ·rename_i c
    refine⟨h.st,?_,h.ring,h.s0,h.s1,h.ln⟩
    have hn:=h.n
    have c':¬ (60:Int)≤s.wait.length:=fun e=>c (decide_eq_true e)
    show(s.wait ++ [u]).length≤60
    rw [List.length_append,List.length_singleton];omega
theorem Ok.tell (h:s.Ok)(u:Ao):(s.tell u).Ok:=by
 have:=h.line u
 unfold Aq.tell Aq.note
 split
 ·exact⟨this.st,this.n,this.ring,this.s0,this.s1,this.ln⟩
 ·exact this
theorem Ok.BX (h:s.Ok):s.BX.Ok:=by
 unfold Aq.BX
 split
 ·exact h
 ·have hk:=Page.O7 s.Ds.B0 s.wait s.pg h.ring h.s0 h.s1
  exact⟨h.st,Nat.le_trans (Page.Zc _ _ _) h.n,hk.1,hk.2.1,hk.2.2,h.ln⟩
theorem Ok.send (h:s.Ok)(u:Ao):(s.send u).Ok:=by
 unfold Aq.send
 split
 ·exact h
 ·split
  ·exact h
  ·exact⟨h.st,h.n,Page.L2 h.ring,by show 0≤(Page.put s.pg u).shown;rw [Page.HR];exact h.s0,by show(Page.put s.pg u).shown≤200;rw [Page.HR];exact h.s1,h.ln⟩
theorem Ok.Ds (h:s.Ok)(t:AP):({ s with Ds:=t }:Aq).Ok:=⟨h.st,h.n,h.ring,h.s0,h.s1,h.ln⟩
theorem Ok.offer (h:s.Ok)(opt:Int):(s.offer opt).Ok:=by
 unfold Aq.offer
 split
 ·exact(h.Ds _).send _
 ·exact(h.Ds _).send _
theorem Ok.G3 (h:s.Ok)(n:Int):(s.G3 n).Ok:=⟨h.st,h.n,by show(s.pg.ring.drop _).length≤700;rw [List.length_drop];have:=h.ring;omega,h.s0,h.s1,h.ln⟩
theorem Ok.next (h:s.Ok){q:Ao}{r:List Ao}(e:s.queue=q :: r):({ s with queue:=r }:Aq).Fb.Ok:=
 ⟨h.st,h.n,h.ring,Int.le_refl 0,show(0:Int)≤200 by decide,⟨h.ln.now,fun x hx=>h.ln.queue x (by show x∈s.queue;rw [e];exact List.mem_cons_of_mem _ hx),by
  have:=h.ln.len
  have h2:s.queue.length≤6:=this
  rw [e,List.length_cons] at h2
  show r.length≤6;omega,h.ln.ret⟩⟩
theorem Ok.typed (h:s.Ok)(u:Ao):(C6 s u).1.Ok:=by
 have h1:(s.bytes u).1.Ok:=(h.Ds _).send _
 unfold C6 Aq.typed
 split
 ·exact h1
 ·have ho:=Bg.Ul (s.bytes u).2 h1.ln
  exact⟨h1.st,h1.n,h1.ring,h1.s0,h1.s1,⟨ho.now,ho.queue,ho.len,ho.ret⟩⟩
theorem Ok.L4 (h:s.Ok)(b:Int):({ s with state:=2,Au:=b }:Aq).Ok:=⟨⟨show(0:Int)≤2 by decide,show(2:Int)≤2 by decide⟩,h.n,h.ring,h.s0,h.s1,h.ln⟩
theorem Ok.CH (h:s.Ok)(e:Event):(s.CH e).Ok:=by
 unfold Aq.CH;split
 ·exact h.tell _
 ·exact h
theorem U3:∀(es:List Event) {s:Aq},s.Ok→(es.foldl Aq.CH s).Ok
 | [],_,h=>h
 | e :: r,_,h=>U3 r (h.CH e)
theorem Ok.Dx (h:s.Ok)(es:List Event):(s.Dx es).Ok:=by
 unfold Aq.Dx
 split
 ·exact U3 es h
 ·exact h
theorem Ok.heard (h:s.Ok):({ s with told:= [] }:Aq).Ok:=⟨h.st,h.n,h.ring,h.s0,h.s1,h.ln⟩
theorem Er (s:Aq)(es:List Event):(s.Dx es).state=s.state∧(s.Dx es).Au=s.Au:=by
 unfold Aq.Dx
 split
 ·induction es generalizing s with
  | nil=>exact⟨rfl,rfl⟩
  | cons e r ih=>
   rename_i c
   have h1:=AI.Qx s e
   have:=ih (s.CH e) (by rw [h1.1];exact c)
   exact⟨this.1.trans h1.1,this.2.trans h1.2⟩
 ·exact⟨rfl,rfl⟩
structure Still (s:Aq):Prop where
 fl:s.BX=s
 cut:s.pg.cut=false
theorem Qc (s:Aq)(h:s.wait.length≤60∧s.pg.ring.length≤700∧0≤s.pg.shown∧s.pg.shown≤200)(c:(decide (s.Ds.B0 < 0) || decide (200 < s.Ds.B0))=false):s.BX={ s with pg:=(Page.BX s.Ds.B0 s.wait s.pg).1,wait:=(Page.BX s.Ds.B0 s.wait s.pg).2 }:=by
 unfold Aq.BX
 rw [if_neg]
 rw [(XX s).2 h]
 simpa using c
theorem Lp (s:Aq)(c:(decide (s.Ds.B0 < 0) || decide (200 < s.Ds.B0))=true):s.BX=s:=by
 unfold Aq.BX
 rw [if_pos]
 rw [Bool.or_assoc,c,Bool.or_true]
theorem Ok.idem (h:s.Ok):s.BX.BX=s.BX:=by
 cases c:(decide (s.Ds.B0 < 0) || decide (200 < s.Ds.B0)) with
 | true=>rw [Lp s c,Lp s c]
 | false=>
  have e:=Qc s ⟨h.n,h.ring,h.s0,h.s1⟩ c
  have hk:=h.BX
  rw [e] at hk ⊢
  rw [Qc _ ⟨hk.n,hk.ring,hk.s0,hk.s1⟩ c]
  have:=Page.Qd s.Ds.B0 s.wait s.pg
  dsimp only
  rw [this]
end Aq
namespace AI
def HW (H:AI):Prop:=∀ k,0≤k→k < 4→(H.at_ k).Ok
section
variable {U:Ao→Prop} {H X:AI}
theorem HW.set (h:H.HW){k:Int}(h0:0≤k)(h1:k < 4){s:Aq}(hs:s.Ok):(H.set k s).HW:=fun j j0 j1=>by
 rw [Cl _ h0 h1 j0];split
 ·exact hs
 ·exact h j j0 j1
theorem HW.step (h:H.HW)(s:Step U H X):X.HW:=by
 cases s with
 | told h0 h1 _ _=>exact h.set h0 h1 ((h _ h0 h1).tell _)
 | BX h0 h1 _=>exact h.set h0 h1 (h _ h0 h1).BX
 | free h0 h1 _=>exact h.set h0 h1 Aq.DP
 | goes h0 h1 g=>
  intro j j0 j1
  rw [GX H h0 h1 _ _ _ j0 j1]
  refine Aq.Ok.Dx ?_ _
  split
  ·cases g with
   | left _ _=>exact Aq.DP
   | L4 _ _=>exact(h _ h0 h1).L4 _
   | cO _ _ _ _=>exact h _ h0 h1
   | round=>exact h _ (Int.le_refl 0) (by decide)
  ·exact h j j0 j1
theorem HW.steps (h:H.HW)(s:Steps U H X):X.HW:=Steps.Jx (P:=HW) (fun h s=>h.step s) h s
/-! #### nobody is cut off behind all that flows -/
def busy (H:AI)(k:Int):Nat:=if (H.at_ k).state=0 then 0 else 1
def O5 (H:AI):Nat:=H.busy 0+H.busy 1+H.busy 2+H.busy 3
theorem Zv {H X:AI}(h:∀ j,0≤j→j < 4→(H.at_ j).state=0→(X.at_ j).state=0):X.O5≤H.O5∧∀ k,0≤k→k < 4→(H.at_ k).state≠0→(X.at_ k).state=0→X.O5 < H.O5:=by
 have hb:∀ j,0≤j→j < 4→X.busy j≤H.busy j∧H.busy j≤1∧((H.at_ j).state≠0→(X.at_ j).state=0→X.busy j < H.busy j):=fun j j0 j1=>by
  have:=h j j0 j1
  unfold busy
  refine⟨?_,?_,?_⟩
  ·split
   ·exact Nat.zero_le _
   ·rename_i c
    rw [if_neg (fun e=>c (this e))];exact Nat.le_refl _
  ·split<;>omega
  ·intro a b
   rw [if_pos b,if_neg a];decide
 have b0:=hb 0 (by decide) (by decide);have b1:=hb 1 (by decide) (by decide);have b2:=hb 2 (by decide) (by decide);have b3:=hb 3 (by decide) (by decide)
 unfold O5
 refine⟨by omega,fun k k0 k1 a b=>?_⟩
 rcases four k0 k1 with e | e | e | e<;>subst e
 ·have:=b0.2.2 a b;omega
 ·have:=b1.2.2 a b;omega
 ·have:=b2.2.2 a b;omega
 ·have:=b3.2.2 a b;omega
theorem R7 (H:AI){k:Int}(h0:0≤k)(h1:k < 4){j:Int}(j0:0≤j)(j1:j < 4):(H.leave k).at_ j=if j=k then default else(H.at_ j).Dx (if decide ((H.at_ k).state=2) && (H.w.AN.at (H.at_ k).Au).here then(AE.EF H.w (H.at_ k).Au EG).2.1 else []):=by
 unfold AI.leave
 rw [Cl _ h0 h1 j0]
 split
 ·rfl
 ·rename_i c
  split
  ·rw [U6 _ _ j0 j1,Cl _ h0 h1 j0,if_neg c]
   rfl
  ·unfold Aq.Dx;split<;>rfl
theorem LH (H:AI):∀ k:Nat,k≤4→∀ j,0≤j→j < 4→(H.at_ j).state=0→((H.Ch k).1.at_ j).state=0
 | 0,_,_,_,_,h=>h
 | k+1,hk,j,j0,j1,h=>by
  have ih:=LH H k (by omega) j j0 j1 h
  have hf:(((H.Ch k).1.set k (((H.Ch k).1.at_ k).BX)).at_ j).state=0:=by
   rw [Cl _ (by omega) (by omega) j0]
   split
   ·rename_i e;subst e;rw [(Fh _).2.1];exact ih
   ·exact ih
  unfold Ch
  split
  ·exact ih
  ·split
   ·show(AI.at_ (AI.leave _ _) j).state=0
    rw [R7 _ (by omega) (by omega) j0 j1]
    split
    ·rfl
    ·rw [(Aq.Er _ _).1];exact hf
   ·exact hf
theorem P5 (H:AI):∀ k:Nat,k≤4→(H.Ch k).2=true→∃ j,0≤j∧j < 4∧(H.at_ j).state≠0∧((H.Ch k).1.at_ j).state=0
 | 0,_,h=>by cases h
 | k+1,hk,h=>by
  have ih:=P5 H k (by omega)
  have hn:(((H.Ch k).1.at_ k).state≠0)→(H.at_ k).state≠0:=fun c e=>c (LH H k (by omega) k (by omega) (by omega) e)
  unfold Ch at h ⊢
  split at h
  ·rename_i c
   rw [if_pos c];exact ih h
  ·rename_i c
   have c':((H.Ch k).1.at_ k).state≠0:=by simpa using c
   rw [if_neg c]
   split at h
   ·rename_i c2
    rw [if_pos c2]
    refine⟨k,by omega,by omega,hn c',?_⟩
    show(AI.at_ (AI.leave _ _) k).state=0
    rw [R7 _ (by omega) (by omega) (by omega) (by omega),if_pos rfl];rfl
   ·rename_i c2
    rw [if_neg c2]
    obtain⟨j,j0,j1,a,b⟩:=ih h
    refine⟨j,j0,j1,a,?_⟩
    show(AI.at_ (AI.set _ _ _) j).state=0
    rw [Cl _ (by omega) (by omega) j0]
    split
    ·rename_i e;subst e;exact absurd b c'
    ·exact b
theorem Oz (H:AI):∀ k:Nat,k≤4→(H.Ch k).2=false→(H.Ch k).1.w=H.w∧(H.Ch k).1.last=H.last∧(H.Ch k).1.B7=H.B7∧∀ j,0≤j→j < 4→(H.Ch k).1.at_ j=(if j < k∧(H.at_ j).state≠0 then(H.at_ j).BX else H.at_ j)∧(j < k→(H.at_ j).state≠0→(H.at_ j).BX.pg.cut=false)
 | 0,_,_=>⟨rfl,rfl,rfl,fun j j0 _=>⟨by rw [if_neg (by omega)];rfl,fun h=>by omega⟩⟩
 | k+1,hk,h=>by
  have ih:=Oz H k (by omega)
  unfold Ch at h ⊢
  split at h
  ·rename_i c
   rw [if_pos c]
   obtain⟨a1,a2,a3,a4⟩:=ih h
   have hk0:=(a4 k (by omega) (by omega)).1
   rw [if_neg (by omega)] at hk0
   rw [hk0] at c
   have c':(H.at_ k).state=0:=of_decide_eq_true c
   refine⟨a1,a2,a3,fun j j0 j1=>⟨?_,fun hj hs=>?_⟩⟩
   ·rw [(a4 j j0 j1).1]
    by_cases e:j=(k:Int)
    ·subst e;rw [if_neg (fun h=>h.2 c'),if_neg (fun h=>h.2 c')]
    ·simp only [lt_next e]
   ·by_cases e:j=(k:Int)
    ·subst e;exact absurd c' hs
    ·exact(a4 j j0 j1).2 (by omega) hs
  ·rename_i c
   split at h
   ·cases h
   ·rename_i c2
    rw [if_neg c,if_neg c2]
    obtain⟨a1,a2,a3,a4⟩:=ih h
    have hk0:=(a4 k (by omega) (by omega)).1
    rw [if_neg (by omega)] at hk0
    rw [hk0] at c c2
    have c':(H.at_ k).state≠0:=by simpa using c
    refine⟨a1,a2,a3,fun j j0 j1=>⟨?_,fun hj hs=>?_⟩⟩
    ·show(AI.at_ (AI.set _ _ _) j)=_
     rw [Cl _ (by omega) (by omega) j0]
     by_cases e:j=(k:Int)
     ·subst e;rw [if_pos rfl,if_pos ⟨by omega,c'⟩,hk0]
     ·rw [if_neg e,(a4 j j0 j1).1];simp only [lt_next e]
    ·by_cases e:j=(k:Int)
     ·subst e;simpa using c2
     ·exact(a4 j j0 j1).2 (by omega) hs
theorem Mz:∀(n:Nat) (H:AI),H.HW→H.O5 < n→∀ j,0≤j→j < 4→((H.Hm n).at_ j).state≠0→((H.Hm n).at_ j).Still
 | 0,_,_,h,_,_,_,_=>absurd h (Nat.not_lt_zero _)
 | n+1,H,hk,hb,j,j0,j1,hs=>by
  unfold Hm at hs ⊢
  split at hs
  ·rename_i c
   rw [if_pos c]
   obtain⟨_,_,_,a⟩:=Oz H 4 (Nat.le_refl 4) (by simpa using c)
   have a:=a j j0 j1
   by_cases e:(H.at_ j).state=0
   ·rw [a.1,if_neg (fun h=>h.2 e)] at hs;exact absurd e hs
   ·rw [a.1,if_pos ⟨by omega,e⟩]
    exact⟨(hk j j0 j1).idem,a.2 (by omega) e⟩
  ·rename_i c
   rw [if_neg c]
   obtain⟨i,i0,i1,a,b⟩:=P5 H 4 (Nat.le_refl 4) (by simpa using c)
   have hl:=(Zv (LH H 4 (Nat.le_refl 4))).2 i i0 i1 a b
   exact Mz n _ (hk.steps (U:=fun _=>True) (H9 H 4 (Nat.le_refl 4))) (by omega) j j0 j1 hs
theorem UP (h:H.HW){j:Int}(j0:0≤j)(j1:j < 4)(hs:(H.BX.at_ j).state≠0):(H.BX.at_ j).Still:=
 Mz 5 H h (by
  have hb:∀ j,H.busy j≤1:=fun j=>by unfold busy;split<;>omega
  have:=hb 0;have:=hb 1;have:=hb 2;have:=hb 3
  unfold O5;omega) j j0 j1 hs
end
end AI
end Go.Ing
/- Acts that are played: plain laws. -/
namespace Go.Ing
open Go
namespace AP
def G7 (t:AP):Nat:=if t.at_=2 then 2 else if t.at_=1 then 1 else 0
theorem Wq (t:AP)(b:UInt8):(t.step b).2.2.length+(t.step b).1.G7≤1+t.G7:=by
 unfold step;dsimp only
 split
 ·rename_i c;have c':=of_decide_eq_true c
  have hp:t.G7=0:=by unfold G7;rw [if_neg (by omega),if_neg (by omega)]
  split
  ·exact Nat.le_add_right 1 _
  ·show 0+t.G7≤1+t.G7;omega
 ·split
  ·rename_i c;have c':=of_decide_eq_true c
   have hp:t.G7=1:=by unfold G7;rw [if_neg (by omega),if_pos c']
   rw [hp]
   split
   ·exact Nat.zero_le _
   ·split
    ·exact Nat.zero_le _
    ·split
     ·exact Nat.le_refl 2
     ·exact Nat.zero_le _
  ·split
   ·rename_i c;have c':=of_decide_eq_true c
    have hp:t.G7=2:=by unfold G7;rw [if_pos c']
    rw [hp]
    exact IL _ _ _
   ·split
    ·rename_i c;have c':=of_decide_eq_true c
     split
     ·exact Nat.zero_le _
     ·show 0+(t.collect b).G7≤_
      have:(t.collect b).at_=t.at_:=by unfold collect;split<;>rfl
      unfold G7;rw [this];rw [if_neg (by omega),if_neg (by omega)];omega
    ·split
     ·rename_i c;have c':=of_decide_eq_true c
      split
      ·show 0+(collect { t with at_:=3 } b).G7≤_
       have:(collect { t with at_:=3 } b).at_=3:=by unfold collect;split<;>rfl
       unfold G7;rw [this];rw [if_neg (by decide),if_neg (by decide)];omega
      ·split
       ·show 0+G7 { t.measure with at_:=0,sub:= [] }≤_;exact Nat.zero_le _
       ·exact Nat.zero_le _
     ·show 0+t.G7≤_;omega
theorem MP:∀(s:Ao) (t:AP),(t.feed s).2.2.length≤s.length+t.G7
 | [],t=>Nat.zero_le _
 | b :: s,t=>by
  have h1:=Wq t b
  have h2:=MP s (t.step b).1
  show((t.step b).2.2++((t.step b).1.feed s).2.2).length≤s.length+1+t.G7
  rw [List.length_append];omega
theorem Uj (t:AP):t.G7≤2:=by unfold G7;split;exact Nat.le_refl 2;split<;>decide
theorem Jk.yb {X t:AP}{u x y:Ao}{k:Int}(h:Jk X u k t x y):y.length≤u.length+2:=by
 have h1:=MP u X
 have h2:=Uj X
 rw [h.e3,List.length_append] at h1
 omega
theorem WW (t:AP)(u:Ao):(t.Di u).2.2.1.length≤u.length+2:=by
 unfold Di
 split
 ·exact Nat.zero_le _
 ·have h1:=MP u t
  have h2:=Uj t
  show(t.feed u).2.2.length≤_
  omega
end AP
namespace AI
section
variable {H:AI}
theorem HW.tell (h:H.HW){k:Int}(h0:0≤k)(h1:k < 4)(u:Ao):(H.tell k u).HW:=h.set h0 h1 ((h k h0 h1).tell u)
theorem HW.BX (h:H.HW):H.BX.HW:=h.steps (U:=fun _=>True) (Nn H)
theorem HW.EW (h:H.HW){k:Int}(h0:0≤k)(h1:k < 4):(H.EW k).HW:=by
 rcases O8 (U:=fun _=>True) H h0 h1 (fun _ _=>trivial) with ⟨_,e⟩ | ⟨q,r,_,e,s⟩
 ·rw [e];exact h
 ·exact HW.steps (h.set h0 h1 ((h k h0 h1).next e)) s
theorem HW.turns (h:H.HW):∀ k:Nat,k≤4→(H.turns k).HW
 | 0,_=>h
 | k+1,hk=>(HW.turns h k (by omega)).EW (by omega) (by omega)
theorem HW.begun (h:H.HW):H.begun.HW:=fun k h0 h1=>by rw [Gy h0 h1];exact(h k h0 h1).heard
theorem HW.D0 (h:H.HW)(a:Bx):(H.D0 a).1.HW:=
 JP (fun X=>X.HW) h (fun d=>((h.turns 4 (Nat.le_refl 4)).steps (U:=fun _=>True) (J3 _ d)).BX)
  (fun k h0 h1=>((h.set h0 h1 (((show({ (default:Aq) with state:=1,Au:=-1 }:Aq).Ok from⟨⟨show(0:Int)≤1 by decide,show(1:Int)≤2 by decide⟩,Aq.DP.n,Aq.DP.ring,Aq.DP.s0,Aq.DP.s1,Aq.DP.ln⟩).offer 3).offer 31)).tell h0 h1 Hb).BX)
  (fun k u h0 h1=>by
   rw [I7]
   refine HW.BX ?_
   have hs:=h.set h0 h1 ((h k h0 h1).typed u)
   split
   ·exact hs.tell h0 h1 Md
   ·exact hs)
  (fun k z h0 h1=>(h.set h0 h1 ((h k h0 h1).G3 z)).BX) (fun k h0 h1=>(h.steps (U:=fun _=>True) (Gl H h0 h1)).BX) a
theorem HW.act (h:H.HW)(a:Bx):(H.act a).1.HW:=by
 unfold AI.act
 split
 ·exact h
 ·exact h.begun.D0 a
end
structure Live (H:AI):Prop where
 fit:H.Fit 1000 1000
 B7:0≤H.B7
 PV:H.HW
theorem Live.fits {H:AI}(h:H.Live):H.Fits:=⟨_,_,h.fit⟩
theorem U0:AI.new.HW:=fun k h0 h1=>by rw [MN h0 h1];exact Aq.DP
theorem Lu:AI.new.Live:=⟨Z2.mono (by decide) (by decide),Int.le_refl 0,U0⟩
section
variable {H X:AI}
theorem OS (e:Event)(H:AI):∀ k:Nat,(CH e H k).B7=H.B7
 | 0=>rfl
 | k+1=>by
  have ih:=OS e H k
  rw [CH.eq_2]
  split
  ·exact ih
  ·split<;>exact ih
theorem Oy:∀(es:List Event) (H:AI),(H.Ha es).B7=H.B7
 | [],_=>rfl
 | e :: r,H=>(Oy r _).trans (OS e H 4)
theorem KU (H:AI)(es:List Event):(H.G2 es).B7=H.B7:=Oy es _
theorem LF (H:AI)(k:Int):(H.leave k).B7=H.B7:=by
 unfold AI.leave
 split
 ·exact KU _ _
 ·rfl
theorem LL (H:AI):∀ k:Nat,(H.Ch k).1.B7=H.B7
 | 0=>rfl
 | k+1=>by
  have ih:=LL H k
  unfold Ch
  split
  ·exact ih
  ·split
   ·exact(LF _ _).trans ih
   ·exact ih
theorem PH:∀(n:Nat) (H:AI),(H.Hm n).B7=H.B7
 | 0,_=>rfl
 | n+1,H=>by
  unfold Hm
  split
  ·exact LL H 4
  ·exact(PH n _).trans (LL H 4)
theorem It (H:AI):H.BX.B7=H.B7:=PH 5 H
theorem TR (H:AI)(k:Int):(H.EW k).B7=H.B7:=by
 unfold AI.EW
 split
 ·rfl
 ·split
  ·rfl
  ·dsimp only
   split
   ·rfl
   ·split
    ·unfold AI.named
     split
     ·exact KU _ _
     ·split<;>rfl
    ·unfold AI.order
     split
     ·rfl
     ·split
      ·exact LF _ _
      ·exact KU _ _
theorem Oh (H:AI):∀ k:Nat,(H.turns k).B7=H.B7
 | 0=>rfl
 | k+1=>(TR _ _).trans (Oh H k)
theorem VY (X:AI)(a:Bx):(X.D0 a).1.B7=X.B7:=
 JP (fun Y=>Y.B7=X.B7) rfl (fun d=>(It _).trans ((KU _ _).trans (Oh X 4))) (fun k _ _=>It _) (fun k u _ _=>by rw [I7,It];split<;>rfl) (fun k z _ _=>It _) (fun k _ _=>(It _).trans (LF _ _)) a
theorem Tx (H:AI):H.begun.B7=H.B7+1:=(HJ (H:={ H with B7:=H.B7+1,last:= [] }) 4).2.2
theorem R6 (H:AI)(a:Bx):(H.act a).1.B7=if 400≤H.B7 then H.B7 else H.B7+1:=by
 unfold AI.act
 by_cases c:400≤H.B7
 ·rw [if_pos (decide_eq_true c),if_pos c]
 ·rw [if_neg (fun e=>c (of_decide_eq_true e)),if_neg c]
  exact(VY _ _).trans (Tx H)
theorem Live.act (h:H.Live)(a:Bx):(H.act a).1.Live:=⟨by
 unfold AI.act
 split
 ·exact h.fit
 ·exact(h.fit.begun).D0 a,by rw [R6];have:=h.B7;split<;>omega,h.PV.act a⟩
theorem Live.run:∀(l:List Bx) {H:AI},H.Live→(H.run l).1.Live
 | [],_,h=>h
 | a :: r,_,h=>Live.run r (h.act a)
theorem Sj:∀(l:List Bx) {H:AI},H.B7+l.length≤400→(H.run l).1.B7=H.B7+l.length
 | [],H,_=>by show H.B7=_;simp
 | a :: r,H,h=>by
  rw [List.length_cons] at h
  have h1:(H.act a).1.B7=H.B7+1:=by rw [R6,if_neg (by omega)]
  have:=Sj r (H:=(H.act a).1) (by rw [h1];omega)
  show((H.act a).1.run r).1.B7=_
  rw [this,h1,List.length_cons];omega
end
theorem SK {xs:List Bx}{k:Int}(h0:0≤k)(h1:k < xs.length)(H:AI):(H.run (xs.take (k+1).toNat)).1=((H.run (xs.take k.toNat)).1.act (xs.getD k.toNat default)).1:=by rw [Yf h0 h1]
/-! #### does a house answer at all? -/
def P4:Bx:=⟨1,2,0,[]⟩
def type2:Bx:=⟨2,2,0,[97,110,110,13,10]⟩
def UE:Bx:=⟨5,0,0,[]⟩
theorem gB:AI.new.Live:=Lu
theorem gI:(AI.new.act P4).1.Live:=gB.act _
theorem gD:((AI.new.act P4).1.act type2).1.Live:=gI.act _
def ef:AI:=(((AI.new.act P4).1.act type2).1.act UE).1
theorem XG:ef.Live:=gD.act _
theorem fX:(AI.new.act P4).2.code=0:=by kernel_rfl
theorem fH:(((AI.new.act P4).1.act type2).1.act UE).2.code=0:=by kernel_rfl
theorem gA:ef.DR 2=(2,2):=by kernel_rfl
theorem fu:decide (2 < ((ef.at_ 2).told.length:Int))=true:=by kernel_rfl
theorem Live.told {V:AL}{ls:Vector BG 4}{ev:List Event}(h:(A5 V ls ev).Live){k:Int}(h0:0≤k)(h1:k < 4):(ls.at k).told.length≤1000000:=by
 have:=h.fit.told k h0 h1
 rw [CY _ _ _ h0 h1] at this
 exact Nat.le_trans this (by decide)
theorem Live.wait {V:AL}{ls:Vector BG 4}{ev:List Event}(h:(A5 V ls ev).Live){k:Int}(h0:0≤k)(h1:k < 4):(ls.at k).wait.length≤1000000:=by
 have:=(h.PV k h0 h1).n
 rw [CY _ _ _ h0 h1] at this
 exact Nat.le_trans this (by decide)
theorem Live.queue {V:AL}{ls:Vector BG 4}{ev:List Event}(h:(A5 V ls ev).Live){k:Int}(h0:0≤k)(h1:k < 4):(ls.at k).queue.length≤1000000:=by
 have:=(h.PV k h0 h1).ln.len
 rw [CY _ _ _ h0 h1] at this
 exact Nat.le_trans this (by decide)
theorem Live.last {V:AL}{ls:Vector BG 4}{ev:List Event}(h:(A5 V ls ev).Live):ev.length≤1000000:=Nat.le_trans h.fit.last (by decide)
/-! #### do two houses stand alike? -/
def bw (s t:Aq):Bool:=decide (s.wait=t.wait) && decide (s.pg.shown=t.pg.shown) && (s.pg.CC == t.pg.CC) && decide (s.pg.ring=t.pg.ring) && (s.pg.cut == t.pg.cut)
def bU (s t:Aq):Bool:=decide (s.now=t.now) && (s.Cy == t.Cy) && (s.ret == t.ret) && decide (s.queue=t.queue)
def sameAt (H K:AI)(k:Int):Bool:=!(!decide ((H.DR k).1=(K.DR k).1) || !decide ((H.DR k).2=(K.DR k).2) || !bw (H.at_ k) (K.at_ k) || !bU (H.at_ k) (K.at_ k))
def same (H K:AI):Bool:=B8 4 (sameAt H K) 4 && decide (H.w=K.w)
end AI
end Go.Ing
/- What beings do keeps: things, people, and who is far. -/
namespace Go.Ing
open Go
theorem FL {α β:Type}[Inhabited α]{n:Nat}(f:α→β)(v:Vector α n){k:Int}{x:α}(hx:f x=f (v.at k))(i:Int):f ((v.put k x).at i)=f (v.at i):=by
 unfold Vector.put Vector.at at *
 rw [List.getD_eq_getElem?_getD] at hx ⊢
 rw [List.getD_eq_getElem?_getD]
 simp only [Vector.toList_setIfInBounds]
 rw [List.getElem?_set]
 split
 ·rename_i h1
  split
  ·rw [← h1,← hx];rfl
  ·rename_i h2
   rw [← h1,List.getElem?_eq_none (by omega)]
 ·rfl
namespace AE
/-! #### things stay what they are -/
def aN (X:AG)(_:List Event)(Y:AG):Prop:=∀ i,(Y.AO.at i).name=(X.AO.at i).name∧(Y.AO.at i).kind=(X.AO.at i).kind
theorem bG (x:Ao)(q:Prop)(b:Int):Rel x q b aN where
 refl _:=fun _=>⟨rfl,rfl⟩
 trans h k:=fun i=>⟨(k i).1.trans (h i).1,(k i).2.trans (h i).2⟩
 cS _:=fun _=>⟨rfl,rfl⟩
 BJ {w i t} hn hk:=fun j=>⟨FL Am.name w.AO hn j,FL Am.kind w.AO hk j⟩
 B2:=fun _=>⟨rfl,rfl⟩
 shut:=fun _=>⟨rfl,rfl⟩
 Fu:=fun _=>⟨rfl,rfl⟩
 GG _:=fun _=>⟨rfl,rfl⟩
 gone h _:=h
theorem aG:ZB aN:=⟨fun b _ _=>bG [] False b,fun _=>⟨rfl,rfl⟩,fun _ h _=>h⟩
/-! #### who is there -/
def eO (l:List Event)(c:Int):Prop:=∃ e∈l,e.kind=18∧e.DK=c
def aX (X:AG)(l:List Event)(Y:AG):Prop:=∀ c,0≤c→c < 6→((Y.AN.at c).here=true→(X.AN.at c).here=true∧(Y.AN.at c).name=(X.AN.at c).name)∧(2≤c→¬ eO l c→(Y.AN.at c).here=(X.AN.at c).here)
theorem Ge {X Y:AG}{l:List Event}(h:∀ c,(Y.AN.at c).here=(X.AN.at c).here∧(Y.AN.at c).name=(X.AN.at c).name):aX X l Y:=fun c _ _=>⟨fun e=>⟨by rw [← (h c).1];exact e,(h c).2⟩,fun _ _=>(h c).1⟩
theorem WY {X Y Z:AG}{l m:List Event}(h:aX X l Y)(k:aX Y m Z):aX X (l++m) Z:=fun c c0 c6=>⟨fun e=>by
  obtain⟨a,b⟩:=(k c c0 c6).1 e
  obtain⟨d,f⟩:=(h c c0 c6).1 a
  exact⟨d,b.trans f⟩,fun c2 hn=>((k c c0 c6).2 c2 fun⟨e,he,h1⟩=>hn ⟨e,List.mem_append_right _ he,h1⟩).trans ((h c c0 c6).2 c2 fun⟨e,he,h1⟩=>hn ⟨e,List.mem_append_left _ he,h1⟩)⟩
theorem YK (x:Ao)(q:Prop){b:Int}(b0:0≤b)(b6:b < 6):Rel x q b aX where
 refl _:=Ge fun _=>⟨rfl,rfl⟩
 trans:=WY
 cS _:=Ge fun _=>⟨rfl,rfl⟩
 BJ _ _:=Ge fun _=>⟨rfl,rfl⟩
 B2 {w k f}:=Ge fun c=>⟨FL Aj.here w.AN (k:=k) (x:={ w.AN.at k with B2:=f }) rfl c,FL Aj.name w.AN (k:=k) (x:={ w.AN.at k with B2:=f }) rfl c⟩
 shut:=Ge fun _=>⟨rfl,rfl⟩
 Fu {w d r}:=Ge fun c=>⟨FL Aj.here w.AN (k:=b) (x:={ w.AN.at b with room:=r,B2:=0 }) rfl c,FL Aj.name w.AN (k:=b) (x:={ w.AN.at b with room:=r,B2:=0 }) rfl c⟩
 GG _ {w}:=Ge fun _=>⟨rfl,rfl⟩
 gone {X l w} h hg:=fun c c0 c6=>by
  by_cases e:c=b
  ·subst e
   rw [AG.EK c0 c6]
   refine⟨fun e=>(by cases e),fun c2 hn=>?_⟩
   obtain⟨e,he,hk,ha⟩:=hg
   rcases hk with hk | ⟨_,hk⟩
   ·exact absurd ⟨e,he,hk,ha⟩ hn
   ·omega
  ·rw [AG.GS b0 b6 c0 e];exact h c c0 c6
theorem dL:ZB aX:=⟨fun b b0 b6=>YK [] False b0 b6,fun {w k h}=>Ge fun c=>⟨FL Aj.here w.AN (k:=k) (x:={ w.AN.at k with BI:=h }) rfl c,FL Aj.name w.AN (k:=k) (x:={ w.AN.at k with BI:=h }) rfl c⟩,
 fun {X l w b} _ h _=>fun c c0 c6=>by
  have e1:=FL Aj.here w.AN (k:=b) (x:={ w.AN.at b with room:=0,BI:=10 }) rfl c
  have e2:=FL Aj.name w.AN (k:=b) (x:={ w.AN.at b with room:=0,BI:=10 }) rfl c
  have:=h c c0 c6
  rw [← e1,← e2] at this
  exact this⟩
def Still (_:AG)(l:List Event)(_:AG):Prop:=∀ e∈l,e.kind≠18
theorem TD {x:Ao}{w:AG}{e:Event}(h:Shape x w e):e.kind≠18:=by
 cases h with
 | cJ _=>show(16:Int)≠18;decide
 | said=>show(7:Int)≠18;decide
 | @kind k h=>show k≠18;omega
 | @dir k d h=>show k≠18;omega
 | @BJ k i h=>show k≠18;omega
 | @Gi k h=>show k≠18;omega
 | cI=>show(6:Int)≠18;decide
 | TX=>show(5:Int)≠18;decide
 | B9 _ _=>show(14:Int)≠18;decide
theorem Uh (x:Ao)(b:Int):Rel x False b Still where
 refl _:=fun _ h=>by cases h
 trans h k:=fun e he=>(List.mem_append.1 he).elim (h e) (k e)
 cS {w e} h:=fun y hy=>by rw [List.mem_singleton.1 hy,(FQ w b e).1];exact TD h
 BJ _ _:=fun _ h=>by cases h
 B2:=fun _ h=>by cases h
 shut:=fun _ h=>by cases h
 Fu {w d r}:=fun y hy=>by rw [List.mem_singleton.1 hy,(FQ w b _).1];show(1:Int)≠18;decide
 GG h:=h.elim
 gone h _:=h
theorem aL:ZB Still:=⟨fun b _ _=>Uh [] b,fun _ h=>(by cases h),fun _ h _=>h⟩
def By (b:Int)(_:AG)(l:List Event)(_:AG):Prop:=∀ e∈l,e.DK=b
theorem ft (x:Ao)(q:Prop)(b:Int):Rel x q b (By b) where
 refl _:=fun _ h=>by cases h
 trans h k:=fun e he=>(List.mem_append.1 he).elim (h e) (k e)
 cS {w e} _:=fun y hy=>by rw [List.mem_singleton.1 hy,(FQ w b e).2]
 BJ _ _:=fun _ h=>by cases h
 B2:=fun _ h=>by cases h
 shut:=fun _ h=>by cases h
 Fu {w d r}:=fun y hy=>by rw [List.mem_singleton.1 hy,(FQ w b _).2]
 GG _ {w}:=fun y hy=>by rw [List.mem_singleton.1 hy,(FQ w b _).2]
 gone h _:=h
/-! #### who stays in a room -/
end AE
end Go.Ing
/- What a house keeps through every act: people and pages. -/
namespace Go.Ing
open Go
namespace AE
theorem ZJ (X:AG)(s:Ao)(b:Int):(Hp X s b).w=X.Cw b (IZ s):=(KF _).1
theorem Qa (X:AG):∀ n:Nat,n≤6→2≤CK X n→(X.AN.at (CK X n)).here=false
 | 0,_,h=>by have:CK X 0=-1:=rfl;omega
 | n+1,hn,h=>by
  unfold CK at h ⊢
  split
  ·rename_i c
   rw [Bool.and_eq_true] at c
   simpa using c.1
  ·rename_i c
   rw [if_neg c] at h
   exact Qa X n (by omega) h
theorem bI {X:AG}{b:Int}{o:Order}(hg:X.Bh=true)(b0:0≤b)(b6:b < 6)(hh:(X.AN.at b).here=true)(h0:0≤o.verb)(h1:o.verb≤20):(EF X b o)=((AE.act ⟨X,b,[]⟩ o).w,(AE.act ⟨X,b,[]⟩ o).out,0):=by
 unfold EF
 rw [if_neg (by rw [hg];decide),if_neg (by rw [decide_eq_false (by omega:¬ b < 0),decide_eq_false (by omega:¬ 6≤b),hh];decide),if_neg (by rw [decide_eq_false (by omega:¬ o.verb < 0),decide_eq_false (by omega:¬ 20 < o.verb)];decide)]
theorem Ut {X:AG}{b:Int}{o:Order}(hg:X.Bh=true)(hw:X.DL):(EF X b o).1.Bh=true:=by
 by_cases h:(EF X b o).2.2=0
 ·exact(keeps hw h).1
 ·have:(EF X b o).1=X:=by
   unfold EF at h ⊢
   split
   ·rfl
   ·split
    ·rfl
    ·split
     ·rfl
     ·rename_i c1 c2 c3
      rw [if_neg c1,if_neg c2,if_neg c3] at h
      exact absurd rfl h
  rw [this];exact hg
theorem bP {X:AG}{b:Int}(hg:X.Bh=true)(b0:0≤b)(b6:b < 6)(hh:(X.AN.at b).here=true):((EF X b AI.EG).1.AN.at b).here=false:=by
 rw [bI hg b0 b6 hh (by decide) (by decide)]
 have e:AE.act ⟨X,b,[]⟩ AI.EG=AE.GG ⟨X,b,[]⟩:=rfl
 rw [e]
 have hf:=O4 ⟨X,b,[]⟩
 show((AE.GG ⟨X,b,[]⟩).w.AN.at b).here=false
 rw [hf.2.2]
 show(((((⟨X,b,[]⟩:AE).kind 18).FD.w.AN).put b default).at b).here=false
 rw [Vector.CE b0 b6];rfl
theorem Sy {X:AG}{d:Int}(hg:X.Bh=true)(hw:X.DL):(CW X d).1.Bh=true:=by
 unfold CW
 rw [if_neg (by rw [hg];decide)]
 have h:=(K7 aG (draw:=d) hg hw 6 (Nat.le_refl 6)).2.1
 generalize DZ X d 6=r at *
 exact h
end AE
namespace AI
structure TF (U:Ao→Prop)(P:AI→Prop):Prop where
 lines:∀ {H k},P H→0≤k→k < 4→∀ q∈(H.at_ k).queue,U q
 begun:∀ {H},P H→P H.begun
 step:∀ {H X},P H→Step U H X→P X
 next:∀ {H k q r},P H→0≤k→k < 4→(H.at_ k).state≠0→(H.at_ k).queue=q :: r→P (H.next k r)
 J9:∀ {H k},P H→0≤k→k < 4→(H.at_ k).state=0→P (H.set k ((({ (default:Aq) with state:=1,Au:=-1 }:Aq).offer 3).offer 31))
 byte:∀ {H k u},P H→0≤k→k < 4→(H.at_ k).state≠0→P (H.set k (C6 (H.at_ k) u).1)
 G3:∀ {H k n},P H→0≤k→k < 4→(H.at_ k).state≠0→P (H.set k ((H.at_ k).G3 n))
theorem Ff (s:Aq)(o:Int):(s.offer o).state=s.state:=by
 unfold Aq.offer;split<;>exact(PQ _ _).2.1
structure OG (U:Ao→Prop)(Z:AI)(P:AI→Prop):Prop where
 lines:∀ {H k},P H→0≤k→k < 4→∀ q∈(H.at_ k).queue,U q
 step:∀ {H X},P H→Step U H X→P X
 next:∀ {H k q r},P H→0≤k→k < 4→(H.at_ k).state≠0→(H.at_ k).queue=q :: r→P (H.next k r)
 J9:∀ {k},0≤k→k < 4→(Z.at_ k).state=0→P (Z.set k ((({ (default:Aq) with state:=1,Au:=-1 }:Aq).offer 3).offer 31))
 byte:∀ {k u},0≤k→k < 4→(Z.at_ k).state≠0→P (Z.set k (C6 (Z.at_ k) u).1)
 G3:∀ {k n},0≤k→k < 4→(Z.at_ k).state≠0→P (Z.set k ((Z.at_ k).G3 n))
section
variable {U:Ao→Prop} {P:AI→Prop} {H X Z:AI} (K:OG U Z P)
include K
theorem OG.steps (h:P H)(s:Steps U H X):P X:=Steps.Jx (fun h s=>K.step h s) h s
theorem OG.EW (h:P H){k:Int}(h0:0≤k)(h1:k < 4):P (H.EW k):=by
 rcases O8 (U:=U) H h0 h1 (K.lines h h0 h1) with ⟨_,e⟩ | ⟨q,r,hs,e,s⟩
 ·rw [e];exact h
 ·exact K.steps (K.next h h0 h1 hs e) s
theorem OG.turns (h:P H):∀ k:Nat,k≤4→P (H.turns k)
 | 0,_=>h
 | k+1,hk=>K.EW (OG.turns h k (by omega)) (by omega) (by omega)
theorem OG.BX (h:P H):P H.BX:=K.steps h (Nn H)
theorem OG.told (h:P H){k:Int}(h0:0≤k)(h1:k < 4)(hs:(H.at_ k).state≠0){u:Ao}(hu:u∈NM):P (H.tell k u):=K.step h (.told h0 h1 hs hu)
theorem OG.D0 (h:P Z)(a:Bx):P (Z.D0 a).1:=by
 unfold AI.D0
 split
 ·have hp:=K.BX (K.steps (K.turns h 4 (Nat.le_refl 4)) (J3 (Z.turns 4) a.n))
  dsimp only
  unfold AI.Om
  exact hp
 ·split
  ·exact h
  ·split
   ·exact h
   ·rename_i c
    have hs:0≤a.BM∧a.BM < 4:=by simp only [Bool.or_eq_true,decide_eq_true_eq] at c;omega
    split
    ·exact h
    ·rename_i c2
     have c2':decide ((Z.at_ a.BM).state=0)=decide (a.kind=1):=by simpa using c2
     split
     ·rename_i c3
      have hz:(Z.at_ a.BM).state=0:=of_decide_eq_true (c2'.trans c3)
      have h1:=K.J9 hs.1 hs.2 hz
      have h2:=K.BX (K.told (u:=Hb) h1 hs.1 hs.2 (by
       rw [Cl _ hs.1 hs.2 hs.1,if_pos rfl,Ff,Ff]
       exact(by decide:(1:Int)≠0)) (List.mem_cons_self ..))
      dsimp only
      unfold AI.J9
      exact h2
     ·rename_i c3
      have hz:(Z.at_ a.BM).state≠0:=fun e=>c3 (by rw [← c2'];exact decide_eq_true e)
      split
      ·have h1:=K.byte hs.1 hs.2 hz (u:=a.bytes)
       have h2:=K.BX h1
       have h3:=K.BX (K.told (u:=Md) h1 hs.1 hs.2 (by rw [Cl _ hs.1 hs.2 hs.1,if_pos rfl,(Dw _ _).2.1];exact hz) (List.mem_cons_of_mem _ (List.mem_cons_self ..)))
       dsimp only
       rw [I7]
       split
       ·exact h3
       ·exact h2
      ·split
       ·have h1:=K.BX (K.G3 (n:=a.n) hs.1 hs.2 hz)
        dsimp only
        exact h1
       ·have h1:=K.BX (K.steps h (Gl Z hs.1 hs.2))
        dsimp only
        exact h1
end
section
variable {U:Ao→Prop} {P:AI→Prop} (K:TF U P) {H X:AI}
include K
theorem TF.D0 (h:P X)(a:Bx):P (X.D0 a).1:=OG.D0 ⟨K.lines,K.step,K.next,K.J9 h,K.byte h,K.G3 h⟩ h a
theorem TF.act (h:P H)(a:Bx):P (H.act a).1:=by
 unfold AI.act
 split
 ·exact h
 ·exact K.D0 (K.begun h) a
theorem TF.run:∀(l:List Bx) {H:AI},P H→P (H.run l).1
 | [],_,h=>h
 | a :: r,_,h=>TF.run r (K.act h a)
end
structure Home (H:AI):Prop where
 gd:H.w.Bh=true
 FP:H.w.LS
 PV:H.HW
 me:∀ k,0≤k→k < 4→(H.at_ k).state=2→2≤(H.at_ k).Au∧(H.at_ k).Au≤5∧(H.w.AN.at (H.at_ k).Au).here=true
 one:∀ j k,0≤j→j < 4→0≤k→k < 4→(H.at_ j).state=2→(H.at_ k).state=2→(H.at_ j).Au=(H.at_ k).Au→j=k
 all:∀ b,2≤b→b≤5→(H.w.AN.at b).here=true→∃ k,0≤k∧k < 4∧(H.at_ k).state=2∧(H.at_ k).Au=b
 named:∀ b,2≤b→b≤5→(H.w.AN.at b).here=true→AE.FR (H.w.AN.at b).name=true
 diff:∀ b c,2≤b→b≤5→0≤c→c≤5→(H.w.AN.at b).here=true→(H.w.AN.at c).here=true→(H.w.AN.at c).name=(H.w.AN.at b).name→c=b
section
variable {H X:AI}
theorem Home.of (h:H.Home)(hw:X.w=H.w)(hs:∀ j,0≤j→j < 4→(X.at_ j).state=(H.at_ j).state∧(X.at_ j).Au=(H.at_ j).Au)(ho:X.HW):X.Home:=
 ⟨by rw [hw];exact h.gd,by rw [hw];exact h.FP,ho,fun k k0 k1 e=>by
  obtain⟨a,b⟩:=hs k k0 k1
  rw [hw,b];exact h.me k k0 k1 (a ▸ e),fun j k j0 j1 k0 k1 e1 e2 e3=>by
  obtain⟨a,b⟩:=hs k k0 k1
  obtain⟨c,d⟩:=hs j j0 j1
  exact h.one j k j0 j1 k0 k1 (c ▸ e1) (a ▸ e2) (by rw [← d,← b];exact e3),fun b b0 b1 e=>by
  rw [hw] at e
  obtain⟨k,k0,k1,e1,e2⟩:=h.all b b0 b1 e
  obtain⟨c,d⟩:=hs k k0 k1
  exact⟨k,k0,k1,c.trans e1,d.trans e2⟩,by rw [hw];exact h.named,by rw [hw];exact h.diff⟩
theorem Home.put (h:H.Home){k:Int}(k0:0≤k)(k1:k < 4)(hn:(H.at_ k).state≠2){s:Aq}(hs:s.state≠2)(ho:s.Ok):(H.set k s).Home:=by
 have e:∀ j,0≤j→(H.set k s).at_ j=if j=k then s else H.at_ j:=fun j j0=>Cl H k0 k1 j0 s
 refine⟨h.gd,h.FP,h.PV.set k0 k1 ho,fun j j0 j1=>?_,fun i j i0 i1 j0 j1=>?_,fun b b0 b1 hb=>?_,h.named,h.diff⟩
 ·rw [e j j0];split
  ·exact fun q=>absurd q hs
  ·exact h.me j j0 j1
 ·rw [e i i0,e j j0];split
  ·exact fun q=>absurd q hs
  ·split
   ·exact fun _ q=>absurd q hs
   ·exact h.one i j i0 i1 j0 j1
 ·obtain⟨j,j0,j1,e1,e2⟩:=h.all b b0 b1 hb
  refine⟨j,j0,j1,?_⟩
  rw [e j j0,if_neg (fun q=>by subst q;exact hn e1)]
  exact⟨e1,e2⟩
theorem Home.land (h:H.Home){k:Int}(k0:0≤k)(k1:k < 4){w:AG}{es:List Event}(hg:w.Bh=true)(hw:w.LS)(hr:AE.aX H.w es w)(hn:AE.Still H.w es w):(H.Hk k w (H.at_ k) es).Home:=by
 have hat:∀ j,0≤j→j < 4→((H.Hk k w (H.at_ k) es).at_ j).state=(H.at_ j).state∧((H.Hk k w (H.at_ k) es).at_ j).Au=(H.at_ j).Au:=fun j j0 j1=>by
  rw [GX H k0 k1 _ _ _ j0 j1]
  have e:(if j=k then H.at_ k else H.at_ j)=H.at_ j:=by
   split
   ·rename_i q;rw [q]
   ·rfl
  rw [e];exact Aq.Er _ _
 have hok:(H.Hk k w (H.at_ k) es).HW:=fun j j0 j1=>by
  rw [GX H k0 k1 _ _ _ j0 j1]
  exact Aq.Ok.Dx (by split;exact h.PV k k0 k1;exact h.PV j j0 j1) es
 have hkeep:=KY H k w (H.at_ k) es
 have hgone:∀ c,¬ AE.eO es c:=fun c ⟨e,he,h1,_⟩=>hn e he h1
 refine Home.of (H:={ H with w:=w }) ⟨hg,hw,h.PV,fun j j0 j1 e=>?_,h.one,fun b b0 b1 e=>h.all b b0 b1 ((hr b (by omega) (by omega)).1 e).1,fun b b0 b1 e=>?_,fun b c b0 b1 c0 c1 e1 e2 e3=>?_⟩ hkeep.1 hat hok
 ·obtain⟨a,b,c⟩:=h.me j j0 j1 e
  exact⟨a,b,((hr _ (by omega) (by omega)).2 a (hgone _)).trans c⟩
 ·obtain⟨p,q⟩:=(hr b (by omega) (by omega)).1 e
  show AE.FR (w.AN.at b).name=true
  rw [q];exact h.named b b0 b1 p
 ·obtain⟨p,q⟩:=(hr b (by omega) (by omega)).1 e1
  obtain⟨p',q'⟩:=(hr c (by omega) (by omega)).1 e2
  exact h.diff b c b0 b1 c0 c1 p p' (by rw [← q,← q'];exact e3)
theorem Home.left (h:H.Home){k:Int}(k0:0≤k)(k1:k < 4)(hs:(H.at_ k).state=2):(H.Hk k (AE.EF H.w (H.at_ k).Au EG).1 default (AE.EF H.w (H.at_ k).Au EG).2.1).Home:=by
 obtain⟨b2,b5,hh⟩:=h.me k k0 k1 hs
 have hr:AE.aX H.w (AE.EF H.w (H.at_ k).Au EG).2.1 (AE.EF H.w (H.at_ k).Au EG).1:=AE.Mm (AE.YK [] True (by omega) (by omega)) rfl (fun _=>trivial)
 have hb:AE.By (H.at_ k).Au H.w (AE.EF H.w (H.at_ k).Au EG).2.1 (AE.EF H.w (H.at_ k).Au EG).1:=AE.Mm (AE.ft [] True _) rfl (fun _=>trivial)
 have hq:=AE.bP h.gd (show 0≤(H.at_ k).Au by omega) (by omega) hh
 have hg:=AE.Ut (b:=(H.at_ k).Au) (o:=EG) h.gd h.FP.HS
 have hw:=(AE.IC (b:=(H.at_ k).Au) (o:=EG) h.FP KV).1
 generalize hd:AE.EF H.w (H.at_ k).Au EG=D at *
 have hkeep:=KY H k D.1 default D.2.1
 have hat:=fun j j0 j1=>GX H k0 k1 D.1 default D.2.1 (j:=j) j0 j1
 have st:∀ j,0≤j→j < 4→((H.Hk k D.1 default D.2.1).at_ j).state=2→j≠k∧(H.at_ j).state=2∧((H.Hk k D.1 default D.2.1).at_ j).Au=(H.at_ j).Au:=fun j j0 j1 e=>by
  rw [hat j j0 j1] at e ⊢
  rw [(Aq.Er _ _).1] at e
  rw [(Aq.Er _ _).2]
  by_cases q:j=k
  ·rw [if_pos q] at e;exact absurd (show(0:Int)=2 from e) (by decide)
  ·rw [if_neg q] at e ⊢;exact⟨q,e,rfl⟩
 refine⟨by rw [hkeep.1];exact hg,by rw [hkeep.1];exact hw,fun j j0 j1=>?_,fun j j0 j1 e=>?_,fun i j i0 i1 j0 j1 e1 e2 e3=>?_,fun b b0 b1 e=>?_,fun b b0 b1 e=>?_,fun b c b0 b1 c0 c1 e1 e2 e3=>?_⟩
 ·rw [hat j j0 j1]
  exact Aq.Ok.Dx (by split;exact Aq.DP;exact h.PV j j0 j1) _
 ·obtain⟨q,e1,e2⟩:=st j j0 j1 e
  obtain⟨a,b,c⟩:=h.me j j0 j1 e1
  rw [hkeep.1,e2]
  refine⟨a,b,((hr _ (by omega) (by omega)).2 a fun⟨y,hy,_,ha⟩=>?_).trans c⟩
  exact q (h.one j k j0 j1 k0 k1 e1 hs (ha.symm.trans (hb y hy)))
 ·obtain⟨_,a1,a2⟩:=st i i0 i1 e1
  obtain⟨_,c1,c2⟩:=st j j0 j1 e2
  exact h.one i j i0 i1 j0 j1 a1 c1 (by rw [← a2,← c2];exact e3)
 ·rw [hkeep.1] at e
  obtain⟨p,_⟩:=(hr b (by omega) (by omega)).1 e
  obtain⟨j,j0,j1,a1,a2⟩:=h.all b b0 b1 p
  have hjk:j≠k:=fun q=>by subst q;rw [a2,e] at hq;cases hq
  refine⟨j,j0,j1,?_⟩
  rw [hat j j0 j1,(Aq.Er _ _).1,(Aq.Er _ _).2,if_neg hjk]
  exact⟨a1,a2⟩
 ·rw [hkeep.1] at e ⊢
  obtain⟨p,q⟩:=(hr b (by omega) (by omega)).1 e
  rw [q];exact h.named b b0 b1 p
 ·rw [hkeep.1] at e1 e2 e3
  obtain⟨p,q⟩:=(hr b (by omega) (by omega)).1 e1
  obtain⟨p',q'⟩:=(hr c (by omega) (by omega)).1 e2
  exact h.diff b c b0 b1 c0 c1 p p' (by rw [← q,← q'];exact e3)
theorem Home.L4 (h:H.Home){k:Int}{u:Ao}(k0:0≤k)(k1:k < 4)(hs:(H.at_ k).state=1)(he:(AE.BW H.w u).2.2.2=0):(H.Hk k (AE.BW H.w u).1 { H.at_ k with state:=2,Au:=(AE.BW H.w u).2.1 } (AE.BW H.w u).2.2.1).Home:=by
 rcases AE.NC H.w u with ⟨hn,_⟩ | ⟨e,f2,f5,hn,_,ht⟩
 ·exact absurd he hn
 have hw:=(AE.Hg (s:=u) h.FP).1
 have hf:=AE.Qa H.w 6 (Nat.le_refl 6) f2
 have hlen:u.length≤8:=by
  have h2:=hn
  simp only [AE.FR,Bool.and_eq_true,decide_eq_true_eq] at h2
  omega
 have hfit:=AE.Qb (b:=AE.CK H.w 6) h.gd h.FP.HS (s:=u) (by omega) (by omega) (by omega)
 have hwe:=AE.ZJ H.w u (AE.CK H.w 6)
 rw [e] at hw ⊢
 generalize AE.CK H.w 6=f at *
 generalize (AE.Hp H.w u f).out=es
 generalize (AE.Hp H.w u f).w=w at *
 show(H.Hk k w { H.at_ k with state:=2,Au:=f } es).Home
 have hw2:w.LS:=hw
 have hg:w.Bh=true:=by rw [hwe];exact hfit.gd
 have bf:w.AN.at f=AE.IZ u:=by rw [hwe];exact AG.EK (by omega) (by omega) _
 have bn:∀ c,0≤c→c≠f→w.AN.at c=H.w.AN.at c:=fun c c0 hc=>by rw [hwe];exact AG.GS (by omega) (by omega) c0 hc _
 have hkeep:=KY H k w { H.at_ k with state:=2,Au:=f } es
 have hat:∀ j,0≤j→j < 4→((H.Hk k w { H.at_ k with state:=2,Au:=f } es).at_ j).state=(if j=k then 2 else(H.at_ j).state)∧((H.Hk k w { H.at_ k with state:=2,Au:=f } es).at_ j).Au=(if j=k then f else(H.at_ j).Au):=fun j j0 j1=>by
  rw [GX H k0 k1 _ _ _ j0 j1,(Aq.Er _ _).1,(Aq.Er _ _).2]
  split<;>exact⟨rfl,rfl⟩
 have out:∀ j,0≤j→j < 4→(H.at_ j).state=2→(H.at_ j).Au≠f:=fun j j0 j1 e q=>by
  have:=(h.me j j0 j1 e).2.2
  rw [q,hf] at this;cases this
 refine⟨by rw [hkeep.1];exact hg,by rw [hkeep.1];exact hw2,fun j j0 j1=>?_,fun j j0 j1=>?_,fun i j i0 i1 j0 j1=>?_,fun b b0 b1 e=>?_,fun b b0 b1 e=>?_,fun b c b0 b1 c0 c1 e1 e2 e3=>?_⟩
 ·rw [GX H k0 k1 _ _ _ j0 j1]
  exact Aq.Ok.Dx (by split;exact(h.PV k k0 k1).L4 f;exact h.PV j j0 j1) _
 ·rw [(hat j j0 j1).1,(hat j j0 j1).2,hkeep.1]
  split
  ·intro _;rw [bf];exact⟨by omega,by omega,rfl⟩
  ·intro e
   obtain⟨a,b,c⟩:=h.me j j0 j1 e
   exact⟨a,b,by rw [bn _ (by omega) (out j j0 j1 e)];exact c⟩
 ·rw [(hat i i0 i1).1,(hat i i0 i1).2,(hat j j0 j1).1,(hat j j0 j1).2]
  split
  ·rename_i q1
   split
   ·rename_i q2;intro _ _ _;rw [q1,q2]
   ·intro _ e q;exact absurd q.symm (out j j0 j1 e)
  ·split
   ·intro e _ q;exact absurd q (out i i0 i1 e)
   ·exact h.one i j i0 i1 j0 j1
 ·rw [hkeep.1] at e
  by_cases q:b=f
  ·exact⟨k,k0,k1,by rw [(hat k k0 k1).1,if_pos rfl],by rw [(hat k k0 k1).2,if_pos rfl,q]⟩
  ·rw [bn b (by omega) q] at e
   obtain⟨j,j0,j1,a1,a2⟩:=h.all b b0 b1 e
   have hjk:j≠k:=fun q=>by subst q;omega
   exact⟨j,j0,j1,by rw [(hat j j0 j1).1,if_neg hjk];exact a1,by rw [(hat j j0 j1).2,if_neg hjk];exact a2⟩
 ·rw [hkeep.1] at e ⊢
  by_cases q:b=f
  ·rw [q,bf];exact hn
  ·rw [bn b (by omega) q] at e ⊢;exact h.named b b0 b1 e
 ·rw [hkeep.1] at e1 e2 e3
  have hfree:∀ c,0≤c→c≤5→(H.w.AN.at c).here=true→(H.w.AN.at c).name≠u:=fun c c0 c1 hc q=>by
   have:=ht c c0 (by omega)
   unfold AE.Ik at this
   rw [hc,q] at this
   simp at this
  by_cases q1:b=f
  ·by_cases q2:c=f
   ·rw [q1,q2]
   ·rw [bn c (by omega) q2] at e2 e3
    rw [q1,bf] at e3
    exact absurd e3 (hfree c c0 c1 e2)
  ·rw [bn b (by omega) q1] at e1 e3
   by_cases q2:c=f
   ·rw [q2,bf] at e3
    exact absurd e3.symm (hfree b (by omega) b1 e1)
   ·rw [bn c (by omega) q2] at e2 e3
    exact h.diff b c b0 b1 c0 c1 e1 e2 e3
theorem NB (q:Ao)(hq:q.length≤1000):(Words.parse q).1.text.length≤1000000:=by
 have:=(Words.Jy q).2.2
 omega
theorem Home.step (h:H.Home)(hu:True){U:Ao→Prop}(hU:∀ q,U q→q.length≤1000)(s:Step U H X):X.Home:=by
 cases s with
 | @told k u h0 h1 hs _=>
  refine h.of rfl (fun j j0 j1=>?_) (h.PV.step (U:=U) (.told h0 h1 hs ‹_›))
  unfold AI.tell
  rw [Cl _ h0 h1 j0]
  split
  ·rename_i q;subst q;exact⟨(Ex _ _).1,(Ex _ _).2.1⟩
  ·exact⟨rfl,rfl⟩
 | @BX k h0 h1 hs=>
  refine h.of rfl (fun j j0 j1=>?_) (h.PV.step (U:=U) (.BX h0 h1 hs))
  rw [Cl _ h0 h1 j0]
  split
  ·rename_i q;subst q;exact⟨(Fh _).2.1,(Fh _).2.2.1⟩
  ·exact⟨rfl,rfl⟩
 | @free k h0 h1 hn=>exact h.put h0 h1 (fun e=>hn ⟨e,(h.me k h0 h1 e).2.2⟩) (show(0:Int)≠2 by decide) Aq.DP
 | @goes k w s es h0 h1 g=>
  cases g with
  | left hs _=>exact h.left h0 h1 hs
  | L4 hs he=>exact h.L4 h0 h1 hs he
  | cO hq hn0 hn1 hv=>
   have hst:=(h.PV k h0 h1).st
   obtain⟨b2,b5,hh⟩:=h.me k h0 h1 (by omega)
   exact h.land h0 h1 (AE.Ut h.gd h.FP.HS) (AE.IC h.FP (NB _ (hU _ hq))).1 (AE.Mm (AE.YK _ False (by omega) (by omega)) rfl (fun e=>hv e)) (AE.Mm (AE.Uh _ _) rfl (fun e=>hv e))
  | round=>exact h.land h0 h1 (AE.Sy h.gd h.FP.HS) (AE.JR h.FP).1 (AE.MM AE.dL h.FP.HS) (AE.MM AE.aL h.FP.HS)
end
end AI
end Go.Ing
/- An act that is refused, and acts behind the last: plain laws. -/
namespace Go.Ing
open Go
theorem Zf {α:Type}(a b c:α) : [a,b,c].Perm [c,b,a]:=List.reverse_perm [c,b,a]
namespace AI
theorem JG (H:AI):H.begun.w=H.w∧H.begun.last = []∧H.begun.B7=H.B7+1:=HJ (H:={ H with B7:=H.B7+1,last:= [] }) 4
def zero:Bx:=⟨0,0,0,[]⟩
end AI
end Go.Ing
/- Behind each act: people and pages. -/
namespace Go.Ing
open Go
namespace Aq
theorem Still.heard {s:Aq}(h:s.Still):({ s with told:= [] }:Aq).Still:=by
 refine⟨?_,h.cut⟩
 have e:({ s with told:= [] }:Aq).BX={ s.BX with told:= [] }:=by
  unfold Aq.BX
  by_cases c:(!s.Lq || decide (s.Ds.B0 < 0) || decide (200 < s.Ds.B0))=true
  ·rw [if_pos c,if_pos (show(!({ s with told:= [] }:Aq).Lq || decide (({ s with told:= [] }:Aq).Ds.B0 < 0) || decide (200 < ({ s with told:= [] }:Aq).Ds.B0))=true from c)]
  ·rw [if_neg c,if_neg (show ¬ (!({ s with told:= [] }:Aq).Lq || decide (({ s with told:= [] }:Aq).Ds.B0 < 0) || decide (200 < ({ s with told:= [] }:Aq).Ds.B0))=true from c)]
 rw [e,h.fl]
end Aq
namespace AI
theorem Home.B7:TF (fun q=>q.length≤1000) Home where
 lines {H k} h h0 h1 q hq:=by
  have:=((Bg.GB q).1 ((h.PV k h0 h1).ln.queue q hq)).1
  omega
 begun {H} h:=h.of (JG H).1 (fun j j0 j1=>by rw [Gy j0 j1];exact⟨rfl,rfl⟩) h.PV.begun
 step h s:=h.step trivial (fun _ h=>h) s
 next {H k q r} h h0 h1 _ e:=h.of rfl (fun j j0 j1=>by
  unfold AI.next;rw [Cl _ h0 h1 j0];split
  ·rename_i q;subst q;exact⟨rfl,rfl⟩
  ·exact⟨rfl,rfl⟩) (h.PV.set h0 h1 ((h.PV k h0 h1).next e))
 J9 {H k} h h0 h1 hz:=h.put h0 h1 (by rw [hz];decide) (by rw [Ff,Ff];exact(by decide:(1:Int)≠2)) (((show({ (default:Aq) with state:=1,Au:=-1 }:Aq).Ok from⟨⟨show(0:Int)≤1 by decide,show(1:Int)≤2 by decide⟩,Aq.DP.n,Aq.DP.ring,Aq.DP.s0,Aq.DP.s1,Aq.DP.ln⟩).offer 3).offer 31)
 byte {H k u} h h0 h1 _:=h.of rfl (fun j j0 j1=>by
  rw [Cl _ h0 h1 j0];split
  ·rename_i q;subst q;exact⟨(Dw _ _).2.1,(Dw _ _).2.2.1⟩
  ·exact⟨rfl,rfl⟩) (h.PV.set h0 h1 ((h.PV k h0 h1).typed u))
 G3 {H k n} h h0 h1 _:=h.of rfl (fun j j0 j1=>by
  rw [Cl _ h0 h1 j0];split
  ·rename_i q;subst q;exact⟨rfl,rfl⟩
  ·exact⟨rfl,rfl⟩) (h.PV.set h0 h1 ((h.PV k h0 h1).G3 n))
def Zero (H:AI):Prop:=∀ k,0≤k→k < 4→(H.at_ k).state=0→H.at_ k=default
theorem Zero.set {H:AI}(h:H.Zero){k:Int}(h0:0≤k)(h1:k < 4){s:Aq}(hs:s.state=0→s=default):(H.set k s).Zero:=fun j j0 j1=>by
 rw [Cl _ h0 h1 j0];split
 ·exact hs
 ·exact h j j0 j1
theorem Zero.B7:TF (fun _=>True) Zero where
 lines _ _ _ _ _:=trivial
 begun {H} h:=fun k h0 h1=>by
  rw [Gy h0 h1]
  intro e
  rw [h k h0 h1 e];rfl
 step {H X} h s:=by
  cases s with
  | told h0 h1 hs _=>exact h.set h0 h1 (fun e=>absurd ((Ex _ _).1.symm.trans e) hs)
  | BX h0 h1 hs=>exact h.set h0 h1 (fun e=>absurd ((Fh _).2.1.symm.trans e) hs)
  | free h0 h1 _=>exact h.set h0 h1 (fun _=>rfl)
  | @goes k w s es h0 h1 g=>
   have hs:s.state=0→s=default:=by
    cases g with
    | left _ _=>exact fun _=>rfl
    | L4 _ _=>exact fun e=>absurd (show(2:Int)=0 from e) (by decide)
    | cO _ hn _ _=>exact fun e=>absurd e hn
    | round=>exact h 0 (Int.le_refl 0) (by decide)
   intro j j0 j1
   rw [GX H h0 h1 _ _ _ j0 j1]
   intro e
   rw [(Aq.Er _ _).1] at e
   have e2:(if j=k then s else H.at_ j)=default:=by
    split at e
    ·rename_i q;rw [if_pos q];exact hs e
    ·rename_i q;rw [if_neg q];exact h j j0 j1 e
   rw [e2];exact OL es
 next {H k q r} h h0 h1 hs _:=h.set h0 h1 (fun e=>absurd e hs)
 J9 {H k} h h0 h1 _:=h.set h0 h1 (fun e=>by rw [Ff,Ff] at e;exact absurd (show(1:Int)=0 from e) (by decide))
 byte {H k u} h h0 h1 hs:=h.set h0 h1 (fun e=>absurd ((Dw _ _).2.1.symm.trans e) hs)
 G3 {H k n} h h0 h1 hs:=h.set h0 h1 (fun e=>absurd e hs)
def Calm (H:AI):Prop:=∀ k,0≤k→k < 4→(H.at_ k).state≠0→(H.at_ k).Still
theorem Tk (X:AI)(h:X.HW)(a:Bx):(X.D0 a).1=X∨∃ Y:AI,Y.HW∧(X.D0 a).1=Y.BX:=
 JP (fun Z=>Z=X∨∃ Y:AI,Y.HW∧Z=Y.BX) (.inl rfl) (fun d=> .inr ⟨_,(h.turns 4 (Nat.le_refl 4)).steps (U:=fun _=>True) (J3 _ d),rfl⟩)
  (fun k h0 h1=> .inr ⟨_,(h.set h0 h1 (((show({ (default:Aq) with state:=1,Au:=-1 }:Aq).Ok from⟨⟨show(0:Int)≤1 by decide,show(1:Int)≤2 by decide⟩,Aq.DP.n,Aq.DP.ring,Aq.DP.s0,Aq.DP.s1,Aq.DP.ln⟩).offer 3).offer 31)).tell h0 h1 Hb,rfl⟩)
  (fun k u h0 h1=> .inr ⟨_,by
   have hs:=h.set h0 h1 ((h k h0 h1).typed u)
   exact(show(if decide (0 < (C6 (X.at_ k) u).2)=true then(X.set k (C6 (X.at_ k) u).1).tell k Md else X.set k (C6 (X.at_ k) u).1).HW by
    split
    ·exact hs.tell h0 h1 Md
    ·exact hs),I7 X k u⟩)
  (fun k z h0 h1=> .inr ⟨_,h.set h0 h1 ((h k h0 h1).G3 z),rfl⟩) (fun k h0 h1=> .inr ⟨_,h.steps (U:=fun _=>True) (Gl X h0 h1),rfl⟩) a
theorem Calm.act {H:AI}(h:H.Calm)(ho:H.HW)(a:Bx):(H.act a).1.Calm:=by
 unfold AI.act
 split
 ·exact h
 ·rcases Tk H.begun ho.begun a with e | ⟨Y,hy,e⟩
  ·rw [e]
   intro k h0 h1
   rw [Gy h0 h1]
   exact fun hs=>(h k h0 h1 hs).heard
  ·rw [e]
   exact fun k h0 h1 hs=>UP hy h0 h1 hs
theorem Xq:AI.new.Home:=by
 have hb:∀ b:Int,2≤b→b≤5→(AI.new.w.AN.at b).here=true→False:=fun b b0 b1=>by
  have:b=2∨b=3∨b=4∨b=5:=by omega
  rcases this with e | e | e | e<;>subst e<;>decide
 have hs:∀ k,0≤k→k < 4→(AI.new.at_ k).state=2→False:=fun k h0 h1 e=>by
  rw [MN h0 h1] at e
  exact absurd (show(0:Int)=2 from e) (by decide)
 exact⟨AG.YA,U8,U0,fun k h0 h1 e=>(hs k h0 h1 e).elim,fun j k j0 j1 k0 k1 e=>(hs j j0 j1 e).elim,fun b b0 b1 e=>(hb b b0 b1 e).elim,fun b b0 b1 e=>(hb b b0 b1 e).elim,fun b c b0 b1 c0 c1 e=>(hb b b0 b1 e).elim⟩
theorem XC:AI.new.Zero:=fun k h0 h1 _=>MN h0 h1
theorem Xp:AI.new.Calm:=fun k h0 h1 e=>absurd (by rw [MN h0 h1];rfl) e
structure Iw (H:AI):Prop where
 home:H.Home
 zero:H.Zero
 calm:H.Calm
 live:H.Live
theorem XS:AI.new.Iw:=⟨Xq,XC,Xp,Lu⟩
theorem Iw.act {H:AI}(h:H.Iw)(a:Bx):(H.act a).1.Iw:=⟨Home.B7.act h.home a,Zero.B7.act h.zero a,h.calm.act h.home.PV a,h.live.act a⟩
theorem Iw.run:∀(l:List Bx) {H:AI},H.Iw→(H.run l).1.Iw
 | [],_,h=>h
 | a :: r,_,h=>Iw.run r (h.act a)
theorem Iw.cut {H:AI}(h:H.Iw){k:Int}(h0:0≤k)(h1:k < 4):(H.at_ k).pg.cut=false:=by
 by_cases e:(H.at_ k).state=0
 ·rw [h.zero k h0 h1 e];rfl
 ·exact(h.calm k h0 h1 e).cut
end AI
section
variable {V:AL} {ls:Vector BG 4} {ev:List Event} {k:Int}
theorem TJ {v:A2}(h:(Ci v).1=2):v.state=2∧(Ci v).2=v.Au:=by
 unfold Ci at h ⊢
 split at h
 ·rename_i c;rw [if_pos c];exact⟨of_decide_eq_true c,rfl⟩
 ·rename_i c;exact absurd (decide_eq_true (show v.state=2 from h)) c
variable (hF:(A5 V ls ev).Iw)
include hF
end
end Go.Ing
/- A pulse is one line of each seat: plain laws. -/
namespace Go.Ing
open Go
namespace AI
structure QX (P:Aq→Prop):Prop where
 tell:∀ {s} (u:Ao),P s→P (s.tell u)
 BX:∀ {s},P s→P s.BX
 free:P default
 L4:∀ {s} (b:Int),s.state=1→P s→P { s with state:=2,Au:=b }
section
variable {U:Ao→Prop} {P:Aq→Prop} (K:QX P) {H X:AI}
include K
theorem QX.fold:∀(es:List Event) {s:Aq},P s→P (es.foldl Aq.CH s)
 | [],_,h=>h
 | e :: r,s,h=>by
  refine QX.fold r ?_
  unfold Aq.CH
  split
  ·exact K.tell _ h
  ·exact h
theorem QX.Dx {s:Aq}(h:P s)(es:List Event):P (s.Dx es):=by
 unfold Aq.Dx
 split
 ·exact K.fold es h
 ·exact h
theorem QX.step {j:Int}(j0:0≤j)(j1:j < 4)(h:P (H.at_ j))(s:Step U H X):P (X.at_ j):=by
 cases s with
 | told h0 h1 _ _=>
  unfold AI.tell
  rw [Cl _ h0 h1 j0];split
  ·rename_i q;subst q;exact K.tell _ h
  ·exact h
 | BX h0 h1 _=>
  rw [Cl _ h0 h1 j0];split
  ·rename_i q;subst q;exact K.BX h
  ·exact h
 | free h0 h1 _=>
  rw [Cl _ h0 h1 j0];split
  ·exact K.free
  ·exact h
 | @goes k w s es h0 h1 g=>
  rw [GX H h0 h1 _ _ _ j0 j1]
  refine K.Dx ?_ es
  split
  ·rename_i q
   subst q
   cases g with
   | left _ _=>exact K.free
   | L4 hs _=>exact K.L4 _ hs h
   | cO _ _ _ _=>exact h
   | round=>exact h
  ·exact h
theorem QX.steps {j:Int}(j0:0≤j)(j1:j < 4)(h:P (H.at_ j))(s:Steps U H X):P (X.at_ j):=Steps.Jx (P:=fun H=>P (H.at_ j)) (fun h s=>K.step j0 j1 h s) h s
end
theorem Zj {H:AI}{k:Int}(h0:0≤k)(h1:k < 4)(r:List Ao){j:Int}(j0:0≤j):(H.next k r).at_ j=if j=k then { H.at_ k with queue:=r }.Fb else H.at_ j:=by
 unfold AI.next;rw [Cl _ h0 h1 j0]
end AI
def Z3 (a:Bx)(V:AL)(ls:Vector BG 4)(W:Vector Int 4):Prop:=∀ j:Int,0≤j→j < 4→0≤W.at j∧W.at j≤1000000∧((V.Ax.at j).state=0→(ls.at j).queue.length=0)∧((V.Ax.at j).state≠0→(a.kind=5→((ls.at j).queue.length:Int)=max 0 (W.at j - 1))∧(a.kind≠5→W.at j≤((ls.at j).queue.length:Int)))
section
variable {a:Bx} {V:AL} {ls:Vector BG 4} {W U:Vector Int 4} {j:Int} {n:Nat} (h:Z3 a V ls W) (j0:0≤j) (j1:j < 4) (hU:U.at j=W.at j) (hn:n=(ls.at j).queue.length)
include h j0 j1 hU hn
end
end Go.Ing
/- Whoever stays in a room perceives nothing of another one: plain laws. -/
namespace Go.Ing
open Go
namespace AE
end AE
namespace AI
section
variable {i b:Int} {W:AG} {H X:AI}
def eN (H:AI)(j:Int):Int:=if 0≤(H.DR j).2 then(H.w.AN.at (H.DR j).2).room else -1
theorem Vp {H:AI}{j:Int}(h:H.Iw)(j0:0≤j)(j1:j < 4)(hb:0≤(H.DR j).2):(H.at_ j).state=2∧(H.at_ j).Au=(H.DR j).2∧(H.DR j).2 < 6:=by
 unfold DR at hb ⊢
 split at hb
 ·rename_i c
  rw [if_pos c]
  have:=h.home.me j j0 j1 (of_decide_eq_true c)
  exact⟨of_decide_eq_true c,rfl,show(H.at_ j).Au < 6 by omega⟩
 ·exact absurd (show(0:Int)≤-1 from hb) (by decide)
end
end AI
def OB (f:Int→Int)(W U:Vector Int 4)(k:Int):Prop:=∀ j:Int,0≤j→j < 4→U.at j=if j < k then f j else W.at j
theorem OB.start (f:Int→Int)(W:Vector Int 4):OB f W W 0:=fun j j0 _=>by rw [if_neg (by omega)]
theorem OB.next {f:Int→Int}{W U:Vector Int 4}{k:Int}(h:OB f W U k)(k0:0≤k)(k1:k < 4){n:Int}(hn:n=f k):OB f W (U.put k n) (k+1):=fun j j0 j1=>by
 rw [IY _ _ _ _ k0 k1 j0]
 split
 ·rename_i q;subst q;rw [if_pos (by omega)];exact hn
 ·rename_i q
  rw [h j j0 j1]
  by_cases c:j < k
  ·rw [if_pos c,if_pos (by omega)]
  ·rw [if_neg c,if_neg (by omega)]
theorem OB.at {f:Int→Int}{W U:Vector Int 4}{k:Int}(h:OB f W U k)(k0:0≤k)(k1:k < 4):U.at k=W.at k:=by rw [h k k0 k1,if_neg (by omega)]
theorem ZZ {T:Vector Int 4}{l:List Bx}(hT:∀ j:Int,0≤j→j < 4→T.at j=-1):∀ j:Int,0≤j→j < 4→T.at j=((AI.new.run (l.take (0:Int).toNat)).1.DR j).2∧(0≤T.at j→(Vector.replicate 4 (default:Int)).at j=AI.eN (AI.new.run (l.take (0:Int).toNat)).1 j):=fun j j0 j1=>by
 refine⟨?_,fun h=>by rw [hT j j0 j1] at h;exact absurd h (by decide)⟩
 rw [hT j j0 j1]
 show(-1:Int)=(AI.new.DR j).2
 unfold AI.DR
 rw [AI.MN j0 j1]
 rcases four j0 j1 with e | e | e | e<;>subst e<;>rfl
end Go.Ing
/- What the players are told is what they perceive: plain laws. -/
namespace Go.Ing
open Go
def Fx (s:Ao):Bool:=decide (s=AI.Hb) || decide (s=AI.Md) || decide (s=AI.Yj) || decide (s=AI.Mh) || decide (s=AI.noRoom)
theorem bm {s:Ao}(h:s∈AI.NM):Fx s=true:=by
 have:s=AI.Hb∨s=AI.Md∨s=AI.Yj∨s=AI.Mh∨s=AI.noRoom:=by
  unfold AI.NM at h
  rcases List.mem_cons.1 h with e | h
  ·exact .inl e
  rcases List.mem_cons.1 h with e | h
  ·exact .inr (.inl e)
  rcases List.mem_cons.1 h with e | h
  ·exact .inr (.inr (.inl e))
  rcases List.mem_cons.1 h with e | h
  ·exact .inr (.inr (.inr (.inl e)))
  rcases List.mem_cons.1 h with e | h
  ·exact .inr (.inr (.inr (.inr e)))
  ·cases h
 rcases this with e | e | e | e | e<;>subst e<;>decide
theorem VA {s:Ao}(h:Fx s=true):s∈AI.NM:=by
 unfold Fx at h
 simp only [Bool.or_eq_true,decide_eq_true_eq] at h
 rcases h with (((e | e) | e) | e) | e<;>subst e
 ·exact List.mem_cons_self ..
 ·exact List.mem_cons_of_mem _ (List.mem_cons_self ..)
 ·exact List.mem_cons_of_mem _ (List.mem_cons_of_mem _ (List.mem_cons_self ..))
 ·exact List.mem_cons_of_mem _ (List.mem_cons_of_mem _ (List.mem_cons_of_mem _ (List.mem_cons_self ..)))
 ·exact List.mem_cons_of_mem _ (List.mem_cons_of_mem _ (List.mem_cons_of_mem _ (List.mem_cons_of_mem _ (List.mem_cons_self ..))))
def Has (x s:Ao):Prop:=∃ a y,s=a++x++y
def bE (x:Ao):Bool:=AI.NM.all fun L=>(List.range 30).all fun n=>!decide ((L.drop n).take x.length=x)
theorem Has.self (a x:Ao):Has x (a++x):=⟨a,[],by rw [List.append_nil]⟩
theorem Has.app {x s:Ao}(h:Has x s)(t:Ao):Has x (s++t):=by
 obtain⟨a,y,e⟩:=h
 exact⟨a,y++t,by rw [e,List.append_assoc]⟩
theorem OQ {x s:Ao}(h:Has x s)(hx:bE x=true):Fx s=false:=by
 cases ho:Fx s with
 | false=>rfl
 | true=>
  have hm:=VA ho
  obtain⟨a,y,e⟩:=h
  have hl:s.length < 30:=by
   have:∀ L∈AI.NM,L.length < 30:=by decide
   exact this s hm
  have h1:=List.all_eq_true.1 (List.all_eq_true.1 hx s hm) a.length (List.mem_range.2 (by rw [e] at hl;simp only [List.length_append] at hl;omega))
  rw [e,List.append_assoc,List.drop_left,List.take_left] at h1
  simp at h1
theorem YS (c:UInt8)(hc:(AI.NM.all fun L=>!decide (L.head?=some c))=true)(r:Ao):Fx (c :: r)=false:=by
 cases ho:Fx (c :: r) with
 | false=>rfl
 | true=>have:=List.all_eq_true.1 hc _ (VA ho);simp at this
theorem Has.verb (a m t:Ao):Has ([32]++t ++ [32]) (AG.Bn false a m t):=⟨a,[],by simp [AG.Bn]⟩
structure UA (x:Ao × Bool):Prop where
 l:Fx x.1=false
theorem UY {c:Prop}[Decidable c]{x y:Ao × Bool}(hx:c→UA x)(hy:¬ c→UA y):UA (if c then x else y):=by
 split
 ·rename_i h;exact hx h
 ·rename_i h;exact hy h
theorem HY (c:UInt8)(hc:(AI.NM.all fun L=>!decide (L.head?=some c))=true)(r:Ao):UA (AG.fin (c :: r)):=⟨YS c hc r⟩
theorem Gr {x s:Ao}(h:Has x s)(hx:bE x=true):UA (AG.fin s):=⟨OQ h hx⟩
theorem Y8 {own:Bool}{a o d n th tx:Ao}{z:Int}(h:z=16→Fx tx=false):UA (AG.EA own a o d n th tx z):=by
 have hn:UA (AG.fin []):=⟨by decide⟩
 cases own with
 | true=>
  unfold AG.EA
  repeat' refine UY (fun hz=>?_) (fun _=>?_)
  ·exact HY 89 (by decide) _
  ·cases hz
  ·exact hn
  ·exact HY 89 (by decide) _
  ·exact HY 89 (by decide) _
  ·exact HY 89 (by decide) _
  ·exact HY 89 (by decide) _
  ·exact HY 89 (by decide) _
  ·exact HY 89 (by decide) _
  ·exact HY 89 (by decide) _
  ·exact HY 89 (by decide) _
  ·exact HY 89 (by decide) _
  ·exact HY 89 (by decide) _
  ·exact HY 89 (by decide) _
  ·exact HY 89 (by decide) _
  ·exact HY 89 (by decide) _
  ·exact⟨h (of_decide_eq_true (by assumption))⟩
  ·rename_i hz;exact absurd rfl hz
  ·exact HY 66 (by decide) _
  ·cases hz
  ·exact hn
  ·exact hn
 | false=>
  unfold AG.EA
  repeat' refine UY (fun hz=>?_) (fun _=>?_)
  ·exact Gr (((Has.verb _ _ _).app _).app _) (by decide)
  ·exact Gr ((Has.self _ [32,99,111,109,101,115,32,102,114,111,109,32]).app _ |>.app _) (by decide)
  ·exact hn
  ·exact Gr (((Has.verb _ _ _).app _).app _) (by decide)
  ·exact Gr (((Has.verb _ _ _).app _).app _) (by decide)
  ·exact Gr (((((Has.verb _ _ _).app _).app _).app _).app _) (by decide)
  ·exact Gr (((((Has.verb _ _ _).app _).app _).app _).app _) (by decide)
  ·exact Gr ((Has.verb _ _ _).app _) (by decide)
  ·exact Gr (((Has.verb _ _ _).app _).app _) (by decide)
  ·exact Gr (((Has.verb _ _ _).app _).app _) (by decide)
  ·exact Gr (((Has.verb _ _ _).app _).app _) (by decide)
  ·exact Gr (((Has.verb _ _ _).app _).app _) (by decide)
  ·exact Gr (((Has.verb _ _ _).app _).app _) (by decide)
  ·exact Gr (((Has.verb _ _ _).app _).app _) (by decide)
  ·exact Gr (((((Has.verb _ _ _).app _).app _).app _).app _) (by decide)
  ·exact Gr (Has.self _ [32,100,105,101,115,46]) (by decide)
  ·cases hz
  ·exact hn
  ·exact Gr (Has.self _ [32,97,114,114,105,118,101,115,46]) (by decide)
  ·exact Gr (Has.self _ [32,102,97,100,101,115,46]) (by decide)
  ·exact hn
  ·exact hn
theorem XM {e:Event}{b:Int}(h:e.kind=16→Fx e.text=false):Fx (AG.tell e b).1=false:=by
 rw [← AG.Yq]
 unfold AG.YR
 split
 ·decide
 ·exact(Y8 h).l
namespace AE
def cV (_:AG)(l:List Event)(_:AG):Prop:=∀ e∈l,e.kind=16→Fx e.text=false
theorem S7 (r:Room):∀ n:Nat,Has [87,97,121,115,58] (Hf r n)
 | 0=>Has.self [] _
 | n+1=>by
  have ih:=S7 r n
  unfold Hf
  split
  ·exact ih
  ·split
   ·exact(ih.app _).app _
   ·exact ih.app _
theorem Mp (w:AG){x:Ao}:∀(l:List Int) {s:Ao},Has x s→Has x (HB w s l)
 | [],_,h=>h
 | i :: r,s,h=>by
  unfold HB
  refine Mp w r ?_
  split
  ·exact((h.app _).app _).app _
  ·exact(h.app _).app _
theorem YP {w:AG}{s:Ao}(l:List Int)(h:s∈ [[72,101,114,101,32,105,115],[89,111,117,32,104,97,118,101]]):Fx (ND w s l ++ [46])=false:=by
 have hs:Has s (ND w s l):=by
  unfold ND
  split
  ·exact(Mp w l (Has.self [] s)).app _
  ·exact Mp w l (Has.self [] s)
 refine OQ (hs.app _) ?_
 exact(by decide:∀ s∈ [[72,101,114,101,32,105,115],[89,111,117,32,104,97,118,101]],bE s=true) s h
theorem W6 {w:AG}{s:Ao}(h:Ss w s):Fx s=false:=by
 cases h with
 | word h=>exact(by decide:∀ s∈ [Lw,UC,Q8,JI,Mi,Mb,bM,Yb,Zk,PG],Fx s=false) s h
 | room r=>exact OQ (((Has.self [] [84,104,101,32]).app _).app _) (by decide)
 | ways r=>exact OQ (S7 r 6) (by decide)
 | list l h=>exact YP l h
 | seen k=>exact OQ (Has.self _ [32,105,115,32,104,101,114,101,46]) (by decide)
theorem WH {x:Ao}{w:AG}{e:Event}(h:Shape x w e):e.kind=16→Fx e.text=false:=by
 cases h with
 | cJ h=>exact fun _=>W6 h
 | said=>exact fun h=>absurd (show(7:Int)=16 from h) (by decide)
 | @kind k h=>exact fun e=>absurd (show k=16 from e) (by omega)
 | @dir k d h=>exact fun e=>absurd (show k=16 from e) (by omega)
 | @BJ k i h=>exact fun e=>absurd (show k=16 from e) (by omega)
 | @Gi k h=>exact fun e=>absurd (show k=16 from e) (by omega)
 | cI=>exact fun h=>absurd (show(6:Int)=16 from h) (by decide)
 | TX=>exact fun h=>absurd (show(5:Int)=16 from h) (by decide)
 | B9 _ _=>exact fun h=>absurd (show(14:Int)=16 from h) (by decide)
theorem Z8 (w:AG)(b:Int)(e:Event):(ev w b e).text=e.text:=by
 obtain⟨_,_,_,_,_,_,_,_,a⟩:=AG.Iq w (Da ⟨w,b,[]⟩ e) 6
 refine a.trans ?_
 unfold Da;split<;>rfl
theorem Yw (x:Ao)(q:Prop)(b:Int):Rel x q b cV where
 refl _:=fun _ h=>by cases h
 trans h k:=fun e he=>(List.mem_append.1 he).elim (h e) (k e)
 cS {w e} h:=fun y hy=>by rw [List.mem_singleton.1 hy,(FQ w b e).1,Z8];exact WH h
 BJ _ _:=fun _ h=>by cases h
 B2:=fun _ h=>by cases h
 shut:=fun _ h=>by cases h
 Fu {w d r}:=fun y hy=>by rw [List.mem_singleton.1 hy,(FQ w b _).1];exact fun h=>absurd (show(1:Int)=16 from h) (by decide)
 GG _ {w}:=fun y hy=>by rw [List.mem_singleton.1 hy,(FQ w b _).1];exact fun h=>absurd (show(18:Int)=16 from h) (by decide)
 gone h _:=h
theorem aq:ZB cV:=⟨fun b _ _=>Yw [] False b,fun _ h=>(by cases h),fun _ h _=>h⟩
end AE
def HC (l:List Event)(b:Int):List Ao:=l.filterMap fun e=>if (AG.tell e b).2=true then some (AG.tell e b).1 else none
def Kb (l:List Ao):List Ao:=l.filter fun s=>!Fx s
theorem MR (l:List Event)(e:Event)(b:Int):HC (l ++ [e]) b=HC l b++(if (AG.tell e b).2=true then [(AG.tell e b).1] else []):=by
 unfold HC
 rw [List.filterMap_append]
 by_cases c:(AG.tell e b).2=true
 ·rw [if_pos c,List.filterMap_cons,if_pos c];rfl
 ·rw [if_neg c,List.filterMap_cons,if_neg c];rfl
theorem PL (l:List Ao)(s:Ao):Kb (l ++ [s])=Kb l++(if Fx s=true then [] else [s]):=by
 unfold Kb
 rw [List.filter_append]
 cases c:Fx s with
 | true=>rw [if_pos rfl,List.filter_cons_of_neg (by rw [c];decide)];rfl
 | false=>rw [if_neg (by decide),List.filter_cons_of_pos (by rw [c];rfl)];rfl
namespace Aq
theorem SW {s:Aq}(u:Ao)(h:s.pg.cut=true):(s.tell u).pg.cut=true:=by
 have hl:(s.line u).pg.cut=true:=by
  unfold Aq.line
  split
  ·exact h
  ·exact h
 unfold Aq.tell Aq.note
 split
 ·exact hl
 ·exact hl
theorem Qm (s:Aq)(u:Ao):(s.tell u).pg.cut=true∨(s.tell u).told=s.told ++ [u]:=by
  have ht:=(AI.QI s u).2.2.2
  unfold Aq.tell Aq.note
  split
  · exact .inr (congrArg (· ++ [u]) ht)
  · rename_i c;exact .inl (by simpa using c)
theorem Vq {s:Aq}(h:s.pg.cut=true):s.BX.pg.cut=true:=by
 unfold Aq.BX
 split
 ·exact h
 ·have:Page.BX s.Ds.B0 s.wait s.pg=(s.pg,s.wait):=by
   cases hq:s.wait with
   | nil=>rfl
   | cons a r=>unfold Page.BX;rw [if_pos (by rw [h];simp)]
  show(Page.BX s.Ds.B0 s.wait s.pg).1.cut=true
  rw [this];exact h
def Rk (l:List Event)(b:Int)(s:Aq):Prop:=s.pg.cut=true∨Kb s.told=HC l b
theorem Rk.own {l:List Event}{b:Int}{s:Aq}(h:Rk l b s){u:Ao}(hu:Fx u=true):Rk l b (s.tell u):=by
 rcases h with h | h
 ·exact .inl (SW u h)
 ·rcases Qm s u with c | c
  ·exact .inl c
  ·refine .inr ?_
   rw [c,PL,if_pos hu,List.append_nil];exact h
theorem Rk.one {l:List Event}{s:Aq}(e:Event)(h:Rk l s.Au s)(he:e.kind=16→Fx e.text=false):Rk (l ++ [e]) s.Au (s.CH e):=by
 unfold Aq.CH
 by_cases c:(AG.tell e s.Au).2=true
 ·rw [if_pos c]
  rcases h with h | h
  ·exact .inl (SW _ h)
  ·rcases Qm s (AG.tell e s.Au).1 with d | d
   ·exact .inl d
   ·refine .inr ?_
    rw [d,PL,if_neg (by rw [XM he];decide),MR,if_pos c,h]
 ·rw [if_neg c]
  rcases h with h | h
  ·exact .inl h
  ·exact .inr (by rw [MR,if_neg c,List.append_nil];exact h)
theorem Rk.all {b:Int}:∀(es:List Event) {l:List Event} {s:Aq},s.Au=b→(∀ e∈es,e.kind=16→Fx e.text=false)→Rk l b s→Rk (l++es) b (es.foldl CH s)
 | [],l,s,_,_,h=>by rw [List.append_nil];exact h
 | e :: r,l,s,hb,he,h=>by
  subst hb
  have h1:=Rk.one e h (he e (List.mem_cons_self ..))
  have:=Rk.all r (l:=l ++ [e]) (s:=s.CH e) (AI.Qx s e).2 (fun y hy=>he y (List.mem_cons_of_mem _ hy)) h1
  rw [List.append_assoc] at this
  exact this
theorem Rk.Dx {b:Int}{es l:List Event}{s:Aq}(h2:s.state=2)(hb:s.Au=b)(he:∀ e∈es,e.kind=16→Fx e.text=false)(h:Rk l b s):Rk (l++es) b (s.Dx es):=by
 unfold Aq.Dx
 rw [if_pos h2]
 exact Rk.all es hb he h
end Aq
namespace AI
theorem WR {H:AI}{k:Int}{w:AG}{s:Aq}{es:List Event}(h:H.Home)(k0:0≤k)(k1:k < 4)(g:DJ (fun q=>q.length≤1000) H k w s es):∀ e∈es,AG.Small e∧(e.kind=16→Fx e.text=false):=by
 cases g with
 | left hs _=>exact fun e he=>⟨(AE.IC h.FP KV).2 e he,(AE.Mm (AE.Yw [] True (H.at_ k).Au) rfl (fun _=>trivial):AE.cV _ _ _) e he⟩
 | @L4 _ u hs hn=>
  refine fun e he=>⟨(AE.Hg h.FP).2 e he,?_⟩
  rcases AE.NC H.w u with ⟨hx,_⟩ | ⟨q,f2,f5,_⟩
  ·exact absurd hn hx
  ·rw [q] at he
   exact(AE.XT AE.aq (X:=H.w) (s:=u) (b:=AE.CK H.w 6) (by omega) (by omega):AE.cV _ _ _) e he
 | @cO k q hq hn0 hn1 hv=>exact fun e he=>⟨(AE.IC h.FP (NB _ hq)).2 e he,(AE.Mm (AE.Yw _ False (H.at_ k).Au) rfl (fun e=>hv e):AE.cV _ _ _) e he⟩
 | round=>exact fun e he=>⟨(AE.JR h.FP).2 e he,(AE.MM AE.aq h.FP.HS:AE.cV _ _ _) e he⟩
structure ZM (i b:Int)(H:AI):Prop where
 home:H.Home
 bk:∀ e∈H.last,AG.Small e∧(e.kind=16→Fx e.text=false)
 st:(H.at_ i).state=0∨((H.at_ i).state=2∧(H.at_ i).Au=b∧Aq.Rk H.last b (H.at_ i))
section
variable {i b:Int} {H X:AI}
theorem ZM.same (h:ZM i b H)(hh:X.Home)(hl:X.last=H.last)(hs:(X.at_ i).state=0∨((X.at_ i).state=(H.at_ i).state∧(X.at_ i).Au=(H.at_ i).Au∧(Aq.Rk H.last b (H.at_ i)→Aq.Rk H.last b (X.at_ i)))):ZM i b X:=by
 refine⟨hh,by rw [hl];exact h.bk,?_⟩
 rcases hs with hs | ⟨h1,h2,h3⟩
 ·exact .inl hs
 ·rw [h1,h2,hl]
  rcases h.st with a | ⟨a,c,d⟩
  ·exact .inl a
  ·exact .inr ⟨a,c,h3 d⟩
theorem ZM.step (i0:0≤i)(i1:i < 4)(h:ZM i b H)(s:Step (fun q=>q.length≤1000) H X):ZM i b X:=by
 have hh:=Home.B7.step h.home s
 cases s with
 | @told k u h0 h1 _ hu=>
  refine h.same hh rfl (.inr ?_)
  unfold AI.tell
  rw [Cl _ h0 h1 i0];split
  ·rename_i q;subst q;exact⟨(Ex _ _).1,(Ex _ _).2.1,fun g=>g.own (bm hu)⟩
  ·exact⟨rfl,rfl,fun g=>g⟩
 | @BX k h0 h1 _=>
  refine h.same hh rfl (.inr ?_)
  rw [Cl _ h0 h1 i0];split
  ·rename_i q;subst q
   refine⟨(Fh _).2.1,(Fh _).2.2.1,fun g=>?_⟩
   rcases g with g | g
   ·exact .inl (Aq.Vq g)
   ·exact .inr (by rw [(Fh _).1];exact g)
  ·exact⟨rfl,rfl,fun g=>g⟩
 | @free k h0 h1 _=>
  by_cases q:i=k
  ·exact h.same hh rfl (.inl (by rw [Cl _ h0 h1 i0,if_pos q];rfl))
  ·exact h.same hh rfl (.inr (by rw [Cl _ h0 h1 i0,if_neg q];exact⟨rfl,rfl,fun g=>g⟩))
 | @goes k w s es h0 h1 g=>
  have ht:=WR h.home h0 h1 g
  have hkeep:=KY H k w s es
  refine⟨hh,by rw [hkeep.2.1];exact fun e he=>(List.mem_append.1 he).elim (h.bk e) (ht e),?_⟩
  rw [GX H h0 h1 _ _ _ i0 i1,(Aq.Er _ _).1,(Aq.Er _ _).2,hkeep.2.1]
  have go:s=H.at_ k∨s.state=0∨i≠k→(if i=k then s else H.at_ i).state=0∨((if i=k then s else H.at_ i).state=2∧(if i=k then s else H.at_ i).Au=b∧Aq.Rk (H.last++es) b ((if i=k then s else H.at_ i).Dx es)):=fun hs=>by
   by_cases q:i=k
   ·rw [if_pos q]
    subst q
    rcases hs with rfl | hs | hs
    ·rcases h.st with a | ⟨a,c,d⟩
     ·exact .inl a
     ·exact .inr ⟨a,c,d.Dx a c fun e he=>(ht e he).2⟩
    ·exact .inl hs
    ·exact absurd rfl hs
   ·rw [if_neg q]
    rcases h.st with a | ⟨a,c,d⟩
    ·exact .inl a
    ·exact .inr ⟨a,c,d.Dx a c fun e he=>(ht e he).2⟩
  cases g with
  | left _ _=>exact go (.inr (.inl rfl))
  | @L4 _ u hs he=>
   exact go (.inr (.inr fun q=>by
    subst q
    rcases h.st with a | ⟨a,_⟩<;>omega))
  | cO hq hn0 hn1 hv=>exact go (.inl rfl)
  | round=>exact go (.inl rfl)
theorem ZM.from (i0:0≤i)(i1:i < 4){Z:AI}(h:ZM i b Z)(h2:(Z.at_ i).state≠0)(hl:Z.last = [])(ht:(Z.at_ i).told = []):OG (fun q=>q.length≤1000) Z (ZM i b) where
 lines h h0 h1:=Home.B7.lines h.home h0 h1
 step h s:=h.step i0 i1 s
 next {H k q r} h h0 h1 hs e:=h.same (Home.B7.next h.home h0 h1 hs e) rfl (.inr (by
  rw [Zj h0 h1 r i0];split
  ·rename_i q;subst q;exact⟨rfl,rfl,fun g=>g⟩
  ·exact⟨rfl,rfl,fun g=>g⟩))
 J9 {k} h0 h1 hz:=h.same (Home.B7.J9 h.home h0 h1 hz) rfl (.inr (by
  rw [Cl _ h0 h1 i0,if_neg (fun q=>by subst q;exact h2 hz)];exact⟨rfl,rfl,fun g=>g⟩))
 byte {k u} h0 h1 hs:=h.same (Home.B7.byte h.home h0 h1 hs) rfl (.inr (by
  rw [Cl _ h0 h1 i0];split
  ·rename_i q;subst q;exact⟨(Dw _ _).2.1,(Dw _ _).2.2.1,fun _=> .inr (by rw [(Dw _ _).1,ht,hl];rfl)⟩
  ·exact⟨rfl,rfl,fun g=>g⟩))
 G3 {k n} h0 h1 hs:=h.same (Home.B7.G3 h.home h0 h1 hs) rfl (.inr (by
  rw [Cl _ h0 h1 i0];split
  ·rename_i q;subst q;exact⟨rfl,rfl,fun g=>g⟩
  ·exact⟨rfl,rfl,fun g=>g⟩))
theorem Wr {H:AI}(h:H.Iw)(c:H.B7 < 400)(a:Bx)(i0:0≤i)(i1:i < 4)(h2:(H.at_ i).state=2)(hb:(H.at_ i).Au=b):(∀ e∈(H.act a).1.last,AG.Small e)∧(((H.act a).1.at_ i).state=2→Kb ((H.act a).1.at_ i).told=HC (H.act a).1.last b):=by
 have hf:=h.act a
 rw [GI (decide_eq_false (by omega)) a] at hf ⊢
 have hs:ZM i b H.begun:=⟨Home.B7.begun h.home,fun _ he=>(by rw [(JG H).2.1] at he;cases he), .inr (by
  rw [Gy i0 i1,(JG H).2.1]
  exact⟨h2,hb, .inr rfl⟩)⟩
 have:=OG.D0 (hs.from i0 i1 (by rw [Gy i0 i1];show(H.at_ i).state≠0;omega) (JG H).2.1 (by rw [Gy i0 i1])) hs a
 refine⟨fun e he=>(this.bk e he).1,fun e2=>?_⟩
 rcases this.st with z | ⟨_,_,q | q⟩
 ·omega
 ·have:=hf.cut i0 i1
  rw [q] at this;cases this
 ·exact q
end
end AI
def XK (V:AL)(ls:Vector BG 4)(ev:List Event)(W:Vector Int 4):Prop:=∀ j:Int,0≤j→j < 4→(Ci (V.Ax.at j)).1=2→W.at j=(Ci (V.Ax.at j)).2→(∀ e∈ev,AG.Small e)∧Kb (ls.at j).told=HC ev (Ci (V.Ax.at j)).2
theorem YO {H:AI}(h:H.Iw)(c:H.B7 < 400){a:Bx}{V:AL}{ls:Vector BG 4}{ev:List Event}(e:A5 V ls ev=(H.act a).1){W:Vector Int 4}(hW:∀ j:Int,0≤j→j < 4→W.at j=(H.DR j).2):XK V ls ev W:=fun j j0 j1 h2 hw=>by
 have hF:=h.act a
 obtain⟨a1,a2⟩:=TJ h2
 have hs:((H.act a).1.at_ j).state=2:=by rw [← e,CY _ _ _ j0 j1];exact a1
 have hm:=hF.home.me j j0 j1 hs
 rw [← e,CY _ _ _ j0 j1] at hm
 have hm1:2≤(V.Ax.at j).Au:=hm.1
 have hb0:0≤(H.DR j).2:=by rw [← hW j j0 j1,hw,a2];omega
 obtain⟨p1,p2,_⟩:=AI.Vp h j0 j1 hb0
 have:=AI.Wr h c a j0 j1 p1 (b:=(Ci (V.Ax.at j)).2) (by rw [p2,← hW j j0 j1,hw])
 rw [← e] at this
 refine⟨this.1,?_⟩
 have h3:=this.2 (by rw [CY _ _ _ j0 j1];exact a1)
 rw [CY _ _ _ j0 j1] at h3
 exact h3
theorem QO {l:List Event}{b k:Int}(h0:0≤k)(h1:k < l.length):HC (l.take (k+1).toNat) b=HC (l.take k.toNat) b++(if (AG.tell (l.getD k.toNat default) b).2=true then [(AG.tell (l.getD k.toNat default) b).1] else []):=by
 have hk:k.toNat < l.length:=by omega
 rw [show(k+1).toNat=k.toNat+1 by omega,List.take_add_one,List.getElem?_eq_getElem hk,List.getD_eq_getElem?_getD,List.getElem?_eq_getElem hk]
 exact MR _ _ _
theorem SI {l:List Ao}{k:Int}(h0:0≤k)(h1:k < l.length):Kb (l.take (k+1).toNat)=Kb (l.take k.toNat)++(if Fx (l.getD k.toNat [])=true then [] else [l.getD k.toNat []]):=by
 have hk:k.toNat < l.length:=by omega
 rw [show(k+1).toNat=k.toNat+1 by omega,List.take_add_one,List.getElem?_eq_getElem hk,List.getD_eq_getElem?_getD,List.getElem?_eq_getElem hk]
 exact PL _ _
theorem bu {l:List Event}{b k:Int}{xs:List Ao}(h0:0≤k)(h1:k < l.length)(c:(AG.tell (l.getD k.toNat default) b).2=true)(hx:xs=HC (l.take k.toNat) b):xs ++ [(AG.tell (l.getD k.toNat default) b).1]=HC (l.take (k+1).toNat) b:=by
 rw [QO h0 h1,if_pos c,hx]
theorem bK {l:List Event}{b k:Int}{xs:List Ao}(h0:0≤k)(h1:k < l.length)(c:(AG.tell (l.getD k.toNat default) b).2=false)(hx:xs=HC (l.take k.toNat) b):xs=HC (l.take (k+1).toNat) b:=by
 rw [QO h0 h1,if_neg (by rw [c];decide),List.append_nil,hx]
theorem cf {l:List Ao}{k:Int}{xs:List Ao}(h0:0≤k)(h1:k < l.length)(c:(!Fx (l.getD k.toNat []))=true)(hx:xs=Kb (l.take k.toNat)):xs ++ [l.getD k.toNat []]=Kb (l.take (k+1).toNat):=by
 rw [SI h0 h1,if_neg (by simpa using c),hx]
theorem dj {l:List Ao}{k:Int}{xs:List Ao}(h0:0≤k)(h1:k < l.length)(c:(!Fx (l.getD k.toNat []))=false)(hx:xs=Kb (l.take k.toNat)):xs=Kb (l.take (k+1).toNat):=by
 rw [SI h0 h1,if_pos (by simpa using c),List.append_nil,hx]
section
variable {V:AL} {ls:Vector BG 4} {ev:List Event} {W U:Vector Int 4} {k m n:Int}
theorem Yn (k0:0≤k)(k1:k < 4)(hH:XK V ls ev W)(hU:U.at k=W.at k)(h:(!decide ((Ci (V.Ax.at k)).1=2) || !decide (U.at k=(Ci (V.Ax.at k)).2))=false):(∀ e∈ev,AG.Small e)∧Kb (ls.at k).told=HC ev (Ci (V.Ax.at k)).2:=by
 simp only [Bool.or_eq_false_iff,Bool.not_eq_false',decide_eq_true_eq] at h
 exact hH k k0 k1 h.1 (hU.symm.trans h.2)
theorem TG (h:OB (fun j=>(Ci (V.Ax.at j)).2) W U 4):∀ j:Int,0≤j→j < 4→U.at j=((A5 V ls ev).DR j).2:=fun j j0 j1=>by
 rw [h j j0 j1,if_pos j1]
 dsimp only
 rw [LW V ls ev j0 j1]
theorem Tp {l xs ys:List Ao}{b:Int}(h:(∀ e∈ev,AG.Small e)∧Kb l=HC ev b)(hx:xs=HC (ev.take m.toNat) b)(hm:m=(ev.length:Int))(hy:ys=Kb (l.take n.toNat))(hn:n=(l.length:Int)):(!decide (xs=ys))=false:=by
 rw [hx,hy,hm,hn,Int.toNat_natCast,Int.toNat_natCast,List.take_length,List.take_length,h.2,decide_eq_true rfl]
 rfl
end
end Go.Ing

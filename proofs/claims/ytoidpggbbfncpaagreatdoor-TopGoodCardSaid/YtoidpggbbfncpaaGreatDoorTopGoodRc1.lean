/- What the functions that the law of this seat reaches compute, and the plain laws of it. No condition. -/
import Derived.Test.YtoidpggbbfncpaaGreatDoorTopGoodEc3
import Derived.Test.YtoidpggbbfncpaaGreatDoorTopGoodRa1
import Derived.Test.YtoidpggbbfncpaaGreatDoorTopGoodRb1
set_option linter.unusedSimpArgs false
set_option linter.unusedVariables false
/- Who is far perceives nothing: plain laws. -/
namespace Go.Ing
open Go
namespace AH
theorem KL (w:AH)(e:Event):∀ n:Nat,(w.Hj e n).kind=e.kind∧(w.Hj e n).Db=e.Db∧(w.Hj e n).room=e.room∧(w.Hj e n).other=e.other∧(w.Hj e n).n=e.n∧(w.Hj e n).Hm=e.Hm∧(w.Hj e n).EP=e.EP∧(w.Hj e n).Bs=e.Bs∧(w.Hj e n).text=e.text
 | 0=>⟨rfl,rfl,rfl,rfl,rfl,rfl,rfl,rfl,rfl⟩
 | k+1=>KL w e k
end AH
namespace AF
section
variable {b c rc:Int} {S:Int→Prop} {T:AF}
section
variable (c0:0≤c) (c6:c < 6) (hn:c≠b)
include c0 c6 hn
end
end
end AF
end Go.Ing
/- What others are told is not empty: plain laws. -/
namespace Go.Ing
open Go
namespace AH
end AH
theorem P3 {α:Type}{d:α}{xs:List α}{i:Nat}(h:i < xs.length):xs.getD i d∈xs:=by
 rw [List.getD_eq_getElem?_getD,List.getElem?_eq_getElem h]
 exact List.getElem_mem h
namespace AF
theorem Mk:∀(l:List Int) (T:AF),(T.DE l).out.length=T.out.length+l.length
 | [],T=>rfl
 | i :: r,T=>by rw [DE,Mk r,FT];show T.out.length+1+r.length=_;rw [List.length_cons];omega
theorem Nr (v to:Int):∀(l:List Int) (T:AF),(T.Ei v to l).out.length≤T.out.length+l.length
 | [],T=>Nat.le_refl _
 | i :: r,T=>by
  have h1:=Nr v to r (T.Cp v to i)
  have h2:=T.OE v to i
  rw [Ei,List.length_cons];omega
theorem RP (T:AF){l:List Int}(hl:l.length≤9)(o:Order):(T.Kb l o).out.length≤T.out.length+10:=by
 have h:=(EW T.w l o.nth o.name o.Bj).length_le
 unfold Kb
 rw [Mk]
 split
 ·rw [CE];omega
 ·omega
theorem Yx (T:AF)(o:Order):(T.get o).out.length≤T.out.length+11:=by
 have hb:=T.Ho o.second
 unfold get
 split
 ·split
  ·omega
  ·have:=RP (T.box o.second).1 (AH.H7 (T.box o.second).1.w 2 (T.box o.second).2.1) o
   omega
 ·have:=RP T T.Iu o
  omega
theorem Vx (T:AF)(o:Order):(T.E7 o).out.length≤T.out.length+11:=by
 have hb:=T.QC o
 unfold E7
 split
 ·omega
 ·unfold Rj
  have h:=(EW (T.Cu o).1.w (T.Cu o).1.own o.nth o.name o.Bj).length_le
  have h9:=(T.Cu o).1.KO
  refine Nat.le_trans (Nr _ _ _ _) ?_
  split
  ·rw [CE];omega
  ·omega
theorem Ux (T:AF)(o:Order):(T.Ez o).out.length≤T.out.length+2:=by
 unfold Ez
 generalize (if (!decide (o.nth=1) || o.Bj)=true then [] else o.name)=nm
 have hs:=T.HB nm
 split
 ·omega
 ·refine Nat.le_trans (Nat.le_of_eq (CE _ _)) ?_
  split
  ·show(T.A6 nm).1.out.length+1≤_;omega
  ·show(T.A6 nm).1.out.length+1≤_;omega
theorem Ox (T:AF)(first:Bool)(i:Int)(v:Bool)(k:Int):(T.before first i v k).out.length=T.out.length+1:=by
 unfold before
 split
 ·rw [FT];rfl
 ·exact FT T k i
theorem YZ (T:AF)(o:Order):(T.set o).out.length≤T.out.length+1:=by
 unfold set
 split
 ·unfold G0
  split
  ·rw [CE];exact Nat.le_refl _
  ·split
   ·rw [CE];exact Nat.le_refl _
   ·refine Nat.le_trans (Nat.le_of_eq (Cb _ _)) ?_
    split<;>exact Nat.le_refl _
 ·split
  ·rw [CE];exact Nat.le_refl _
  ·split
   ·rw [CE];exact Nat.le_refl _
   ·split
    ·exact Nat.le_of_eq (Ox T _ _ _ _)
    ·exact Nat.le_of_eq (Ox T _ _ _ _)
theorem XR (T:AF)(d:Int):(T.walk d).out.length≤T.out.length+11:=by
 unfold walk
 split
 ·rw [CE];omega
 ·split
  ·rw [CE];omega
  ·refine Nat.le_trans (Jh _).2.2 ?_
   rw [Cb]
   show(T.out ++ [_]).length+1+9≤_
   simp
theorem Uk (T:AF)(o:Order):(T.act o).out.length≤T.out.length+11:=by
 unfold act
 split
 ·exact T.XR _
 ·split
  ·exact Nat.le_trans (T.Jh).2.2 (by omega)
  ·split
   ·rw [(T.HM _ _).2.2];omega
   ·split
    ·rw [Cb];omega
    ·split
     ·rw [(T.O8).2.1,Lc];omega
     ·split
      ·exact Nat.le_trans (T.Ux o) (by omega)
      ·split
       ·exact T.Yx o
       ·split
        ·exact T.Vx o
        ·exact Nat.le_trans (T.YZ o) (by omega)
theorem XL.len {X:AH}{b:Int}{o:Order}(h:XL X b o):(EA X b o).2.1.length≤11:=by rw [h.out];exact Uk ⟨X,b,[]⟩ o
end AF
end Go.Ing
/- A round of all fights: plain functions and laws. -/
namespace Go.Ing
open Go
theorem Ct (d:Int):-2≤d.tmod 3∧d.tmod 3≤2:=by
 have h1:=Int.tmod_lt_of_pos d (show(0:Int) < 3 by decide)
 have h2:=Int.tmod_lt_of_pos (-d) (show(0:Int) < 3 by decide)
 rw [Int.neg_tmod] at h2
 omega
namespace AF
def FM (w:AH)(b:Int):AF:=⟨w.C4 b { w.AM.at b with BK:=1 },b,[]⟩
def F2 (w:AH)(b:Int):AF:=((FM w b).kind 15).E3
def JH (w:AH)(b:Int):AF:=(F2 w b).DS b { (F2 w b).w.AM.at b with room:=0,BK:=10 }
def Hi (w:AH)(b:Int):AF:=if decide (b < 2)=true then(F2 w b).DS b default else((JH w b).kind 17).look
def Lg (draw b:Int):Int:=1+(draw.tmod 3+3+b).tmod 3
def CC (w:AH)(b Bz n:Int):AF:=(AF.BP ⟨w,b,[]⟩ { Fy 14 with other:=Bz,n:=n }).DS Bz { w.AM.at Bz with BK:=max 0 ((w.AM.at Bz).BK - n) }
def EG (draw b:Int)(s:AH × List Event):AH × List Event:=
 if (!(s.1.AM.at b).here || decide ((s.1.AM.at b).Bz=0))=true then s
 else if (!(s.1.AM.at ((s.1.AM.at b).Bz - 1)).here || !decide ((s.1.AM.at ((s.1.AM.at b).Bz - 1)).room=(s.1.AM.at b).room))=true then(s.1.C4 b { s.1.AM.at b with Bz:=0 },s.2)
 else if decide (((CC s.1 b ((s.1.AM.at b).Bz - 1) (Lg draw b)).w.AM.at ((s.1.AM.at b).Bz - 1)).BK=0)=true then((Hi (CC s.1 b ((s.1.AM.at b).Bz - 1) (Lg draw b)).w ((s.1.AM.at b).Bz - 1)).w,(s.2++(CC s.1 b ((s.1.AM.at b).Bz - 1) (Lg draw b)).out)++(Hi (CC s.1 b ((s.1.AM.at b).Bz - 1) (Lg draw b)).w ((s.1.AM.at b).Bz - 1)).out)
 else((CC s.1 b ((s.1.AM.at b).Bz - 1) (Lg draw b)).w,s.2++(CC s.1 b ((s.1.AM.at b).Bz - 1) (Lg draw b)).out)
def DW (X:AH)(draw:Int):Nat→AH × List Event
 | 0=>(X,[])
 | k+1=>EG draw k (DW X draw k)
def CV (X:AH)(draw:Int):AH × List Event × Int:=if (!X.Bb)=true then(X,[],2) else((DW X draw 6).1,(DW X draw 6).2,0)
theorem Hx {X:AH}{draw k:Int}(h:0≤k):DW X draw (k+1).toNat=EG draw k (DW X draw k.toNat):=by
 obtain⟨m,rfl⟩:=Int.eq_ofNat_of_zero_le h
 rfl
theorem Lr {draw b:Int}(h:0≤b):1≤Lg draw b∧Lg draw b≤3:=by
 unfold Lg
 have:=Ct draw
 have h2:0≤draw.tmod 3+3+b:=by omega
 have h3:=Int.tmod_nonneg (a:=draw.tmod 3+3+b) 3 h2
 have h4:=Int.tmod_lt_of_pos (draw.tmod 3+3+b) (show(0:Int) < 3 by decide)
 omega
structure Yg (x:Ag):Prop where
 room:0≤x.room∧x.room < 6
 BK:0≤x.BK∧x.BK≤10
 Bz:0≤x.Bz∧x.Bz≤6
 off:x.here=false→x.Bz=0
 alive:x.here=decide (0 < x.BK)
theorem cG {x:Ag}(h:AH.Dk x=false):Yg x:=by
 simp only [AH.Dk,Bool.or_eq_false_iff,decide_eq_false_iff_not,Bool.and_eq_false_iff,Bool.not_eq_false',bne_eq_false_iff_eq] at h
 obtain⟨⟨⟨⟨⟨⟨⟨q1,q2⟩,q3⟩,q4⟩,q5⟩,q6⟩,q7⟩,q8⟩:=h
 refine⟨by omega,by omega,by omega,fun e=>?_,q8⟩
 rcases q7 with q | q
 ·rw [e] at q;cases q
 ·exact of_decide_eq_true q
theorem cH {x:Ag}(h:Yg x):AH.Dk x=false:=by
 have h1:=h.room;have h2:=h.BK;have h3:=h.Bz
 simp only [AH.Dk,Bool.or_eq_false_iff,decide_eq_false_iff_not,Bool.and_eq_false_iff,Bool.not_eq_false',bne_eq_false_iff_eq]
 refine⟨⟨⟨⟨⟨⟨⟨by omega,by omega⟩,by omega⟩,by omega⟩,by omega⟩,by omega⟩,?_⟩,h.alive⟩
 cases hh:x.here with
 | true=>exact .inl rfl
 | false=>exact .inr (decide_eq_true (h.off hh))
theorem G8 {X:AH}(h:X.Bb=true){b:Int}(h0:0≤b)(h6:b < 6):Yg (X.AM.at b):=cG (AH.FL h h0 h6)
theorem Jr {X:AH}(h:X.Bb=true){b:Int}(h0:0≤b)(h6:b < 6){x:Ag}(hx:Yg x)(hh:(X.AM.at b).here=true→x.here=true):(X.C4 b x).Bb=true:=
 AH.Ih h h0 h6 (cH hx) fun i i0 i9 e1 e2=>by
  rcases (AH.HU h i0 i9).CY with ⟨a,_⟩ | ⟨_,_,a⟩ | ⟨a,_⟩
  ·omega
  ·rw [e2] at a;exact hh a
  ·omega
theorem Us (X:AH)(b:Int)(x y:Ag):(X.C4 b x).C4 b y=X.C4 b y:=by
 unfold AH.C4
 show({ X with AM:=(X.AM.put b x).put b y }:AH)=_
 rw [Vector.Ej]
section
variable {w:AH} {b Bz n:Int} (hg:w.Bb=true) (hw:w.DH) (f0:0≤Bz) (f6:Bz < 6) (hh:(w.AM.at Bz).here=true)
include hg hw f0 f6 hh
theorem LB:(FM (CC w b Bz n).w Bz).Fit:=by
 have e:(CC w b Bz n).w.C4 Bz { (CC w b Bz n).w.AM.at Bz with BK:=1 }=w.C4 Bz { w.AM.at Bz with BK:=1 }:=by
  show(w.C4 Bz _).C4 Bz { (w.C4 Bz _).AM.at Bz with BK:=1 }=_
  rw [Us,AH.EL f0 f6]
 have k:=G8 hg f0 f6
 refine⟨⟨f0,f6⟩,?_,?_,?_⟩
 ·show((CC w b Bz n).w.C4 Bz _).DH
  rw [e];exact El hw (hw.be Bz)
 ·show((CC w b Bz n).w.C4 Bz _).Bb=true
  rw [e]
  exact Jr hg f0 f6 ⟨k.room,⟨show(0:Int)≤1 by decide,show(1:Int)≤10 by decide⟩,k.Bz,k.off,by rw [show({ w.AM.at Bz with BK:=1 }:Ag).here=true from hh];rfl⟩ fun _=>hh
 ·show(((CC w b Bz n).w.C4 Bz _).AM.at Bz).here=true
  rw [e,AH.EL f0 f6];exact hh
theorem RS (hn:0 < (w.AM.at Bz).BK - n)(h1:0≤n):(CC w b Bz n).w.Bb=true∧(CC w b Bz n).w.DH:=by
 have k:=G8 hg f0 f6
 have hk:=k.BK
 refine⟨Jr hg f0 f6 ⟨k.room,⟨?_,?_⟩,k.Bz,k.off,?_⟩ fun _=>hh,El hw (hw.be Bz)⟩
 ·show 0≤max 0 ((w.AM.at Bz).BK - n);omega
 ·show max 0 ((w.AM.at Bz).BK - n)≤10;omega
 ·show(w.AM.at Bz).here=decide (0 < max 0 ((w.AM.at Bz).BK - n))
  rw [hh,decide_eq_true (by omega)]
end
theorem JV (w:AH)(b:Int):(F2 w b).b=b∧(F2 w b).out=((FM w b).kind 15).out:=RE ((FM w b).kind 15)
theorem Q2 (w:AH)(b:Int):(JH w b).b=b∧(JH w b).out=((FM w b).kind 15).out∧(JH w b).w=(F2 w b).w.C4 b { (F2 w b).w.AM.at b with room:=0,BK:=10 }:=by
 have h:=JV w b
 unfold JH
 rw [(C8 _ _ _).1,(C8 _ _ _).2.1,(C8 _ _ _).2.2]
 exact⟨h.1,h.2,rfl⟩
theorem YV (D:AH){b:Int}(hb:0≤b∧b < 6):({ D with AM:=(D.AM.put b { D.AM.at b with room:=0 }).put b { (D.AM.put b { D.AM.at b with room:=0 }).at b with BK:=10 } }:AH)=D.C4 b { D.AM.at b with room:=0,BK:=10 }:=by
 rw [Vector.CD hb.1 hb.2,Vector.Ej];rfl
theorem Um {X F:AH}{b:Int}(h:F=((FM X b).kind 15).E3.w)(x:Ag):(F2 X b).DS b x=⟨F.C4 b x,b,((FM X b).kind 15).out⟩:=by
 subst h
 have e:=JV X b
 have h1:=C8 (F2 X b) b x
 cases hT:(F2 X b).DS b x with
 | mk w' b' o'=>
  rw [hT] at h1
  obtain⟨q1,q2,q3⟩:=h1
  simp only at q1 q2 q3
  rw [q1,q2,q3,e.1,e.2]
  rfl
theorem YR {X F:AH}{b:Int}(h:F=((FM X b).kind 15).E3.w):JH X b=⟨F.C4 b { F.AM.at b with room:=0,BK:=10 },b,((FM X b).kind 15).out⟩:=by
 have h':(F2 X b).w=F:=h.symm
 unfold JH
 rw [h',Um h]
theorem Qb {w:AH}{b:Int}(h:(FM w b).Fit):DI (FM w b) (F2 w b)∧∀ j,0≤j→j < 9→¬ (((F2 w b).w.AO.at j).CY=1∧((F2 w b).w.AO.at j).at_=b):=by
 have g1:DI (FM w b) ((FM w b).kind 15):=h.goes.Ef rfl rfl
 obtain⟨g2,k⟩:=QB g1.fit
 exact⟨g1.trans g2,k⟩
theorem R7 {w:AH}{b:Int}(h:(FM w b).Fit):(JH w b).Fit:=by
 have g:=(Qb h).1.fit
 have hb:0≤b∧b < 6:=h.b
 have e:=Q2 w b
 have eb:=(JV w b).1
 have gb:=g.b
 have gh:=g.here
 rw [eb] at gb gh
 have k:=G8 g.gd hb.1 hb.2
 have gbr:=g.br
 have ggd:=g.gd
 obtain⟨e1,_,e3⟩:=e
 generalize hD:(F2 w b).w=D at *
 have hx:(D.C4 b { D.AM.at b with room:=0,BK:=10 }).Bb=true:=Jr ggd hb.1 hb.2 ⟨⟨Int.le_refl _,show(0:Int) < 6 by decide⟩,⟨show(0:Int)≤10 by decide,show(10:Int)≤10 by decide⟩,k.Bz,k.off,gh⟩ fun _=>gh
 have hy:(D.C4 b { D.AM.at b with room:=0,BK:=10 }).DH:=El gbr (gbr.be b)
 have hz:((D.C4 b { D.AM.at b with room:=0,BK:=10 }).AM.at b).here=true:=by rw [AH.EL hb.1 hb.2];exact gh
 exact⟨by rw [e1];exact hb,by rw [e3];exact hy,by rw [e3];exact hx,by rw [e1,e3];exact hz⟩
theorem Pp {w:AH}{b:Int}(h:(FM w b).Fit):(Hi w b).w.Bb=true∧(Hi w b).w.DH∧(Hi w b).out.length≤12:=by
 have hb:0≤b∧b < 6:=h.b
 obtain⟨g,hk⟩:=Qb h
 unfold Hi
 split
 ·rw [(C8 _ _ _).2.1,(C8 _ _ _).2.2]
  refine⟨AH.Ih (X:=(F2 w b).w) g.fit.gd hb.1 hb.2 (by decide) fun i i0 i9 e1 e2=>absurd ⟨e1,e2⟩ (hk i i0 i9),El (X:=(F2 w b).w) g.fit.br (by decide),?_⟩
  rw [(JV w b).2,Lc]
  exact(by decide:(0:Nat)+1≤12)
 ·have f:=R7 h
  have hl:=Jh ((JH w b).kind 17)
  refine⟨by rw [hl.1];exact f.gd,by rw [hl.1];exact f.br,?_⟩
  have h2:=hl.2.2
  rw [Lc,(Q2 w b).2.1,Lc] at h2
  exact Nat.le_trans h2 (by decide:(0:Nat)+1+1+9≤12)
theorem FY {s:AH × List Event}{draw b:Int}(hg:s.1.Bb=true)(hw:s.1.DH)(h0:0≤b)(h6:b < 6):(EG draw b s).1.Bb=true∧(EG draw b s).1.DH∧(EG draw b s).2.length≤s.2.length+13:=by
 have kb:=G8 hg h0 h6
 have hn:=Lr (draw:=draw) h0
 unfold EG
 split
 ·exact⟨hg,hw,by omega⟩
 ·rename_i h1
  simp only [Bool.or_eq_true,Bool.not_eq_true',decide_eq_true_eq,not_or,Bool.not_eq_false] at h1
  have kf:=kb.Bz
  split
  ·exact⟨Jr hg h0 h6 ⟨kb.room,kb.BK,⟨Int.le_refl _,show(0:Int)≤6 by decide⟩,fun _=>rfl,kb.alive⟩ fun h=>h,El hw (hw.be b),Nat.le_add_right _ _⟩
  ·rename_i h2
   simp only [Bool.or_eq_true,Bool.not_eq_true',decide_eq_false_iff_not,not_or,Bool.not_eq_false,Decidable.not_not] at h2
   have hf:=LB (b:=b) (n:=Lg draw b) hg hw (Bz:=(s.1.AM.at b).Bz - 1) (by omega) (by omega) h2.1
   have hso:(CC s.1 b ((s.1.AM.at b).Bz - 1) (Lg draw b)).out.length=1:=rfl
   split
   ·obtain⟨d1,d2,d3⟩:=Pp hf
    refine⟨d1,d2,?_⟩
    show((s.2++_)++_).length≤_
    rw [List.length_append,List.length_append,hso];omega
   ·rename_i h3
    have h3':¬ ((CC s.1 b ((s.1.AM.at b).Bz - 1) (Lg draw b)).w.AM.at ((s.1.AM.at b).Bz - 1)).BK=0:=fun e=>h3 (decide_eq_true e)
    have e:((CC s.1 b ((s.1.AM.at b).Bz - 1) (Lg draw b)).w.AM.at ((s.1.AM.at b).Bz - 1))={ s.1.AM.at ((s.1.AM.at b).Bz - 1) with BK:=max 0 ((s.1.AM.at ((s.1.AM.at b).Bz - 1)).BK - Lg draw b) }:=Vector.CD (by omega) (by omega)
    rw [e] at h3'
    have h3'':¬ max 0 ((s.1.AM.at ((s.1.AM.at b).Bz - 1)).BK - Lg draw b)=0:=h3'
    obtain⟨d1,d2⟩:=RS (b:=b) (n:=Lg draw b) hg hw (Bz:=(s.1.AM.at b).Bz - 1) (by omega) (by omega) h2.1 (by omega) (by omega)
    refine⟨d1,d2,?_⟩
    show(s.2++_).length≤_
    rw [List.length_append,hso];omega
end AF
end Go.Ing
/- What a round takes: plain laws. -/
namespace Go.Ing
open Go
namespace AF
def Pe (v:Vector Int 6)(e:Event):Vector Int 6:=if decide (e.kind=14)=true then v.put e.other (v.at e.other+e.n) else v
def P9 (v:Vector Bool 6)(e:Event):Vector Bool 6:=if decide (e.kind=15)=true then v.put e.Db true else v
def EF (l:List Event):Vector Int 6:=l.foldl Pe (Vector.replicate 6 default)
def FZ (l:List Event):Vector Bool 6:=l.foldl P9 (Vector.replicate 6 default)
theorem NY (l:List Event)(e:Event):EF (l ++ [e])=Pe (EF l) e:=by simp [EF]
theorem Oh (l:List Event)(e:Event):FZ (l ++ [e])=P9 (FZ l) e:=by simp [FZ]
def Quiet (q:List Event):Prop:=∀ e∈q,e.kind≠14∧e.kind≠15
theorem No:∀ {q:List Event} (v:Vector Int 6) (u:Vector Bool 6),Quiet q→q.foldl Pe v=v∧q.foldl P9 u=u
 | [],_,_,_=>⟨rfl,rfl⟩
 | e :: r,v,u,h=>by
  have he:=h e (List.mem_cons_self ..)
  have hr:Quiet r:=fun x hx=>h x (List.mem_cons_of_mem _ hx)
  rw [List.foldl_cons,List.foldl_cons,Pe,if_neg (by simp [he.1]),P9,if_neg (by simp [he.2])]
  exact No v u hr
theorem Rp {l q:List Event}(h:Quiet q):EF (l++q)=EF l∧FZ (l++q)=FZ l:=by
 unfold EF FZ
 rw [List.foldl_append,List.foldl_append]
 exact No _ _ h
theorem Hv (T:AF)(e:Event):∃ x:Event,(T.BP e).out=T.out ++ [x]∧x.kind=e.kind∧x.Db=T.b∧x.other=e.other∧x.n=e.n:=by
 obtain⟨a1,a2,_,a4,a5,_⟩:=AH.KL T.w (T.Dm e) 6
 have e2:(T.Dm e).kind=e.kind∧(T.Dm e).Db=T.b∧(T.Dm e).other=e.other∧(T.Dm e).n=e.n:=by
  unfold Dm
  split<;>exact⟨rfl,rfl,rfl,rfl⟩
 exact⟨_,rfl,a1.trans e2.1,a2.trans e2.2.1,a4.trans e2.2.2.1,a5.trans e2.2.2.2⟩
def M5 (T T':AF):Prop:=∃ q,T'.out=T.out++q∧∀ e∈q,e.kind=16
theorem M5.refl (T:AF):M5 T T:=⟨[],by simp,fun _ h=>by cases h⟩
theorem M5.tell {T T':AF}(h:M5 T T')(s:Aq):M5 T (T'.tell s):=by
 obtain⟨q,e,k⟩:=h
 obtain⟨x,e2,k2,_⟩:=Hv T' { Fy 16 with text:=s }
 refine⟨q ++ [x],?_,fun y hy=>?_⟩
 ·show(T'.BP _).out=_
  rw [e2,e,List.append_assoc]
 ·rcases List.mem_append.1 hy with hy | hy
  ·exact k y hy
  ·have:y=x:=by simpa using hy
   rw [this];exact k2
theorem M5.look {T T':AF}(h:M5 T T'):M5 T T'.look:=by
 have hk:∀ {T'':AF},M5 T T''→∀ k:Nat,M5 T (T''.Fa k):=fun {T''} h' k=>by
  induction k with
  | zero=>exact h'
  | succ k ih=>
   unfold Fa
   split
   ·exact ih.tell _
   ·exact ih
 unfold AF.look
 split
 ·exact h.tell _
 ·refine hk ?_ 6
  have ha:M5 T T'.Je:=(h.tell _).tell _
  unfold D9
  split
  ·exact ha.tell _
  ·exact ha
/-! #### who is struck, who dies -/
def calm (b:Int)(x:Ag):Ag:={ x with Bz:=if x.Bz=b+1 then 0 else x.Bz }
theorem XT {b:Int}{x:Ag}(h:x.Bz=b+1):calm b x={ x with Bz:=0 }:=by unfold calm;rw [if_pos h]
theorem Xn {b:Int}{x:Ag}(h:¬ x.Bz=b+1):calm b x=x:=by unfold calm;rw [if_neg h]
theorem Rz (T:AF)(hb:0≤T.b):∀ k:Nat,k≤6→∀ c:Int,0≤c→c < 6→(T.DT k).w.AM.at c=if c < (k:Int) then calm T.b (T.w.AM.at c) else T.w.AM.at c
 | 0,_,c,c0,_=>by rw [if_neg (by omega)];rfl
 | k+1,hk,c,c0,c6=>by
  have ih:=Rz T hb k (by omega)
  have ihk:=ih k (by omega) (by omega)
  rw [if_neg (by omega)] at ihk
  have ihc:=ih c c0 c6
  unfold DT
  rw [ihk]
  by_cases e:(T.w.AM.at (k:Int)).Bz=T.b+1
  ·rw [if_pos (decide_eq_true e)]
   show(((T.DT k).w.AM.put (k:Int) { (T.DT k).w.AM.at (k:Int) with Bz:=0 }).at c)=_
   rw [IL _ _ _ _ (by omega) (by omega) c0]
   by_cases ec:c=(k:Int)
   ·subst ec
    rw [if_pos rfl,if_pos (by omega),ihk,XT e]
   ·rw [if_neg ec,ihc]
    by_cases hl:c < (k:Int)
    ·rw [if_pos hl,if_pos (by omega)]
    ·rw [if_neg hl,if_neg (by omega)]
  ·rw [if_neg (by simpa using e),ihc]
   by_cases hl:c < (k:Int)
   ·rw [if_pos hl,if_pos (by omega)]
   ·rw [if_neg hl]
    by_cases ec:c=(k:Int)
    ·subst ec
     rw [if_pos (by omega),Xn e]
    ·rw [if_neg (by omega)]
theorem OT:∀(l:List Int) (T:AF),(T.Ca l).w.AM=T.w.AM
 | [],_=>rfl
 | i :: r,T=>(OT r (T.Er i)).trans rfl
theorem Yq (T:AF)(hb:0≤T.b∧T.b < 6){c:Int}(c0:0≤c)(c6:c < 6):T.E3.w.AM.at c=if c=T.b then { T.w.AM.at c with Bz:=0 } else calm T.b (T.w.AM.at c):=by
 have hd:=OT T.own T
 have hdb:=(Ia T.own T).1
 have hk:=Rz (T.Ca T.own) (by rw [hdb];exact hb.1) 6 (Nat.le_refl _)
 rw [hd,hdb] at hk
 rw [LZ]
 generalize (T.Ca T.own).DT 6=D at *
 show(D.w.AM.put T.b { D.w.AM.at T.b with Bz:=0 }).at c=_
 rw [IL _ _ _ _ hb.1 hb.2 c0]
 have hc:=hk c c0 c6
 rw [if_pos (by omega)] at hc
 by_cases e:c=T.b
 ·rw [if_pos e,if_pos e,← e,hc];rfl
 ·rw [if_neg e,if_neg e,hc]
structure ag (w w':AH)(f:Int):Prop where
 cR:∀ c,0≤c→c < 6→c≠f→(w'.AM.at c).BK=(w.AM.at c).BK∧(w'.AM.at c).room=(w.AM.at c).room∧(w'.AM.at c).here=(w.AM.at c).here∧((w'.AM.at c).Bz=(w.AM.at c).Bz∨(w'.AM.at c).Bz=0)∧(w'.AM.at c).Bz≠f+1
 here:(w'.AM.at f).here=decide (2≤f)
 Bz:(w'.AM.at f).Bz=0
theorem Tt {w:AH}{f c:Int}(hf:0≤f∧f < 6)(c0:0≤c)(c6:c < 6):(F2 w f).w.AM.at c=if c=f then { (FM w f).w.AM.at c with Bz:=0 } else calm f ((FM w f).w.AM.at c):=Yq ((FM w f).kind 15) hf c0 c6
theorem Xo {w:AH}{f c:Int}(hf:0≤f∧f < 6)(c0:0≤c)(c6:c < 6)(hn:c≠f):(F2 w f).w.AM.at c=calm f (w.AM.at c):=by
 have h0:(FM w f).w.AM.at c=w.AM.at c:=AH.GS hf.1 hf.2 c0 hn _
 rw [Tt hf c0 c6,h0,if_neg hn]
theorem Yj (f:Int)(hf:0≤f)(x:Ag):(calm f x).BK=x.BK∧(calm f x).room=x.room∧(calm f x).here=x.here∧((calm f x).Bz=x.Bz∨(calm f x).Bz=0)∧(calm f x).Bz≠f+1:=by
 by_cases e:x.Bz=f+1
 ·rw [XT e]
  refine⟨rfl,rfl,rfl, .inr rfl,?_⟩
  show(0:Int)≠f+1
  omega
 ·rw [Xn e]
  exact⟨rfl,rfl,rfl, .inl rfl,e⟩
theorem US {w w1 w':AH}{f:Int}(hf:0≤f∧f < 6)(ho:∀ c,0≤c→c < 6→c≠f→w1.AM.at c=calm f (w.AM.at c))(he:∀ c,0≤c→c < 6→c≠f→w'.AM.at c=w1.AM.at c)(h1:(w'.AM.at f).here=decide (2≤f))(h2:(w'.AM.at f).Bz=0):ag w w' f:=by
 refine⟨fun c c0 c6 hn=>?_,h1,h2⟩
 rw [he c c0 c6 hn,ho c c0 c6 hn]
 exact Yj f hf.1 _
theorem VH {w:AH}{f:Int}(h:(FM w f).Fit):ag w (Hi w f).w f∧∃ x q,(Hi w f).out=x :: q∧x.kind=15∧x.Db=f∧Quiet q:=by
 have hf:0≤f∧f < 6:=h.b
 have ho:∀ c,0≤c→c < 6→c≠f→(F2 w f).w.AM.at c=calm f (w.AM.at c):=fun c c0 c6 hn=>Xo hf c0 c6 hn
 obtain⟨x,e1,k1,k2,_⟩:=Hv (FM w f) (Fy 15)
 have hout:((FM w f).kind 15).out = [x]:=e1
 have g:=(Qb h).1.fit
 have gh:=g.here
 rw [(JV w f).1] at gh
 have hme:=Tt (w:=w) hf hf.1 hf.2
 rw [if_pos rfl] at hme
 have hfoe:((F2 w f).w.AM.at f).Bz=0:=by rw [hme]
 unfold Hi
 split
 ·rename_i c2
  have c2':=of_decide_eq_true c2
  rw [(C8 _ _ _).2.1,(C8 _ _ _).2.2,(JV w f).2,hout]
  generalize (F2 w f).w=D at *
  refine⟨US (w1:=D) hf ho (fun c c0 _ hn=>AH.GS hf.1 hf.2 c0 hn _) ?_ ?_,x,[],rfl,k1,k2,fun e he=>by cases he⟩
  ·show((D.C4 f default).AM.at f).here=_
   rw [AH.EL hf.1 hf.2,decide_eq_false (by omega)];rfl
  ·show((D.C4 f default).AM.at f).Bz=_
   rw [AH.EL hf.1 hf.2];rfl
 ·rename_i c2
  have c2':¬ f < 2:=fun e=>c2 (decide_eq_true e)
  have hl:=Jh ((JH w f).kind 17)
  have e2:=Q2 w f
  obtain⟨y,e3,k3,_⟩:=Hv (JH w f) (Fy 17)
  obtain⟨q,e4,k4⟩:=(M5.refl ((JH w f).kind 17)).look
  have e3':((JH w f).kind 17).out = [x] ++ [y]:=by rw [show((JH w f).kind 17).out=_ from e3,e2.2.1,hout]
  rw [hl.1,e4,e3',show((JH w f).kind 17).w=(JH w f).w from rfl,e2.2.2]
  generalize (F2 w f).w=D at *
  refine⟨US (w1:=D) hf ho (fun c c0 _ hn=>AH.GS hf.1 hf.2 c0 hn _) ?_ ?_,x,y :: q,rfl,k1,k2,fun e he=>?_⟩
  ·rw [AH.EL hf.1 hf.2,decide_eq_true (by omega)];exact gh
  ·rw [AH.EL hf.1 hf.2];exact hfoe
  ·rcases List.mem_cons.1 he with he | he
   ·rw [he,k3];exact⟨by decide,by decide⟩
   ·rw [k4 e he];exact⟨by decide,by decide⟩
/-! #### the count of a round -/
def cf (e:Event):Prop:=(e.kind=14→1≤e.n∧e.n≤3∧0≤e.other∧e.other < 6)∧(e.kind=15→0≤e.Db∧e.Db < 6)
structure Te (X:AH)(s:AH × List Event):Prop where
 ev:∀ e∈s.2,cf e
 un:∀ c,0≤c→c < 6→(FZ s.2).at c=false→(s.1.AM.at c).BK=(X.AM.at c).BK - (EF s.2).at c∧(s.1.AM.at c).room=(X.AM.at c).room∧(s.1.AM.at c).here=(X.AM.at c).here
 di:∀ c,0≤c→c < 6→(FZ s.2).at c=true→(X.AM.at c).BK≤(EF s.2).at c∧(s.1.AM.at c).here=decide (2≤c)∧(s.1.AM.at c).Bz=0∧∀ a,0≤a→a < 6→(s.1.AM.at a).Bz≠c+1
theorem Xq {α:Type}[Inhabited α](c:Int)(c0:0≤c)(c6:c < 6):(Vector.replicate 6 (default:α)).at c=default:=by
 have:c=0∨c=1∨c=2∨c=3∨c=4∨c=5:=by omega
 rcases this with rfl | rfl | rfl | rfl | rfl | rfl<;>rfl
theorem Te.start (X:AH):Te X (X,[]):=by
 have hh:∀ c,0≤c→c < 6→(EF []).at c=0:=fun c c0 c6=>Xq c c0 c6
 have hd:∀ c,0≤c→c < 6→(FZ []).at c=false:=fun c c0 c6=>Xq c c0 c6
 refine⟨fun _ h=>(by cases h),fun c c0 c6 _=>⟨?_,rfl,rfl⟩,fun c c0 c6 h=>?_⟩
 ·show(X.AM.at c).BK=(X.AM.at c).BK - (EF []).at c
  rw [hh c c0 c6];omega
 ·have h':(FZ []).at c=true:=h
  rw [hd c c0 c6] at h';cases h'
theorem Te.next {X:AH}{s:AH × List Event}{draw b:Int}(h:Te X s)(hg:s.1.Bb=true)(hw:s.1.DH)(h0:0≤b)(h6:b < 6):Te X (EG draw b s):=by
 have kb:=G8 hg h0 h6
 have hn:=Lr (draw:=draw) h0
 unfold EG
 split
 ·exact h
 ·rename_i h1
  simp only [Bool.or_eq_true,Bool.not_eq_true',decide_eq_true_eq,not_or,Bool.not_eq_false] at h1
  have kf:=kb.Bz
  split
  ·have hb:∀ c,0≤c→((s.1.C4 b { s.1.AM.at b with Bz:=0 }).AM.at c).BK=(s.1.AM.at c).BK∧((s.1.C4 b { s.1.AM.at b with Bz:=0 }).AM.at c).room=(s.1.AM.at c).room∧((s.1.C4 b { s.1.AM.at b with Bz:=0 }).AM.at c).here=(s.1.AM.at c).here∧(((s.1.C4 b { s.1.AM.at b with Bz:=0 }).AM.at c).Bz=(s.1.AM.at c).Bz∨((s.1.C4 b { s.1.AM.at b with Bz:=0 }).AM.at c).Bz=0):=fun c c0=>by
    by_cases e:c=b
    ·subst e;rw [AH.EL h0 h6];exact⟨rfl,rfl,rfl, .inr rfl⟩
    ·rw [AH.GS h0 h6 c0 e];exact⟨rfl,rfl,rfl, .inl rfl⟩
   refine⟨h.ev,fun c c0 c6 hd=>?_,fun c c0 c6 hd=>?_⟩
   ·obtain⟨q1,q2,q3⟩:=h.un c c0 c6 hd
    obtain⟨r1,r2,r3,_⟩:=hb c c0
    exact⟨r1.trans q1,r2.trans q2,r3.trans q3⟩
   ·obtain⟨q1,q2,q3,q4⟩:=h.di c c0 c6 hd
    obtain⟨_,_,r3,r4⟩:=hb c c0
    refine⟨q1,r3.trans q2,?_,fun a a0 a6=>?_⟩
    ·rcases r4 with r4 | r4
     ·exact r4.trans q3
     ·exact r4
    ·have:=q4 a a0 a6
     rcases (hb a a0).2.2.2 with r | r
     ·rw [r];exact this
     ·rw [r];omega
  ·rename_i h2
   simp only [Bool.or_eq_true,Bool.not_eq_true',decide_eq_false_iff_not,not_or,Bool.not_eq_false,Decidable.not_not] at h2
   generalize hfo:(s.1.AM.at b).Bz - 1=f at *
   generalize Lg draw b=n at *
   have f0:0≤f:=by omega
   have f6:f < 6:=by omega
   have hf:=LB (b:=b) (n:=n) hg hw (Bz:=f) f0 f6 h2.1
   have kf2:=(G8 hg f0 f6).BK
   obtain⟨x,ex,k1,k2,k3,k4⟩:=Hv ⟨s.1,b,[]⟩ { Fy 14 with other:=f,n:=n }
   have hso:(CC s.1 b f n).out = [x]:=ex
   have hsw:(CC s.1 b f n).w=s.1.C4 f { s.1.AM.at f with BK:=max 0 ((s.1.AM.at f).BK - n) }:=rfl
   have k1':x.kind=14:=k1
   have k3':x.other=f:=k3
   have k4':x.n=n:=k4
   have hH:EF (s.2 ++ [x])=(EF s.2).put f ((EF s.2).at f+n):=by rw [NY,Pe,if_pos (decide_eq_true k1'),k3',k4']
   have hD:FZ (s.2 ++ [x])=FZ s.2:=by rw [Oh,P9,if_neg (by rw [k1'];decide)]
   have hnd:(FZ s.2).at f=false:=by
    cases hh:(FZ s.2).at f with
    | false=>rfl
    | true=>exact absurd (by omega:(s.1.AM.at b).Bz=f+1) ((h.di f f0 f6 hh).2.2.2 b h0 h6)
   have hfe:=h.un f f0 f6 hnd
   have hxe:cf x:=⟨fun _=>by rw [k3',k4'];omega,fun e=>by rw [k1'] at e;cases e⟩
   have hev:∀ e∈s.2 ++ [x],cf e:=fun e he=>by
    rcases List.mem_append.1 he with he | he
    ·exact h.ev e he
    ·have:e=x:=by simpa using he
     rw [this];exact hxe
   have hwc:∀ c,0≤c→c≠f→(CC s.1 b f n).w.AM.at c=s.1.AM.at c:=fun c c0 hne=>by rw [hsw];exact AH.GS f0 f6 c0 hne _
   have hwf:(CC s.1 b f n).w.AM.at f={ s.1.AM.at f with BK:=max 0 ((s.1.AM.at f).BK - n) }:=by rw [hsw];exact AH.EL f0 f6 _
   have hwa:∀ a,0≤a→((CC s.1 b f n).w.AM.at a).Bz=(s.1.AM.at a).Bz:=fun a a0=>by
    by_cases e:a=f
    ·rw [e,hwf]
    ·rw [hwc a a0 e]
   have hHc:∀ c,0≤c→c≠f→((EF s.2).put f ((EF s.2).at f+n)).at c=(EF s.2).at c:=fun c c0 hne=>Vector.Ed f0 f6 c0 hne
   have hHf:((EF s.2).put f ((EF s.2).at f+n)).at f=(EF s.2).at f+n:=Vector.CD f0 f6
   split
   ·rename_i h3
    have h3':=of_decide_eq_true h3
    rw [hwf] at h3'
    have h3'':max 0 ((s.1.AM.at f).BK - n)=0:=h3'
    obtain⟨dd,y,q,e2,y1,y2,y3⟩:=VH hf
    rw [e2,hso]
    generalize (Hi (CC s.1 b f n).w f).w=W at *
    have hA:EF (s.2 ++ [x]++y :: q)=(EF s.2).put f ((EF s.2).at f+n)∧FZ (s.2 ++ [x]++y :: q)=(FZ s.2).put f true:=by
     have hq:=Rp (l:=s.2 ++ [x] ++ [y]) y3
     rw [show s.2 ++ [x]++y :: q=s.2 ++ [x] ++ [y]++q by simp,hq.1,hq.2,NY,Oh,hH,hD,Pe,if_neg (by rw [y1];decide),P9,if_pos (decide_eq_true y1),y2]
     exact⟨rfl,rfl⟩
    refine⟨fun e he=>?_,fun c c0 c6 hd=>?_,fun c c0 c6 hd=>?_⟩
    ·rcases List.mem_append.1 he with he | he
     ·exact hev e he
     ·rcases List.mem_cons.1 he with he | he
      ·rw [he];exact⟨fun e=>absurd (y1.symm.trans e) (by decide),fun _=>by rw [y2];exact⟨f0,f6⟩⟩
      ·exact⟨fun e'=>absurd e' (y3 e he).1,fun e'=>absurd e' (y3 e he).2⟩
    ·have hd':((FZ s.2).put f true).at c=false:=by rw [← hA.2];exact hd
     have hne:c≠f:=fun e=>by
      rw [e,Vector.CD f0 f6] at hd';cases hd'
     rw [Vector.Ed f0 f6 c0 hne] at hd'
     obtain⟨q1,q2,q3⟩:=h.un c c0 c6 hd'
     obtain⟨r1,r2,r3,_⟩:=dd.cR c c0 c6 hne
     rw [hwc c c0 hne] at r1 r2 r3
     show(W.AM.at c).BK=(X.AM.at c).BK - (EF (s.2 ++ [x]++y :: q)).at c∧_
     rw [hA.1,hHc c c0 hne]
     exact⟨r1.trans q1,r2.trans q2,r3.trans q3⟩
    ·have hd':((FZ s.2).put f true).at c=true:=by rw [← hA.2];exact hd
     show(X.AM.at c).BK≤(EF (s.2 ++ [x]++y :: q)).at c∧_
     rw [hA.1]
     by_cases hne:c=f
     ·subst hne
      rw [hHf]
      refine⟨by omega,dd.here,dd.Bz,fun a a0 a6=>?_⟩
      by_cases ea:a=c
      ·rw [ea,dd.Bz];omega
      ·exact(dd.cR a a0 a6 ea).2.2.2.2
     ·rw [Vector.Ed f0 f6 c0 hne] at hd'
      rw [hHc c c0 hne]
      obtain⟨q1,q2,q3,q4⟩:=h.di c c0 c6 hd'
      obtain⟨_,_,r3,r4,_⟩:=dd.cR c c0 c6 hne
      rw [hwc c c0 hne] at r3 r4
      refine⟨q1,r3.trans q2,?_,fun a a0 a6=>?_⟩
      ·rcases r4 with r4 | r4
       ·exact r4.trans q3
       ·exact r4
      ·by_cases ea:a=f
       ·rw [ea,dd.Bz];omega
       ·have:=q4 a a0 a6
        have r:=(dd.cR a a0 a6 ea).2.2.2.1
        rw [hwc a a0 ea] at r
        rcases r with r | r
        ·rw [r];exact this
        ·rw [r];omega
   ·rename_i h3
    have h3':¬ ((CC s.1 b f n).w.AM.at f).BK=0:=fun e=>h3 (decide_eq_true e)
    rw [hwf] at h3'
    have h3'':¬ max 0 ((s.1.AM.at f).BK - n)=0:=h3'
    rw [hso]
    refine⟨hev,fun c c0 c6 hd=>?_,fun c c0 c6 hd=>?_⟩
    ·have hd':(FZ s.2).at c=false:=by rw [← hD];exact hd
     show((CC s.1 b f n).w.AM.at c).BK=(X.AM.at c).BK - (EF (s.2 ++ [x])).at c∧_
     rw [hH]
     by_cases hne:c=f
     ·subst hne
      rw [hHf,hwf]
      refine⟨?_,hfe.2.1,hfe.2.2⟩
      show max 0 ((s.1.AM.at c).BK - n)=_
      have:=hfe.1
      omega
     ·rw [hHc c c0 hne,hwc c c0 hne]
      exact h.un c c0 c6 hd'
    ·have hd':(FZ s.2).at c=true:=by rw [← hD];exact hd
     have hne:c≠f:=fun e=>by rw [e,hnd] at hd';cases hd'
     show(X.AM.at c).BK≤(EF (s.2 ++ [x])).at c∧_
     rw [hH,hHc c c0 hne]
     obtain⟨q1,q2,q3,q4⟩:=h.di c c0 c6 hd'
     refine⟨q1,by rw [hwc c c0 hne];exact q2,by rw [hwc c c0 hne];exact q3,fun a a0 a6=>by rw [hwa a a0];exact q4 a a0 a6⟩
theorem Pv {X:AH}{draw:Int}(hg:X.Bb=true)(hw:X.DH):∀ k:Nat,k≤6→Te X (DW X draw k)∧(DW X draw k).1.Bb=true∧(DW X draw k).1.DH∧(DW X draw k).2.length≤13 * k
 | 0,_=>⟨.start X,hg,hw,Nat.le_refl _⟩
 | k+1,hk=>by
  obtain⟨h1,h2,h3,h4⟩:=Pv hg hw k (by omega)
  obtain⟨g1,g2,g3⟩:=FY (draw:=draw) (b:=(k:Int)) h2 h3 (by omega) (by omega)
  exact⟨h1.next h2 h3 (by omega) (by omega),g1,g2,by show(EG draw k (DW X draw k)).2.length≤_;omega⟩
theorem W2 {X:AH}{draw:Int}(hw:X.DH)(h:(CV X draw).2.2=0):Te X ((CV X draw).1,(CV X draw).2.1)∧(CV X draw).1.Bb=true∧(CV X draw).2.1.length≤78:=by
 unfold CV at h ⊢
 split at h
 ·cases h
 ·rename_i h1
  rw [if_neg h1]
  obtain⟨q1,q2,_,q4⟩:=Pv (draw:=draw) (by simpa using h1) hw 6 (Nat.le_refl _)
  generalize DW X draw 6=S at *
  exact⟨q1,q2,Nat.le_trans q4 (by decide)⟩
end AF
end Go.Ing
/- The document's side of what beings do: plain functions and laws. -/
namespace Go.Ing
open Go
namespace AF
/-! #### names of players -/
def low (c:UInt8):Bool:=decide ((c.toNat:Int) < 97) || decide (122 < (c.toNat:Int))
def Hg (s:Aq)(k:Nat):Bool:=(s.drop k).all fun c=>!low c
theorem VF {s:Aq}{k:Int}(h0:0≤k)(h1:k < s.length):Hg s k.toNat=(!low (s.getD k.toNat 0) && Hg s (k+1).toNat):=by
 have hk:k.toNat < s.length:=by omega
 unfold Hg
 rw [List.drop_eq_getElem_cons hk,show(k+1).toNat=k.toNat+1 by omega,List.getD_eq_getElem?_getD,List.getElem?_eq_getElem hk]
 rfl
theorem XH (s:Aq):Hg s (s.length:Int).toNat=true:=by
 unfold Hg
 rw [show(s.length:Int).toNat=s.length by omega,List.drop_length];rfl
def XU:Aq:= [115,111,109,101,111,110,101]
def dJ:Aq:= [121,111,117]
def Ea (s:Aq):Bool:=Hg s 0 && (decide (1≤(s.length:Int)) && decide ((s.length:Int)≤8) && !decide (s=XU) && !decide (s=dJ))
/-! #### who enters -/
def It (X:AH)(s:Aq)(k:Int):Bool:=(X.AM.at k).here && decide ((X.AM.at k).name=s)
def CM (X:AH):Nat→Int
 | 0=>-1
 | n+1=>if (!(X.AM.at ((5 - n:Nat):Int)).here && decide (2≤((5 - n:Nat):Int)))=true then((5 - n:Nat):Int) else CM X n
theorem OX {X:AH}{k:Int}(h0:0≤k)(h5:k≤5):CM X (5 - (k - 1)).toNat=if (!(X.AM.at k).here && decide (2≤k))=true then k else CM X (5 - k).toNat:=by
 have e:(5 - (k - 1)).toNat=(5 - k).toNat+1:=by omega
 rw [e,CM,show((5 - (5 - k).toNat:Nat):Int)=k by omega]
theorem Wt {X:AH}{k:Int}(h2:2≤k)(h5:k≤5)(h:(!(X.AM.at k).here)=false):CM X (5 - (k - 1)).toNat=CM X (5 - k).toNat:=by
 rw [OX (by omega) h5,h];rfl
theorem VJ {X:AH}{k:Int}(h2:2≤k)(h5:k≤5)(h:(!(X.AM.at k).here)=true):CM X (5 - (k - 1)).toNat=k:=by
 rw [OX (by omega) h5,h,decide_eq_true h2];rfl
theorem VN (X:AH):CM X 6=CM X 4:=by
 have h1:CM X 6=CM X 5:=by
  rw [CM,if_neg (by simp)]
 have h2:CM X 5=CM X 4:=by
  rw [CM,if_neg (by simp)]
 rw [h1,h2]
theorem MD (X:AH):∀ n:Nat,n≤6→CM X n=-1∨(2≤CM X n∧CM X n≤5)
 | 0,_=> .inl rfl
 | n+1,h=>by
  unfold CM
  split
  ·rename_i c
   rw [Bool.and_eq_true] at c
   have:=of_decide_eq_true c.2
   exact .inr ⟨this,by omega⟩
  ·exact MD X n (by omega)
def JW (s:Aq):Ag:={ (default:Ag) with name:=s,here:=true,BK:=10 }
def Iy (X:AH)(s:Aq)(b:Int):AF:=((⟨X.C4 b (JW s),b,[]⟩:AF).kind 17).look
def BX (X:AH)(s:Aq):AH × Int × List Event × Int:=
 if (!X.Bb)=true then(X,0,[],2)
 else if (!Ea s)=true then(X,0,[],1)
 else if (!B7 6 (fun k=>!It X s k) 6)=true then(X,0,[],1)
 else if decide (CM X 6 < 0)=true then(X,0,[],4)
 else((Iy X s (CM X 6)).w,CM X 6,(Iy X s (CM X 6)).out,0)
theorem Pa (X:AH)(s:Aq):(BX X s).2.2.1.length≤10:=by
 unfold BX
 split
 ·exact Nat.zero_le _
 ·split
  ·exact Nat.zero_le _
  ·split
   ·exact Nat.zero_le _
   ·split
    ·exact Nat.zero_le _
    ·exact(Jh _).2.2
theorem P6 {X:AH}{s:Aq}{b:Int}(hg:X.Bb=true)(hw:X.DH)(hs:s.length≤140737488351232)(h0:0≤b)(h6:b < 6):Fit ⟨X.C4 b (JW s),b,[]⟩:=
 ⟨⟨h0,h6⟩,El hw hs,Jr hg h0 h6 ⟨⟨Int.le_refl _,show(0:Int) < 6 by decide⟩,⟨show(0:Int)≤10 by decide,show(10:Int)≤10 by decide⟩,⟨Int.le_refl _,show(0:Int)≤6 by decide⟩,fun _=>rfl,rfl⟩ fun _=>rfl,by
  show((X.C4 b (JW s)).AM.at b).here=true
  rw [AH.EL h0 h6];rfl⟩
end AF
end Go.Ing
/- A round, as the document says it: plain laws. -/
namespace Go.Ing
open Go
theorem UM {α:Type}[Inhabited α]{n:Nat}{v u:Vector α n}(h:∀ i:Int,0≤i→i < n→v.at i=u.at i):v=u:=by
 apply Vector.ext
 intro i hi
 have:=h (i:Int) (by omega) (by omega)
 unfold Vector.at at this
 rw [List.getD_eq_getElem?_getD,List.getD_eq_getElem?_getD] at this
 simpa [hi] using this
namespace AF
def pre (o:List Event)(T:AF):AF:=⟨T.w,T.b,o++T.out⟩
theorem Qw (T:AF){i:Int}(h0:0≤i)(h9:i < 9)(c:decide ((((T.w.AO.put i { T.w.AO.at i with CY:=0 }).put i { (T.w.AO.put i { T.w.AO.at i with CY:=0 }).at i with at_:=(T.w.AM.at T.b).room }).at i).kind=2)=true):({ T.w with AO:=((T.w.AO.put i { T.w.AO.at i with CY:=0 }).put i { (T.w.AO.put i { T.w.AO.at i with CY:=0 }).at i with at_:=(T.w.AM.at T.b).room }).put i { ((T.w.AO.put i { T.w.AO.at i with CY:=0 }).put i { (T.w.AO.put i { T.w.AO.at i with CY:=0 }).at i with at_:=(T.w.AM.at T.b).room }).at i with on:=false } }:AH)=(T.Er i).w:=by
 rw [Vector.CD h0 h9,Vector.CD h0 h9] at c
 rw [Vector.CD h0 h9,Vector.Ej,Vector.CD h0 h9,Vector.Ej]
 unfold Er
 rw [if_pos (show decide ((T.w.AO.at i).kind=2)=true from c)];rfl
theorem UE (T:AF){i:Int}(h0:0≤i)(h9:i < 9)(c:decide ((((T.w.AO.put i { T.w.AO.at i with CY:=0 }).put i { (T.w.AO.put i { T.w.AO.at i with CY:=0 }).at i with at_:=(T.w.AM.at T.b).room }).at i).kind=2)=false):({ T.w with AO:=(T.w.AO.put i { T.w.AO.at i with CY:=0 }).put i { (T.w.AO.put i { T.w.AO.at i with CY:=0 }).at i with at_:=(T.w.AM.at T.b).room } }:AH)=(T.Er i).w:=by
 rw [Vector.CD h0 h9,Vector.CD h0 h9] at c
 rw [Vector.CD h0 h9,Vector.Ej]
 unfold Er
 rw [if_neg (show ¬ decide ((T.w.AO.at i).kind=2)=true from by rw [show decide ((T.w.AO.at i).kind=2)=false from c];decide)];rfl
theorem Px {X:AH}(hw:X.DH)(draw:Int):(CV X draw).2.1.length≤78:=by
 by_cases h:(CV X draw).2.2=0
 ·exact(W2 hw h).2.2
 ·unfold CV at h ⊢
  split
  ·exact Nat.zero_le _
  ·rename_i h1
   rw [if_neg h1] at h
   exact absurd rfl h
end AF
end Go.Ing
/- What beings do, as the document says it: plain laws. -/
namespace Go.Ing
open Go
namespace AF
def skip (w:AH)(u:Aq)(i:Int):Bool:=!decide (u = []) && !decide (u=(w.AO.at i).name)
/-! #### what is taken -/
/-! #### what is set -/
/-! #### what is let go of -/
theorem Ui (T:AF)(o:Order):(T.Cu o).1.w=T.w∧(T.Cu o).1.b=T.b:=by
 unfold Cu
 split
 ·exact T.Ji o.second
 ·split
  ·exact T.Iv o.second
  ·exact⟨rfl,rfl⟩
theorem QE (T:AF)(o:Order):0≤(T.Cu o).2.1∧(T.Cu o).2.1 < 9:=by
 unfold Cu
 split
 ·exact T.Yk o.second
 ·split
  ·have:=T.LW o.second;omega
  ·exact⟨Int.le_refl 0,show(0:Int) < 9 by decide⟩
theorem Ww {T:AF}{o:Order}(hv:o.verb=8∨o.verb=9∨o.verb=10)(h:(T.Cu o).2.2=true):M7 (T.Cu o).1 o.verb (T.Cu o).2.1:=by
 unfold M7
 rw [(T.Ui o).1]
 unfold Cu at h ⊢
 split at h
 ·rename_i h2
  rw [if_pos h2]
  obtain⟨a0,a9,hk,_⟩:=W3 h
  have:=of_decide_eq_true h2
  exact .inr (.inr ⟨by omega,by omega,a0,a9,hk⟩)
 ·rename_i h2
  rw [if_neg h2]
  split at h
  ·rename_i h3
   rw [if_pos h3]
   obtain⟨a0,a6,_,hs⟩:=JX h
   exact .inr (.inl ⟨of_decide_eq_true h3,a0,a6,(AH.HI (AH.K5 hs).2.1).2.2⟩)
  ·rename_i h3
   rw [if_neg h3]
   refine .inl ?_
   rcases hv with e | e | e
   ·exact e
   ·exact absurd (decide_eq_true e) h2
   ·exact absurd (decide_eq_true e) h3
def Kv (T:AF)(o:Order):List Int:=BR T.w T.own o.nth o.name o.Bj
def Qu (T:AF)(o:Order):AF:=if decide (((T.Kv o).length:Int)=0)=true then T.tell Oc else T
theorem Z4 {T:AF}{o:Order}(h:decide (((T.Kv o).length:Int)=0)=true):T.Qu o=T.tell Oc:=if_pos h
theorem Zq {T:AF}{o:Order}(h:decide (((T.Kv o).length:Int)=0)=false):T.Qu o=T:=if_neg (by rw [h];decide)
theorem Z8 (T:AF)(o:Order):(T.Qu o).w=T.w∧(T.Qu o).b=T.b∧(T.Qu o).out.length≤T.out.length+1:=by
 unfold Qu
 split
 ·exact⟨rfl,rfl,by rw [CE];exact Nat.le_refl _⟩
 ·exact⟨rfl,rfl,Nat.le_succ _⟩
def Q7 (T:AF)(to:Int)(o:Order)(k:Nat):AF:=(T.Qu o).Ei o.verb to ((T.Kv o).take k)
theorem Me {v to:Int}:∀(l:List Int) (T:AF) (i:Int),T.Ei v to (l ++ [i])=(T.Ei v to l).Cp v to i
 | [],_,_=>rfl
 | _ :: r,_,i=>Me r _ i
theorem X6 {l:List Int}{k:Int}(h0:0≤k)(h1:k < l.length):l.take (k+1).toNat=l.take k.toNat ++ [l.getD k.toNat 0]:=by
 obtain⟨m,rfl⟩:=Int.eq_ofNat_of_zero_le h0
 have hm:m < l.length:=by omega
 show l.take (m+1)=l.take m ++ [l.getD m 0]
 rw [List.take_add_one,List.getElem?_eq_getElem hm,List.getD_eq_getElem?_getD,List.getElem?_eq_getElem hm]
 rfl
theorem Is {T:AF}{to:Int}{o:Order}{k:Int}(h0:0≤k)(h1:k < (T.Kv o).length):T.Q7 to o (k+1).toNat=(T.Q7 to o k.toNat).Cp o.verb to ((T.Kv o).getD k.toNat 0):=by
 unfold Q7
 rw [X6 h0 h1,Me]
theorem XP {T:AF}{to:Int}{o:Order}:T.Q7 to o ((T.Kv o).length:Int).toNat=T.Rj to o:=by
 unfold Q7
 rw [show((T.Kv o).length:Int).toNat=(T.Kv o).length by omega,List.take_length]
 rfl
theorem SS {T:AF}{o:Order}:(∀ i∈T.Kv o,Ii T.w T.b i)∧(T.Kv o).Nodup∧(T.Kv o).length≤9:=
 ⟨fun _ hi=>(FE (Dp hi)).Sy,List.Nodup.sublist (EW ..) (AH.P4 ..),Nat.le_trans (EW ..).length_le (AF.KO T)⟩
theorem Nt (v to:Int):∀(l:List Int) (T:AF),(T.Ei v to l).out.length≤T.out.length+l.length∧(T.Ei v to l).b=T.b
 | [],_=>⟨Nat.le_refl _,rfl⟩
 | i :: r,T=>by
  obtain⟨h1,h2⟩:=Nt v to r (T.Cp v to i)
  have h3:=T.OE v to i
  rw [Ei,List.length_cons]
  exact⟨by omega,h2.trans (T.XN v to i)⟩
theorem Wo (T:AF)(to:Int)(o:Order)(k:Nat):(T.Q7 to o k).out.length≤T.out.length+10∧(T.Q7 to o k).b=T.b:=by
 have hs:=T.Z8 o
 obtain⟨h1,h2⟩:=Nt o.verb to ((T.Kv o).take k) (T.Qu o)
 have h3:=(SS (T:=T) (o:=o)).2.2
 have h4:((T.Kv o).take k).length≤(T.Kv o).length:=(List.take_sublist ..).length_le
 unfold Q7
 exact⟨by omega,h2.trans hs.2.1⟩
theorem M7.dz {T:AF}{v to:Int}(h:M7 T v to)(hv:v=10):to < 6:=by
 rcases h with h | ⟨_,_,h,_⟩ | ⟨_,h,_⟩<;>omega
theorem Vq {T X:AF}{o:Order}{p:Bool}(hX:X=(T.Cu o).1)(hp:p=(T.Cu o).2.2)(h:(!p)=true):T.E7 o=X:=by
 rw [hp] at h
 rw [hX]
 exact if_pos h
theorem TL {T X:AF}{o:Order}{to:Int}{p:Bool}(hX:X=(T.Cu o).1)(ht:to=(T.Cu o).2.1)(hp:p=(T.Cu o).2.2)(h:(!p)=false):T.E7 o=X.Rj to o∧0≤to∧to < 9∧(o.verb=8∨o.verb=9∨o.verb=10→M7 X o.verb to):=by
 rw [hp] at h
 have h2:(T.Cu o).2.2=true:=by simpa using h
 rw [hX,ht]
 exact⟨if_neg (by rw [h];decide),(T.QE o).1,(T.QE o).2,fun hv=>Ww hv h2⟩
/-! #### what a being does -/
theorem G3 {T:AF}{o:Order}(h:o.verb < 6):T.act o=T.walk o.verb:=by
 unfold act;rw [if_pos (decide_eq_true h)]
theorem NJ (X:AH)(b:Int)(o:Order):(EA X b o).2.1.length≤11:=by
 unfold EA
 split
 ·exact Nat.zero_le _
 ·split
  ·exact Nat.zero_le _
  ·split
   ·exact Nat.zero_le _
   ·have:=Uk (⟨X,b,[]⟩:AF) o
    exact Nat.le_trans this (Nat.le_refl 11)
end AF
end Go.Ing
/- Engine: the same rules, said shorter. -/
namespace Go.Ing
open Go
section
variable {F:List (Nat × Value)} {v0 v1 v2 v3 v4 v5 v6 v7 v8 v9 v10 v11:Value}
theorem Sub.t1 (k0:Nat)(h0:lk k0 F=some v0:=by rfl):Sub F [(k0,v0)]:= .cons h0 (.nil _)
theorem Sub.t2 (k0 k1:Nat)(h0:lk k0 F=some v0:=by rfl)(h1:lk k1 F=some v1:=by rfl):Sub F [(k0,v0),(k1,v1)]:= .cons h0 (.cons h1 (.nil _))
theorem Sub.t3 (k0 k1 k2:Nat)(h0:lk k0 F=some v0:=by rfl)(h1:lk k1 F=some v1:=by rfl)(h2:lk k2 F=some v2:=by rfl):Sub F [(k0,v0),(k1,v1),(k2,v2)]:= .cons h0 (.cons h1 (.cons h2 (.nil _)))
theorem Sub.t4 (k0 k1 k2 k3:Nat)(h0:lk k0 F=some v0:=by rfl)(h1:lk k1 F=some v1:=by rfl)(h2:lk k2 F=some v2:=by rfl)(h3:lk k3 F=some v3:=by rfl):Sub F [(k0,v0),(k1,v1),(k2,v2),(k3,v3)]:= .cons h0 (.cons h1 (.cons h2 (.cons h3 (.nil _))))
theorem Sub.t5 (k0 k1 k2 k3 k4:Nat)(h0:lk k0 F=some v0:=by rfl)(h1:lk k1 F=some v1:=by rfl)(h2:lk k2 F=some v2:=by rfl)(h3:lk k3 F=some v3:=by rfl)(h4:lk k4 F=some v4:=by rfl):Sub F [(k0,v0),(k1,v1),(k2,v2),(k3,v3),(k4,v4)]:= .cons h0 (.cons h1 (.cons h2 (.cons h3 (.cons h4 (.nil _)))))
theorem Sub.t6 (k0 k1 k2 k3 k4 k5:Nat)(h0:lk k0 F=some v0:=by rfl)(h1:lk k1 F=some v1:=by rfl)(h2:lk k2 F=some v2:=by rfl)(h3:lk k3 F=some v3:=by rfl)(h4:lk k4 F=some v4:=by rfl)(h5:lk k5 F=some v5:=by rfl):Sub F [(k0,v0),(k1,v1),(k2,v2),(k3,v3),(k4,v4),(k5,v5)]:= .cons h0 (.cons h1 (.cons h2 (.cons h3 (.cons h4 (.cons h5 (.nil _))))))
theorem Sub.t7 (k0 k1 k2 k3 k4 k5 k6:Nat)(h0:lk k0 F=some v0:=by rfl)(h1:lk k1 F=some v1:=by rfl)(h2:lk k2 F=some v2:=by rfl)(h3:lk k3 F=some v3:=by rfl)(h4:lk k4 F=some v4:=by rfl)(h5:lk k5 F=some v5:=by rfl)(h6:lk k6 F=some v6:=by rfl):Sub F [(k0,v0),(k1,v1),(k2,v2),(k3,v3),(k4,v4),(k5,v5),(k6,v6)]:= .cons h0 (.cons h1 (.cons h2 (.cons h3 (.cons h4 (.cons h5 (.cons h6 (.nil _)))))))
theorem Sub.t8 (k0 k1 k2 k3 k4 k5 k6 k7:Nat)(h0:lk k0 F=some v0:=by rfl)(h1:lk k1 F=some v1:=by rfl)(h2:lk k2 F=some v2:=by rfl)(h3:lk k3 F=some v3:=by rfl)(h4:lk k4 F=some v4:=by rfl)(h5:lk k5 F=some v5:=by rfl)(h6:lk k6 F=some v6:=by rfl)(h7:lk k7 F=some v7:=by rfl):Sub F [(k0,v0),(k1,v1),(k2,v2),(k3,v3),(k4,v4),(k5,v5),(k6,v6),(k7,v7)]:= .cons h0 (.cons h1 (.cons h2 (.cons h3 (.cons h4 (.cons h5 (.cons h6 (.cons h7 (.nil _))))))))
theorem Sub.t9 (k0 k1 k2 k3 k4 k5 k6 k7 k8:Nat)(h0:lk k0 F=some v0:=by rfl)(h1:lk k1 F=some v1:=by rfl)(h2:lk k2 F=some v2:=by rfl)(h3:lk k3 F=some v3:=by rfl)(h4:lk k4 F=some v4:=by rfl)(h5:lk k5 F=some v5:=by rfl)(h6:lk k6 F=some v6:=by rfl)(h7:lk k7 F=some v7:=by rfl)(h8:lk k8 F=some v8:=by rfl):Sub F [(k0,v0),(k1,v1),(k2,v2),(k3,v3),(k4,v4),(k5,v5),(k6,v6),(k7,v7),(k8,v8)]:= .cons h0 (.cons h1 (.cons h2 (.cons h3 (.cons h4 (.cons h5 (.cons h6 (.cons h7 (.cons h8 (.nil _)))))))))
theorem Sub.t10 (k0 k1 k2 k3 k4 k5 k6 k7 k8 k9:Nat)(h0:lk k0 F=some v0:=by rfl)(h1:lk k1 F=some v1:=by rfl)(h2:lk k2 F=some v2:=by rfl)(h3:lk k3 F=some v3:=by rfl)(h4:lk k4 F=some v4:=by rfl)(h5:lk k5 F=some v5:=by rfl)(h6:lk k6 F=some v6:=by rfl)(h7:lk k7 F=some v7:=by rfl)(h8:lk k8 F=some v8:=by rfl)(h9:lk k9 F=some v9:=by rfl):Sub F [(k0,v0),(k1,v1),(k2,v2),(k3,v3),(k4,v4),(k5,v5),(k6,v6),(k7,v7),(k8,v8),(k9,v9)]:= .cons h0 (.cons h1 (.cons h2 (.cons h3 (.cons h4 (.cons h5 (.cons h6 (.cons h7 (.cons h8 (.cons h9 (.nil _))))))))))
theorem Sub.t11 (k0 k1 k2 k3 k4 k5 k6 k7 k8 k9 k10:Nat)(h0:lk k0 F=some v0:=by rfl)(h1:lk k1 F=some v1:=by rfl)(h2:lk k2 F=some v2:=by rfl)(h3:lk k3 F=some v3:=by rfl)(h4:lk k4 F=some v4:=by rfl)(h5:lk k5 F=some v5:=by rfl)(h6:lk k6 F=some v6:=by rfl)(h7:lk k7 F=some v7:=by rfl)(h8:lk k8 F=some v8:=by rfl)(h9:lk k9 F=some v9:=by rfl)(h10:lk k10 F=some v10:=by rfl):Sub F [(k0,v0),(k1,v1),(k2,v2),(k3,v3),(k4,v4),(k5,v5),(k6,v6),(k7,v7),(k8,v8),(k9,v9),(k10,v10)]:= .cons h0 (.cons h1 (.cons h2 (.cons h3 (.cons h4 (.cons h5 (.cons h6 (.cons h7 (.cons h8 (.cons h9 (.cons h10 (.nil _)))))))))))
end
section
variable {P:Program} {n:Nat} {w0:World} {M:List Nat} {Q:Exit→Go.Act→World→Prop} {F F':List (Nat × Value)} {L L' A K:List Ac} {ops:Array Oper} {rest l:List Oper} {d id:Nat} {op:Op} {T:TypeId} {pos:String} {Cn:Array Edge} {v v':Value} {x y:Code}
theorem Gs (h:GL P n w0 M l.toArray (Exit.then (y.wp P Q) Q) l F L):G P n w0 M (.seq (.region id l.toArray false) y) Q F L:=Ap (AJ h)
theorem CB {z:Code}(h:GL P n w0 M l.toArray (Exit.then (y.wp P (Exit.then (z.wp P Q) Q)) (Exit.then (z.wp P Q) Q)) l F L):G P n w0 M (.seq (.seq (.region id l.toArray false) y) z) Q F L:=Ap (Ap (AJ h))
theorem Gn (hs:Sub F F')(h:G P n w0 M y Q F' L):GL P n w0 M ops (Exit.then (y.wp P Q) Q) [] F L:=AR (AB hs (AA h))
theorem Gt (h:PS P n w0 M op T F L v L')(k:GL P n w0 M ops Q rest ((d,v) :: F) L')(hd:Nat.blt d n=true:=by rfl):GL P n w0 M ops Q (⟨some d,op,T,pos,Cn,none⟩ :: rest) F L:=KK hd h k
theorem Gm {x:Operand}(h:ev F x=some v)(k:GL P n w0 M ops Q rest ((d,v) :: F) L)(hd:Nat.blt d n=true:=by rfl):GL P n w0 M ops Q (⟨some d, .move x,T,pos,Cn,none⟩ :: rest) F L:=KK hd (AE h) k
theorem Ga {x:Operand}(h:ev F x=some v)(k:GL P n w0 M ops Q rest ((d,v) :: F) L)(hd:Nat.blt d n=true:=by rfl):GL P n w0 M ops Q (⟨some d, .assign x,T,pos,Cn,none⟩ :: rest) F L:=KK hd (A0 h) k
theorem Bl {j:Nat}{z:Bool}(t:Nat)(hj:(ops[j]?).bind (·.dst)=some t)(hb:lk t F=some (.bool z))(h:z=true→PS P n w0 M op T F L v L)(k:GL P n w0 M ops Q rest ((d,cv z v) :: F) L)(hd:Nat.blt d n=true:=by rfl):GL P n w0 M ops Q (⟨some d,op,T,pos,Cn,some (j,true)⟩ :: rest) F L:=ZR hj hb hd h k
theorem BZ {j:Nat}{z:Bool}(t:Nat)(hj:(ops[j]?).bind (·.dst)=some t)(hb:lk t F=some (.bool z))(h:z=false→PS P n w0 M op T F L v L)(k:GL P n w0 M ops Q rest ((d,cv (!z) v) :: F) L)(hd:Nat.blt d n=true:=by rfl):GL P n w0 M ops Q (⟨some d,op,T,pos,Cn,some (j,false)⟩ :: rest) F L:=Y7 hj hb hd h k
theorem Gc {c:Operand}{b:Bool}(ht:b=true→G P n w0 M x Q F L)(hf:b=false→G P n w0 M y Q F L)(hc:ev F c=some (.bool b):=by rfl):G P n w0 M (.cond c x y) Q F L:=OI hc ht hf
end
section
variable {P:Program} {n:Nat} {w0:World} {M:List Nat} {Q:Exit→Go.Act→World→Prop} {l:List Oper} {Rs:List Nat} {F:List (Nat × Value)}
variable {k i j d:Nat} {V A:List Nat} {D:List (Nat × (Nat × Value))} {L:List Ac} {op:Op} {T:TypeId} {pos:String} {Cn:Array Edge} {v v':Value}
theorem Pf (i:Nat)(ho:l[i]?=some ⟨some d,op,T,pos,Cn,none⟩)(h:PS P n w0 M op T (Et D Cn.toList++F) L v L)(k':Ix P n w0 M Q l Rs F k (i :: V) (i :: A) ((i,(d,v)) :: D) L)(hc:Xg l V i Cn.toList=true:=by kernel_rfl)(hlk:TG F d v:=by first | exact .inl rfl | exact .inr rfl):Ix P n w0 M Q l Rs F (k+1) V A D L:=
 BN i ho rfl hc (Lj (Ge h)) k' hlk
theorem Hf {j:Nat}{y:Bool}(i t:Nat)(ho:l[i]?=some ⟨some d,op,T,pos,Cn,some (j,false)⟩)(hj:(l.toArray[j]?).bind (·.dst)=some t)(hb:lk t (Et D Cn.toList++F)=some (.bool y))(h:y=false→PS P n w0 M op T (Et D Cn.toList++F) L v L)(k':Ix P n w0 M Q l Rs F k (i :: V) (i :: A) ((i,(d,cv (!y) v)) :: D) L)(hc:Xg l V i Cn.toList=true:=by kernel_rfl)(hlk:TG F d (cv (!y) v):=by first | exact .inl rfl | exact .inr rfl):Ix P n w0 M Q l Rs F (k+1) V A D L:=
 BN i ho rfl hc (G6 (t:=t) hj hb (fun q=>Ge (h q))) k' hlk
theorem JT {j:Nat}{y:Bool}(i t:Nat)(ho:l[i]?=some ⟨some d,op,T,pos,Cn,some (j,true)⟩)(hj:(l.toArray[j]?).bind (·.dst)=some t)(hb:lk t (Et D Cn.toList++F)=some (.bool y))(h:y=true→PS P n w0 M op T (Et D Cn.toList++F) L v L)(k':Ix P n w0 M Q l Rs F k (i :: V) (i :: A) ((i,(d,cv y v)) :: D) L)(hc:Xg l V i Cn.toList=true:=by kernel_rfl)(hlk:TG F d (cv y v):=by first | exact .inl rfl | exact .inr rfl):Ix P n w0 M Q l Rs F (k+1) V A D L:=
 BN i ho rfl hc (Jo (t:=t) hj hb (fun q=>Ge (h q))) k' hlk
theorem Pk (h:JP P n w0 M Q l Rs F i D L A)(hr:reaches Rs i j=true:=by kernel_rfl):JP P n w0 M Q l Rs F i D L (j :: A):=Vf hr h
theorem Po (ho:l[j]?=some ⟨some d,op,T,pos,Cn,none⟩)(h:PS P n w0 M op T (Et D Cn.toList++F) L v' L)(hl:M8 j D=some (d,v))(e:v'=v)(k':JP P n w0 M Q l Rs F i D L A):JP P n w0 M Q l Rs F i D L (j :: A):=WS ho (Lj (Ge h)) hl e k'
end
section
variable {P:Program} {n:Nat} {w0:World} {M:List Nat} {F:List (Nat × Value)} {L:List Ac}
theorem cF {x:Operand}{c:Bool}{v:Value}(h:ev F x=some (cv (!c) v))(q:c=false):ev F x=some v:=Bf h (by rw [q];rfl)
theorem Ah {T U f off b o:Nat}{x:Operand}(hf:FA P T f off)(hx:ev F x=some (.pointer (some ⟨b,o,none⟩))):PS P n w0 M (.fieldAddr T x f) U F L (.pointer (some ⟨b,o+off,none⟩)) L:=RJ hf hx
theorem BV {T:TypeId}{x:Operand}{p:Addr}(hx:ev F x=some (.pointer (some p))):PS P n w0 M (.nilCheck x) T F L (.pointer (some p)) L:=SY hx
end
theorem AU.ar {α:Type}{n:Nat}[Inhabited α]{e:α→List Value}{sz:Nat}(fe:Flat e sz){i:Int}(h:0≤i∧i < (n:Int)):AU (CH (n:=n) e) e (i.toNat * sz) sz (fun v=>v.at i) (fun v y=>v.put i y):=AU.arr fe h.1 h.2
class Nz (a:Prop) (b:outParam Prop):Prop where
 h:a→b
theorem kz {a b:Prop}[i:Nz a b](h:a):b:=i.h h
section
variable {p:Prop} [Decidable p] {a b:Bool} {x y:Prop} {m n:Int}
instance (priority:=low):Nz p p:=⟨id⟩
instance:Nz (decide p=true) p:=⟨of_decide_eq_true⟩
instance (priority:=low):Nz (decide p=false) (¬ p):=⟨of_decide_eq_false⟩
instance:Nz (decide (m < n)=false) (n≤m):=⟨fun h=>Int.not_lt.1 (of_decide_eq_false h)⟩
instance:Nz (decide (m≤n)=false) (n < m):=⟨fun h=>Int.not_le.1 (of_decide_eq_false h)⟩
instance [i:Nz (a=false) x]:Nz ((!a)=true) x:=⟨fun h=>i.h (by simpa using h)⟩
instance [i:Nz (a=true) x]:Nz ((!a)=false) x:=⟨fun h=>i.h (by simpa using h)⟩
instance [i:Nz (a=true) x][j:Nz (b=true) y]:Nz ((a && b)=true) (x∧y):=⟨fun h=>⟨i.h (dx ▸ h).1,j.h (dx ▸ h).2⟩⟩
instance [i:Nz (a=false) x][j:Nz (b=false) y]:Nz ((a || b)=false) (x∧y):=⟨fun h=>⟨i.h (du ▸ h).1,j.h (du ▸ h).2⟩⟩
instance [i:Nz (a=true) x][j:Nz (b=true) y]:Nz ((a || b)=true) (x∨y):=⟨fun h=>(eC ▸ h:a=true∨b=true).imp i.h j.h⟩
instance [i:Nz (a=false) x][j:Nz (b=false) y]:Nz ((a && b)=false) (x∨y):=⟨fun h=>(eF ▸ h:a=false∨b=false).imp i.h j.h⟩
end
section
variable {F:List (Nat × Value)} {P:Program} {L L' K rs:List Ac} {r r' s:Ac} {x:Operand} {v:Value} {xs:List Operand} {vs:List Value}
theorem K6.h:K6 (r :: L) r r' (r' :: L):= .head
theorem K6.t (h:K6 L r r' L'):K6 (s :: L) r r' (s :: L'):= .tail h
theorem Lz.h:Lz (r :: L) r L:= .head
theorem Lz.t (h:Lz L r L'):Lz (s :: L) r (s :: L'):= .tail h
theorem Ax.n:Ax L [] L:= .nil
theorem Ax.c (h:Lz L r L')(hs:Ax L' rs K):Ax L (r :: rs) K:= .cons h hs
theorem PD.n:PD F [] []:= .nil
theorem PD.c (h:ev F x=some v)(hs:PD F xs vs):PD F (x :: xs) (v :: vs):= .cons h hs
theorem Rs.n:Rs P F L [] []:= .nil
end
section
variable {α:Type} {a b c d e f g h i j:α} {l:List α}
theorem _root_.List.Mem.m0:List.Mem a (a :: l):= .head _
theorem _root_.List.Mem.m1:List.Mem a (b :: a :: l):= .tail _ .m0
theorem _root_.List.Mem.m2:List.Mem a (b :: c :: a :: l):= .tail _ .m1
theorem _root_.List.Mem.m3:List.Mem a (b :: c :: d :: a :: l):= .tail _ .m2
theorem _root_.List.Mem.m4:List.Mem a (b :: c :: d :: e :: a :: l):= .tail _ .m3
theorem _root_.List.Mem.m5:List.Mem a (b :: c :: d :: e :: f :: a :: l):= .tail _ .m4
theorem _root_.List.Mem.m6:List.Mem a (b :: c :: d :: e :: f :: g :: a :: l):= .tail _ .m5
theorem _root_.List.Mem.m7:List.Mem a (b :: c :: d :: e :: f :: g :: h :: a :: l):= .tail _ .m6
end
end Go.Ing
/- A house's data, in Lean, and their parts. -/
namespace Go.Ing
open Go
structure A2 where
 state:Int
 Au:Int
 Dw:AP
 EE:BG
 out:As
 told:Hd
instance:Inhabited A2:=⟨⟨0,0,default,⟨[],false,false,⟨none,0,0⟩⟩,⟨⟨none,0,0⟩,0,false,[],false⟩,⟨none,0,0⟩⟩⟩
def A2.enc (x:A2):List Value:=Ay x.state++Ay x.Au++AP.enc x.Dw++BG.enc x.EE++As.enc x.out++Ee x.told
theorem A2.fl:Flat A2.enc 22:=⟨fun x=>by simp [A2.enc,BG.fl.len,As.fl.len,AP.fl.len,PE.len,B2.len],fun x v hv=>by
 simp only [A2.enc,List.mem_append] at hv
 rcases hv with ((((h | h) | h) | h) | h) | h
 ·exact B2.one _ v h
 ·exact B2.one _ v h
 ·exact AP.fl.one _ v h
 ·exact BG.fl.one _ v h
 ·exact As.fl.one _ v h
 ·exact PE.one _ v h⟩
theorem A2.l0:AU A2.enc (Ay) 0 1 (fun x=>x.state) (fun x y=>{ x with state:=y }):=
 AU.Eg B2 (fun _=> []) (fun x=>Ay x.Au++AP.enc x.Dw++BG.enc x.EE++As.enc x.out++Ee x.told) (fun _=>rfl) (fun x=>by simp [A2.enc]) (fun x y=>by simp [A2.enc])
theorem A2.l1:AU A2.enc (Ay) 1 1 (fun x=>x.Au) (fun x y=>{ x with Au:=y }):=
 AU.Eg B2 (fun x=>Ay x.state) (fun x=>AP.enc x.Dw++BG.enc x.EE++As.enc x.out++Ee x.told) (fun x=>by simp [B2.len]) (fun x=>by simp [A2.enc]) (fun x y=>by simp [A2.enc])
theorem A2.l2:AU A2.enc (AP.enc) 2 10 (fun x=>x.Dw) (fun x y=>{ x with Dw:=y }):=
 AU.Eg AP.fl (fun x=>Ay x.state++Ay x.Au) (fun x=>BG.enc x.EE++As.enc x.out++Ee x.told) (fun x=>by simp [B2.len]) (fun x=>by simp [A2.enc]) (fun x y=>by simp [A2.enc])
theorem A2.l3:AU A2.enc (BG.enc) 12 4 (fun x=>x.EE) (fun x y=>{ x with EE:=y }):=
 AU.Eg BG.fl (fun x=>Ay x.state++Ay x.Au++AP.enc x.Dw) (fun x=>As.enc x.out++Ee x.told) (fun x=>by simp [AP.fl.len,B2.len]) (fun x=>by simp [A2.enc]) (fun x y=>by simp [A2.enc])
theorem A2.l4:AU A2.enc (As.enc) 16 5 (fun x=>x.out) (fun x y=>{ x with out:=y }):=
 AU.Eg As.fl (fun x=>Ay x.state++Ay x.Au++AP.enc x.Dw++BG.enc x.EE) (fun x=>Ee x.told) (fun x=>by simp [BG.fl.len,AP.fl.len,B2.len]) (fun x=>by simp [A2.enc]) (fun x y=>by simp [A2.enc])
theorem A2.l5:AU A2.enc (Ee) 21 1 (fun x=>x.told) (fun x y=>{ x with told:=y }):=
 AU.Eg PE (fun x=>Ay x.state++Ay x.Au++AP.enc x.Dw++BG.enc x.EE++As.enc x.out) (fun _=> []) (fun x=>by simp [BG.fl.len,As.fl.len,AP.fl.len,B2.len]) (fun x=>by simp [A2.enc]) (fun x y=>by simp [A2.enc])
structure AL where
 w:AH
 Ao:SB A2 4
 CW:Int
 last:Hd
def AL.enc (x:AL):List Value:=AH.enc x.w++CH A2.enc x.Ao++Ay x.CW++Ee x.last
theorem AL.fl:Flat AL.enc 255:=⟨fun x=>by simp [AL.enc,(IG A2.fl).len,AH.fl.len,PE.len,B2.len],fun x v hv=>by
 simp only [AL.enc,List.mem_append] at hv
 rcases hv with ((h | h) | h) | h
 ·exact AH.fl.one _ v h
 ·exact(IG A2.fl).one _ v h
 ·exact B2.one _ v h
 ·exact PE.one _ v h⟩
theorem AL.l0:AU AL.enc (AH.enc) 0 165 (fun x=>x.w) (fun x y=>{ x with w:=y }):=
 AU.Eg AH.fl (fun _=> []) (fun x=>CH A2.enc x.Ao++Ay x.CW++Ee x.last) (fun _=>rfl) (fun x=>by simp [AL.enc]) (fun x y=>by simp [AL.enc])
theorem AL.l1:AU AL.enc (CH A2.enc) 165 88 (fun x=>x.Ao) (fun x y=>{ x with Ao:=y }):=
 AU.Eg (IG A2.fl) (fun x=>AH.enc x.w) (fun x=>Ay x.CW++Ee x.last) (fun x=>by simp [AH.fl.len]) (fun x=>by simp [AL.enc]) (fun x y=>by simp [AL.enc])
theorem AL.l2:AU AL.enc (Ay) 253 1 (fun x=>x.CW) (fun x y=>{ x with CW:=y }):=
 AU.Eg B2 (fun x=>AH.enc x.w++CH A2.enc x.Ao) (fun x=>Ee x.last) (fun x=>by simp [(IG A2.fl).len,AH.fl.len]) (fun x=>by simp [AL.enc]) (fun x y=>by simp [AL.enc])
theorem AL.l3:AU AL.enc (Ee) 254 1 (fun x=>x.last) (fun x y=>{ x with last:=y }):=
 AU.Eg PE (fun x=>AH.enc x.w++CH A2.enc x.Ao++Ay x.CW) (fun _=> []) (fun x=>by simp [(IG A2.fl).len,AH.fl.len,B2.len]) (fun x=>by simp [AL.enc]) (fun x y=>by simp [AL.enc])
end Go.Ing
/- What a house does: plain functions. -/
namespace Go.Ing
open Go
structure Az where
 state:Int
 Au:Int
 Dw:AP
 now:Aq
 Cq:Bool
 ret:Bool
 queue:List Aq
 pg:Page.Pg
 wait:List Aq
 told:List Aq
instance:Inhabited Az:=⟨⟨0,0,default,[],false,false,[],⟨0,false,[],false⟩,[],[]⟩⟩
structure AI where
 w:AH
 Ao:Vector Az 4
 CW:Int
 last:List Event
namespace Az
def LR (s:Az):Bool:=decide ((s.wait.length:Int)≤60) && decide ((s.pg.ring.length:Int)≤700) && decide (0≤s.pg.shown) && decide (s.pg.shown≤200)
def line (s:Az)(u:Aq):Az:=
 if (!s.LR)=true then s else if s.pg.cut=true then s
 else if decide (60≤(s.wait.length:Int))=true then { s with pg:={ s.pg with cut:=true } } else { s with wait:=s.wait ++ [u] }
def note (s:Az)(u:Aq):Az:=if (!s.pg.cut)=true then { s with told:=s.told ++ [u] } else s
def tell (s:Az)(u:Aq):Az:=(s.line u).note u
def send (s:Az)(u:Aq):Az:=if (!s.LR)=true then s else if s.pg.cut=true then s else { s with pg:=Page.put s.pg u }
def Be (s:Az):Az:=
 if (!s.LR || decide (s.Dw.B1 < 0) || decide (200 < s.Dw.B1))=true then s
 else { s with pg:=(Page.Be s.Dw.B1 s.wait s.pg).1,wait:=(Page.Be s.Dw.B1 s.wait s.pg).2 }
def Fw (s:Az):Az:={ s with pg:={ s.pg with shown:=0,B6:=false } }
def cQ (s:Az)(n:Int):Nat:=(max 0 (min n (s.pg.ring.length:Int))).toNat
def HO (s:Az)(n:Int):Az:={ s with pg:={ s.pg with ring:=s.pg.ring.drop (s.cQ n) } }
def out (s:Az)(n:Int):Aq:=s.pg.ring.take (s.cQ n)
def LG (s:Az):Bool:=
 !(decide (60 < (s.now.length:Int)) || decide (6 < (s.queue.length:Int)) || (s.Cq && decide (60 < (s.now.length:Int))) || (s.ret && (!decide (s.now = []) || s.Cq))) && (s.queue ++ [s.now]).all Bg.F5
def typed (s:Az)(u:Aq):Az × Int:=
 if (!s.LG)=true then(s,0)
 else
  let x:=Bg.feed ⟨s.now,s.Cq,s.ret,s.queue,0⟩ u
  ({ s with now:=x.now,Cq:=x.Cq,ret:=x.ret,queue:=x.queue },x.lost)
def bytes (s:Az)(u:Aq):Az × Aq:=({ s with Dw:=(s.Dw.Df u).1 }.send (s.Dw.Df u).2.2.1,(s.Dw.Df u).2.1)
def offer (s:Az)(opt:Int):Az:=
 if decide ((s.Dw.DM opt).2.1 = [])=true then { s with Dw:=((s.Dw.DM opt).1.Ask opt).1 }.send ([]++((s.Dw.DM opt).1.Ask opt).2.1)
 else { s with Dw:=(s.Dw.DM opt).1 }.send ((s.Dw.DM opt).2.1 ++ [])
end Az
namespace AI
def at_ (H:AI)(k:Int):Az:=H.Ao.at k
def set (H:AI)(k:Int)(s:Az):AI:={ H with Ao:=H.Ao.put k s }
def tell (H:AI)(k:Int)(u:Aq):AI:=H.set k ((H.at_ k).tell u)
def CZ (e:Event)(H:AI):Nat→AI
 | 0=>H
 | k+1=>if (!decide (((CZ e H k).at_ k).state=2))=true then CZ e H k else if (AH.tell e ((CZ e H k).at_ k).Au).2=true then(CZ e H k).tell k (AH.tell e ((CZ e H k).at_ k).Au).1 else CZ e H k
def HW (H:AI)(l:List Event):AI:=l.foldl (fun X e=>CZ e X 4) H
def Gy (H:AI)(l:List Event):AI:={ H with last:=H.last++l }.HW l
def EB:Order:={ (default:Order) with verb:=20 }
def Tc (H:AI)(k:Int):AI:={ H with w:=(AF.EA H.w (H.at_ k).Au EB).1 }
def leave (H:AI)(k:Int):AI:=
 (if (decide ((H.at_ k).state=2) && (H.w.AM.at (H.at_ k).Au).here)=true then((H.Tc k).set k default).Gy (AF.EA H.w (H.at_ k).Au EB).2.1 else H).set k default
def Cg (H:AI):Nat→AI × Bool
 | 0=>(H,false)
 | k+1=>
  if decide (((Cg H k).1.at_ k).state=0)=true then Cg H k
  else if (((Cg H k).1.at_ k).Be).pg.cut=true then(((Cg H k).1.set k (((Cg H k).1.at_ k).Be)).leave k,true)
  else((Cg H k).1.set k (((Cg H k).1.at_ k).Be),(Cg H k).2)
def HT (H:AI):Nat→AI
 | 0=>H
 | n+1=>if (!(H.Cg 4).2)=true then(H.Cg 4).1 else(H.Cg 4).1.HT n
def Be (H:AI):AI:=H.HT 5
def Hm:Aq:= [87,104,111,32,97,114,101,32,121,111,117,63]
def N9:Aq:= [78,111,116,32,115,111,32,102,97,115,116,46]
def Zt:Aq:= [87,104,97,116,63]
def RA:Aq:= [84,104,97,116,32,105,115,32,110,111,32,110,97,109,101,46]
def noRoom:Aq:= [84,104,101,114,101,32,105,115,32,110,111,32,114,111,111,109,46]
def K1 (H:AI)(k:Int):AI:=((H.set k ((({ (default:Az) with state:=1,Au:=-1 }).offer 3).offer 31)).tell k Hm).Be
def named (H:AI)(k:Int)(u:Aq):AI:=
 if decide ((AF.BX H.w u).2.2.2=0)=true then({ H with w:=(AF.BX H.w u).1 }.set k { H.at_ k with state:=2,Au:=(AF.BX H.w u).2.1 }).Gy (AF.BX H.w u).2.2.1
 else if decide ((AF.BX H.w u).2.2.2=4)=true then H.tell k noRoom
 else H.tell k RA
def order (H:AI)(k:Int)(u:Aq):AI:=
 if (!decide ((Words.parse u).2=0))=true then H.tell k Zt
 else if decide ((Words.parse u).1.verb=20)=true then H.leave k
 else { H with w:=(AF.EA H.w (H.at_ k).Au (Words.parse u).1).1 }.Gy (AF.EA H.w (H.at_ k).Au (Words.parse u).1).2.1
def EN (H:AI)(k:Int):AI:=
 if decide ((H.at_ k).state=0)=true then H
 else match (H.at_ k).queue with
  | []=>H
  | q :: r=>
   let H1:=H.set k { H.at_ k with queue:=r }.Fw
   if (H.at_ k).pg.B6=true then H1
   else if decide ((H.at_ k).state=1)=true then H1.named k (Words.QA 32 (Words.Rq 32 q))
   else H1.order k q
def turns (H:AI):Nat→AI
 | 0=>H
 | k+1=>(turns H k).EN k
def Ni (H:AI)(d:Int):AI:=
 let X:=H.turns 4
 ({ X with w:=(AF.CV X.w d).1 }.Gy (AF.CV X.w d).2.1).Be
def Ec (H:AI):Nat→AI
 | 0=>H
 | k+1=>(Ec H k).set k { (Ec H k).at_ k with told:= [] }
def begun (H:AI):AI:={ H with CW:=H.CW+1,last:= [] }.Ec 4
def ok:Bn:=⟨0,[]⟩
def byte (H:AI)(k:Int)(u:Aq):AI:=
 let s1:=(H.at_ k).bytes u
 let s2:=s1.1.typed s1.2
 ((if decide (0 < s2.2)=true then(H.set k s2.1).tell k N9 else H.set k s2.1)).Be
def Dy (X:AI)(a:B0):AI × Bn:=
 if decide (a.kind=5)=true then(X.Ni a.n,ok)
 else if (decide (a.kind < 1) || decide (5 < a.kind))=true then(X,⟨5,[]⟩)
 else if (decide (a.BL < 0) || decide (4≤a.BL))=true then(X,⟨2,[]⟩)
 else if (decide ((X.at_ a.BL).state=0) != decide (a.kind=1))=true then(X,⟨3,[]⟩)
 else if decide (a.kind=1)=true then(X.K1 a.BL,ok)
 else if decide (a.kind=2)=true then(X.byte a.BL a.bytes,ok)
 else if decide (a.kind=3)=true then((X.set a.BL ((X.at_ a.BL).HO a.n)).Be,⟨0,(X.at_ a.BL).out a.n⟩)
 else((X.leave a.BL).Be,ok)
def act (H:AI)(a:B0):AI × Bn:=if decide (400≤H.CW)=true then(H,⟨4,[]⟩) else H.begun.Dy a
def new:AI:=⟨AH.new,Vector.replicate 4 default,0,[]⟩
def run:AI→List B0→AI × List Bn
 | H,[]=>(H,[])
 | H,a :: l=>((run (H.act a).1 l).1,(H.act a).2 :: (run (H.act a).1 l).2)
end AI
end Go.Ing
/- Engine: several slices together; a seat of a house. -/
namespace Go.Ing
open Go
def Ac.Dv (l:List Ac):Ac where
 CT:=l.flatMap Ac.CT
 ok w:=(∀ r∈l,r.ok w)∧l.Pairwise fun r s=>∀ b:Nat,b∈r.CT→b ∉ s.CT
 loc w w' h hw:=⟨fun r hr=>r.loc w w' (fun b hb=>h b (List.mem_flatMap.2 ⟨r,hr,hb⟩)) (hw.1 r hr),hw.2⟩
section
variable {w0 w:World} {M:List Nat} {l L:List Ac}
theorem St.ZH (h:St w0 M w (Ac.Dv l :: L)):St w0 M w (l++L):=by
 have hm:∀ r∈l,∀ b∈r.CT,b∈(Ac.Dv l).CT:=fun r hr b hb=>List.mem_flatMap.2 ⟨r,hr,hb⟩
 have hf:=h.ok (Ac.Dv l) (List.mem_cons_self ..)
 refine⟨h.os,h.tape,h.output,h.size,h.I0,fun r hr=>?_,fun r hr=>?_,List.pairwise_append.2 ⟨hf.2,(List.pairwise_cons.1 h.I3).2,fun r hr s hs b hb=>(List.pairwise_cons.1 h.I3).1 s hs b (hm r hr b hb)⟩⟩
 ·rcases List.mem_append.1 hr with hr | hr
  ·exact hf.1 r hr
  ·exact h.ok r (List.mem_cons_of_mem _ hr)
 ·rcases List.mem_append.1 hr with hr | hr
  ·exact fun b hb=>h.CT _ (List.mem_cons_self ..) b (hm r hr b hb)
  ·exact h.CT r (List.mem_cons_of_mem _ hr)
theorem St.Yz (h:St w0 M w (l++L)):St w0 M w (Ac.Dv l :: L):=by
 have hd:=List.pairwise_append.1 h.I3
 refine⟨h.os,h.tape,h.output,h.size,h.I0,fun r hr=>?_,fun r hr=>?_,List.pairwise_cons.2 ⟨fun s hs b hb=>?_,hd.2.1⟩⟩
 ·rcases List.mem_cons.1 hr with rfl | hr
  ·exact⟨fun r hr=>h.ok r (List.mem_append_left _ hr),hd.1⟩
  ·exact h.ok r (List.mem_append_right _ hr)
 ·rcases List.mem_cons.1 hr with rfl | hr
  ·intro b hb
   obtain⟨r,hr,hb'⟩:=List.mem_flatMap.1 hb
   exact h.CT r (List.mem_append_left _ hr) b hb'
  ·exact h.CT r (List.mem_append_right _ hr)
 ·obtain⟨r,hr,hb'⟩:=List.mem_flatMap.1 hb
  exact hd.2.2 r hr s hs b hb'
end
structure BI where
 queue:List Aq
 wait:List Aq
 told:List Aq
 deriving Inhabited
def Fc (T:Nat)(v:A2)(l:BI):List Ac:= [Ac.own v.EE.queue T 1 (l.queue.flatMap A7),Ac.own v.out.wait T 1 (l.wait.flatMap A7),Ac.own v.told T 1 (l.told.flatMap A7)]
def CG (T:Nat)(vs:Vector A2 4)(ls:Vector BI 4):List Ac:=Fc T (vs.at 0) (ls.at 0)++(Fc T (vs.at 1) (ls.at 1)++(Fc T (vs.at 2) (ls.at 2)++Fc T (vs.at 3) (ls.at 3)))
def Gd (T:Nat)(k:Int)(vs:Vector A2 4)(ls:Vector BI 4):List Ac:=
 if k=0 then Fc T (vs.at 1) (ls.at 1)++(Fc T (vs.at 2) (ls.at 2)++Fc T (vs.at 3) (ls.at 3))
 else if k=1 then Fc T (vs.at 0) (ls.at 0)++(Fc T (vs.at 2) (ls.at 2)++Fc T (vs.at 3) (ls.at 3))
 else if k=2 then Fc T (vs.at 0) (ls.at 0)++(Fc T (vs.at 1) (ls.at 1)++Fc T (vs.at 3) (ls.at 3))
 else Fc T (vs.at 0) (ls.at 0)++(Fc T (vs.at 1) (ls.at 1)++Fc T (vs.at 2) (ls.at 2))
theorem JG {α:Type}(a b c:List α):(a++(b++c)).Perm (b++(a++c)):=by
 rw [← List.append_assoc,← List.append_assoc]
 exact List.perm_append_comm.append_right c
theorem four {k:Int}(h0:0≤k)(h1:k < 4):k=0∨k=1∨k=2∨k=3:=by omega
theorem QD (T:Nat){k:Int}(h0:0≤k)(h1:k < 4)(vs:Vector A2 4)(ls:Vector BI 4):(CG T vs ls).Perm (Fc T (vs.at k) (ls.at k)++Gd T k vs ls):=by
 unfold CG Gd
 rcases four h0 h1 with e | e | e | e<;>subst e
 ·exact .refl _
 ·exact JG _ _ _
 ·exact((JG _ _ _).append_left _).trans (JG _ _ _)
 ·exact(((List.perm_append_comm).append_left _).append_left _).trans (((JG _ _ _).append_left _).trans (JG _ _ _))
theorem Vb (T:Nat){k:Int}(h0:0≤k)(h1:k < 4)(vs:Vector A2 4)(ls:Vector BI 4)(v:A2)(l:BI):Gd T k (vs.put k v) (ls.put k l)=Gd T k vs ls:=by
 have hv:∀ i:Int,0≤i→i≠k→(vs.put k v).at i=vs.at i:=fun i hi hn=>Vector.Ed h0 h1 hi hn
 have hl:∀ i:Int,0≤i→i≠k→(ls.put k l).at i=ls.at i:=fun i hi hn=>Vector.Ed h0 h1 hi hn
 unfold Gd
 rcases four h0 h1 with e | e | e | e<;>subst e
 ·rw [if_pos rfl,if_pos rfl,hv 1 (by decide) (by decide),hv 2 (by decide) (by decide),hv 3 (by decide) (by decide),hl 1 (by decide) (by decide),hl 2 (by decide) (by decide),hl 3 (by decide) (by decide)]
 ·rw [if_neg (by decide),if_pos rfl,if_neg (by decide),if_pos rfl,hv 0 (by decide) (by decide),hv 2 (by decide) (by decide),hv 3 (by decide) (by decide),hl 0 (by decide) (by decide),hl 2 (by decide) (by decide),hl 3 (by decide) (by decide)]
 ·rw [if_neg (by decide),if_neg (by decide),if_pos rfl,if_neg (by decide),if_neg (by decide),if_pos rfl,hv 0 (by decide) (by decide),hv 1 (by decide) (by decide),hv 3 (by decide) (by decide),hl 0 (by decide) (by decide),hl 1 (by decide) (by decide),hl 3 (by decide) (by decide)]
 ·rw [if_neg (by decide),if_neg (by decide),if_neg (by decide),if_neg (by decide),if_neg (by decide),if_neg (by decide),hv 0 (by decide) (by decide),hv 1 (by decide) (by decide),hv 2 (by decide) (by decide),hl 0 (by decide) (by decide),hl 1 (by decide) (by decide),hl 2 (by decide) (by decide)]
def AL.BL (V:AL)(k:Int)(s:A2):AL:={ V with Ao:=V.Ao.put k s }
def Jq (V:AL)(k:Int)(s:A2):List Value:=(V.BL k s).enc
theorem AU.BL (V:AL){k:Int}(h0:0≤k)(h1:k < 4):AU (Jq V k) A2.enc (165+k.toNat * 22) 22 (fun s=>s) (fun _ y=>y):=by
 have hl:=AL.l1.comp (AU.arr (n:=4) A2.fl h0 h1)
 refine⟨fun x=>?_,hl.len,fun x=>hl.V9 _,fun x y=>?_,hl.one⟩
 ·have:=hl.get (V.BL k x)
  rw [show((V.BL k x).Ao.at k)=x from Vector.CD h0 h1] at this
  exact this
 ·have:=hl.set (V.BL k x) y
  rw [show({ V.BL k x with Ao:=(V.BL k x).Ao.put k y }:AL)=V.BL k y from by unfold AL.BL;rw [Vector.Ej]] at this
  exact this
theorem Vector.Lp {α:Type}[Inhabited α]{n:Nat}(v:Vector α n){k:Int}(h0:0≤k)(h1:k < n):v.put k (v.at k)=v:=by
 apply UM
 intro i i0 i1
 by_cases e:i=k
 ·subst e;rw [Vector.CD h0 h1]
 ·rw [Vector.Ed h0 h1 i0 e]
theorem AL.KP (V:AL){k:Int}(h0:0≤k)(h1:k < 4):V.BL k (V.Ao.at k)=V:=by
 unfold AL.BL;rw [Vector.Lp _ h0 h1]
def Cl (v:A2)(l:BI):Az:=⟨v.state,v.Au,v.Dw,v.EE.now,v.EE.Cq,v.EE.ret,l.queue,Page.of v.out,l.wait,l.told⟩
def A3 (V:AL)(ls:Vector BI 4)(ev:List Event):AI:=⟨V.w,Vector.ofFn fun i=>Cl (V.Ao.at ((i:Nat):Int)) (ls.at ((i:Nat):Int)),V.CW,ev⟩
theorem B4 (V:AL)(ls:Vector BI 4)(ev:List Event){k:Int}(h0:0≤k)(h1:k < 4):(A3 V ls ev).at_ k=Cl (V.Ao.at k) (ls.at k):=by
 rcases four h0 h1 with e | e | e | e<;>subst e<;>rfl
theorem IX (V:AL)(ls:Vector BI 4)(ev:List Event){k:Int}(h0:0≤k)(h1:k < 4)(v:A2)(l:BI):A3 (V.BL k v) (ls.put k l) ev=(A3 V ls ev).set k (Cl v l):=by
 unfold A3 AI.set AL.BL
 congr 1
 apply UM
 intro i i0 i1
 have hof:∀(f:Fin 4→Az),(Vector.ofFn f).at i=f ⟨i.toNat,by omega⟩:=fun f=>by
  rcases four i0 i1 with e | e | e | e<;>subst e<;>rfl
 rw [hof]
 have hi:((i.toNat:Nat):Int)=i:=by omega
 by_cases e:i=k
 ·subst e
  rw [Vector.CD h0 h1]
  show Cl ((V.Ao.put i v).at ((i.toNat:Nat):Int)) ((ls.put i l).at ((i.toNat:Nat):Int))=_
  rw [hi,Vector.CD h0 h1,Vector.CD h0 h1]
 ·rw [Vector.Ed h0 h1 i0 e,hof]
  show Cl ((V.Ao.put k v).at ((i.toNat:Nat):Int)) ((ls.put k l).at ((i.toNat:Nat):Int))=Cl (V.Ao.at ((i.toNat:Nat):Int)) (ls.at ((i.toNat:Nat):Int))
  rw [hi,Vector.Ed h0 h1 i0 e,Vector.Ed h0 h1 i0 e]
section
variable {P:Program} {n:Nat} {w0 w:World} {M:List Nat} {Q:Exit→Go.Act→World→Prop} {F:List (Nat × Value)} {L K:List Ac} {cd:Code} {b T TS:Nat} {V:AL} {ls:Vector BI 4} {k:Int}
theorem St.bO (h0:0≤k)(h1:k < 4)(h:St w0 M w (Ac.box b T V.enc :: Ac.Dv (CG TS V.Ao ls) :: K)) :
  St w0 M w (Ac.own (V.Ao.at k).EE.queue TS 1 ((ls.at k).queue.flatMap A7) :: Ac.own (V.Ao.at k).out.wait TS 1 ((ls.at k).wait.flatMap A7) :: Ac.own (V.Ao.at k).told TS 1 ((ls.at k).told.flatMap A7) :: Ac.box b T (Jq V k (V.Ao.at k)) :: Ac.Dv (Gd TS k V.Ao ls) :: K):=by
 have h2:St w0 M w (CG TS V.Ao ls++(Ac.box b T V.enc :: K)):=(h.perm (List.Perm.swap ..)).ZH
 have h3:=h2.perm ((QD TS h0 h1 V.Ao ls).append_right _)
 have h4:St w0 M w (Gd TS k V.Ao ls++(Fc TS (V.Ao.at k) (ls.at k)++(Ac.box b T V.enc :: K))):=by
  refine h3.perm ?_
  rw [List.append_assoc]
  exact JG _ _ _
 have h5:=h4.Yz
 unfold Jq
 rw [V.KP h0 h1]
 refine h5.perm ?_
 exact(JG [Ac.Dv (Gd TS k V.Ao ls)] (Fc TS (V.Ao.at k) (ls.at k) ++ [Ac.box b T V.enc]) K).trans (.of_eq (by simp [Fc]))
theorem St.close' (h0:0≤k)(h1:k < 4){s:A2}{qs ws ts:List Aq}{q w' t:Hd}(hq:s.EE.queue=q)(hw:s.out.wait=w')(ht:s.told=t)
  (h:St w0 M w (Ac.own q TS 1 (qs.flatMap A7) :: Ac.own w' TS 1 (ws.flatMap A7) :: Ac.own t TS 1 (ts.flatMap A7) :: Ac.box b T (Jq V k s) :: Ac.Dv (Gd TS k V.Ao ls) :: K)) :
  St w0 M w (Ac.box b T (V.BL k s).enc :: Ac.Dv (CG TS (V.BL k s).Ao (ls.put k ⟨qs,ws,ts⟩)) :: K):=by
 subst hq hw ht
 have e1:(V.BL k s).Ao.at k=s:=Vector.CD h0 h1
 have e2:(ls.put k ⟨qs,ws,ts⟩).at k=⟨qs,ws,ts⟩:=Vector.CD h0 h1
 have hp:=QD TS h0 h1 (V.BL k s).Ao (ls.put k ⟨qs,ws,ts⟩)
 rw [e1,e2,show Gd TS k (V.BL k s).Ao (ls.put k ⟨qs,ws,ts⟩)=Gd TS k V.Ao ls from Vb TS h0 h1 _ _ _ _] at hp
 have h2:St w0 M w (Ac.Dv (Gd TS k V.Ao ls) :: (Fc TS s ⟨qs,ws,ts⟩++(Ac.box b T (V.BL k s).enc :: K))):=
  h.perm ((JG [Ac.Dv (Gd TS k V.Ao ls)] (Fc TS s ⟨qs,ws,ts⟩ ++ [Ac.box b T (V.BL k s).enc]) K).symm.trans (.of_eq (by simp [Fc]))|>.symm.symm)
 have h3:=h2.ZH
 have h4:St w0 M w ((Fc TS s ⟨qs,ws,ts⟩++Gd TS k V.Ao ls)++(Ac.box b T (V.BL k s).enc :: K)):=h3.perm (by rw [List.append_assoc];exact JG _ _ _)
 have h5:=(h4.perm (hp.symm.append_right _)).Yz
 exact h5.perm (List.Perm.swap ..)
theorem E4 (h0:0≤k)(h1:k < 4)(h:∀ s l,V.Ao.at k=s→ls.at k=l→(s.EE.queue.len=l.queue.length∧s.out.wait.len=l.wait.length∧s.told.len=l.told.length)→G P n w0 M cd Q F (Ac.own s.EE.queue TS 1 (l.queue.flatMap A7) :: Ac.own s.out.wait TS 1 (l.wait.flatMap A7) :: Ac.own s.told TS 1 (l.told.flatMap A7) :: Ac.box b T (Jq V k s) :: Ac.Dv (Gd TS k V.Ao ls) :: K)) :
  G P n w0 M cd Q F (Ac.box b T V.enc :: Ac.Dv (CG TS V.Ao ls) :: K):=fun a w hF hS=>
 have hO:=hS.bO h0 h1
 h _ _ rfl rfl ⟨(Kn.own (.head _) w hO).Mw DZ (by decide),(Kn.own (.tail _ (.head _)) w hO).Mw DZ (by decide),(Kn.own (.tail _ (.tail _ (.head _))) w hO).Mw DZ (by decide)⟩ a w hF hO
theorem HA (h0:0≤k)(h1:k < 4){s:A2}{qs ws ts:List Aq}{q w' t:Hd}(hq:s.EE.queue=q)(hw:s.out.wait=w')(ht:s.told=t)(h:G P n w0 M cd Q F (Ac.box b T (V.BL k s).enc :: Ac.Dv (CG TS (V.BL k s).Ao (ls.put k ⟨qs,ws,ts⟩)) :: K)) :
  G P n w0 M cd Q F (Ac.own q TS 1 (qs.flatMap A7) :: Ac.own w' TS 1 (ws.flatMap A7) :: Ac.own t TS 1 (ts.flatMap A7) :: Ac.box b T (Jq V k s) :: Ac.Dv (Gd TS k V.Ao ls) :: K):=fun a w hF hS=>h a w hF (hS.close' h0 h1 hq hw ht)
theorem SH {x:Exit}(h0:0≤k)(h1:k < 4){s:A2}{qs ws ts:List Aq}{q w' t:Hd}(hq:s.EE.queue=q)(hw:s.out.wait=w')(ht:s.told=t)(h:GQ n w0 M Q x F (Ac.box b T (V.BL k s).enc :: Ac.Dv (CG TS (V.BL k s).Ao (ls.put k ⟨qs,ws,ts⟩)) :: K)) :
  GQ n w0 M Q x F (Ac.own q TS 1 (qs.flatMap A7) :: Ac.own w' TS 1 (ws.flatMap A7) :: Ac.own t TS 1 (ts.flatMap A7) :: Ac.box b T (Jq V k s) :: Ac.Dv (Gd TS k V.Ao ls) :: K):=fun a w hF hS=>h a w hF (hS.close' h0 h1 hq hw ht)
end
theorem Ek {V:AL}{ls:Vector BI 4}{ev:List Event}{k:Int}(h0:0≤k)(h1:k < 4){s v:A2}{l l':BI}(hs:V.Ao.at k=s)(hl:ls.at k=l){f:Az→Az}(e:Cl v l'=f (Cl s l)):A3 (V.BL k v) (ls.put k l') ev=(A3 V ls ev).set k (f ((A3 V ls ev).at_ k)):=by
 rw [IX V ls ev h0 h1,B4 V ls ev h0 h1,hs,hl,e]
theorem JB {v:A2}{l:BI}(h:v.out.wait.len=l.wait.length):(Cl v l).LR=Page.Bb v.out:=by
 unfold Az.LR Page.Bb
 rw [h];rfl
end Go.Ing
/- A house: plain laws for the walks. -/
namespace Go.Ing
open Go
theorem Wi {v:A2}{l:BI}{u:Aq}(hw:v.out.wait.len=l.wait.length)(h:Page.Bb v.out=false):(Cl v l).line u=Cl v l:=if_pos (by rw [JB hw,h];rfl)
theorem Wd {v:A2}{l:BI}{u:Aq}(hw:v.out.wait.len=l.wait.length)(h:Page.Bb v.out=true)(c:v.out.cut=true):(Cl v l).line u=Cl v l:=(if_neg (by rw [JB hw,h];decide)).trans (if_pos c)
theorem VP {v:A2}{l:BI}{u:Aq}(hw:v.out.wait.len=l.wait.length)(h:Page.Bb v.out=true)(c:v.out.cut=false)(n:60≤l.wait.length):(Cl v l).line u=Cl { v with out:=⟨v.out.wait,v.out.shown,v.out.B6,v.out.ring,true⟩ } l:=
 (if_neg (by rw [JB hw,h];decide)).trans ((if_neg (by show ¬ v.out.cut=true;rw [c];decide)).trans (if_pos (decide_eq_true (show(60:Int)≤(l.wait.length:Int) by omega))))
theorem V7 {v:A2}{l:BI}{u:Aq}(hw:v.out.wait.len=l.wait.length)(h:Page.Bb v.out=true)(c:v.out.cut=false)(n:l.wait.length < 60)(w:Hd):(Cl v l).line u=Cl { v with out:=⟨w,v.out.shown,v.out.B6,v.out.ring,v.out.cut⟩ } ⟨l.queue,l.wait ++ [u],l.told⟩:=
 (if_neg (by rw [JB hw,h];decide)).trans ((if_neg (by show ¬ v.out.cut=true;rw [c];decide)).trans (if_neg (by rw [decide_eq_true_eq];show ¬ (60:Int)≤(l.wait.length:Int);omega)))
theorem Zr {v:A2}{l:BI}{u:Aq}(h:(!v.out.cut)=true)(t:Hd):(Cl v l).note u=Cl { v with told:=t } ⟨l.queue,l.wait,l.told ++ [u]⟩:=if_pos h
theorem ZS {v:A2}{l:BI}{u:Aq}(h:(!v.out.cut)=false):(Cl v l).note u=Cl v l:=if_neg (by show ¬ (!v.out.cut)=true;rw [h];decide)
theorem AI.Di (H:AI){k j:Int}(h0:0≤k)(h1:k < 4)(j0:0≤j)(s:Az):(H.set k s).at_ j=if j=k then s else H.at_ j:=by
 unfold AI.set AI.at_
 by_cases e:j=k
 ·subst e;rw [if_pos rfl];exact Vector.CD h0 h1
 ·rw [if_neg e];exact Vector.Ed h0 h1 j0 e
theorem CE (s:Az)(u:Aq):(s.tell u).told.length≤s.told.length+1:=by
 have h:(s.line u).told=s.told:=by
  unfold Az.line;split
  ·rfl
  ·split
   ·rfl
   ·split<;>rfl
 unfold Az.tell Az.note
 split
 ·show((s.line u).told ++ [u]).length≤_
  rw [h,List.length_append];exact Nat.le_refl _
 ·rw [h];exact Nat.le_succ _
theorem Kw {V V':AL}{ls ls':Vector BI 4}{ev ev':List Event}{k:Int}{u:Aq}(h0:0≤k)(h1:k < 4)(e:A3 V' ls' ev'=(A3 V ls ev).tell k u){j:Int}(j0:0≤j)(j1:j < 4) :
  (ls'.at j).told.length≤(ls.at j).told.length+1∧(j≠k→(ls'.at j).told=(ls.at j).told):=by
 have h:=congrArg (fun H=>(AI.at_ H j).told) e
 simp only [AI.tell] at h
 rw [B4 _ _ _ j0 j1,AI.Di _ h0 h1 j0] at h
 have h':(ls'.at j).told=(if j=k then((A3 V ls ev).at_ k).tell u else(A3 V ls ev).at_ j).told:=h
 by_cases c:j=k
 ·subst c
  rw [if_pos rfl,B4 _ _ _ j0 j1] at h'
  exact⟨by rw [h'];exact CE _ _,fun hn=>absurd rfl hn⟩
 ·rw [if_neg c,B4 _ _ _ j0 j1] at h'
  exact⟨by rw [h'];exact Nat.le_succ _,fun _=>h'⟩
theorem Kp {V:AL}{ls:Vector BI 4}{ev:List Event}{e:Event}{X:AI}{i:Int}(h0:0≤i)(h1:i < 4)(h:A3 V ls ev=AI.CZ e X i.toNat):AI.CZ e X (i+1).toNat=if (!decide ((V.Ao.at i).state=2))=true then A3 V ls ev else if (AH.tell e (V.Ao.at i).Au).2=true then(A3 V ls ev).tell i (AH.tell e (V.Ao.at i).Au).1 else A3 V ls ev:=by
 obtain⟨m,rfl⟩:=Int.eq_ofNat_of_zero_le h0
 have ha:=B4 V ls ev h0 h1
 rw [show((m:Int)+1).toNat=m+1 by omega,AI.CZ]
 rw [show((m:Int)).toNat=m by omega] at h
 rw [← h,ha]
 rfl
theorem S0 {H:AI}{es:List Event}{k:Int}(h0:0≤k)(h1:k < es.length):H.HW (es.take (k+1).toNat)=AI.CZ (es.getD k.toNat default) (H.HW (es.take k.toNat)) 4:=by
 obtain⟨m,rfl⟩:=Int.eq_ofNat_of_zero_le h0
 have hm:m < es.length:=by omega
 show H.HW (es.take (m+1))=AI.CZ (es.getD m default) (H.HW (es.take m)) 4
 unfold AI.HW
 rw [List.take_add_one,List.getElem?_eq_getElem hm,List.foldl_append,List.getD_eq_getElem?_getD,List.getElem?_eq_getElem hm]
 rfl
def WC (ls:Vector BI 4)(n:Nat):Prop:=∀ j:Int,0≤j→j < 4→(ls.at j).told.length≤n
theorem Xu {H:AI}{ev es:List Event}(h:H.last=ev):AI.Gy H es=({ H with last:=ev++es }:AI).HW es:=by subst h;rfl
end Go.Ing
/- What is said in a land of short names is short: plain laws. -/
namespace Go.Ing
open Go
namespace AH
structure LK (w:AH):Prop where
 th:∀ i,(w.AO.at i).name.length≤100
 be:∀ i,(w.AM.at i).name.length≤100
 ro:∀ i,(w.BT.at i).name.length≤100
theorem LK.H3 {w:AH}(h:w.LK):w.DH:=⟨fun i=>Nat.le_trans (h.th i) (by decide),fun i=>Nat.le_trans (h.be i) (by decide),fun i=>Nat.le_trans (h.ro i) (by decide)⟩
theorem XY {X:AH}(h:X.LK){i:Int}{t:Al}(ht:t.name.length≤100):(X.Gr i t).LK:=⟨fun j=>by
 rcases Vector.Pm X.AO i j t with e | e
 ·show((X.AO.put i t).at j).name.length≤_;rw [e];exact ht
 ·show((X.AO.put i t).at j).name.length≤_;rw [e];exact h.th j,h.be,h.ro⟩
theorem IM {X:AH}(h:X.LK){i:Int}{t:Ag}(ht:t.name.length≤100):(X.C4 i t).LK:=⟨h.th,fun j=>by
 rcases Vector.Pm X.AM i j t with e | e
 ·show((X.AM.put i t).at j).name.length≤_;rw [e];exact ht
 ·show((X.AM.put i t).at j).name.length≤_;rw [e];exact h.be j,h.ro⟩
theorem XM {X:AH}(h:X.LK){r d:Int}{v:Bool}:(X.NB r d v).LK:=⟨h.th,h.be,fun j=>by
 rcases Vector.Pm X.BT r j { X.BT.at r with shut:=(X.BT.at r).shut.put d v } with e | e
 ·show((X.BT.put r _).at j).name.length≤_;rw [e];exact h.ro r
 ·show((X.BT.put r _).at j).name.length≤_;rw [e];exact h.ro j⟩
end AH
namespace AF
structure Cx (T:AF):Prop where
 Fe:T.w.LK
 out:∀ e∈T.out,AH.Small e
theorem MZ {w:AH}(hw:w.LK):∀(l:List Int) (s:Aq),(Hq w s l).length≤s.length+l.length * 102
 | [],s=>by simp [Hq]
 | i :: r,s=>by
  have hn:=hw.th i
  unfold Hq
  split
  ·have:=MZ hw r (s ++ [32]++(w.AO.at i).name ++ [42])
   simp only [List.length_append,List.length_cons,List.length_nil] at this ⊢
   omega
  ·have:=MZ hw r (s ++ [32]++(w.AO.at i).name)
   simp only [List.length_append,List.length_cons,List.length_nil] at this ⊢
   omega
theorem Mf:(default:Ag).name.length≤100:=by decide
section
variable {T:AF}
theorem Cx.BP (h:Cx T){e:Event}(h1:e.Bs.length≤1000000)(h2:e.text.length≤1000000)(h3:e.EP.length≤1000000)(h4:-9223372036854775808≤e.n)(h5:e.n≤9223372036854775807):Cx (T.BP e):=by
 refine⟨h.Fe,fun x hx=>?_⟩
 rcases List.mem_append.1 (show x∈T.out ++ [T.w.Hj (T.Dm e) 6] from hx) with hx | hx
 ·exact h.out x hx
 ·have hx':x=T.w.Hj (T.Dm e) 6:=by simpa using hx
  subst hx'
  obtain⟨a1,a2,a3,a4,a5,a6,a7,a8,a9⟩:=AH.KL T.w (T.Dm e) 6
  have e2:(T.Dm e).n=e.n∧(T.Dm e).Hm=T.me.name∧(T.Dm e).EP.length≤1000000∧(T.Dm e).Bs=e.Bs∧(T.Dm e).text=e.text:=by
   unfold Dm
   split
   ·exact⟨rfl,rfl,Nat.le_trans (h.Fe.be _) (by decide),rfl,rfl⟩
   ·exact⟨rfl,rfl,h3,rfl,rfl⟩
  obtain⟨b4,b5,b6,b7,b8⟩:=e2
  refine⟨?_,?_,?_,?_,?_,?_⟩
  ·rw [a6,b5];exact Nat.le_trans (h.Fe.be T.b) (by decide)
  ·rw [a7];exact Nat.le_trans b6 (by decide)
  ·rw [a8,b7];exact Nat.le_trans h1 (by decide)
  ·rw [a9,b8];exact Nat.le_trans h2 (by decide)
  ·rw [a5,b4];exact h4
  ·rw [a5,b4];exact h5
theorem Cx.tell (h:Cx T){s:Aq}(hs:s.length≤1000000):Cx (T.tell s):=h.BP (Nat.zero_le _) hs (Nat.zero_le _) (show(-9223372036854775808:Int)≤0 by decide) (show(0:Int)≤9223372036854775807 by decide)
theorem Cx.kind (h:Cx T)(k:Int):Cx (T.kind k):=h.BP (Nat.zero_le _) (Nat.zero_le _) (Nat.zero_le _) (show(-9223372036854775808:Int)≤0 by decide) (show(0:Int)≤9223372036854775807 by decide)
theorem Cx.Bs (h:Cx T)(k i:Int):Cx (T.Bs k i):=h.BP (Nat.le_trans (h.Fe.th i) (by decide)) (Nat.zero_le _) (Nat.zero_le _) (show(-9223372036854775808:Int)≤0 by decide) (show(0:Int)≤9223372036854775807 by decide)
theorem Cx.land (h:Cx T){w':AH}(ht:w'.LK):Cx { T with w:=w' }:=⟨ht,h.out⟩
theorem Cx.C6 (h:Cx T){i:Int}{t:Al}(ht:t.name=(T.w.AO.at i).name):Cx (T.C6 i t):=h.land (w':=T.w.Gr i t) (AH.XY h.Fe (by rw [ht];exact h.Fe.th i))
theorem Cx.place (h:Cx T)(i CY at_:Int):Cx (T.place i CY at_):=h.C6 rfl
theorem Cx.Ch (h:Cx T)(k f:Int):Cx (T.Ch k f):=h.land (w':=T.w.C4 k { T.w.AM.at k with Bz:=f }) (AH.IM h.Fe (h.Fe.be k))
theorem Cx.DS (h:Cx T)(k:Int){x:Ag}(hx:x.name.length≤100):Cx (T.DS k x):=h.land (w':=T.w.C4 k x) (AH.IM h.Fe hx)
theorem Cx.C5 (h:Cx T)(r d:Int)(v:Bool):Cx (T.C5 r d v):=h.land (w':=T.w.NB r d v) (AH.XM h.Fe)
theorem Cx.F3 (h:Cx T)(r:Int):Cx (T.F3 r):=h.land (w':=T.w.C4 T.b { T.me with room:=r,Bz:=0 }) (AH.IM h.Fe (h.Fe.be T.b))
theorem Cx.list (h:Cx T){s:Aq}(hs:s.length≤100){l:List Int}(hl:l.length≤9):Cx (T.list s l):=by
 refine h.tell ?_
 have:=MZ h.Fe l s
 unfold Ru
 split<;>simp only [List.length_append,List.length_cons,List.length_nil]<;>omega
theorem Cx.look (h:Cx T):Cx T.look:=by
 have hk:∀ {T':AF},Cx T'→∀ k:Nat,Cx (T'.Fa k):=fun {T'} h' k=>by
  induction k with
  | zero=>exact h'
  | succ k ih=>
   unfold Fa
   split
   ·exact ih.tell (by
     have:=ih.Fe.be k
     have e:(T'.Fa k).w=T'.w:=(KD T' k).1
     rw [e] at this
     simp only [List.length_append,List.length_cons,List.length_nil];omega)
   ·exact ih
 unfold AF.look
 split
 ·exact h.tell (by show([73,116,32,105,115,32,100,97,114,107,46]:Aq).length≤_;decide)
 ·refine hk ?_ 6
  have ha:Cx T.Je:=(h.tell (by
   have:=h.Fe.ro T.me.room
   simp only [List.length_append,List.length_cons,List.length_nil];omega)).tell (by
   have:=L8 (T.w.BT.at T.me.room) 6
   omega)
  unfold D9
  split
  ·exact ha.list (by decide) (AH.H7 ..)
  ·exact ha
theorem Cx.walk (h:Cx T)(d:Int):Cx (T.walk d):=by
 unfold AF.walk
 split
 ·exact h.tell (by decide)
 ·split
  ·exact h.tell (by decide)
  ·have i1:Cx (T.BP { Fy 1 with dir:=d }):=h.BP (Nat.zero_le _) (Nat.zero_le _) (Nat.zero_le _) (show(-9223372036854775808:Int)≤0 by decide) (show(0:Int)≤9223372036854775807 by decide)
   exact((i1.F3 _).BP (e:={ Fy 2 with dir:=AH.opposite d }) (Nat.zero_le _) (Nat.zero_le _) (Nat.zero_le _) (show(-9223372036854775808:Int)≤0 by decide) (show(0:Int)≤9223372036854775807 by decide)).look
theorem Cx.box (h:Cx T)(u:Aq):Cx (T.box u).1:=by
 unfold AF.box
 split
 ·exact h.tell (by decide)
 ·split
  ·exact h.tell (by decide)
  ·exact h
theorem Cx.A6 (h:Cx T)(u:Aq):Cx (T.A6 u).1:=by
 unfold AF.A6
 split
 ·split
  ·exact h
  ·exact h.tell (by decide)
 ·exact h.tell (by decide)
theorem Cx.DE (l:List Int):∀ {T':AF},Cx T'→Cx (T'.DE l):=by
 induction l with
 | nil=>exact fun h=>h
 | cons i r ih=>exact fun {T'} h=>ih ((h.place i 1 T'.b).Bs 3 i)
theorem Cx.Kb (h:Cx T)(l:List Int)(o:Order):Cx (T.Kb l o):=by
 unfold AF.Kb
 refine Cx.DE _ ?_
 split
 ·exact h.tell (by decide)
 ·exact h
theorem Cx.get (h:Cx T)(o:Order):Cx (T.get o):=by
 unfold AF.get
 split
 ·split
  ·exact h.box _
  ·exact(h.box _).Kb _ _
 ·exact h.Kb _ _
theorem Cx.Cp (h:Cx T)(v to i:Int):Cx (T.Cp v to i):=by
 unfold AF.Cp
 split
 ·exact h.tell (by decide)
 ·split
  ·exact(h.place _ _ _).Bs _ _
  ·split
   ·exact(h.place i 1 to).BP (e:={ Fy 6 with other:=to,Bs:=(T.w.AO.at i).name }) (Nat.le_trans (h.Fe.th i) (by decide)) (Nat.zero_le _) (Nat.zero_le _) (show(-9223372036854775808:Int)≤0 by decide) (show(0:Int)≤9223372036854775807 by decide)
   ·split
    ·exact h.tell (by decide)
    ·exact(h.place i 2 to).BP (e:={ Fy 5 with Bs:=(T.w.AO.at i).name,text:=(T.w.AO.at to).name }) (Nat.le_trans (h.Fe.th i) (by decide)) (Nat.le_trans (h.Fe.th to) (by decide)) (Nat.zero_le _) (show(-9223372036854775808:Int)≤0 by decide) (show(0:Int)≤9223372036854775807 by decide)
theorem Cx.Ei {v to:Int}(l:List Int):∀ {T':AF},Cx T'→Cx (T'.Ei v to l):=by
 induction l with
 | nil=>exact fun h=>h
 | cons i r ih=>exact fun h=>ih (h.Cp v to i)
theorem Cx.E7 (h:Cx T)(o:Order):Cx (T.E7 o):=by
 have ht:Cx (T.Cu o).1:=by
  unfold Cu
  split
  ·exact h.box _
  ·split
   ·exact h.A6 _
   ·exact h
 unfold AF.E7
 split
 ·exact ht
 ·unfold Rj
  refine Cx.Ei _ ?_
  split
  ·exact ht.tell (by decide)
  ·exact ht
theorem Cx.Ez (h:Cx T)(o:Order):Cx (T.Ez o):=by
 unfold AF.Ez
 generalize (if (!decide (o.nth=1) || o.Bj)=true then [] else o.name)=nm
 have hs:=h.A6 nm
 split
 ·exact hs
 ·refine Cx.tell ?_ (by decide)
  split
  ·exact(hs.Ch _ _).Ch _ _
  ·exact hs.Ch _ _
theorem Cx.before (h:Cx T)(first:Bool)(i:Int)(v:Bool)(k:Int):Cx (T.before first i v k):=by
 unfold AF.before
 split
 ·exact(Cx.C6 h (i:=i) (t:={ T.w.AO.at i with on:=v }) rfl).Bs _ _
 ·exact(h.Bs k i).C6 rfl
theorem Cx.G0 (h:Cx T)(d:Int)(on:Bool)(k:Int):Cx (T.G0 d on k):=by
 unfold AF.G0
 split
 ·exact h.tell (by decide)
 ·split
  ·exact h.tell (by decide)
  ·refine Cx.BP ?_ (by show([100,111,111,114]:Aq).length≤1000000;decide) (Nat.zero_le _) (Nat.zero_le _) (show(-9223372036854775808:Int)≤0 by decide) (show(0:Int)≤9223372036854775807 by decide)
   split
   ·exact(h.C5 _ _ _).C5 _ _ _
   ·exact h.C5 _ _ _
theorem Cx.set (h:Cx T)(o:Order):Cx (T.set o):=by
 unfold AF.set
 split
 ·exact h.G0 _ _ _
 ·split
  ·exact h.tell (by decide)
  ·split
   ·exact h.tell (by decide)
   ·split
    ·exact h.before _ _ _ _
    ·exact h.before _ _ _ _
theorem Cx.Ca (l:List Int):∀ {T':AF},Cx T'→Cx (T'.Ca l):=by
 induction l with
 | nil=>exact fun h=>h
 | cons i r ih=>exact fun {T'} h=>ih (Cx.C6 h (i:=i) rfl)
theorem Cx.DT (h:Cx T):∀ k:Nat,Cx (T.DT k)
 | 0=>h
 | k+1=>by
  unfold AF.DT
  split
  ·exact(Cx.DT h k).Ch _ _
  ·exact Cx.DT h k
theorem Cx.E3 (h:Cx T):Cx T.E3:=by
 rw [LZ]
 exact((Cx.Ca _ h).DT 6).Ch _ _
theorem Cx.Gk (h:Cx T):Cx T.Gk:=by
 have hf:=Cx.E3 (h.kind 18)
 unfold AF.Gk
 generalize (T.kind 18).E3=F at *
 exact hf.DS T.b (x:=default) Mf
theorem Cx.act (h:Cx T){o:Order}(hx:o.text.length≤1000000):Cx (T.act o):=by
 unfold AF.act
 split
 ·exact h.walk _
 ·split
  ·exact h.look
  ·split
   ·exact h.list (by decide) (AH.H7 ..)
   ·split
    ·exact h.BP (e:={ Fy 7 with text:=o.text }) (Nat.zero_le _) hx (Nat.zero_le _) (show(-9223372036854775808:Int)≤0 by decide) (show(0:Int)≤9223372036854775807 by decide)
    ·split
     ·exact h.Gk
     ·split
      ·exact h.Ez _
      ·split
       ·exact h.get _
       ·split
        ·exact h.E7 _
        ·exact h.set _
end
theorem KS {X:AH}{b:Int}{o:Order}(hw:X.LK)(hx:o.text.length≤1000000):(EA X b o).1.LK∧∀ e∈(EA X b o).2.1,AH.Small e:=by
 unfold EA
 split
 ·exact⟨hw,fun e h=>by cases h⟩
 ·split
  ·exact⟨hw,fun e h=>by cases h⟩
  ·split
   ·exact⟨hw,fun e h=>by cases h⟩
   ·have:=Cx.act (T:=⟨X,b,[]⟩) ⟨hw,fun e h=>by cases h⟩ hx
    exact⟨this.Fe,this.out⟩
theorem I1 {X:AH}{s:Aq}(hw:X.LK):(BX X s).1.LK∧∀ e∈(BX X s).2.2.1,AH.Small e:=by
 unfold BX
 split
 ·exact⟨hw,fun e h=>by cases h⟩
 ·split
  ·exact⟨hw,fun e h=>by cases h⟩
  ·rename_i h1
   split
   ·exact⟨hw,fun e h=>by cases h⟩
   ·split
    ·exact⟨hw,fun e h=>by cases h⟩
    ·have hn:s.length≤8:=by
      have h2:Ea s=true:=by simpa using h1
      simp only [Ea,Bool.and_eq_true,decide_eq_true_eq] at h2
      omega
     have h0:Cx ⟨X.C4 (CM X 6) (JW s),CM X 6,[]⟩:=⟨AH.IM hw (by show s.length≤100;omega),fun e h=>by cases h⟩
     have:=(h0.kind 17).look
     exact⟨this.Fe,this.out⟩
theorem S6 {w:AH}{b Bz n:Int}(hw:w.LK)(h0:1≤n)(h1:n≤3):Cx (CC w b Bz n):=by
 have hs:Cx ⟨w,b,[]⟩:=⟨hw,fun e h=>by cases h⟩
 unfold CC
 exact(hs.BP (e:={ Fy 14 with other:=Bz,n:=n }) (Nat.zero_le _) (Nat.zero_le _) (Nat.zero_le _) (show -9223372036854775808≤n by omega) (show n≤9223372036854775807 by omega)).DS _ (hw.be Bz)
theorem Cx.cl {T:AF}(h:Cx T)(b:Int):Cx (T.DS b { T.w.AM.at b with room:=0,BK:=10 }):=h.DS b (h.Fe.be b)
theorem Wk {w:AH}{b:Int}(hw:w.LK):Cx (Hi w b):=by
 have h0:Cx (FM w b):=⟨AH.IM hw (hw.be b),fun e h=>by cases h⟩
 have h1:Cx (F2 w b):=by unfold F2;exact(h0.kind 15).E3
 unfold Hi
 split
 ·generalize F2 w b=F at *
  exact h1.DS b (x:=default) Mf
 ·have h2:Cx (JH w b):=by unfold JH;exact h1.cl b
  exact(h2.kind 17).look
theorem TR {draw b:Int}(hb:0≤b){s:AH × List Event}(h:s.1.LK∧∀ e∈s.2,AH.Small e):(EG draw b s).1.LK∧∀ e∈(EG draw b s).2,AH.Small e:=by
 have hh:=Lr (draw:=draw) hb
 unfold EG
 split
 ·exact h
 ·split
  ·exact⟨AH.IM h.1 (h.1.be b),h.2⟩
  ·have hk:=S6 (b:=b) (Bz:=(s.1.AM.at b).Bz - 1) h.1 hh.1 hh.2
   split
   ·have hd:=Wk (b:=(s.1.AM.at b).Bz - 1) hk.Fe
    refine⟨hd.Fe,fun e he=>?_⟩
    rcases List.mem_append.1 he with he | he
    ·rcases List.mem_append.1 he with he | he
     ·exact h.2 e he
     ·exact hk.out e he
    ·exact hd.out e he
   ·refine⟨hk.Fe,fun e he=>?_⟩
    rcases List.mem_append.1 he with he | he
    ·exact h.2 e he
    ·exact hk.out e he
theorem Om {X:AH}{draw:Int}(hw:X.LK):∀ k:Nat,(DW X draw k).1.LK∧∀ e∈(DW X draw k).2,AH.Small e
 | 0=>⟨hw,fun e h=>by cases h⟩
 | k+1=>TR (by omega) (Om hw k)
theorem LH {X:AH}{draw:Int}(hw:X.LK):(CV X draw).1.LK∧∀ e∈(CV X draw).2.1,AH.Small e:=by
 unfold CV
 split
 ·exact⟨hw,fun e h=>by cases h⟩
 ·have h:=Om (draw:=draw) hw 6
  generalize DW X draw 6=r at *
  exact h
end AF
end Go.Ing
/- What a house keeps: plain laws. -/
namespace Go.Ing
open Go
namespace AI
def aJ (q:List Aq):Prop:=q.length≤6∧∀ s∈q,s.length≤60
structure Fit (H:AI)(n m:Nat):Prop where
 Fe:H.w.LK
 told:∀ k:Int,0≤k→k < 4→(H.at_ k).told.length≤n
 last:H.last.length≤m
 Au:∀ k:Int,0≤k→k < 4→(H.at_ k).state=2→0≤(H.at_ k).Au∧(H.at_ k).Au < 6
 wait:∀ k:Int,0≤k→k < 4→∀ s∈(H.at_ k).wait,s.length≤70368744000000
 queue:∀ k:Int,0≤k→k < 4→aJ (H.at_ k).queue
variable {H:AI} {n m:Nat}
theorem Fit.mono (h:H.Fit n m){n' m':Nat}(hn:n≤n')(hm:m≤m'):H.Fit n' m':=⟨h.Fe,fun k a b=>Nat.le_trans (h.told k a b) hn,Nat.le_trans h.last hm,h.Au,h.wait,h.queue⟩
theorem Fit.set (h:H.Fit n m){k:Int}(h0:0≤k)(h1:k < 4){s:Az}(ht:s.told.length≤n)(hb:s.state=2→0≤s.Au∧s.Au < 6)(hw:∀ u∈s.wait,u.length≤70368744000000)(hq:aJ s.queue):(H.set k s).Fit n m:=by
 have e:∀ j:Int,0≤j→(H.set k s).at_ j=if j=k then s else H.at_ j:=fun j j0=>AI.Di H h0 h1 j0 s
 refine⟨h.Fe,fun j a b=>?_,h.last,fun j a b=>?_,fun j a b=>?_,fun j a b=>?_⟩<;>rw [e j a]<;>split
 ·exact ht
 ·exact h.told j a b
 ·exact hb
 ·exact h.Au j a b
 ·exact hw
 ·exact h.wait j a b
 ·exact hq
 ·exact h.queue j a b
theorem Fit.land (h:H.Fit n m){w:AH}(hw:w.LK):({ H with w:=w }:AI).Fit n m:=⟨hw,h.told,h.last,h.Au,h.wait,h.queue⟩
theorem Py (s:Az)(u:Aq):(s.line u).wait=s.wait∨(s.line u).wait=s.wait ++ [u]:=by
 unfold Az.line
 split
 ·exact .inl rfl
 ·split
  ·exact .inl rfl
  ·split
   ·exact .inl rfl
   ·exact .inr rfl
theorem Uw (s:Az)(u:Aq):(s.line u).state=s.state∧(s.line u).Au=s.Au∧(s.line u).queue=s.queue∧(s.line u).told=s.told:=by
 unfold Az.line
 split
 ·exact⟨rfl,rfl,rfl,rfl⟩
 ·split
  ·exact⟨rfl,rfl,rfl,rfl⟩
  ·split<;>exact⟨rfl,rfl,rfl,rfl⟩
theorem GA (s:Az)(u:Aq):(s.tell u).state=s.state∧(s.tell u).Au=s.Au∧(s.tell u).queue=s.queue∧(s.tell u).wait=(s.line u).wait:=by
 obtain⟨a,b,c,_⟩:=Uw s u
 unfold Az.tell Az.note
 split
 ·exact⟨a,b,c,rfl⟩
 ·exact⟨a,b,c,rfl⟩
theorem Fit.tell (h:H.Fit n m){k:Int}(h0:0≤k)(h1:k < 4){u:Aq}(hu:u.length≤70368744000000):(H.tell k u).Fit (n+1) m:=by
 obtain⟨a,b,c,d⟩:=GA (H.at_ k) u
 refine(h.mono (Nat.le_succ n) (Nat.le_refl m)).set h0 h1 (Nat.le_trans (CE _ _) (Nat.succ_le_succ (h.told k h0 h1))) (by rw [a,b];exact h.Au k h0 h1) (fun s hs=>?_) (by rw [c];exact h.queue k h0 h1)
 rw [d] at hs
 rcases Py (H.at_ k) u with e | e<;>rw [e] at hs
 ·exact h.wait k h0 h1 s hs
 ·rcases List.mem_append.1 hs with hs | hs
  ·exact h.wait k h0 h1 s hs
  ·rw [List.mem_singleton.1 hs];exact hu
theorem Yf {e:Event}(he:AH.Small e)(b:Int):(AH.tell e b).1.length≤70368744000000:=by
 unfold AH.tell
 split
 ·exact Nat.zero_le _
 ·split
  ·exact Nat.zero_le _
  ·refine Nat.le_trans (AH.Of he (AH.P8 he b) (AH.N1 he b) _ _) ?_
   have:=AH.Oo e b
   omega
theorem UA {k j:Int}(h0:0≤k)(h1:k < 4)(j0:0≤j)(hn:j≠k)(u:Aq):(H.tell k u).at_ j=H.at_ j:=by
 unfold AI.tell
 rw [AI.Di H h0 h1 j0,if_neg hn]
theorem LA (e:Event)(H:AI):∀ k:Nat,k≤4→∀ j:Int,(k:Int)≤j→j < 4→(CZ e H k).at_ j=H.at_ j
 | 0,_,_,_,_=>rfl
 | k+1,hk,j,h0,h1=>by
  have ih:=LA e H k (by omega) j (by omega) h1
  unfold CZ
  split
  ·exact ih
  ·split
   ·rw [UA (by omega) (by omega) (by omega) (by omega)];exact ih
   ·exact ih
theorem OR {e:Event}(he:AH.Small e)(h:H.Fit n m):∀ k:Nat,k≤4→(CZ e H k).Fit (n+1) m
 | 0,_=>h.mono (Nat.le_succ n) (Nat.le_refl m)
 | k+1,hk=>by
  have ih:=OR he h k (by omega)
  unfold CZ
  split
  ·exact ih
  ·split
   ·have hr:=LA e H k (by omega) k (Int.le_refl _) (by omega)
    obtain⟨a,b,c,d⟩:=GA ((CZ e H k).at_ k) (AH.tell e ((CZ e H k).at_ k).Au).1
    unfold AI.tell
    refine ih.set (by omega) (by omega) ?_ (by rw [a,b];exact ih.Au k (by omega) (by omega)) (fun s hs=>?_) (by rw [c];exact ih.queue k (by omega) (by omega))
    ·refine Nat.le_trans (CE _ _) ?_
     rw [hr];exact Nat.succ_le_succ (h.told k (by omega) (by omega))
    ·rw [d] at hs
     rcases Py ((CZ e H k).at_ k) (AH.tell e ((CZ e H k).at_ k).Au).1 with q | q<;>rw [q] at hs
     ·exact ih.wait k (by omega) (by omega) s hs
     ·rcases List.mem_append.1 hs with hs | hs
      ·exact ih.wait k (by omega) (by omega) s hs
      ·rw [List.mem_singleton.1 hs];exact Yf he _
   ·exact ih
theorem Pq:∀(es:List Event) {H:AI} {n:Nat},(∀ e∈es,AH.Small e)→H.Fit n m→(H.HW es).Fit (n+es.length) m
 | [],_,_,_,h=>h
 | e :: r,H,n,he,h=>by
  have h1:=OR (he e (List.mem_cons_self ..)) h 4 (Nat.le_refl 4)
  have h2:=Pq r (fun x hx=>he x (List.mem_cons_of_mem _ hx)) h1
  rw [List.length_cons,show n+(r.length+1)=n+1+r.length by omega]
  exact h2
theorem Fit.Gy (h:H.Fit n m){es:List Event}(he:∀ e∈es,AH.Small e):(H.Gy es).Fit (n+es.length) (m+es.length):=by
 refine Pq (m:=m+es.length) es he ?_
 exact⟨h.Fe,h.told,by show(H.last++es).length≤_;rw [List.length_append];exact Nat.add_le_add_right h.last _,h.Au,h.wait,h.queue⟩
theorem Fit.free (h:H.Fit n m){k:Int}(h0:0≤k)(h1:k < 4):(H.set k default).Fit n m:=
 h.set h0 h1 (Nat.zero_le _) (fun e=>absurd (show(0:Int)=2 from e) (by decide)) (fun u hu=>by cases hu) ⟨Nat.zero_le _,fun u hu=>by cases hu⟩
theorem MV:EB.text.length≤1000000:=Nat.zero_le _
theorem Fit.leave (h:H.Fit n m){k:Int}(h0:0≤k)(h1:k < 4):(H.leave k).Fit (n+11) (m+11):=by
 unfold AI.leave
 refine Fit.free ?_ h0 h1
 split
 ·have hd:=AF.KS (b:=(H.at_ k).Au) (o:=EB) h.Fe MV
  have hl:=AF.NJ H.w (H.at_ k).Au EB
  exact(((h.land hd.1).free h0 h1).Gy hd.2).mono (Nat.add_le_add_left hl n) (Nat.add_le_add_left hl m)
 ·exact h.mono (Nat.le_add_right ..) (Nat.le_add_right ..)
theorem R6 (ht:Int):∀(l:List Aq) (x:Page.Pg),∀ s∈(Page.Be ht l x).2,s∈l
 | [],_,s,h=>h
 | q :: r,x,s,h=>by
  unfold Page.Be at h
  split at h
  ·exact h
  ·split at h
   ·exact h
   ·exact List.mem_cons_of_mem _ (R6 ht r _ s h)
theorem IN (s:Az):s.Be.told=s.told∧s.Be.state=s.state∧s.Be.Au=s.Au∧s.Be.queue=s.queue∧∀ u∈s.Be.wait,u∈s.wait:=by
 unfold Az.Be
 split
 ·exact⟨rfl,rfl,rfl,rfl,fun _ h=>h⟩
 ·exact⟨rfl,rfl,rfl,rfl,R6 _ _ _⟩
theorem Fit.Wp (h:H.Fit n m){k:Int}(h0:0≤k)(h1:k < 4):(H.set k (H.at_ k).Be).Fit n m:=by
 obtain⟨a,b,c,d,e⟩:=IN (H.at_ k)
 exact h.set h0 h1 (by rw [a];exact h.told k h0 h1) (by rw [b,c];exact h.Au k h0 h1) (fun u hu=>h.wait k h0 h1 u (e u hu)) (by rw [d];exact h.queue k h0 h1)
theorem MH (h:H.Fit n m):∀ k:Nat,k≤4→(H.Cg k).1.Fit (n+11 * k) (m+11 * k)
 | 0,_=>h
 | k+1,hk=>by
  have ih:=MH h k (by omega)
  unfold Cg
  split
  ·exact ih.mono (by omega) (by omega)
  ·split
   ·exact((ih.Wp (by omega) (by omega)).leave (by omega) (by omega)).mono (by omega) (by omega)
   ·exact(ih.Wp (by omega) (by omega)).mono (by omega) (by omega)
theorem Pl:∀(r:Nat) {H:AI} {n m:Nat},H.Fit n m→(H.HT r).Fit (n+44 * r) (m+44 * r)
 | 0,_,_,_,h=>h
 | r+1,H,n,m,h=>by
  have h1:=MH h 4 (Nat.le_refl 4)
  unfold HT
  split
  ·exact h1.mono (by omega) (by omega)
  ·exact(Pl r h1).mono (by omega) (by omega)
theorem Fit.Be (h:H.Fit n m):H.Be.Fit (n+220) (m+220):=Pl 5 h
end AI
end Go.Ing
/- A house: plain laws for the walks, on. -/
namespace Go.Ing
open Go
theorem Ir {V:AL}{ls:Vector BI 4}{ev:List Event}{k:Int}(h0:0≤k)(h1:k < 4):A3 (V.BL k default) (ls.put k ⟨[],[],[]⟩) ev=(A3 V ls ev).set k default:=IX V ls ev h0 h1 _ _
theorem Nd {V:AL}{ls:Vector BI 4}{ev:List Event}{w:AH}:A3 { V with w:=w } ls ev={ A3 V ls ev with w:=w }:=rfl
theorem Qw {V V4:AL}{ls ls4:Vector BI 4}{ev ev4:List Event}{k:Int}(h0:0≤k)(h1:k < 4)(c:(decide ((V.Ao.at k).state=2) && (V.w.AM.at (V.Ao.at k).Au).here)=true)
  (e:A3 V4 ls4 ev4=(A3 (AL.BL { V with w:=(AF.EA V.w (V.Ao.at k).Au AI.EB).1 } k default) (ls.put k ⟨[],[],[]⟩) ev).Gy (AF.EA V.w (V.Ao.at k).Au AI.EB).2.1) :
  A3 (V4.BL k default) (ls4.put k ⟨[],[],[]⟩) ev4=(A3 V ls ev).leave k:=by
 rw [Ir h0 h1,e,Ir h0 h1,Nd]
 have ha:=B4 V ls ev h0 h1
 unfold AI.leave AI.Tc
 rw [ha]
 rw [if_pos (show(decide ((Cl (V.Ao.at k) (ls.at k)).state=2) && ((A3 V ls ev).w.AM.at (Cl (V.Ao.at k) (ls.at k)).Au).here)=true from c)]
 rfl
theorem UE {V:AL}{ls:Vector BI 4}{ev:List Event}{k:Int}(h0:0≤k)(h1:k < 4)(c:(decide ((V.Ao.at k).state=2) && (V.w.AM.at (V.Ao.at k).Au).here)=false) :
  A3 (V.BL k default) (ls.put k ⟨[],[],[]⟩) ev=(A3 V ls ev).leave k:=by
 rw [Ir h0 h1]
 have ha:=B4 V ls ev h0 h1
 unfold AI.leave
 rw [ha]
 rw [if_neg (show ¬ (decide ((Cl (V.Ao.at k) (ls.at k)).state=2) && ((A3 V ls ev).w.AM.at (Cl (V.Ao.at k) (ls.at k)).Au).here)=true by rw [show(decide ((Cl (V.Ao.at k) (ls.at k)).state=2) && ((A3 V ls ev).w.AM.at (Cl (V.Ao.at k) (ls.at k)).Au).here)=false from c];decide)]
theorem Gj {V:AL}{ls:Vector BI 4}{ev:List Event}{n m:Nat}(h:(A3 V ls ev).Fit n m):WC ls n:=fun j j0 j1=>by
 have:=h.told j j0 j1
 rw [B4 V ls ev j0 j1] at this
 exact this
theorem Vm {V:AL}{ls:Vector BI 4}{ev:List Event}{n m:Nat}(h:(A3 V ls ev).Fit n m){k:Int}(h0:0≤k)(h1:k < 4):(V.Ao.at k).state≠2∨(0≤(V.Ao.at k).Au∧(V.Ao.at k).Au < 6):=by
 have:=h.Au k h0 h1
 rw [B4 V ls ev h0 h1] at this
 by_cases c:(V.Ao.at k).state=2
 ·exact .inr (this c)
 ·exact .inl c
theorem St.or {w0 w:World}{M:List Nat}{L:List Ac}{T TS:Nat}{h f g:Hd}{xs qs zs:List Aq}(ho:aO T h xs TS f qs TS g zs)(hS:St w0 M w (Ac.own g TS 1 (zs.flatMap A7) :: Ac.own f TS 1 (qs.flatMap A7) :: L)):St w0 M w (Ac.own h TS 1 (xs.flatMap A7) :: L):=by
 rcases ho with ⟨_,rfl,rfl,_,_⟩ | ⟨_,rfl,rfl⟩
 ·exact hS.sub (List.sublist_cons_self ..)
 ·exact hS.sub (List.Sublist.cons_cons _ (List.sublist_cons_self ..))
theorem aa {n:Nat}{w0:World}{M:List Nat}{Q:Exit→Go.Act→World→Prop}{F:List (Nat × Value)}{L:List Ac}{x:Exit}{T TS:Nat}{h f g:Hd}{xs qs zs:List Aq}(ho:aO T h xs TS f qs TS g zs)(k:GQ n w0 M Q x F (Ac.own h TS 1 (xs.flatMap A7) :: L)):GQ n w0 M Q x F (Ac.own g TS 1 (zs.flatMap A7) :: Ac.own f TS 1 (qs.flatMap A7) :: L):=fun a w hF hS=>k a w hF (St.or ho hS)
theorem LV {v:A2}{l:BI}(hw:v.out.wait.len=l.wait.length)(h:(!Page.Bb v.out || decide (v.Dw.B1 < 0) || decide (200 < v.Dw.B1))=true):Cl v l=(Cl v l).Be:=
 (if_pos (show(!(Cl v l).LR || decide (v.Dw.B1 < 0) || decide (200 < v.Dw.B1))=true by rw [JB hw];exact h)).symm
theorem YX {v:A2}{l:BI}(hw:v.out.wait.len=l.wait.length)(h:(!Page.Bb v.out || decide (v.Dw.B1 < 0) || decide (200 < v.Dw.B1))=false)(w:Hd) :
  Cl { v with out:=⟨w,(Page.Be v.Dw.B1 l.wait (Page.of v.out)).1.shown,(Page.Be v.Dw.B1 l.wait (Page.of v.out)).1.B6,(Page.Be v.Dw.B1 l.wait (Page.of v.out)).1.ring,(Page.Be v.Dw.B1 l.wait (Page.of v.out)).1.cut⟩ } ⟨l.queue,(Page.Be v.Dw.B1 l.wait (Page.of v.out)).2,l.told⟩=(Cl v l).Be:=
 ((if_neg (show ¬ (!(Cl v l).LR || decide (v.Dw.B1 < 0) || decide (200 < v.Dw.B1))=true by rw [JB hw,h];decide)).trans rfl).symm
theorem K9 {V:AL}{ls:Vector BI 4}{ev:List Event}{c:Bool}{H:AI}{i:Int}(h0:0≤i)(h1:i < 4)(h:(A3 V ls ev,c)=H.Cg i.toNat) :
  H.Cg (i+1).toNat=if decide ((V.Ao.at i).state=0)=true then(A3 V ls ev,c) else if (((A3 V ls ev).at_ i).Be).pg.cut=true then(((A3 V ls ev).set i ((A3 V ls ev).at_ i).Be).leave i,true) else((A3 V ls ev).set i ((A3 V ls ev).at_ i).Be,c):=by
 obtain⟨m,rfl⟩:=Int.eq_ofNat_of_zero_le h0
 have ha:=B4 V ls ev h0 h1
 rw [show((m:Int)+1).toNat=m+1 by omega,AI.Cg]
 rw [show((m:Int)).toNat=m by omega] at h
 rw [← h]
 rw [show decide (((A3 V ls ev).at_ (m:Int)).state=0)=decide ((V.Ao.at (m:Int)).state=0) by rw [ha];rfl]
theorem Tx {V V':AL}{ls ls':Vector BI 4}{ev ev':List Event}{i:Int}(h0:0≤i)(h1:i < 4){s:Az}(e:A3 V' ls' ev'=(A3 V ls ev).set i s):(V'.Ao.at i).out.cut=s.pg.cut:=by
 have h:=congrArg (fun H=>(AI.at_ H i).pg.cut) e
 rw [B4 V' ls' ev' h0 h1,AI.Di _ h0 h1 h0,if_pos rfl] at h
 exact h
theorem OK {X:AI}{k:Int}(h0:0≤k)(h1:k < 5):X.HT (5 - k).toNat=if (!(X.Cg 4).2)=true then(X.Cg 4).1 else(X.Cg 4).1.HT (5 - (k+1)).toNat:=by
 rw [show(5 - k).toNat=(5 - (k+1)).toNat+1 by omega,AI.HT]
theorem PZ {H:AI}{n m:Nat}(h:H.Fit n m){V:AL}{ls:Vector BI 4}{ev:List Event}{c:Bool}{i:Int}(h0:0≤i)(h1:i≤4)(e:(A3 V ls ev,c)=H.Cg i.toNat):(A3 V ls ev).Fit (n+44) (m+44):=by
 have:=AI.MH h i.toNat (by omega)
 rw [← e] at this
 exact this.mono (by omega) (by omega)
theorem Xh {V:AL}{ls:Vector BI 4}{ev:List Event}{n m:Nat}(h:(A3 V ls ev).Fit n m){k:Int}(h0:0≤k)(h1:k < 4):∀ s∈(ls.at k).wait,s.length≤70368744000000:=by
 have:=h.wait k h0 h1
 rw [B4 V ls ev h0 h1] at this
 exact this
end Go.Ing
/- A house: who comes, and what is typed: plain laws for the walks. -/
namespace Go.Ing
open Go
namespace Words
def N0 (N:Nat)(o:Order):Prop:=o.name.length≤N∧o.second.length≤N∧o.text.length≤N
theorem FX (N:Nat):N0 N default:=⟨Nat.zero_le _,Nat.zero_le _,Nat.zero_le _⟩
theorem Wb (u p:Aq):(Mt u p).1.length≤u.length:=by
 unfold Mt
 split
 ·exact Nat.le_refl _
 ·show(List.drop _ u).length≤_
  rw [List.length_drop];omega
theorem WY (u:Aq):(EH u).2.1.length≤u.length:=by
 unfold EH
 split
 ·exact Nat.zero_le _
 ·split
  ·exact Wb u _
  ·split
   ·split
    ·exact Nat.zero_le _
    ·exact Nat.le_refl _
   ·unfold PI
    have:=(NM 46 u).2
    split
    ·split
     ·exact Nat.zero_le _
     ·exact this
    ·exact Nat.zero_le _
theorem Xl {N:Nat}{o:Order}{j:Aq × Bool}{W:List Aq}{m:Nat}(h:N0 N o)(hw:(W.getD 0 []).length≤N):N0 N (Qx o j W m).1:=by
 unfold Qx
 split
 ·exact h
 ·split
  ·exact FX N
  ·exact⟨h.1,hw,h.2.2⟩
theorem Zo {N:Nat}{o:Order}{j:Aq × Bool}{W:List Aq}{m:Nat}(h:N0 N o)(hw:∀ i,(W.getD i []).length≤N):N0 N (Sh o j W m).1:=by
 unfold Sh
 split
 ·split
  ·exact FX N
  ·refine Xl h ?_
   have:=hw 1
   rw [List.getD_eq_getElem?_getD,List.getElem?_drop,← List.getD_eq_getElem?_getD]
   exact this
 ·exact Xl h (hw 0)
theorem WV {N:Nat}{v:Int}{W:List Aq}{m:Nat}(hw:∀ i,(W.getD i []).length≤N):N0 N (RC v W m).1:=by
 unfold RC
 split
 ·exact FX N
 ·refine Zo ⟨Nat.le_trans (WY _) (hw 0),Nat.zero_le _,Nat.zero_le _⟩ (fun i=>?_)
  rw [List.getD_eq_getElem?_getD,List.getElem?_drop,← List.getD_eq_getElem?_getD]
  exact hw (1+i)
theorem Rg (i:Nat):(AH.GW.getD i []).length≤20:=by
 rw [List.getD_eq_getElem?_getD]
 cases h:AH.GW[i]? with
 | none=>exact Nat.zero_le _
 | some w=>
  have hm:w∈AH.GW:=List.mem_of_getElem? h
  have:∀ w∈AH.GW,w.length≤20:=by decide
  exact this w hm
theorem Jf (s:Aq):N0 (s.length+20) (parse s).1:=by
 have hw:∀ i,(((words s).drop 1).getD i []).length≤s.length+20:=fun i=>Nat.le_trans (Ma s i 1) (by omega)
 unfold parse
 split
 ·exact FX _
 ·split
  ·exact FX _
  ·unfold Xe
   split
   ·split
    ·exact FX _
    ·refine⟨Nat.zero_le _,Nat.zero_le _,?_⟩
     show(said s).length≤_
     unfold said
     have h1:=LQ 32 (Rq 32 (cut 32 (QA 32 s)).2.1)
     have h2:=QR 32 (cut 32 (QA 32 s)).2.1
     have h3:=(NM 32 (QA 32 s)).2
     have h4:=LQ 32 s
     omega
   ·split
    ·split
     ·exact FX _
     ·exact⟨Nat.zero_le _,Nat.zero_le _,Nat.zero_le _⟩
    ·split
     ·exact FX _
     ·split
      ·split
       ·exact⟨Nat.le_trans (Rg _) (by omega),Nat.zero_le _,Nat.zero_le _⟩
       ·exact WV hw
      ·exact WV hw
end Words
theorem Vs {V:AL}{ls:Vector BI 4}{ev:List Event}{n m:Nat}(h:(A3 V ls ev).Fit n m){k:Int}(h0:0≤k)(h1:k < 4):AI.aJ (ls.at k).queue:=by
 have:=h.queue k h0 h1
 rw [B4 V ls ev h0 h1] at this
 exact this
theorem AI.L1 (H:AI){k:Int}(h0:0≤k)(h1:k < 4):H.set k (H.at_ k)=H:=by
 unfold AI.set AI.at_
 rw [Vector.Lp _ h0 h1]
theorem Rb {X:AH}{s:Aq}(h:(AF.BX X s).2.2.2=0):0≤(AF.BX X s).2.1∧(AF.BX X s).2.1 < 6:=by
 have hf:=AF.MD X 6 (Nat.le_refl 6)
 unfold AF.BX at h ⊢
 split
 ·exact⟨Int.le_refl 0,show(0:Int) < 6 by decide⟩
 ·split
  ·exact⟨Int.le_refl 0,show(0:Int) < 6 by decide⟩
  ·split
   ·exact⟨Int.le_refl 0,show(0:Int) < 6 by decide⟩
   ·split
    ·rename_i h1 h2 h3 h4
     rw [if_neg h1,if_neg h2,if_neg h3,if_pos h4] at h
     exact absurd h (show ¬ (4:Int)=0 by decide)
    ·rename_i h4
     show 0≤AF.CM X 6∧AF.CM X 6 < 6
     rw [decide_eq_true_eq] at h4
     omega
namespace AI
variable {H:AI} {n m:Nat}
theorem Fit.enters (h:H.Fit n m){k:Int}(h0:0≤k)(h1:k < 4){u:Aq}(c:(AF.BX H.w u).2.2.2=0):(({ H with w:=(AF.BX H.w u).1 }:AI).set k { H.at_ k with state:=2,Au:=(AF.BX H.w u).2.1 }).Fit n m:=by
 have hs:=AF.I1 (s:=u) h.Fe
 exact(h.land hs.1).set h0 h1 (h.told k h0 h1) (fun _=>Rb c) (h.wait k h0 h1) (h.queue k h0 h1)
theorem Fit.named (h:H.Fit n m){k:Int}(h0:0≤k)(h1:k < 4)(u:Aq):(H.named k u).Fit (n+11) (m+11):=by
 unfold AI.named
 split
 ·rename_i c
  have hs:=AF.I1 (s:=u) h.Fe
  have hl:=AF.Pa H.w u
  exact((h.enters h0 h1 (of_decide_eq_true c)).Gy hs.2).mono (by omega) (by omega)
 ·split
  ·exact(h.tell h0 h1 (show noRoom.length≤_ by decide)).mono (by omega) (by omega)
  ·exact(h.tell h0 h1 (show RA.length≤_ by decide)).mono (by omega) (by omega)
theorem Fit.order (h:H.Fit n m){k:Int}(h0:0≤k)(h1:k < 4){u:Aq}(hu:u.length≤1000):(H.order k u).Fit (n+11) (m+11):=by
 unfold AI.order
 split
 ·exact(h.tell h0 h1 (show Zt.length≤_ by decide)).mono (by omega) (by omega)
 ·split
  ·exact h.leave h0 h1
  ·have hp:=Words.Jf u
   have hd:=AF.KS (b:=(H.at_ k).Au) (o:=(Words.parse u).1) h.Fe (by have:=hp.2.2;omega)
   have hl:=AF.NJ H.w (H.at_ k).Au (Words.parse u).1
   exact((h.land hd.1).Gy hd.2).mono (by omega) (by omega)
theorem Fit.Fw (h:H.Fit n m){k:Int}(h0:0≤k)(h1:k < 4){q:Aq}{r:List Aq}(e:(H.at_ k).queue=q :: r):(H.set k { H.at_ k with queue:=r }.Fw).Fit n m:=
 h.set h0 h1 (h.told k h0 h1) (h.Au k h0 h1) (h.wait k h0 h1) (by
  have hq:=h.queue k h0 h1
  rw [e] at hq
  exact⟨Nat.le_of_succ_le hq.1,fun u hu=>hq.2 u (List.mem_cons_of_mem _ hu)⟩)
theorem Fit.EN (h:H.Fit n m){k:Int}(h0:0≤k)(h1:k < 4):(H.EN k).Fit (n+11) (m+11):=by
 unfold AI.EN
 split
 ·exact h.mono (by omega) (by omega)
 ·split
  ·exact h.mono (by omega) (by omega)
  ·rename_i q r e
   have ht:=h.Fw h0 h1 e
   have hq:=(h.queue k h0 h1).2 q (by rw [e];exact List.mem_cons_self ..)
   simp only []
   split
   ·exact ht.mono (by omega) (by omega)
   ·split
    ·exact ht.named h0 h1 _
    ·exact ht.order h0 h1 (by omega)
theorem KF (h:H.Fit n m):∀ k:Nat,k≤4→(H.turns k).Fit (n+11 * k) (m+11 * k)
 | 0,_=>h
 | k+1,hk=>by
  have ih:=KF h k (by omega)
  unfold AI.turns
  exact(ih.EN (by omega) (by omega)).mono (by omega) (by omega)
end AI
theorem YQ {V V3 V4:AL}{ls ls3 ls4:Vector BI 4}{ev ev4:List Event}{k:Int}{u:Aq}(c:decide ((AF.BX V.w u).2.2.2=0)=true)
  (e3:A3 V3 ls3 ev=({ A3 V ls ev with w:=(AF.BX V.w u).1 }:AI).set k { (A3 V ls ev).at_ k with state:=2,Au:=(AF.BX V.w u).2.1 })
  (e:A3 V4 ls4 ev4=(A3 V3 ls3 ev).Gy (AF.BX V.w u).2.2.1):A3 V4 ls4 ev4=(A3 V ls ev).named k u:=by
 rw [e,e3]
 exact(if_pos c).symm
theorem YJ {V V4:AL}{ls ls4:Vector BI 4}{ev ev4:List Event}{k:Int}{u:Aq}(c:decide ((AF.BX V.w u).2.2.2=0)=false)(c2:decide ((AF.BX V.w u).2.2.2=4)=true)
  (e:A3 V4 ls4 ev4=(A3 V ls ev).tell k AI.noRoom):A3 V4 ls4 ev4=(A3 V ls ev).named k u:=e.trans ((if_neg (by show ¬ decide ((AF.BX V.w u).2.2.2=0)=true;rw [c];decide)).trans (if_pos c2)).symm
theorem Ye {V V4:AL}{ls ls4:Vector BI 4}{ev ev4:List Event}{k:Int}{u:Aq}(c:decide ((AF.BX V.w u).2.2.2=0)=false)(c2:decide ((AF.BX V.w u).2.2.2=4)=false)
  (e:A3 V4 ls4 ev4=(A3 V ls ev).tell k AI.RA):A3 V4 ls4 ev4=(A3 V ls ev).named k u:=e.trans ((if_neg (by show ¬ decide ((AF.BX V.w u).2.2.2=0)=true;rw [c];decide)).trans (if_neg (by show ¬ decide ((AF.BX V.w u).2.2.2=4)=true;rw [c2];decide))).symm
theorem UG {V V4:AL}{ls ls4:Vector BI 4}{ev ev4:List Event}{k:Int}{u:Aq}(h0:0≤k)(h1:k < 4)(c:(!decide ((Words.parse u).2=0))=false)(c2:decide ((Words.parse u).1.verb=20)=false)
  (e:A3 V4 ls4 ev4=(A3 { V with w:=(AF.EA V.w (V.Ao.at k).Au (Words.parse u).1).1 } ls ev).Gy (AF.EA V.w (V.Ao.at k).Au (Words.parse u).1).2.1):A3 V4 ls4 ev4=(A3 V ls ev).order k u:=by
 rw [e,Nd]
 have ha:=B4 V ls ev h0 h1
 unfold AI.order
 rw [if_neg (by rw [c];decide),if_neg (by rw [c2];decide),ha]
 rfl
theorem U4 {V:AL}{ls:Vector BI 4}{ev:List Event}{k:Int}(h0:0≤k)(h1:k < 4)(c:decide ((V.Ao.at k).state=0)=true):A3 V ls ev=(A3 V ls ev).EN k:=by
 have ha:=B4 V ls ev h0 h1
 exact(if_pos (show decide (((A3 V ls ev).at_ k).state=0)=true by rw [ha];exact c)).symm
theorem VS {V:AL}{ls:Vector BI 4}{ev:List Event}{k:Int}(h0:0≤k)(h1:k < 4){sv:A2}{sl:BI}(hs:V.Ao.at k=sv)(hl:ls.at k=sl)(hq:sl.queue = [])(c:decide ((V.Ao.at k).state=0)=false) :
  A3 (V.BL k sv) (ls.put k ⟨sl.queue,sl.wait,sl.told⟩) ev=(A3 V ls ev).EN k:=by
 have ha:=B4 V ls ev h0 h1
 rw [Ek h0 h1 hs hl (f:=fun x=>x) rfl,AI.L1 _ h0 h1]
 unfold AI.EN
 rw [if_neg (show ¬ decide (((A3 V ls ev).at_ k).state=0)=true by rw [ha];show ¬ decide ((V.Ao.at k).state=0)=true;rw [c];decide)]
 have e:((A3 V ls ev).at_ k).queue = []:=by rw [ha,hl];exact hq
 split
 ·rfl
 ·rename_i q r e2;rw [e] at e2;cases e2
theorem Dg {V:AL}{ls:Vector BI 4}{ev:List Event}{k:Int}(h0:0≤k)(h1:k < 4){sv:A2}{sl:BI}(hs:V.Ao.at k=sv)(hl:ls.at k=sl){q:Aq}{r:List Aq}(hq:sl.queue=q :: r)(c:decide ((V.Ao.at k).state=0)=false)(h':Hd) :
  A3 (V.BL k { sv with EE:=⟨sv.EE.now,sv.EE.Cq,sv.EE.ret,h'⟩,out:=⟨sv.out.wait,0,false,sv.out.ring,sv.out.cut⟩ }) (ls.put k ⟨r,sl.wait,sl.told⟩) ev=(A3 V ls ev).set k { (A3 V ls ev).at_ k with queue:=r }.Fw∧((A3 V ls ev).at_ k).queue=q :: r ∧
  (A3 V ls ev).EN k=if sv.out.B6=true then(A3 V ls ev).set k { (A3 V ls ev).at_ k with queue:=r }.Fw else if decide (sv.state=1)=true then((A3 V ls ev).set k { (A3 V ls ev).at_ k with queue:=r }.Fw).named k (Words.QA 32 (Words.Rq 32 q)) else((A3 V ls ev).set k { (A3 V ls ev).at_ k with queue:=r }.Fw).order k q:=by
 have ha:=B4 V ls ev h0 h1
 have e:((A3 V ls ev).at_ k).queue=q :: r:=by rw [ha,hl];exact hq
 refine⟨Ek h0 h1 hs hl (f:=fun x=>{ x with queue:=r }.Fw) rfl,e,?_⟩
 unfold AI.EN
 rw [if_neg (show ¬ decide (((A3 V ls ev).at_ k).state=0)=true by rw [ha];show ¬ decide ((V.Ao.at k).state=0)=true;rw [c];decide)]
 split
 ·rename_i e2;rw [e] at e2;cases e2
 ·rename_i q' r' e2
  rw [e] at e2
  obtain⟨rfl,rfl⟩:=List.cons.inj e2
  have e3:((A3 V ls ev).at_ k).pg.B6=sv.out.B6:=by rw [ha,hs];rfl
  have e4:((A3 V ls ev).at_ k).state=sv.state:=by rw [ha,hs];rfl
  simp only [e3,e4]
theorem TB {H:AI}{i:Int}(h0:0≤i):H.turns (i+1).toNat=(H.turns i.toNat).EN i:=by
 obtain⟨m,rfl⟩:=Int.eq_ofNat_of_zero_le h0
 rfl
end Go.Ing
/- A house: who comes, bytes that come: plain laws for the walks. -/
namespace Go.Ing
open Go
def YK:Hd:=⟨none,0,0⟩
def ER (t:AP)(g:Page.Pg):A2:=⟨1,-1,t,⟨[],false,false,YK⟩,⟨YK,g.shown,g.B6,g.ring,g.cut⟩,YK⟩
def YW:BI:=⟨[],[],[]⟩
theorem SA {v:A2}{l:BI}{u:Aq}(hw:v.out.wait.len=l.wait.length):(Cl v l).send u=Cl { v with out:=⟨v.out.wait,(Page.send v.out u).1.shown,(Page.send v.out u).1.B6,(Page.send v.out u).1.ring,(Page.send v.out u).1.cut⟩ } l:=by
 unfold Az.send Page.send
 rw [JB hw]
 cases h:Page.Bb v.out with
 | false=>rfl
 | true=>
  have e:(Cl v l).pg.cut=v.out.cut:=rfl
  cases hc:v.out.cut with
  | true=>rw [e,hc];show Cl v l=Cl { v with out:=⟨v.out.wait,v.out.shown,v.out.B6,v.out.ring,v.out.cut⟩ } l;rfl
  | false=>rw [e,hc];rfl
def II (t:AP)(opt:Int):AP:=if decide ((t.DM opt).2.1 = [])=true then((t.DM opt).1.Ask opt).1 else(t.DM opt).1
def MR (t:AP)(opt:Int):Aq:=if decide ((t.DM opt).2.1 = [])=true then(t.DM opt).2.1++((t.DM opt).1.Ask opt).2.1 else(t.DM opt).2.1 ++ []
def Ky (t:AP)(g:Page.Pg)(opt:Int):Page.Pg:=(Page.send ⟨YK,g.shown,g.B6,g.ring,g.cut⟩ (MR t opt)).1
theorem Mm (t:AP)(g:Page.Pg)(opt:Int):(Cl (ER t g) YW).offer opt=Cl (ER (II t opt) (Ky t g opt)) YW:=by
 have h:=SA (v:=ER (II t opt) g) (l:=YW) (u:=MR t opt) rfl
 unfold Az.offer
 have e:(Cl (ER t g) YW).Dw=t:=rfl
 rw [e]
 by_cases c:decide ((t.DM opt).2.1 = [])=true
 ·rw [if_pos c]
  have e1:II t opt=((t.DM opt).1.Ask opt).1:=if_pos c
  have e2:MR t opt = []++((t.DM opt).1.Ask opt).2.1:=(if_pos c).trans (by rw [of_decide_eq_true c])
  rw [← e1,← e2]
  exact h
 ·rw [if_neg c]
  have e1:II t opt=(t.DM opt).1:=if_neg c
  have e2:MR t opt=(t.DM opt).2.1 ++ []:=if_neg c
  rw [← e1,← e2]
  exact h
def Du (j:Int):Int:=(((Vector.replicate 2 (default:Int)).put 0 3).put 1 31).at j
def Ev:Nat→AP × Page.Pg
 | 0=>(default,⟨0,false,[],false⟩)
 | j+1=>(II (Ev j).1 (Du j),Ky (Ev j).1 (Ev j).2 (Du j))
theorem G7 {j:Int}(h0:0≤j):Ev (j+1).toNat=(II (Ev j.toNat).1 (Du j),Ky (Ev j.toNat).1 (Ev j.toNat).2 (Du j)):=by
 obtain⟨m,rfl⟩:=Int.eq_ofNat_of_zero_le h0
 rfl
theorem OQ:Cl (ER (Ev 2).1 (Ev 2).2) YW=(({ (default:Az) with state:=1,Au:=-1 }).offer 3).offer 31:=by
 have h0:({ (default:Az) with state:=1,Au:=-1 }:Az)=Cl (ER (Ev 0).1 (Ev 0).2) YW:=rfl
 rw [h0,Mm,Mm]
 rfl
theorem FV (t:AP)(opt:Int):(t.DM opt).2.1.length≤3:=by
 unfold AP.DM
 split
 ·exact Nat.zero_le _
 ·split
  ·exact Nat.zero_le _
  ·split
   ·exact Nat.zero_le _
   ·exact Nat.le_refl 3
theorem Hp (t:AP)(opt:Int):(t.Ask opt).2.1.length≤3:=by
 unfold AP.Ask
 split
 ·exact Nat.zero_le _
 ·split
  ·exact Nat.zero_le _
  ·split
   ·exact Nat.zero_le _
   ·exact Nat.le_refl 3
theorem AI.Fit.comes {H:AI}{n m:Nat}(h:H.Fit n m){k:Int}(h0:0≤k)(h1:k < 4)(t:AP)(g:Page.Pg):(H.set k (Cl (ER t g) YW)).Fit n m:=
 h.set h0 h1 (Nat.zero_le _) (fun e=>absurd (show(1:Int)=2 from e) (by decide)) (fun u hu=>by cases hu) ⟨Nat.zero_le _,fun u hu=>by cases hu⟩
theorem AI.Fit.K1 {H:AI}{n m:Nat}(h:H.Fit n m){k:Int}(h0:0≤k)(h1:k < 4):(H.K1 k).Fit (n+221) (m+220):=by
 unfold AI.K1
 rw [← OQ]
 exact((h.comes h0 h1 _ _).tell h0 h1 (show AI.Hm.length≤_ by decide)).Be.mono (by omega) (by omega)
end Go.Ing
/- A house: an act: plain laws for the walks. -/
namespace Go.Ing
open Go
theorem Pz {v:A2}{l:BI}(h:v.EE.queue.len=l.queue.length):(Cl v l).LG=Bg.Bb v.EE l.queue:=by
 unfold Az.LG Bg.Bb Bg.JI
 rw [h];rfl
theorem Vk {v:A2}{l:BI}{u:Aq}(h:v.EE.queue.len=l.queue.length)(c:Bg.Bb v.EE l.queue=false):(Cl v l).typed u=(Cl v l,0):=if_pos (by rw [Pz h,c];rfl)
theorem Wf {v:A2}{l:BI}{u:Aq}(h:v.EE.queue.len=l.queue.length)(c:Bg.Bb v.EE l.queue=true)(q:Hd) :
  (Cl v l).typed u=(Cl { v with EE:=⟨(Bg.feed (Bg.start v.EE l.queue) u).now,(Bg.feed (Bg.start v.EE l.queue) u).Cq,(Bg.feed (Bg.start v.EE l.queue) u).ret,q⟩ } ⟨(Bg.feed (Bg.start v.EE l.queue) u).queue,l.wait,l.told⟩,(Bg.feed (Bg.start v.EE l.queue) u).lost):=
 (if_neg (by rw [Pz h,c];decide)).trans rfl
theorem Sa (s:Az)(u:Aq):(s.typed u).1.told=s.told∧(s.typed u).1.state=s.state∧(s.typed u).1.Au=s.Au∧(s.typed u).1.wait=s.wait∧(AI.aJ s.queue→AI.aJ (s.typed u).1.queue):=by
 unfold Az.typed
 split
 ·exact⟨rfl,rfl,rfl,rfl,fun h=>h⟩
 ·rename_i c
  refine⟨rfl,rfl,rfl,rfl,fun _=>?_⟩
  have hg:Bg.Bb ⟨s.now,s.Cq,s.ret,⟨none,s.queue.length,0⟩⟩ s.queue=true:=by
   have:s.LG=true:=by simpa using c
   exact this
  have ho:=Bg.Tq u ((Bg.GX (l:=⟨s.now,s.Cq,s.ret,⟨none,s.queue.length,0⟩⟩) rfl).1 hg)
  exact⟨ho.len,fun q hq=>((Bg.F6 q).1 (ho.queue q hq)).1⟩
theorem Ng (s:Az)(u:Aq):(s.send u).told=s.told∧(s.send u).state=s.state∧(s.send u).Au=s.Au∧(s.send u).wait=s.wait∧(s.send u).queue=s.queue:=by
 unfold Az.send
 split
 ·exact⟨rfl,rfl,rfl,rfl,rfl⟩
 ·split<;>exact⟨rfl,rfl,rfl,rfl,rfl⟩
def C1 (s:Az)(u:Aq):Az × Int:=(s.bytes u).1.typed (s.bytes u).2
theorem F0 (s:Az)(u:Aq):(C1 s u).1.told=s.told∧(C1 s u).1.state=s.state∧(C1 s u).1.Au=s.Au∧(C1 s u).1.wait=s.wait∧(AI.aJ s.queue→AI.aJ (C1 s u).1.queue):=by
 have h1:=Sa (s.bytes u).1 (s.bytes u).2
 have h2:=Ng { s with Dw:=(s.Dw.Df u).1 } (s.Dw.Df u).2.2.1
 obtain⟨a,b,c,d,e⟩:=h1
 obtain⟨a',b',c',d',e'⟩:=h2
 exact⟨a.trans a',b.trans b',c.trans c',d.trans d',fun hq=>e (by rw [show(s.bytes u).1.queue=s.queue from e'];exact hq)⟩
theorem Il (H:AI)(k:Int)(u:Aq):H.byte k u=(if decide (0 < (C1 (H.at_ k) u).2)=true then(H.set k (C1 (H.at_ k) u).1).tell k AI.N9 else H.set k (C1 (H.at_ k) u).1).Be:=rfl
def heard (v:A2)(u:Aq):A2:={ v with Dw:=(v.Dw.Df u).1,out:=⟨v.out.wait,(Page.send v.out (v.Dw.Df u).2.2.1).1.shown,(Page.send v.out (v.Dw.Df u).2.2.1).1.B6,(Page.send v.out (v.Dw.Df u).2.2.1).1.ring,(Page.send v.out (v.Dw.Df u).2.2.1).1.cut⟩ }
theorem Pu {v:A2}{l:BI}{u:Aq}(hw:v.out.wait.len=l.wait.length):(Cl v l).bytes u=(Cl (heard v u) l,(v.Dw.Df u).2.1):=by
 unfold Az.bytes
 exact congrArg (fun x=>(x,_)) (SA (v:={ v with Dw:=(v.Dw.Df u).1 }) (l:=l) (u:=(v.Dw.Df u).2.2.1) hw)
theorem HL {v:A2}{l:BI}{u:Aq}(hw:v.out.wait.len=l.wait.length)(h:v.EE.queue.len=l.queue.length)(c:Bg.Bb v.EE l.queue=false):C1 (Cl v l) u=(Cl (heard v u) l,0):=by
 unfold C1
 rw [Pu hw]
 exact Vk (v:=heard v u) h c
theorem Im {v:A2}{l:BI}{u:Aq}(hw:v.out.wait.len=l.wait.length)(h:v.EE.queue.len=l.queue.length)(c:Bg.Bb v.EE l.queue=true)(q:Hd) :
  C1 (Cl v l) u=(Cl { heard v u with EE:=⟨(Bg.feed (Bg.start v.EE l.queue) (v.Dw.Df u).2.1).now,(Bg.feed (Bg.start v.EE l.queue) (v.Dw.Df u).2.1).Cq,(Bg.feed (Bg.start v.EE l.queue) (v.Dw.Df u).2.1).ret,q⟩ } ⟨(Bg.feed (Bg.start v.EE l.queue) (v.Dw.Df u).2.1).queue,l.wait,l.told⟩,(Bg.feed (Bg.start v.EE l.queue) (v.Dw.Df u).2.1).lost):=by
 unfold C1
 rw [Pu hw]
 exact Wf (v:=heard v u) h c q
namespace AI
variable {H:AI} {n m:Nat}
theorem RL {i:Int}(h0:0≤i):H.Ec (i+1).toNat=(H.Ec i.toNat).set i { (H.Ec i.toNat).at_ i with told:= [] }:=by
 obtain⟨k,rfl⟩:=Int.eq_ofNat_of_zero_le h0
 rfl
theorem HG:∀ k:Nat,(H.Ec k).w=H.w∧(H.Ec k).last=H.last∧(H.Ec k).CW=H.CW
 | 0=>⟨rfl,rfl,rfl⟩
 | k+1=>HG k
theorem Od:∀ k:Nat,k≤4→∀ j:Int,0≤j→j < 4→(H.Ec k).at_ j=if j < k then { H.at_ j with told:= [] } else H.at_ j
 | 0,_,j,j0,_=>by rw [if_neg (by omega)];rfl
 | k+1,hk,j,j0,j1=>by
  have ih:=Od k (by omega)
  show(((H.Ec k).set k _).at_ j)=_
  rw [Di _ (by omega) (by omega) j0]
  by_cases c:j=(k:Int)
  ·subst c
   rw [if_pos rfl,if_pos (by omega),ih _ j0 j1,if_neg (by omega)]
  ·rw [if_neg c,ih j j0 j1]
   by_cases c2:j < (k:Int)
   ·rw [if_pos c2,if_pos (by omega)]
   ·rw [if_neg c2,if_neg (by omega)]
theorem JY {j:Int}(j0:0≤j)(j1:j < 4):H.begun.at_ j={ H.at_ j with told:= [] }:=by
 have:=Od (H:={ H with CW:=H.CW+1,last:= [] }) 4 (Nat.le_refl 4) j j0 j1
 rw [if_pos (by omega)] at this
 exact this
theorem Fit.begun (h:H.Fit n m):H.begun.Fit 0 0:=by
 have hs:=HG (H:={ H with CW:=H.CW+1,last:= [] }) 4
 refine⟨by show(Ec _ 4).w.LK;rw [hs.1];exact h.Fe,fun j a b=>?_,by show(Ec _ 4).last.length≤0;rw [hs.2.1];exact Nat.le_refl 0,fun j a b=>?_,fun j a b=>?_,fun j a b=>?_⟩<;>rw [JY a b]
 ·exact Nat.le_refl 0
 ·exact h.Au j a b
 ·exact h.wait j a b
 ·exact h.queue j a b
theorem Fit.typed (h:H.Fit n m){k:Int}(h0:0≤k)(h1:k < 4)(u:Aq):(H.set k (C1 (H.at_ k) u).1).Fit n m:=by
 obtain⟨a,b,c,d,e⟩:=F0 (H.at_ k) u
 exact h.set h0 h1 (by rw [a];exact h.told k h0 h1) (by rw [b,c];exact h.Au k h0 h1) (by rw [d];exact h.wait k h0 h1) (e (h.queue k h0 h1))
theorem Fit.HO (h:H.Fit n m){k:Int}(h0:0≤k)(h1:k < 4)(z:Int):(H.set k ((H.at_ k).HO z)).Fit n m:=
 h.set h0 h1 (h.told k h0 h1) (h.Au k h0 h1) (h.wait k h0 h1) (h.queue k h0 h1)
theorem Fit.Ni (h:H.Fit n m)(d:Int):(H.Ni d).Fit (n+400) (m+400):=by
 have h1:=KF h 4 (Nat.le_refl 4)
 have hr:=AF.LH (draw:=d) h1.Fe
 have hl:=AF.Px h1.Fe.H3 d
 exact(((h1.land hr.1).Gy hr.2).Be).mono (by omega) (by omega)
theorem Fit.byte (h:H.Fit 0 0){k:Int}(h0:0≤k)(h1:k < 4)(u:Aq):(H.byte k u).Fit 1000 1000:=by
 rw [Il]
 refine(Fit.Be (n:=1) (m:=0) ?_).mono (by omega) (by omega)
 split
 ·exact(h.typed h0 h1 _).tell h0 h1 (show N9.length≤_ by decide)
 ·exact(h.typed h0 h1 _).mono (by omega) (by omega)
theorem JE (P:AI→Prop)(h0:P H)(hp:∀ d,P (H.Ni d))(hc:∀ k,0≤k→k < 4→P (H.K1 k))(hb:∀ k u,0≤k→k < 4→P (H.byte k u))(ht:∀ k z,0≤k→k < 4→P ((H.set k ((H.at_ k).HO z)).Be))(hl:∀ k,0≤k→k < 4→P (H.leave k).Be)(a:B0):P (H.Dy a).1:=by
 unfold AI.Dy
 split
 ·dsimp only;exact hp a.n
 ·split
  ·dsimp only;exact h0
  ·split
   ·dsimp only;exact h0
   ·rename_i c
    have hs:0≤a.BL∧a.BL < 4:=by simp only [Bool.or_eq_true,decide_eq_true_eq] at c;omega
    split
    ·dsimp only;exact h0
    ·split
     ·dsimp only;exact hc _ hs.1 hs.2
     ·split
      ·dsimp only;exact hb _ _ hs.1 hs.2
      ·split
       ·dsimp only;exact ht _ _ hs.1 hs.2
       ·dsimp only;exact hl _ hs.1 hs.2
theorem Fit.Dy (h:H.Fit 0 0)(a:B0):(H.Dy a).1.Fit 1000 1000:=
 JE (fun X=>X.Fit 1000 1000) (h.mono (by omega) (by omega)) (fun d=>(h.Ni d).mono (by omega) (by omega)) (fun k h0 h1=>(h.K1 h0 h1).mono (by omega) (by omega)) (fun k u h0 h1=>h.byte h0 h1 u)
  (fun k z h0 h1=>((h.HO h0 h1 z).Be).mono (by omega) (by omega)) (fun k h0 h1=>((h.leave h0 h1).Be).mono (by omega) (by omega)) a
theorem Fit.act (h:H.Fit n m)(a:B0):(H.act a).1.Fit (n+1000) (m+1000):=by
 unfold AI.act
 split
 ·exact h.mono (by omega) (by omega)
 ·exact(h.begun.Dy a).mono (by omega) (by omega)
theorem G3 {H:AI}(c:decide (400≤H.CW)=false)(a:B0):H.act a=H.begun.Dy a:=if_neg (by rw [c];decide)
end AI
theorem Gq (V:AL)(ls:Vector BI 4)(ev:List Event){k:Int}(h0:0≤k)(h1:k < 4):decide (((A3 V ls ev).at_ k).state=0)=decide ((V.Ao.at k).state=0):=by rw [B4 V ls ev h0 h1];rfl
theorem E9 {V:AL}{ls:Vector BI 4}{ev:List Event}{k:Int}(h0:0≤k)(h1:k < 4){sv v:A2}{sl l:BI}(hs:V.Ao.at k=sv)(hl:ls.at k=sl){u:Aq}{z:Int}(e:C1 (Cl sv sl) u=(Cl v l,z)) :
  A3 (V.BL k v) (ls.put k l) ev=(A3 V ls ev).set k (C1 ((A3 V ls ev).at_ k) u).1∧(C1 ((A3 V ls ev).at_ k) u).2=z:=by
 have ha:C1 ((A3 V ls ev).at_ k) u=(Cl v l,z):=by rw [B4 V ls ev h0 h1,hs,hl];exact e
 rw [IX V ls ev h0 h1,ha]
 exact⟨rfl,rfl⟩
theorem Iq {V V2:AL}{ls ls2:Vector BI 4}{ev:List Event}{k:Int}(h0:0≤k)(h1:k < 4){u:Aq}{z:Int}(e:A3 V2 ls2 ev=(A3 V ls ev).set k (C1 ((A3 V ls ev).at_ k) u).1∧(C1 ((A3 V ls ev).at_ k) u).2=z)(hF:(A3 V ls ev).Fit 0 0):(A3 V2 ls2 ev).Fit 0 0:=by
 rw [e.1];exact hF.typed h0 h1 u
theorem Le {V V2 V3 V4:AL}{ls ls2 ls3 ls4:Vector BI 4}{ev ev3 ev4:List Event}{k:Int}(_:0≤k)(_:k < 4){u:Aq}{z:Int}(e:A3 V2 ls2 ev=(A3 V ls ev).set k (C1 ((A3 V ls ev).at_ k) u).1∧(C1 ((A3 V ls ev).at_ k) u).2=z)
  (e3:(decide (0 < z)=true∧A3 V3 ls3 ev3=(A3 V2 ls2 ev).tell k AI.N9)∨(decide (0 < z)=false∧A3 V3 ls3 ev3=A3 V2 ls2 ev)) (e4:A3 V4 ls4 ev4=(A3 V3 ls3 ev3).Be):A3 V4 ls4 ev4=(A3 V ls ev).byte k u:=by
 rw [e4,Il,e.2]
 rcases e3 with ⟨c,e3⟩ | ⟨c,e3⟩
 ·rw [e3,if_pos c,e.1]
 ·rw [e3,if_neg (by rw [c];decide),e.1]
theorem XB (V:AL)(ls:Vector BI 4)(ev:List Event){k:Int}(h0:0≤k)(h1:k < 4){sv:A2}(hs:V.Ao.at k=sv)(n:Int):sv.out.ring.take (max 0 (min n (sv.out.ring.length:Int))).toNat=((A3 V ls ev).at_ k).out n:=by
 rw [B4 V ls ev h0 h1,hs];rfl
theorem Va (t:AP)(u:Aq):(t.Df u).2.1.length≤u.length:=by
 unfold AP.Df
 split
 ·exact Nat.zero_le _
 ·exact(AP.Wz u t).1
end Go.Ing
/- A house, from outside: plain laws for the walks. -/
namespace Go.Ing
open Go
namespace AI
def I8 (H:AI)(i:Int):Int × Int:=if decide ((H.at_ i).state=2)=true then(2,(H.at_ i).Au) else((H.at_ i).state,-1)
theorem SL:∀(l:List B0) (H:AI) (a:B0),run H (l ++ [a])=(((run H l).1.act a).1,(run H l).2 ++ [((run H l).1.act a).2])
 | [],_,_=>rfl
 | b :: r,H,a=>by
  have ih:=SL r (H.act b).1 a
  show((run (H.act b).1 (r ++ [a])).1,(H.act b).2 :: (run (H.act b).1 (r ++ [a])).2)=_
  rw [ih];rfl
theorem Xv {H:AI}{xs:List B0}{k:Int}(h0:0≤k)(h1:k < xs.length):run H (xs.take (k+1).toNat)=(((run H (xs.take k.toNat)).1.act (xs.getD k.toNat default)).1,(run H (xs.take k.toNat)).2 ++ [((run H (xs.take k.toNat)).1.act (xs.getD k.toNat default)).2]):=by
 obtain⟨m,rfl⟩:=Int.eq_ofNat_of_zero_le h0
 have hm:m < xs.length:=by omega
 show run H (xs.take (m+1))=(((run H (xs.take m)).1.act (xs.getD m default)).1,(run H (xs.take m)).2 ++ [((run H (xs.take m)).1.act (xs.getD m default)).2])
 rw [List.take_add_one,List.getElem?_eq_getElem hm,List.getD_eq_getElem?_getD,List.getElem?_eq_getElem hm]
 exact SL _ _ _
def Fits (H:AI):Prop:=∃ n m,H.Fit n m
theorem Fits.act {H:AI}(h:H.Fits)(a:B0):(H.act a).1.Fits:=by
 obtain⟨n,m,h⟩:=h
 exact⟨_,_,h.act a⟩
theorem Fits.run:∀(l:List B0) {H:AI},H.Fits→(run H l).1.Fits
 | [],_,h=>h
 | a :: r,_,h=>Fits.run r (h.act a)
theorem UZ:AH.new.LK:=by
 refine⟨fun i=>?_,fun i=>?_,fun i=>?_⟩
 ·rcases Vector.OB AH.new.AO i with e | ⟨j,j0,j1,e⟩
  ·rw [e];exact Nat.zero_le _
  ·rw [e]
   have:j=0∨j=1∨j=2∨j=3∨j=4∨j=5∨j=6∨j=7∨j=8:=by omega
   rcases this with h | h | h | h | h | h | h | h | h<;>subst h<;>decide
 ·rcases Vector.OB AH.new.AM i with e | ⟨j,j0,j1,e⟩
  ·rw [e];exact Nat.zero_le _
  ·rw [e]
   have:j=0∨j=1∨j=2∨j=3∨j=4∨j=5:=by omega
   rcases this with h | h | h | h | h | h<;>subst h<;>decide
 ·rcases Vector.OB AH.new.BT i with e | ⟨j,j0,j1,e⟩
  ·rw [e];exact Nat.zero_le _
  ·rw [e]
   have:j=0∨j=1∨j=2∨j=3∨j=4∨j=5:=by omega
   rcases this with h | h | h | h | h | h<;>subst h<;>decide
theorem OP {k:Int}(h0:0≤k)(h1:k < 4):AI.new.at_ k=default:=by
 rcases four h0 h1 with e | e | e | e<;>subst e<;>rfl
theorem YB:AI.new.Fit 0 0:=by
 refine⟨UZ,fun k a b=>?_,Nat.le_refl 0,fun k a b=>?_,fun k a b=>?_,fun k a b=>?_⟩<;>rw [OP a b]
 ·exact Nat.le_refl 0
 ·exact fun e=>absurd (show(0:Int)=2 from e) (by decide)
 ·exact fun u hu=>by cases hu
 ·exact⟨Nat.zero_le _,fun u hu=>by cases hu⟩
end AI
theorem St.Yr {w0 w:World}{M:List Nat}{L l:List Ac}(h:St w0 M w L)(hl:∀ r∈l,r.CT = []∧r.ok w):St w0 M w (Ac.Dv l :: L):=by
 have hf:(Ac.Dv l).CT = []:=by
  show l.flatMap Ac.CT = []
  rw [List.flatMap_eq_nil_iff]
  exact fun r hr=>(hl r hr).1
 refine⟨h.os,h.tape,h.output,h.size,h.I0,fun r hr=>?_,fun r hr=>?_,List.pairwise_cons.2 ⟨fun s hs b hb=>?_,h.I3⟩⟩
 ·rcases List.mem_cons.1 hr with rfl | hr
  ·refine⟨fun r hr=>(hl r hr).2,?_⟩
   refine List.Pairwise.imp_of_mem (R:=fun _ _=>True) (fun {a b} ha hb _ x hx=>?_) (List.pairwise_of_forall (fun _ _=>trivial))
   rw [(hl a ha).1] at hx;cases hx
  ·exact h.ok r hr
 ·rcases List.mem_cons.1 hr with rfl | hr
  ·rw [hf];exact fun b hb=>by cases hb
  ·exact h.CT r hr
 ·rw [hf] at hb;cases hb
def NG:Vector A2 4:=Vector.replicate 4 default
def NH:Vector BI 4:=Vector.replicate 4 ⟨[],[],[]⟩
theorem XV (T:Nat)(w:World):∀ r∈CG T NG NH,r.CT = []∧r.ok w:=by
 have hs:∀ r∈Fc T default ⟨[],[],[]⟩,r.CT = []∧r.ok w:=fun r hr=>by
  unfold Fc at hr
  simp only [List.mem_cons,List.mem_nil_iff,or_false] at hr
  rcases hr with rfl | rfl | rfl<;>exact⟨rfl, .inl ⟨rfl,rfl⟩⟩
 intro r hr
 have e:CG T NG NH=Fc T default ⟨[],[],[]⟩++(Fc T default ⟨[],[],[]⟩++(Fc T default ⟨[],[],[]⟩++Fc T default ⟨[],[],[]⟩)):=rfl
 rw [e] at hr
 simp only [List.mem_append] at hr
 rcases hr with h | h | h | h<;>exact hs r h
def B9 (v:A2):Int × Int:=if decide (v.state=2)=true then(2,v.Au) else(v.state,-1)
theorem Qe (V:AL)(ls:Vector BI 4)(ev:List Event){i:Int}(h0:0≤i)(h1:i < 4):B9 (V.Ao.at i)=(A3 V ls ev).I8 i:=by
 unfold AI.I8
 rw [B4 V ls ev h0 h1]
 rfl
end Go.Ing
/- Engine: calls of closures that read what they are handed; slices that are only read, beside boxes. -/
namespace Go.Ing
open Go
section
variable {P:Program} {n:Nat} {w0:World} {M:List Nat} {Q:Exit→Go.Act→World→Prop} {F:List (Nat × Value)} {L:List Ac} {ops:Array Oper} {rest:List Oper}
def cw (w:World)(M:List Nat)(h:Hd)(T sz:Nat)(cs:List Value):Prop:=Rd w h T sz cs∧(cs≠ []→∀ b o,h.a=some ⟨b,o,none⟩→b ∉ M)
theorem Kn.Yi {h:Hd}{T sz:Nat}{cs:List Value}(hr:cw w0 M h T sz cs):Kn w0 M L h T sz cs:=fun w hS=>by
 by_cases hc:cs = []
 ·subst hc;exact⟨hr.1.1,fun h=>absurd rfl h⟩
 ·exact hS.eE hr.1 (hr.2 hc)
theorem XK {α β:Type}{ea:α→List Value}{eb:β→List Value}{p q:Nat}{g:α→β}{s:α→β→α}{T U f E:Nat}{fs:Array Field}{x:Operand}{X:α}{v:Value}(hl:AU ea eb p q g s)(hu:P.underlying T=some (.struct fs))(hf:(fs[f]?).map (fun fd=>(fd.offset,fd.type))=some (p,E))(hE:Ql P E)(hx:ev F x=some (.agg (ea X).toArray))(hv:eb (g X) = [v]):PS P n w0 M (.field T x f) U F L v L:=CL fun a w hF=>by
 cases h:fs[f]? with
 | none=>rw [h] at hf;cases hf
 | some fd=>
  rw [h] at hf
  simp at hf
  obtain⟨rfl,rfl⟩:=hf
  have hg:=hl.get X
  have hb:=hl.V9 X
  have hq:q=1:=by rw [← hl.len (g X),hv];rfl
  subst hq
  rw [hv,List.drop_eq_getElem_cons (by omega),List.take_succ_cons,List.take_zero] at hg
  have hc:(ea X)[fd.offset]?=some v:=by
   rw [List.getElem?_eq_getElem (by omega),List.head_eq_of_cons_eq hg]
  have hE':=hE w
  simp [execOp,Instr.field,hF.ev hx,underlying,hu,h,part,hE',asAgg,hc]
end
theorem Rd.pull {w0 w:World}{L A K:List Ac}{h:Hd}{T sz:Nat}{cs:List Value}(hr:Rd w0 h T sz cs)(hS:St w0 [] w L)(hp:Ax L A K):cw w (Cf A) h T sz cs:=
 ⟨hS.rd hr,fun hne b o e=>by
  obtain⟨b',o',C,fz,h1,h2,_⟩:=hr.2 hne
  rw [e] at h1
  injection h1 with h1
  injection h1 with h1
  subst h1
  exact OM h2 (by simp) hS hp⟩
instance:Inhabited AL:=⟨⟨default,Vector.replicate 4 default,0,⟨none,0,0⟩⟩⟩
end Go.Ing
/- Engine: the texts in a slice of acts that came in, and how much they can take. -/
namespace Go.Ing
open Go Go.RowKit Go.ChangeShapes Go.WideShapes Go.ChangeAt
section
variable {H:Type} {enc:TypeId × Value→H} {P:Program} {w:World}
theorem Mn {e:TypeId}{d:DataW H}:∀ {l:List (DataW H)},d∈l→∀ n∈d.weights P e,n∈DataW.weightsAll P e l
 | [],h,_,_=>by cases h
 | x :: r,h,n,hn=>by
  simp only [DataW.weightsAll]
  rcases List.mem_cons.1 h with rfl | h
  ·exact List.mem_append_left _ hn
  ·exact List.mem_append_right _ (Mn h n hn)
theorem TY {t E TS:TypeId}{fs:Array Field}{h:Hd}{d:DataW H}{p:List MemPlace}{T0:Nat}{xs:List B0}(hT:P.underlying t=some (.slice E))(hE:P.underlying E=some (.struct fs))(hf:(fs[3]?).map (fun f=>(f.type,f.offset))=some (TS,3))(hS:P.underlying TS=some .string)(zE:P.cellsOf E=4)(zS:P.cellsOf TS=1)
  (hd:DataW.Trod enc P w 0 (fun _=>true) true t h.val d p) (hr:Rd w h T0 4 (xs.flatMap B0.enc)) (hw:∀ n∈d.weights P t,n≤reachBytes):∀ a∈xs,a.bytes.length≤140737488351232:=by
 have hlen:h.len=xs.length:=hr.Mw B0.fl (by decide)
 intro a ha
 obtain⟨i,hi,rfl⟩:=List.getElem_of_mem ha
 have hb:∃ b o,h.a=some ⟨b,o,none⟩:=by
  have hne:xs.flatMap B0.enc≠ []:=fun e=>by
   have:=congrArg List.length e
   rw [Cz B0.fl.len] at this
   simp only [List.length_nil] at this
   omega
  obtain⟨b,o,_,_,e,_⟩:=hr.2 hne
  exact⟨b,o,e⟩
 obtain⟨b,o,hb⟩:=hb
 obtain⟨fuel,hfu⟩:=hd
 have hv:h.val = .slice (some ⟨b,o,none⟩) h.len h.cap:=by rw [← hb];rfl
 have hcs:h.val.cells.toList = [.slice (some ⟨b,o,none⟩) h.len h.cap]:=by rw [hv];rfl
 rw [hcs] at hfu
 rcases DataW.trod_slice hT hfu with ⟨h3,_⟩ | ⟨a',len,cap,elems,rest,m,_,h3,h4,_,hlc,_,h5,hel,_⟩
 ·simp at h3
 ·simp at h3
  obtain⟨rfl,rfl,rfl⟩:=h3
  have hd':d = .slice (elems.map (·.1)) (rest.map (·.1)):=congrArg Prod.fst h4
  have h6:=hel i (by omega)
  have hi':i < elems.length:=by omega
  rw [List.getElem?_eq_getElem hi',Option.bind_eq_some_iff] at h6
  obtain⟨c,h7,h9⟩:=h6
  obtain⟨ys,q,_,hx,hl,hlen',hfl⟩:=DataW.trod_struct hE h9
  cases hf3:fs[3]? with
  | none=>rw [hf3] at hf;cases hf
  | some f=>
   rw [hf3] at hf
   simp at hf
   obtain⟨rfl,hoff⟩:=hf
   have h1:=hfl 3 f hf3
   have h3s:3 < fs.size:=by
    rcases Nat.lt_or_ge 3 fs.size with h' | h'
    ·exact h'
    ·rw [Array.getElem?_eq_none h'] at hf3;cases hf3
   have h2:ys[3]?=some (ys[3]'(by omega)):=List.getElem?_eq_getElem (by omega)
   rw [h2,zS,hoff] at h1
   obtain⟨s,e1,e2,_⟩:=DataW.trod_string hS h1
   have hc:=World.cells?_some h7
   rw [zE] at hc
   have h10:=hc.2.2 3 (by omega)
   have h11:c[3]?=some (.string s):=by
    have:=congrArg (fun l=>l[0]?) e1
    simp only [List.getElem?_take,List.getElem?_drop] at this
    simpa using this
   obtain⟨b',o',C,fz,k1,k2,k3,k4⟩:=NV B0.fl B0.l3 hr hi (by decide)
   have k1':(some ⟨b,o,none⟩:Option Addr)=some ⟨b',o',none⟩:=hb.symm.trans k1
   injection k1' with k1'
   injection k1' with kb ko
   subst kb;subst ko
   rw [EY,EY] at h10
   unfold World.cell? at h10
   simp only [k2] at h10
   have k5:C[o+i * 4+3]?=some (BU xs[i].bytes):=by
    have:=congrArg (fun l=>l[0]?) k4
    simp only [List.getElem?_take,List.getElem?_drop] at this
    simpa [A7] using this
   have k6:BU xs[i].bytes = .string s:=by
    rw [h11] at h10
    have:C[o+i * 4+3]?=some (Value.string s):=by simpa using h10
    rw [k5] at this
    injection this
   have k7:s.data.toList=xs[i].bytes:=by
    simp [BU] at k6
    rw [← k6]
   have hmem:xs[i].bytes.length∈d.weights P t:=by
    rw [hd']
    simp only [DataW.weights,hT]
    refine List.mem_cons_of_mem _ (List.mem_append_left _ (Mn (d:=elems[i].1) (List.mem_map.2 ⟨elems[i],List.getElem_mem _,rfl⟩) _ ?_))
    have hx':elems[i].1 = .agg (ys.map (·.1)):=congrArg Prod.fst hx
    rw [hx']
    simp only [DataW.weights,hE]
    refine DataW.weights_mem_each (j:=3) (t:=f.type) (d:=(ys[3]'(by omega)).1) ?_ ?_ _ ?_
    ·rw [List.getElem?_map];simp [hf3]
    ·rw [List.getElem?_map,h2];rfl
    ·rw [e2,k7];simp [DataW.weights]
   exact hw _ hmem
end
end Go.Ing
/- What every turn keeps: a principle. -/
namespace Go.Ing
open Go
namespace AF
inductive Su (w:AH):Aq→Prop
 | word {s:Aq}:s∈ [MM,WW,Tb,KJ,Oc,Ot,bF,ZE,Z0,Qs]→Su w s
 | room (r:Int):Su w ([84,104,101,32]++(w.BT.at r).name ++ [46])
 | ways (r:Room):Su w (Io r 6)
 | list {s:Aq} (l:List Int):s∈ [[72,101,114,101,32,105,115],[89,111,117,32,104,97,118,101]]→Su w (Ru w s l ++ [46])
 | seen (k:Int):Su w ((w.AM.at k).name ++ [32,105,115,32,104,101,114,101,46])
inductive Shape (x:Aq)(w:AH):Event→Prop
 | aW {s:Aq}:Su w s→Shape x w { Fy 16 with text:=s }
 | said:Shape x w { Fy 7 with text:=x }
 | kind {k:Int}:k=15∨k=17→Shape x w (Fy k)
 | dir {k d:Int}:k=1∨k=2→Shape x w { Fy k with dir:=d }
 | Bs {k i:Int}:k=3∨k=4∨(8≤k∧k≤13)→Shape x w { Fy k with Bs:=(w.AO.at i).name }
 | G0 {k:Int}:k=8∨k=9→Shape x w { Fy k with Bs:=PY }
 | aV {i to:Int}:Shape x w { Fy 6 with other:=to,Bs:=(w.AO.at i).name }
 | Wx {i to:Int}:Shape x w { Fy 5 with Bs:=(w.AO.at i).name,text:=(w.AO.at to).name }
 | CC {Bz n:Int}:1≤n→n≤3→Shape x w { Fy 14 with other:=Bz,n:=n }
def ev (w:AH)(b:Int)(e:Event):Event:=w.Hj (Dm ⟨w,b,[]⟩ e) 6
theorem Ow (T:AF)(e:Event):(T.BP e).out=T.out ++ [ev T.w T.b e]:=rfl
structure Rel (x:Aq)(q:Prop)(b:Int)(R:AH→List Event→AH→Prop):Prop where
 refl:∀ w,R w [] w
 trans:∀ {X l Y m Z},R X l Y→R Y m Z→R X (l++m) Z
 bb:∀ {w e},Shape x w e→R w [ev w b e] w
 Bs:∀ {w:AH} {i:Int} {t:Al},t.name=(w.AO.at i).name→t.kind=(w.AO.at i).kind→R w [] (w.Gr i t)
 Bz:∀ {w:AH} {k f:Int},R w [] (w.C4 k { w.AM.at k with Bz:=f })
 shut:∀ {w:AH} {r d:Int} {v:Bool},R w [] (w.NB r d v)
 F3:∀ {w:AH} {d r:Int},R w [ev w b { Fy 1 with dir:=d }] (w.C4 b { w.AM.at b with room:=r,Bz:=0 })
 Gk:q→∀ {w},R w [ev w b (Fy 18)] w
 gone:∀ {X l w},R X l w→(∃ e∈l,(e.kind=18∨(e.kind=15∧b < 2))∧e.Db=b)→R X l (w.C4 b default)
structure On (R:AH→List Event→AH→Prop)(X:AH)(b:Int)(T:AF):Prop where
 b:T.b=b
 r:R X T.out T.w
theorem O5 (T:AF)(i j CY at_:Int):((T.place i CY at_).w.AO.at j).name=(T.w.AO.at j).name:=by
 show((T.w.AO.put i { T.w.AO.at i with CY:=CY,at_:=at_ }).at j).name=_
 unfold Vector.put Vector.at
 rw [List.getD_eq_getElem?_getD,List.getD_eq_getElem?_getD,List.getD_eq_getElem?_getD]
 simp only [Vector.toList_setIfInBounds]
 rw [List.getElem?_set]
 split
 ·rename_i h1
  split
  ·rw [h1];rfl
  ·rename_i h2
   rw [← h1,List.getElem?_eq_none (by omega)]
 ·rfl
theorem HF (w:AH)(b:Int)(e:Event):(ev w b e).kind=e.kind∧(ev w b e).Db=b:=by
 obtain⟨a1,a2,_⟩:=AH.KL w (Dm ⟨w,b,[]⟩ e) 6
 refine⟨a1.trans ?_,a2.trans ?_⟩
 ·unfold Dm;split<;>rfl
 ·unfold Dm;split<;>rfl
section
variable {x:Aq} {q:Prop} {b:Int} {R:AH→List Event→AH→Prop} (K:Rel x q b R) {X:AH} {T:AF}
include K
theorem On.start (X:AH):On R X b ⟨X,b,[]⟩:=⟨rfl,K.refl X⟩
theorem On.land (h:On R X b T){w':AH}(hr:R T.w [] w'):On R X b { T with w:=w' }:=⟨h.b,by have:=K.trans h.r hr;rwa [List.append_nil] at this⟩
theorem On.BP (h:On R X b T){e:Event}(he:Shape x T.w e):On R X b (T.BP e):=⟨h.b,by rw [Ow,h.b];exact K.trans h.r (K.bb he)⟩
theorem On.tell (h:On R X b T){s:Aq}(hs:Su T.w s):On R X b (T.tell s):=h.BP K (.aW hs)
theorem On.kind (h:On R X b T){k:Int}(hk:k=15∨k=17):On R X b (T.kind k):=h.BP K (.kind hk)
theorem On.cV (h:On R X b T){k:Int}(i:Int)(hk:k=3∨k=4∨(8≤k∧k≤13)):On R X b (T.Bs k i):=h.BP K (.Bs hk)
theorem On.C6 (h:On R X b T){i:Int}{t:Al}(hn:t.name=(T.w.AO.at i).name)(hk:t.kind=(T.w.AO.at i).kind):On R X b (T.C6 i t):=h.land K (w':=T.w.Gr i t) (K.Bs hn hk)
theorem On.place (h:On R X b T)(i CY at_:Int):On R X b (T.place i CY at_):=h.C6 K rfl rfl
theorem On.Ch (h:On R X b T)(k f:Int):On R X b (T.Ch k f):=h.land K (w':=T.w.C4 k { T.w.AM.at k with Bz:=f }) K.Bz
theorem On.C5 (h:On R X b T)(r d:Int)(v:Bool):On R X b (T.C5 r d v):=h.land K (w':=T.w.NB r d v) K.shut
theorem On.list (h:On R X b T){s:Aq}(hs:s∈ [[72,101,114,101,32,105,115],[89,111,117,32,104,97,118,101]])(l:List Int):On R X b (T.list s l):=h.tell K (.list l hs)
theorem On.look (h:On R X b T):On R X b T.look:=by
 have hk:∀ {T':AF},On R X b T'→∀ k:Nat,On R X b (T'.Fa k):=fun {T'} h' k=>by
  induction k with
  | zero=>exact h'
  | succ k ih=>
   unfold Fa
   split
   ·refine ih.tell K ?_
    rw [(KD T' k).1]
    exact .seen k
   ·exact ih
 unfold AF.look
 split
 ·exact h.tell K (.word (by simp))
 ·refine hk ?_ 6
  have ha:On R X b T.Je:=(h.tell K (.room _)).tell K (.ways _)
  unfold D9
  split
  ·exact ha.list K (by simp) _
  ·exact ha
theorem On.walk (h:On R X b T)(d:Int):On R X b (T.walk d):=by
 unfold AF.walk
 split
 ·exact h.tell K (.word (by simp))
 ·split
  ·exact h.tell K (.word (by simp))
  ·have i1:On R X b ((T.BP { Fy 1 with dir:=d }).F3 ((T.w.BT.at T.me.room).CN.at d - 1)):=⟨h.b,by
    have:=K.trans h.r (K.F3 (w:=T.w) (d:=d) (r:=(T.w.BT.at T.me.room).CN.at d - 1))
    rw [← h.b] at this
    exact this⟩
   exact(i1.BP K (.dir (.inr rfl))).look K
theorem On.box (h:On R X b T)(u:Aq):On R X b (T.box u).1:=by
 unfold AF.box
 split
 ·exact h.tell K (.word (by simp))
 ·split
  ·exact h.tell K (.word (by simp))
  ·exact h
theorem On.A6 (h:On R X b T)(u:Aq):On R X b (T.A6 u).1:=by
 unfold AF.A6
 split
 ·split
  ·exact h
  ·exact h.tell K (.word (by simp))
 ·exact h.tell K (.word (by simp))
theorem On.DE (l:List Int):∀ {T':AF},On R X b T'→On R X b (T'.DE l):=by
 induction l with
 | nil=>exact fun h=>h
 | cons i r ih=>exact fun {T'} h=>ih ((h.place K i 1 T'.b).cV K i (.inl rfl))
theorem On.Kb (h:On R X b T)(l:List Int)(o:Order):On R X b (T.Kb l o):=by
 unfold AF.Kb
 refine On.DE K _ ?_
 split
 ·exact h.tell K (.word (by simp))
 ·exact h
theorem On.get (h:On R X b T)(o:Order):On R X b (T.get o):=by
 unfold AF.get
 split
 ·split
  ·exact h.box K _
  ·exact(h.box K _).Kb K _ _
 ·exact h.Kb K _ _
theorem On.Cp (h:On R X b T)(v to i:Int):On R X b (T.Cp v to i):=by
 unfold AF.Cp
 split
 ·exact h.tell K (.word (by simp))
 ·split
  ·exact(h.place K _ _ _).cV K _ (.inr (.inl rfl))
  ·split
   ·refine(h.place K i 1 to).BP K ?_
    rw [← O5 T i i 1 to]
    exact .aV
   ·split
    ·exact h.tell K (.word (by simp))
    ·refine(h.place K i 2 to).BP K ?_
     rw [← O5 T i i 2 to,← O5 T i to 2 to]
     exact .Wx
theorem On.Ei {v to:Int}(l:List Int):∀ {T':AF},On R X b T'→On R X b (T'.Ei v to l):=by
 induction l with
 | nil=>exact fun h=>h
 | cons i r ih=>exact fun h=>ih (h.Cp K v to i)
theorem On.E7 (h:On R X b T)(o:Order):On R X b (T.E7 o):=by
 have ht:On R X b (T.Cu o).1:=by
  unfold Cu
  split
  ·exact h.box K _
  ·split
   ·exact h.A6 K _
   ·exact h
 unfold AF.E7
 split
 ·exact ht
 ·unfold Rj
  refine On.Ei K _ ?_
  split
  ·exact ht.tell K (.word (by simp))
  ·exact ht
theorem On.Ez (h:On R X b T)(o:Order):On R X b (T.Ez o):=by
 unfold AF.Ez
 generalize (if (!decide (o.nth=1) || o.Bj)=true then [] else o.name)=nm
 have hs:=h.A6 K nm
 split
 ·exact hs
 ·refine On.tell K ?_ (.word (by simp))
  split
  ·exact(hs.Ch K _ _).Ch K _ _
  ·exact hs.Ch K _ _
theorem On.before (h:On R X b T)(first:Bool)(i:Int)(v:Bool){k:Int}(hk:k=3∨k=4∨(8≤k∧k≤13)):On R X b (T.before first i v k):=by
 unfold AF.before
 split
 ·exact(On.C6 K h (i:=i) (t:={ T.w.AO.at i with on:=v }) rfl rfl).cV K _ hk
 ·exact(h.cV K i hk).C6 K rfl rfl
theorem On.G0 (h:On R X b T)(d:Int)(on:Bool){k:Int}(hk:k=8∨k=9):On R X b (T.G0 d on k):=by
 unfold AF.G0
 split
 ·exact h.tell K (.word (by simp))
 ·split
  ·exact h.tell K (.word (by simp))
  ·refine On.BP K ?_ (.G0 hk)
   split
   ·exact(h.C5 K _ _ _).C5 K _ _ _
   ·exact h.C5 K _ _ _
theorem On.set (h:On R X b T){o:Order}(h0:12≤o.verb)(h1:o.verb≤17):On R X b (T.set o):=by
 unfold AF.set
 split
 ·rename_i c
  rw [Bool.and_eq_true] at c
  have h3:=of_decide_eq_true c.2
  have:o.verb=12∨o.verb=13:=by
   unfold setKind at h3
   split at h3
   ·omega
   ·split at h3
    ·omega
    ·rename_i c1 c2
     simp only [Bool.or_eq_true,decide_eq_true_eq,not_or] at c1 c2
     omega
  exact h.G0 K _ _ (by unfold NQ;omega)
 ·split
  ·exact h.tell K (.word (by simp))
  ·split
   ·exact h.tell K (.word (by simp))
   ·split
    ·exact h.before K _ _ _ (by unfold NQ;omega)
    ·exact h.before K _ _ _ (by unfold NQ;omega)
theorem On.Ca (l:List Int):∀ {T':AF},On R X b T'→On R X b (T'.Ca l):=by
 induction l with
 | nil=>exact fun h=>h
 | cons i r ih=>exact fun {T'} h=>ih (On.C6 K h (i:=i) rfl rfl)
theorem On.DT (h:On R X b T):∀ k:Nat,On R X b (T.DT k)
 | 0=>h
 | k+1=>by
  unfold AF.DT
  split
  ·exact(On.DT h k).Ch K _ _
  ·exact On.DT h k
theorem On.E3 (h:On R X b T):On R X b T.E3:=by
 rw [LZ]
 exact((On.Ca K _ h).DT K 6).Ch K _ _
theorem On.Gk (h:On R X b T)(hq:q):On R X b T.Gk:=by
 have h18:On R X b (T.kind 18):=⟨h.b,by show R X (T.BP (Fy 18)).out _;rw [Ow,h.b];exact K.trans h.r (K.Gk hq)⟩
 have hf:=On.E3 K h18
 have hb:=T.O8
 refine⟨hb.1.trans h.b,?_⟩
 rw [hb.2.1,hb.2.2]
 have h2:=hf.r
 rw [(RE (T.kind 18)).2] at h2
 have:=K.gone h2 ⟨ev T.w T.b (Fy 18),by show _∈T.out ++ [_];exact List.mem_append_right _ (List.mem_cons_self ..), .inl (HF ..).1,(HF ..).2.trans h.b⟩
 rw [← h.b] at this
 exact this
theorem On.act (h:On R X b T){o:Order}(hx:o.text=x)(hq:o.verb=20→q)(h0:0≤o.verb)(h20:o.verb≤20):On R X b (T.act o):=by
 unfold AF.act
 split
 ·exact h.walk K _
 ·split
  ·exact h.look K
  ·split
   ·exact h.list K (by simp) _
   ·split
    ·refine h.BP K ?_;rw [hx];exact .said
    ·split
     ·rename_i c;exact h.Gk K (hq (of_decide_eq_true c))
     ·split
      ·exact h.Ez K _
      ·split
       ·exact h.get K _
       ·split
        ·exact h.E7 K _
        ·rename_i c1 c2 c3 c4 c5 c6 c7 c8
         simp only [Bool.or_eq_true,decide_eq_true_eq,not_or] at c1 c2 c3 c4 c5 c6 c7 c8
         exact h.set K (by omega) (by omega)
theorem RM {o:Order}(hx:o.text=x)(hq:o.verb=20→q):R X (EA X b o).2.1 (EA X b o).1:=by
 unfold EA
 split
 ·exact K.refl X
 ·split
  ·exact K.refl X
  ·split
   ·exact K.refl X
   ·rename_i c
    simp only [Bool.or_eq_true,decide_eq_true_eq,not_or] at c
    exact((On.start K X).act K hx hq (by omega) (by omega)).r
end
end AF
end Go.Ing
/- What every round of fights keeps, and every coming in: a principle. -/
namespace Go.Ing
open Go
namespace AF
structure YC (R:AH→List Event→AH→Prop):Prop where
 all:∀ b,0≤b→b < 6→Rel [] False b R
 bz:∀ {w:AH} {k h:Int},R w [] (w.C4 k { w.AM.at k with BK:=h })
 cj:∀ {X l w} {b:Int},2≤b→R X l w→(∃ e∈l,e.kind=15∧e.Db=b)→R X l (w.C4 b { w.AM.at b with room:=0,BK:=10 })
section
variable {R:AH→List Event→AH→Prop} (K:YC R)
include K
theorem Uh {X:AH}:R X [] X:=(K.all 0 (Int.le_refl _) (by decide)).refl X
theorem rel_trans {X Y Z:AH}{l m:List Event}(h:R X l Y)(k:R Y m Z):R X (l++m) Z:=(K.all 0 (Int.le_refl _) (by decide)).trans h k
theorem S8 {w:AH}{b Bz n:Int}(b0:0≤b)(b6:b < 6)(h1:1≤n)(h3:n≤3):R w (CC w b Bz n).out (CC w b Bz n).w:=by
 have a:=(On.start (K.all b b0 b6) w).BP (K.all b b0 b6) (e:={ Fy 14 with other:=Bz,n:=n }) (.CC h1 h3)
 have:=rel_trans K a.r (K.bz (k:=Bz) (h:=max 0 ((w.AM.at Bz).BK - n)))
 rw [List.append_nil] at this
 exact this
theorem YH {w:AH}{b:Int}(b0:0≤b)(b6:b < 6):R w (Hi w b).out (Hi w b).w:=by
 have KB:=K.all b b0 b6
 have h0:On R w b (FM w b):=⟨rfl,K.bz⟩
 have h1:=On.E3 KB (h0.kind KB (k:=15) (.inl rfl))
 have e1:((FM w b).kind 15).E3=F2 w b:=rfl
 have hm:∃ e∈(F2 w b).out,e.kind=15∧e.Db=b:=by
  rw [(JV w b).2]
  exact⟨ev (FM w b).w b (Fy 15),List.mem_append_right _ (List.mem_cons_self ..),(HF ..).1,(HF ..).2⟩
 rw [e1] at h1
 clear e1
 unfold Hi
 split
 ·rename_i c
  have c2:=of_decide_eq_true c
  rw [(C8 _ _ _).2.1,(C8 _ _ _).2.2]
  obtain⟨e,he,hk,ha⟩:=hm
  exact KB.gone h1.r ⟨e,he, .inr ⟨hk,c2⟩,ha⟩
 ·rename_i c
  have h2:On R w b (JH w b):=by
   obtain⟨d1,d2,d3⟩:=Q2 w b
   refine⟨d1,?_⟩
   rw [d3,d2,← (JV w b).2]
   have hb2:2≤b:=Int.not_lt.1 fun e=>c (decide_eq_true e)
   exact K.cj (b:=b) hb2 h1.r hm
  exact((h2.kind KB (k:=17) (.inr rfl)).look KB).r
theorem TA {X:AH}{s:AH × List Event}{draw b:Int}(b0:0≤b)(b6:b < 6)(hg:s.1.Bb=true)(h:R X s.2 s.1):R X (EG draw b s).2 (EG draw b s).1:=by
 have hh:=Lr (draw:=draw) b0
 have kb:=(G8 hg b0 b6).Bz
 unfold EG
 split
 ·exact h
 ·rename_i c0
  simp only [Bool.or_eq_true,Bool.not_eq_true',decide_eq_true_eq,not_or,Bool.not_eq_false] at c0
  split
  ·have:=rel_trans K h ((K.all b b0 b6).Bz (k:=b) (f:=0))
   rw [List.append_nil] at this
   exact this
  ·have hk:=S8 K (w:=s.1) (b:=b) (Bz:=(s.1.AM.at b).Bz - 1) b0 b6 hh.1 hh.2
   split
   ·exact rel_trans K (rel_trans K h hk) (YH K (by omega) (by omega))
   ·exact rel_trans K h hk
theorem LI {X:AH}{draw:Int}(hg:X.Bb=true)(hw:X.DH):∀ k:Nat,k≤6→R X (DW X draw k).2 (DW X draw k).1∧(DW X draw k).1.Bb=true∧(DW X draw k).1.DH
 | 0,_=>⟨Uh K,hg,hw⟩
 | k+1,hk=>by
  obtain⟨a,b,c⟩:=LI hg hw k (by omega)
  have:=FY (draw:=draw) (b:=k) b c (by omega) (by omega)
  exact⟨TA K (by omega) (by omega) b a,this.1,this.2.1⟩
theorem QH {X:AH}{draw:Int}(hw:X.DH):R X (CV X draw).2.1 (CV X draw).1:=by
 unfold CV
 split
 ·exact Uh K
 ·rename_i c
  have h:=(LI K (draw:=draw) (show X.Bb=true by simpa using c) hw 6 (Nat.le_refl 6)).1
  generalize DW X draw 6=r at *
  exact h
omit K in
theorem Ry (X:AH)(s:Aq):((BX X s).2.2.2≠0∧(BX X s).1=X∧(BX X s).2.2.1 = [])∨(BX X s=((Iy X s (CM X 6)).w,CM X 6,(Iy X s (CM X 6)).out,0)∧2≤CM X 6∧CM X 6≤5∧Ea s=true∧X.Bb=true∧∀ k,0≤k→k < 6→It X s k=false):=by
 have bad:∀ z:Int,z≠0→BX X s=(X,0,[],z)→(BX X s).2.2.2≠0∧(BX X s).1=X∧(BX X s).2.2.1 = []:=fun z hz e=>by rw [e];exact⟨hz,rfl,rfl⟩
 cases c1:X.Bb with
 | false=>exact .inl (bad 2 (by decide) (if_pos (by rw [c1];rfl)))
 | true=>
  have e1:BX X s=if (!Ea s)=true then(X,0,[],1) else if (!B7 6 (fun k=>!It X s k) 6)=true then(X,0,[],1) else if decide (CM X 6 < 0)=true then(X,0,[],4) else((Iy X s (CM X 6)).w,CM X 6,(Iy X s (CM X 6)).out,0):=if_neg (by rw [c1];decide)
  cases c2:Ea s with
  | false=>exact .inl (bad 1 (by decide) (e1.trans (if_pos (by rw [c2];rfl))))
  | true=>
   have e2:=e1.trans (if_neg (by rw [c2];decide))
   cases c3:B7 6 (fun k=>!It X s k) 6 with
   | false=>exact .inl (bad 1 (by decide) (e2.trans (if_pos (by rw [c3];rfl))))
   | true=>
    have e3:=e2.trans (if_neg (by rw [c3];decide))
    cases c4:decide (CM X 6 < 0) with
    | true=>exact .inl (bad 4 (by decide) (e3.trans (if_pos c4)))
    | false=>
     have e4:=e3.trans (if_neg (by rw [c4];decide))
     have hf:2≤CM X 6∧CM X 6≤5:=by
      rcases MD X 6 (Nat.le_refl 6) with e | e
      ·exact absurd (show CM X 6 < 0 by omega) (of_decide_eq_false c4)
      ·exact e
     refine .inr ⟨e4,hf.1,hf.2,rfl,rfl,fun k k0 k6=>?_⟩
     have:=(Da 6).1 c3 k (by omega) k6
     simpa using this
end
end AF
end Go.Ing
/- What happens within an act of a house, in small steps. -/
namespace Go.Ing
open Go
namespace Az
def CZ (s:Az)(e:Event):Az:=if (AH.tell e s.Au).2=true then s.tell (AH.tell e s.Au).1 else s
def Fz (s:Az)(es:List Event):Az:=if s.state=2 then es.foldl CZ s else s
end Az
theorem lt_next {j:Int}{k:Nat}(c:¬ j=(k:Int)):(j < ((k+1:Nat):Int))=(j < (k:Int)):=propext ⟨fun _=>by omega,fun _=>by omega⟩
namespace AI
theorem Kg (e:Event)(H:AI):∀ k:Nat,k≤4→∀ j:Int,0≤j→j < 4→(CZ e H k).at_ j=if j < k∧(H.at_ j).state=2 then(H.at_ j).CZ e else H.at_ j
 | 0,_,j,h0,_=>by rw [if_neg (by omega)];rfl
 | k+1,hk,j,h0,h1=>by
  have ih:=Kg e H k (by omega) j h0 h1
  have ihk:=LA e H k (by omega) k (Int.le_refl _) (by omega)
  by_cases c:j=(k:Int)
  ·subst c
   unfold CZ
   rw [ihk]
   split
   ·rename_i c1
    rw [if_neg (by simp at c1;exact fun h=>c1 h.2)];exact ihk
   ·rename_i c1
    have hr:(if (k:Int) < ((k+1:Nat):Int)∧(H.at_ k).state=2 then(H.at_ k).CZ e else H.at_ k)=if (AH.tell e (H.at_ k).Au).2=true then(H.at_ k).tell (AH.tell e (H.at_ k).Au).1 else H.at_ k:=if_pos ⟨by omega,by simpa using c1⟩
    rw [hr]
    by_cases c2:(AH.tell e (H.at_ k).Au).2=true
    ·rw [if_pos c2,if_pos c2]
     unfold AI.tell
     rw [AI.Di _ (by omega) (by omega) h0,if_pos rfl,ihk]
    ·rw [if_neg c2,if_neg c2];exact ihk
  ·have e2:(CZ e H (k+1)).at_ j=(CZ e H k).at_ j:=by
    rw [CZ.eq_2]
    split
    ·rfl
    ·split
     ·exact UA (by omega) (by omega) h0 c _
     ·rfl
   rw [e2,ih];simp only [lt_next c]
theorem O7 (e:Event)(H:AI):∀ k:Nat,(CZ e H k).w=H.w∧(CZ e H k).last=H.last∧(CZ e H k).CW=H.CW
 | 0=>⟨rfl,rfl,rfl⟩
 | k+1=>by
  have ih:=O7 e H k
  rw [CZ.eq_2]
  split
  ·exact ih
  ·split
   ·exact ih
   ·exact ih
theorem Ug (s:Az)(e:Event):(s.CZ e).state=s.state∧(s.CZ e).Au=s.Au:=by
 unfold Az.CZ
 split
 ·exact⟨(GA _ _).1,(GA _ _).2.1⟩
 ·exact⟨rfl,rfl⟩
theorem RU {j:Int}(j0:0≤j)(j1:j < 4):∀(es:List Event) (H:AI),(H.HW es).at_ j=(H.at_ j).Fz es
 | [],H=>by show H.at_ j=_;unfold Az.Fz;split<;>rfl
 | e :: r,H=>by
  have ih:=RU j0 j1 r (CZ e H 4)
  show((CZ e H 4).HW r).at_ j=_
  have h1:=Kg e H 4 (Nat.le_refl 4) j j0 j1
  rw [ih,h1]
  by_cases c:(H.at_ j).state=2
  ·rw [if_pos ⟨by omega,c⟩]
   unfold Az.Fz
   rw [if_pos c,if_pos (by rw [(Ug _ e).1];exact c)]
   rfl
  ·rw [if_neg (fun h=>c h.2)]
   unfold Az.Fz
   rw [if_neg c,if_neg c]
theorem Oq:∀(es:List Event) (H:AI),(H.HW es).w=H.w∧(H.HW es).last=H.last∧(H.HW es).CW=H.CW
 | [],H=>⟨rfl,rfl,rfl⟩
 | e :: r,H=>by
  have ih:=Oq r (CZ e H 4)
  have h1:=O7 e H 4
  exact⟨ih.1.trans h1.1,ih.2.1.trans h1.2.1,ih.2.2.trans h1.2.2⟩
theorem UB (H:AI)(es:List Event){j:Int}(j0:0≤j)(j1:j < 4):(H.Gy es).at_ j=(H.at_ j).Fz es:=RU j0 j1 es _
theorem Ur (H:AI)(es:List Event):(H.Gy es).w=H.w∧(H.Gy es).last=H.last++es∧(H.Gy es).CW=H.CW:=Oq es _
def XG:List Aq:= [Hm,N9,Zt,RA,noRoom]
inductive DI (U:Aq→Prop)(H:AI):Int→AH→Az→List Event→Prop
 | left {k:Int}:(H.at_ k).state=2→(H.w.AM.at (H.at_ k).Au).here=true→DI U H k (AF.EA H.w (H.at_ k).Au EB).1 default (AF.EA H.w (H.at_ k).Au EB).2.1
 | QX {k:Int} {u:Aq}:(H.at_ k).state=1→(AF.BX H.w u).2.2.2=0→DI U H k (AF.BX H.w u).1 { H.at_ k with state:=2,Au:=(AF.BX H.w u).2.1 } (AF.BX H.w u).2.2.1
 | cS {k:Int} {q:Aq}:U q→(H.at_ k).state≠0→(H.at_ k).state≠1→(Words.parse q).1.verb≠20→DI U H k (AF.EA H.w (H.at_ k).Au (Words.parse q).1).1 (H.at_ k) (AF.EA H.w (H.at_ k).Au (Words.parse q).1).2.1
 | round {d:Int}:DI U H 0 (AF.CV H.w d).1 (H.at_ 0) (AF.CV H.w d).2.1
def Hc (H:AI)(k:Int)(w:AH)(s:Az)(es:List Event):AI:=({ H with w:=w }.set k s).Gy es
inductive Step (U:Aq→Prop)(H:AI):AI→Prop
 | told {k:Int} {u:Aq}:0≤k→k < 4→(H.at_ k).state≠0→u∈XG→Step U H (H.tell k u)
 | Be {k:Int}:0≤k→k < 4→(H.at_ k).state≠0→Step U H (H.set k (H.at_ k).Be)
 | goes {k:Int} {w:AH} {s:Az} {es:List Event}:0≤k→k < 4→DI U H k w s es→Step U H (H.Hc k w s es)
 | free {k:Int}:0≤k→k < 4→¬ ((H.at_ k).state=2∧(H.w.AM.at (H.at_ k).Au).here=true)→Step U H (H.set k default)
inductive Steps (U:Aq→Prop)(H:AI):AI→Prop
 | refl:Steps U H H
 | tail {X Y:AI}:Steps U H X→Step U X Y→Steps U H Y
section
variable {U:Aq→Prop} {H X Y:AI}
theorem Step.one (h:Step U H X):Steps U H X:= .tail .refl h
theorem Steps.trans (h:Steps U H X)(k:Steps U X Y):Steps U H Y:=by
 induction k with
 | refl=>exact h
 | tail _ s ih=>exact ih.tail s
theorem Steps.J5 {P:AI→Prop}(hs:∀ {H X:AI},P H→Step U H X→P X)(h:P H)(k:Steps U H X):P X:=by
 induction k with
 | refl=>exact h
 | tail _ s ih=>exact hs ih s
theorem Hs (H:AI){k:Int}(h0:0≤k)(h1:k < 4)(w:AH)(s:Az)(es:List Event){j:Int}(j0:0≤j)(j1:j < 4):(H.Hc k w s es).at_ j=(if j=k then s else H.at_ j).Fz es:=by
 unfold Hc
 rw [UB _ _ j0 j1,Di _ h0 h1 j0]
 rfl
theorem MX (H:AI)(k:Int)(w:AH)(s:Az)(es:List Event):(H.Hc k w s es).w=w∧(H.Hc k w s es).last=H.last++es∧(H.Hc k w s es).CW=H.CW:=Ur _ es
theorem Nv (es:List Event):(default:Az).Fz es=default:=if_neg (show ¬ (0:Int)=2 by decide)
theorem Gi (H:AI){k:Int}(h0:0≤k)(h1:k < 4):Steps U H (H.leave k):=by
 unfold AI.leave
 split
 ·rename_i c
  rw [Bool.and_eq_true,decide_eq_true_eq] at c
  have s:Step U H (H.Hc k (AF.EA H.w (H.at_ k).Au EB).1 default (AF.EA H.w (H.at_ k).Au EB).2.1):= .goes h0 h1 (.left c.1 c.2)
  have e:(((H.Tc k).set k default).Gy (AF.EA H.w (H.at_ k).Au EB).2.1).set k default=H.Hc k (AF.EA H.w (H.at_ k).Au EB).1 default (AF.EA H.w (H.at_ k).Au EB).2.1:=by
   show(H.Hc k _ default _).set k default=_
   have:=Hs H h0 h1 (AF.EA H.w (H.at_ k).Au EB).1 default (AF.EA H.w (H.at_ k).Au EB).2.1 h0 h1
   rw [if_pos rfl,Nv] at this
   have h2:=L1 (H.Hc k (AF.EA H.w (H.at_ k).Au EB).1 default (AF.EA H.w (H.at_ k).Au EB).2.1) h0 h1
   rw [this] at h2
   exact h2
  rw [e]
  exact s.one
 ·rename_i c
  exact(Step.free h0 h1 (fun h=>c (by rw [Bool.and_eq_true,decide_eq_true_eq];exact h))).one
theorem Hw (H:AI):∀ k:Nat,k≤4→Steps U H (H.Cg k).1
 | 0,_=> .refl
 | k+1,hk=>by
  have ih:=Hw H k (by omega)
  unfold Cg
  split
  ·exact ih
  ·rename_i c
   have s:Step U (H.Cg k).1 ((H.Cg k).1.set k (((H.Cg k).1.at_ k).Be)):= .Be (by omega) (by omega) (by simpa using c)
   split
   ·exact(ih.tail s).trans (Gi _ (by omega) (by omega))
   ·exact ih.tail s
theorem Mi:∀(n:Nat) (H:AI),Steps U H (H.HT n)
 | 0,_=> .refl
 | n+1,H=>by
  unfold HT
  split
  ·exact Hw H 4 (Nat.le_refl 4)
  ·exact(Hw H 4 (Nat.le_refl 4)).trans (Mi n _)
theorem OU (H:AI):Steps U H H.Be:=Mi 5 H
theorem R1 (H:AI){k:Int}(h0:0≤k)(h1:k < 4)(hs:(H.at_ k).state=1)(u:Aq):Steps U H (H.named k u):=by
 unfold AI.named
 split
 ·rename_i c
  exact(Step.goes h0 h1 (.QX hs (of_decide_eq_true c))).one
 ·have hn:(H.at_ k).state≠0:=by omega
  split
  ·exact(Step.told h0 h1 hn (by simp [XG])).one
  ·exact(Step.told h0 h1 hn (by simp [XG])).one
theorem SW (H:AI){k:Int}(h0:0≤k)(h1:k < 4)(hs:(H.at_ k).state≠0)(h2:(H.at_ k).state≠1){u:Aq}(hu:U u):Steps U H (H.order k u):=by
 unfold AI.order
 split
 ·exact(Step.told h0 h1 hs (by simp [XG])).one
 ·split
  ·exact Gi H h0 h1
  ·rename_i c
   have:=(Step.goes (H:=H) h0 h1 (.cS hu hs h2 (fun e=>c (decide_eq_true e)))).one
   unfold Hc at this
   rw [show({ H with w:=(AF.EA H.w (H.at_ k).Au (Words.parse u).1).1 }:AI).set k (H.at_ k)={ H with w:=(AF.EA H.w (H.at_ k).Au (Words.parse u).1).1 } from L1 { H with w:=(AF.EA H.w (H.at_ k).Au (Words.parse u).1).1 } h0 h1] at this
   exact this
theorem Jy (H:AI)(d:Int):Steps U H ({ H with w:=(AF.CV H.w d).1 }.Gy (AF.CV H.w d).2.1):=by
 have:=(Step.goes (U:=U) (H:=H) (Int.le_refl 0) (by decide) (.round (d:=d))).one
 unfold Hc at this
 rw [show({ H with w:=(AF.CV H.w d).1 }:AI).set 0 (H.at_ 0)={ H with w:=(AF.CV H.w d).1 } from L1 { H with w:=(AF.CV H.w d).1 } (Int.le_refl 0) (by decide)] at this
 exact this
def next (H:AI)(k:Int)(r:List Aq):AI:=H.set k { H.at_ k with queue:=r }.Fw
theorem Ol (H:AI){k:Int}(h0:0≤k)(h1:k < 4)(hU:∀ q∈(H.at_ k).queue,U q):(((H.at_ k).state=0∨(H.at_ k).queue = [])∧H.EN k=H)∨∃ q r,(H.at_ k).state≠0∧(H.at_ k).queue=q :: r∧Steps U (H.next k r) (H.EN k):=by
 unfold AI.EN
 split
 ·rename_i c;exact .inl ⟨.inl (of_decide_eq_true c),rfl⟩
 ·rename_i c
  have c':(H.at_ k).state≠0:=fun e=>c (decide_eq_true e)
  split
  ·rename_i e;exact .inl ⟨.inr e,rfl⟩
  ·rename_i q r e
   refine .inr ⟨q,r,c',e,?_⟩
   have ha:(H.next k r).at_ k={ H.at_ k with queue:=r }.Fw:=by unfold next;rw [Di _ h0 h1 h0,if_pos rfl]
   have hst:((H.next k r).at_ k).state=(H.at_ k).state:=by rw [ha];rfl
   show Steps U (H.next k r) (if (H.at_ k).pg.B6=true then H.next k r else if decide ((H.at_ k).state=1)=true then(H.next k r).named k (Words.QA 32 (Words.Rq 32 q)) else(H.next k r).order k q)
   split
   ·exact .refl
   ·split
    ·rename_i c2
     exact R1 _ h0 h1 (by rw [hst];exact of_decide_eq_true c2) _
    ·rename_i c2
     exact SW _ h0 h1 (by rw [hst];exact c') (by rw [hst];exact fun e=>c2 (decide_eq_true e)) (hU q (by rw [e];exact List.mem_cons_self ..))
end
end AI
end Go.Ing
/- What a seat is behind every act: plain laws. -/
namespace Go.Ing
open Go
namespace Page
theorem QI (ht:Int):∀(l:List Aq) (x:Pg),Be ht (Be ht l x).2 (Be ht l x).1=Be ht l x
 | [],x=>rfl
 | s :: r,x=>by
  by_cases c1:(x.B6 || x.cut)=true
  ·have e:Be ht (s :: r) x=(x,s :: r):=by rw [Be,if_pos c1]
   rw [e];exact e
  ·by_cases c2:(decide (0 < ht) && decide (ht≤x.shown))=true
   ·have e:Be ht (s :: r) x=(put { x with B6:=true } UI,s :: r):=by rw [Be,if_neg c1,if_pos c2]
    rw [e]
    have ha:(put { x with B6:=true } UI).B6=true:=by
     unfold put;split
     ·rfl
     ·split<;>rfl
    rw [Be,if_pos (by rw [ha];rfl)]
   ·have e:Be ht (s :: r) x=Be ht r (put { x with shown:=min (x.shown+1) 200 } (escape s ++ [13,10])):=by rw [Be,if_neg c1,if_neg c2]
    rw [e]
    exact QI ht r _
theorem NN (ht:Int):∀(l:List Aq) (x:Pg),x.ring.length≤700→0≤x.shown→x.shown≤200→(Be ht l x).1.ring.length≤700∧0≤(Be ht l x).1.shown∧(Be ht l x).1.shown≤200
 | [],x,h1,h2,h3=>⟨h1,h2,h3⟩
 | s :: r,x,h1,h2,h3=>by
  unfold Be
  split
  ·exact⟨h1,h2,h3⟩
  ·split
   ·refine⟨Lv h1,?_,?_⟩<;>rw [HH]
    ·exact h2
    ·exact h3
   ·refine NN ht r _ (Lv h1) ?_ ?_<;>rw [HH]
    ·show 0≤min (x.shown+1) 200;omega
    ·show min (x.shown+1) 200≤200;omega
end Page
namespace Az
structure Ok (s:Az):Prop where
 st:0≤s.state∧s.state≤2
 n:s.wait.length≤60
 ring:s.pg.ring.length≤700
 s0:0≤s.pg.shown
 s1:s.pg.shown≤200
 ln:Bg.Ok ⟨s.now,s.Cq,s.ret,s.queue,0⟩
theorem WT (s:Az):s.LR=true↔s.wait.length≤60∧s.pg.ring.length≤700∧0≤s.pg.shown∧s.pg.shown≤200:=by
 simp only [LR,Bool.and_eq_true,decide_eq_true_eq];omega
theorem aB (s:Az):s.LG=true↔Bg.Ok ⟨s.now,s.Cq,s.ret,s.queue,0⟩:=
 Bg.GX (l:=⟨s.now,s.Cq,s.ret,⟨none,s.queue.length,0⟩⟩) (qs:=s.queue) rfl
variable {s:Az}
theorem Ok.LR (h:s.Ok):s.LR=true:=(WT s).2 ⟨h.n,h.ring,h.s0,h.s1⟩
theorem Ok.LG (h:s.Ok):s.LG=true:=(aB s).2 h.ln
theorem DK:(default:Az).Ok:=⟨⟨Int.le_refl 0,by decide⟩,Nat.zero_le _,Nat.zero_le _,Int.le_refl 0,by decide,(⟨Bg.MY,(fun s hs=>by cases hs),Nat.zero_le _,(fun h=>by cases h)⟩:Bg.Ok ⟨[],false,false,[],0⟩)⟩
theorem Ok.line (h:s.Ok)(u:Aq):(s.line u).Ok:=by
 unfold Az.line
 split
 ·exact h
 ·split
  ·exact h
  ·split
   ·exact⟨h.st,h.n,h.ring,h.s0,h.s1,h.ln⟩
   ·rename_i c
    refine⟨h.st,?_,h.ring,h.s0,h.s1,h.ln⟩
    have hn:=h.n
    have c':¬ (60:Int)≤s.wait.length:=fun e=>c (decide_eq_true e)
    show(s.wait ++ [u]).length≤60
    rw [List.length_append,List.length_singleton];omega
theorem Ok.tell (h:s.Ok)(u:Aq):(s.tell u).Ok:=by
 have:=h.line u
 unfold Az.tell Az.note
 split
 ·exact⟨this.st,this.n,this.ring,this.s0,this.s1,this.ln⟩
 ·exact this
theorem Ok.Be (h:s.Ok):s.Be.Ok:=by
 unfold Az.Be
 split
 ·exact h
 ·have hk:=Page.NN s.Dw.B1 s.wait s.pg h.ring h.s0 h.s1
  exact⟨h.st,Nat.le_trans (Page.X2 _ _ _) h.n,hk.1,hk.2.1,hk.2.2,h.ln⟩
theorem Ok.send (h:s.Ok)(u:Aq):(s.send u).Ok:=by
 unfold Az.send
 split
 ·exact h
 ·split
  ·exact h
  ·exact⟨h.st,h.n,Page.Lv h.ring,by show 0≤(Page.put s.pg u).shown;rw [Page.HH];exact h.s0,by show(Page.put s.pg u).shown≤200;rw [Page.HH];exact h.s1,h.ln⟩
theorem Ok.Dw (h:s.Ok)(t:AP):({ s with Dw:=t }:Az).Ok:=⟨h.st,h.n,h.ring,h.s0,h.s1,h.ln⟩
theorem Ok.offer (h:s.Ok)(opt:Int):(s.offer opt).Ok:=by
 unfold Az.offer
 split
 ·exact(h.Dw _).send _
 ·exact(h.Dw _).send _
theorem Ok.HO (h:s.Ok)(n:Int):(s.HO n).Ok:=⟨h.st,h.n,by show(s.pg.ring.drop _).length≤700;rw [List.length_drop];have:=h.ring;omega,h.s0,h.s1,h.ln⟩
theorem Ok.next (h:s.Ok){q:Aq}{r:List Aq}(e:s.queue=q :: r):({ s with queue:=r }:Az).Fw.Ok:=
 ⟨h.st,h.n,h.ring,Int.le_refl 0,show(0:Int)≤200 by decide,⟨h.ln.now,fun x hx=>h.ln.queue x (by show x∈s.queue;rw [e];exact List.mem_cons_of_mem _ hx),by
  have:=h.ln.len
  have h2:s.queue.length≤6:=this
  rw [e,List.length_cons] at h2
  show r.length≤6;omega,h.ln.ret⟩⟩
theorem Ok.typed (h:s.Ok)(u:Aq):(C1 s u).1.Ok:=by
 have h1:(s.bytes u).1.Ok:=(h.Dw _).send _
 unfold C1 Az.typed
 split
 ·exact h1
 ·have ho:=Bg.Tq (s.bytes u).2 h1.ln
  exact⟨h1.st,h1.n,h1.ring,h1.s0,h1.s1,⟨ho.now,ho.queue,ho.len,ho.ret⟩⟩
theorem Ok.QX (h:s.Ok)(b:Int):({ s with state:=2,Au:=b }:Az).Ok:=⟨⟨show(0:Int)≤2 by decide,show(2:Int)≤2 by decide⟩,h.n,h.ring,h.s0,h.s1,h.ln⟩
theorem Ok.CZ (h:s.Ok)(e:Event):(s.CZ e).Ok:=by
 unfold Az.CZ;split
 ·exact h.tell _
 ·exact h
theorem Tw:∀(es:List Event) {s:Az},s.Ok→(es.foldl Az.CZ s).Ok
 | [],_,h=>h
 | e :: r,_,h=>Tw r (h.CZ e)
theorem Ok.Fz (h:s.Ok)(es:List Event):(s.Fz es).Ok:=by
 unfold Az.Fz
 split
 ·exact Tw es h
 ·exact h
theorem Ok.heard (h:s.Ok):({ s with told:= [] }:Az).Ok:=⟨h.st,h.n,h.ring,h.s0,h.s1,h.ln⟩
theorem Fh (s:Az)(es:List Event):(s.Fz es).state=s.state∧(s.Fz es).Au=s.Au:=by
 unfold Az.Fz
 split
 ·induction es generalizing s with
  | nil=>exact⟨rfl,rfl⟩
  | cons e r ih=>
   rename_i c
   have h1:=AI.Ug s e
   have:=ih (s.CZ e) (by rw [h1.1];exact c)
   exact⟨this.1.trans h1.1,this.2.trans h1.2⟩
 ·exact⟨rfl,rfl⟩
structure Still (s:Az):Prop where
 fl:s.Be=s
 cut:s.pg.cut=false
theorem Pb (s:Az)(h:s.wait.length≤60∧s.pg.ring.length≤700∧0≤s.pg.shown∧s.pg.shown≤200)(c:(decide (s.Dw.B1 < 0) || decide (200 < s.Dw.B1))=false):s.Be={ s with pg:=(Page.Be s.Dw.B1 s.wait s.pg).1,wait:=(Page.Be s.Dw.B1 s.wait s.pg).2 }:=by
 unfold Az.Be
 rw [if_neg]
 rw [(WT s).2 h]
 simpa using c
theorem LV (s:Az)(c:(decide (s.Dw.B1 < 0) || decide (200 < s.Dw.B1))=true):s.Be=s:=by
 unfold Az.Be
 rw [if_pos]
 rw [Bool.or_assoc,c,Bool.or_true]
theorem Ok.idem (h:s.Ok):s.Be.Be=s.Be:=by
 cases c:(decide (s.Dw.B1 < 0) || decide (200 < s.Dw.B1)) with
 | true=>rw [LV s c,LV s c]
 | false=>
  have e:=Pb s ⟨h.n,h.ring,h.s0,h.s1⟩ c
  have hk:=h.Be
  rw [e] at hk ⊢
  rw [Pb _ ⟨hk.n,hk.ring,hk.s0,hk.s1⟩ c]
  have:=Page.QI s.Dw.B1 s.wait s.pg
  dsimp only
  rw [this]
end Az
namespace AI
def HN (H:AI):Prop:=∀ k,0≤k→k < 4→(H.at_ k).Ok
section
variable {U:Aq→Prop} {H X:AI}
theorem HN.set (h:H.HN){k:Int}(h0:0≤k)(h1:k < 4){s:Az}(hs:s.Ok):(H.set k s).HN:=fun j j0 j1=>by
 rw [Di _ h0 h1 j0];split
 ·exact hs
 ·exact h j j0 j1
theorem HN.step (h:H.HN)(s:Step U H X):X.HN:=by
 cases s with
 | told h0 h1 _ _=>exact h.set h0 h1 ((h _ h0 h1).tell _)
 | Be h0 h1 _=>exact h.set h0 h1 (h _ h0 h1).Be
 | free h0 h1 _=>exact h.set h0 h1 Az.DK
 | goes h0 h1 g=>
  intro j j0 j1
  rw [Hs H h0 h1 _ _ _ j0 j1]
  refine Az.Ok.Fz ?_ _
  split
  ·cases g with
   | left _ _=>exact Az.DK
   | QX _ _=>exact(h _ h0 h1).QX _
   | cS _ _ _ _=>exact h _ h0 h1
   | round=>exact h _ (Int.le_refl 0) (by decide)
  ·exact h j j0 j1
theorem HN.steps (h:H.HN)(s:Steps U H X):X.HN:=Steps.J5 (P:=HN) (fun h s=>h.step s) h s
/-! #### nobody is cut off behind all that flows -/
def busy (H:AI)(k:Int):Nat:=if (H.at_ k).state=0 then 0 else 1
def NS (H:AI):Nat:=H.busy 0+H.busy 1+H.busy 2+H.busy 3
theorem YG {H X:AI}(h:∀ j,0≤j→j < 4→(H.at_ j).state=0→(X.at_ j).state=0):X.NS≤H.NS∧∀ k,0≤k→k < 4→(H.at_ k).state≠0→(X.at_ k).state=0→X.NS < H.NS:=by
 have hb:∀ j,0≤j→j < 4→X.busy j≤H.busy j∧H.busy j≤1∧((H.at_ j).state≠0→(X.at_ j).state=0→X.busy j < H.busy j):=fun j j0 j1=>by
  have:=h j j0 j1
  unfold busy
  refine⟨?_,?_,?_⟩
  ·split
   ·exact Nat.zero_le _
   ·rename_i c
    rw [if_neg (fun e=>c (this e))];exact Nat.le_refl _
  ·split<;>omega
  ·intro a b
   rw [if_pos b,if_neg a];decide
 have b0:=hb 0 (by decide) (by decide);have b1:=hb 1 (by decide) (by decide);have b2:=hb 2 (by decide) (by decide);have b3:=hb 3 (by decide) (by decide)
 unfold NS
 refine⟨by omega,fun k k0 k1 a b=>?_⟩
 rcases four k0 k1 with e | e | e | e<;>subst e
 ·have:=b0.2.2 a b;omega
 ·have:=b1.2.2 a b;omega
 ·have:=b2.2.2 a b;omega
 ·have:=b3.2.2 a b;omega
theorem SG (H:AI){k:Int}(h0:0≤k)(h1:k < 4){j:Int}(j0:0≤j)(j1:j < 4):(H.leave k).at_ j=if j=k then default else(H.at_ j).Fz (if decide ((H.at_ k).state=2) && (H.w.AM.at (H.at_ k).Au).here then(AF.EA H.w (H.at_ k).Au EB).2.1 else []):=by
 unfold AI.leave
 rw [Di _ h0 h1 j0]
 split
 ·rfl
 ·rename_i c
  split
  ·rw [UB _ _ j0 j1,Di _ h0 h1 j0,if_neg c]
   rfl
  ·unfold Az.Fz;split<;>rfl
theorem K3 (H:AI):∀ k:Nat,k≤4→∀ j,0≤j→j < 4→(H.at_ j).state=0→((H.Cg k).1.at_ j).state=0
 | 0,_,_,_,_,h=>h
 | k+1,hk,j,j0,j1,h=>by
  have ih:=K3 H k (by omega) j j0 j1 h
  have hf:(((H.Cg k).1.set k (((H.Cg k).1.at_ k).Be)).at_ j).state=0:=by
   rw [Di _ (by omega) (by omega) j0]
   split
   ·rename_i e;subst e;rw [(IN _).2.1];exact ih
   ·exact ih
  unfold Cg
  split
  ·exact ih
  ·split
   ·show(AI.at_ (AI.leave _ _) j).state=0
    rw [SG _ (by omega) (by omega) j0 j1]
    split
    ·rfl
    ·rw [(Az.Fh _ _).1];exact hf
   ·exact hf
theorem Pc (H:AI):∀ k:Nat,k≤4→(H.Cg k).2=true→∃ j,0≤j∧j < 4∧(H.at_ j).state≠0∧((H.Cg k).1.at_ j).state=0
 | 0,_,h=>by cases h
 | k+1,hk,h=>by
  have ih:=Pc H k (by omega)
  have hn:(((H.Cg k).1.at_ k).state≠0)→(H.at_ k).state≠0:=fun c e=>c (K3 H k (by omega) k (by omega) (by omega) e)
  unfold Cg at h ⊢
  split at h
  ·rename_i c
   rw [if_pos c];exact ih h
  ·rename_i c
   have c':((H.Cg k).1.at_ k).state≠0:=by simpa using c
   rw [if_neg c]
   split at h
   ·rename_i c2
    rw [if_pos c2]
    refine⟨k,by omega,by omega,hn c',?_⟩
    show(AI.at_ (AI.leave _ _) k).state=0
    rw [SG _ (by omega) (by omega) (by omega) (by omega),if_pos rfl];rfl
   ·rename_i c2
    rw [if_neg c2]
    obtain⟨j,j0,j1,a,b⟩:=ih h
    refine⟨j,j0,j1,a,?_⟩
    show(AI.at_ (AI.set _ _ _) j).state=0
    rw [Di _ (by omega) (by omega) j0]
    split
    ·rename_i e;subst e;exact absurd b c'
    ·exact b
theorem OA (H:AI):∀ k:Nat,k≤4→(H.Cg k).2=false→(H.Cg k).1.w=H.w∧(H.Cg k).1.last=H.last∧(H.Cg k).1.CW=H.CW∧∀ j,0≤j→j < 4→(H.Cg k).1.at_ j=(if j < k∧(H.at_ j).state≠0 then(H.at_ j).Be else H.at_ j)∧(j < k→(H.at_ j).state≠0→(H.at_ j).Be.pg.cut=false)
 | 0,_,_=>⟨rfl,rfl,rfl,fun j j0 _=>⟨by rw [if_neg (by omega)];rfl,fun h=>by omega⟩⟩
 | k+1,hk,h=>by
  have ih:=OA H k (by omega)
  unfold Cg at h ⊢
  split at h
  ·rename_i c
   rw [if_pos c]
   obtain⟨a1,a2,a3,a4⟩:=ih h
   have hk0:=(a4 k (by omega) (by omega)).1
   rw [if_neg (by omega)] at hk0
   rw [hk0] at c
   have c':(H.at_ k).state=0:=of_decide_eq_true c
   refine⟨a1,a2,a3,fun j j0 j1=>⟨?_,fun hj hs=>?_⟩⟩
   ·rw [(a4 j j0 j1).1]
    by_cases e:j=(k:Int)
    ·subst e;rw [if_neg (fun h=>h.2 c'),if_neg (fun h=>h.2 c')]
    ·simp only [lt_next e]
   ·by_cases e:j=(k:Int)
    ·subst e;exact absurd c' hs
    ·exact(a4 j j0 j1).2 (by omega) hs
  ·rename_i c
   split at h
   ·cases h
   ·rename_i c2
    rw [if_neg c,if_neg c2]
    obtain⟨a1,a2,a3,a4⟩:=ih h
    have hk0:=(a4 k (by omega) (by omega)).1
    rw [if_neg (by omega)] at hk0
    rw [hk0] at c c2
    have c':(H.at_ k).state≠0:=by simpa using c
    refine⟨a1,a2,a3,fun j j0 j1=>⟨?_,fun hj hs=>?_⟩⟩
    ·show(AI.at_ (AI.set _ _ _) j)=_
     rw [Di _ (by omega) (by omega) j0]
     by_cases e:j=(k:Int)
     ·subst e;rw [if_pos rfl,if_pos ⟨by omega,c'⟩,hk0]
     ·rw [if_neg e,(a4 j j0 j1).1];simp only [lt_next e]
    ·by_cases e:j=(k:Int)
     ·subst e;simpa using c2
     ·exact(a4 j j0 j1).2 (by omega) hs
theorem Mh:∀(n:Nat) (H:AI),H.HN→H.NS < n→∀ j,0≤j→j < 4→((H.HT n).at_ j).state≠0→((H.HT n).at_ j).Still
 | 0,_,_,h,_,_,_,_=>absurd h (Nat.not_lt_zero _)
 | n+1,H,hk,hb,j,j0,j1,hs=>by
  unfold HT at hs ⊢
  split at hs
  ·rename_i c
   rw [if_pos c]
   obtain⟨_,_,_,a⟩:=OA H 4 (Nat.le_refl 4) (by simpa using c)
   have a:=a j j0 j1
   by_cases e:(H.at_ j).state=0
   ·rw [a.1,if_neg (fun h=>h.2 e)] at hs;exact absurd e hs
   ·rw [a.1,if_pos ⟨by omega,e⟩]
    exact⟨(hk j j0 j1).idem,a.2 (by omega) e⟩
  ·rename_i c
   rw [if_neg c]
   obtain⟨i,i0,i1,a,b⟩:=Pc H 4 (Nat.le_refl 4) (by simpa using c)
   have hl:=(YG (K3 H 4 (Nat.le_refl 4))).2 i i0 i1 a b
   exact Mh n _ (hk.steps (U:=fun _=>True) (Hw H 4 (Nat.le_refl 4))) (by omega) j j0 j1 hs
theorem S1 (h:H.HN){j:Int}(j0:0≤j)(j1:j < 4)(hs:(H.Be.at_ j).state≠0):(H.Be.at_ j).Still:=
 Mh 5 H h (by
  have hb:∀ j,H.busy j≤1:=fun j=>by unfold busy;split<;>omega
  have:=hb 0;have:=hb 1;have:=hb 2;have:=hb 3
  unfold NS;omega) j j0 j1 hs
end
end AI
end Go.Ing
/- Acts that are played: plain laws. -/
namespace Go.Ing
open Go
namespace AP
def G1 (t:AP):Nat:=if t.at_=2 then 2 else if t.at_=1 then 1 else 0
theorem VX (t:AP)(b:UInt8):(t.step b).2.2.length+(t.step b).1.G1≤1+t.G1:=by
 unfold step;dsimp only
 split
 ·rename_i c;have c':=of_decide_eq_true c
  have hp:t.G1=0:=by unfold G1;rw [if_neg (by omega),if_neg (by omega)]
  split
  ·exact Nat.le_add_right 1 _
  ·show 0+t.G1≤1+t.G1;omega
 ·split
  ·rename_i c;have c':=of_decide_eq_true c
   have hp:t.G1=1:=by unfold G1;rw [if_neg (by omega),if_pos c']
   rw [hp]
   split
   ·exact Nat.zero_le _
   ·split
    ·exact Nat.zero_le _
    ·split
     ·exact Nat.le_refl 2
     ·exact Nat.zero_le _
  ·split
   ·rename_i c;have c':=of_decide_eq_true c
    have hp:t.G1=2:=by unfold G1;rw [if_pos c']
    rw [hp]
    exact H6 _ _ _
   ·split
    ·rename_i c;have c':=of_decide_eq_true c
     split
     ·exact Nat.zero_le _
     ·show 0+(t.collect b).G1≤_
      have:(t.collect b).at_=t.at_:=by unfold collect;split<;>rfl
      unfold G1;rw [this];rw [if_neg (by omega),if_neg (by omega)];omega
    ·split
     ·rename_i c;have c':=of_decide_eq_true c
      split
      ·show 0+(collect { t with at_:=3 } b).G1≤_
       have:(collect { t with at_:=3 } b).at_=3:=by unfold collect;split<;>rfl
       unfold G1;rw [this];rw [if_neg (by decide),if_neg (by decide)];omega
      ·split
       ·show 0+G1 { t.measure with at_:=0,sub:= [] }≤_;exact Nat.zero_le _
       ·exact Nat.zero_le _
     ·show 0+t.G1≤_;omega
theorem L7:∀(s:Aq) (t:AP),(t.feed s).2.2.length≤s.length+t.G1
 | [],t=>Nat.zero_le _
 | b :: s,t=>by
  have h1:=VX t b
  have h2:=L7 s (t.step b).1
  show((t.step b).2.2++((t.step b).1.feed s).2.2).length≤s.length+1+t.G1
  rw [List.length_append];omega
theorem UX (t:AP):t.G1≤2:=by unfold G1;split;exact Nat.le_refl 2;split<;>decide
theorem Jz.yb {X t:AP}{u x y:Aq}{k:Int}(h:Jz X u k t x y):y.length≤u.length+2:=by
 have h1:=L7 u X
 have h2:=UX X
 rw [h.e3,List.length_append] at h1
 omega
theorem U1 (t:AP)(u:Aq):(t.Df u).2.2.1.length≤u.length+2:=by
 unfold Df
 split
 ·exact Nat.zero_le _
 ·have h1:=L7 u t
  have h2:=UX t
  show(t.feed u).2.2.length≤_
  omega
end AP
namespace AI
section
variable {H:AI}
theorem HN.tell (h:H.HN){k:Int}(h0:0≤k)(h1:k < 4)(u:Aq):(H.tell k u).HN:=h.set h0 h1 ((h k h0 h1).tell u)
theorem HN.Be (h:H.HN):H.Be.HN:=h.steps (U:=fun _=>True) (OU H)
theorem HN.EN (h:H.HN){k:Int}(h0:0≤k)(h1:k < 4):(H.EN k).HN:=by
 rcases Ol (U:=fun _=>True) H h0 h1 (fun _ _=>trivial) with ⟨_,e⟩ | ⟨q,r,_,e,s⟩
 ·rw [e];exact h
 ·exact HN.steps (h.set h0 h1 ((h k h0 h1).next e)) s
theorem HN.turns (h:H.HN):∀ k:Nat,k≤4→(H.turns k).HN
 | 0,_=>h
 | k+1,hk=>(HN.turns h k (by omega)).EN (by omega) (by omega)
theorem HN.begun (h:H.HN):H.begun.HN:=fun k h0 h1=>by rw [JY h0 h1];exact(h k h0 h1).heard
theorem HN.Dy (h:H.HN)(a:B0):(H.Dy a).1.HN:=
 JE (fun X=>X.HN) h (fun d=>((h.turns 4 (Nat.le_refl 4)).steps (U:=fun _=>True) (Jy _ d)).Be)
  (fun k h0 h1=>((h.set h0 h1 (((show({ (default:Az) with state:=1,Au:=-1 }:Az).Ok from⟨⟨show(0:Int)≤1 by decide,show(1:Int)≤2 by decide⟩,Az.DK.n,Az.DK.ring,Az.DK.s0,Az.DK.s1,Az.DK.ln⟩).offer 3).offer 31)).tell h0 h1 Hm).Be)
  (fun k u h0 h1=>by
   rw [Il]
   refine HN.Be ?_
   have hs:=h.set h0 h1 ((h k h0 h1).typed u)
   split
   ·exact hs.tell h0 h1 N9
   ·exact hs)
  (fun k z h0 h1=>(h.set h0 h1 ((h k h0 h1).HO z)).Be) (fun k h0 h1=>(h.steps (U:=fun _=>True) (Gi H h0 h1)).Be) a
theorem HN.act (h:H.HN)(a:B0):(H.act a).1.HN:=by
 unfold AI.act
 split
 ·exact h
 ·exact h.begun.Dy a
end
structure Live (H:AI):Prop where
 fit:H.Fit 1000 1000
 CW:0≤H.CW
 Mx:H.HN
theorem Live.fits {H:AI}(h:H.Live):H.Fits:=⟨_,_,h.fit⟩
theorem UD:AI.new.HN:=fun k h0 h1=>by rw [OP h0 h1];exact Az.DK
theorem Oa:AI.new.Live:=⟨YB.mono (by decide) (by decide),Int.le_refl 0,UD⟩
section
variable {H X:AI}
theorem N7 (e:Event)(H:AI):∀ k:Nat,(CZ e H k).CW=H.CW
 | 0=>rfl
 | k+1=>by
  have ih:=N7 e H k
  rw [CZ.eq_2]
  split
  ·exact ih
  ·split<;>exact ih
theorem NW:∀(es:List Event) (H:AI),(H.HW es).CW=H.CW
 | [],_=>rfl
 | e :: r,H=>(NW r _).trans (N7 e H 4)
theorem KR (H:AI)(es:List Event):(H.Gy es).CW=H.CW:=NW es _
theorem Kk (H:AI)(k:Int):(H.leave k).CW=H.CW:=by
 unfold AI.leave
 split
 ·exact KR _ _
 ·rfl
theorem Kj (H:AI):∀ k:Nat,(H.Cg k).1.CW=H.CW
 | 0=>rfl
 | k+1=>by
  have ih:=Kj H k
  unfold Cg
  split
  ·exact ih
  ·split
   ·exact(Kk _ _).trans ih
   ·exact ih
theorem Nh:∀(n:Nat) (H:AI),(H.HT n).CW=H.CW
 | 0,_=>rfl
 | n+1,H=>by
  unfold HT
  split
  ·exact Kj H 4
  ·exact(Nh n _).trans (Kj H 4)
theorem Ie (H:AI):H.Be.CW=H.CW:=Nh 5 H
theorem Sp (H:AI)(k:Int):(H.EN k).CW=H.CW:=by
 unfold AI.EN
 split
 ·rfl
 ·split
  ·rfl
  ·dsimp only
   split
   ·rfl
   ·split
    ·unfold AI.named
     split
     ·exact KR _ _
     ·split<;>rfl
    ·unfold AI.order
     split
     ·rfl
     ·split
      ·exact Kk _ _
      ·exact KR _ _
theorem Oy (H:AI):∀ k:Nat,(H.turns k).CW=H.CW
 | 0=>rfl
 | k+1=>(Sp _ _).trans (Oy H k)
theorem U8 (X:AI)(a:B0):(X.Dy a).1.CW=X.CW:=
 JE (fun Y=>Y.CW=X.CW) rfl (fun d=>(Ie _).trans ((KR _ _).trans (Oy X 4))) (fun k _ _=>Ie _) (fun k u _ _=>by rw [Il,Ie];split<;>rfl) (fun k z _ _=>Ie _) (fun k _ _=>(Ie _).trans (Kk _ _)) a
theorem S3 (H:AI):H.begun.CW=H.CW+1:=(HG (H:={ H with CW:=H.CW+1,last:= [] }) 4).2.2
theorem W6 (H:AI)(a:B0):(H.act a).1.CW=if 400≤H.CW then H.CW else H.CW+1:=by
 unfold AI.act
 by_cases c:400≤H.CW
 ·rw [if_pos (decide_eq_true c),if_pos c]
 ·rw [if_neg (fun e=>c (of_decide_eq_true e)),if_neg c]
  exact(U8 _ _).trans (S3 H)
theorem Live.act (h:H.Live)(a:B0):(H.act a).1.Live:=⟨by
 unfold AI.act
 split
 ·exact h.fit
 ·exact(h.fit.begun).Dy a,by rw [W6];have:=h.CW;split<;>omega,h.Mx.act a⟩
theorem Live.run:∀(l:List B0) {H:AI},H.Live→(H.run l).1.Live
 | [],_,h=>h
 | a :: r,_,h=>Live.run r (h.act a)
end
theorem XC {xs:List B0}{k:Int}(h0:0≤k)(h1:k < xs.length)(H:AI):(H.run (xs.take (k+1).toNat)).1=((H.run (xs.take k.toNat)).1.act (xs.getD k.toNat default)).1:=by rw [Xv h0 h1]
/-! #### does a house answer at all? -/
def QL:B0:=⟨1,2,0,[]⟩
def type2:B0:=⟨2,2,0,[97,110,110,13,10]⟩
def TX:B0:=⟨5,0,0,[]⟩
theorem dp:AI.new.Live:=Oa
theorem dt:(AI.new.act QL).1.Live:=dp.act _
theorem dr:((AI.new.act QL).1.act type2).1.Live:=dt.act _
def cW:AI:=(((AI.new.act QL).1.act type2).1.act TX).1
theorem XA:cW.Live:=dr.act _
theorem dh:(AI.new.act QL).2.code=0:=by kernel_rfl
theorem dT:(((AI.new.act QL).1.act type2).1.act TX).2.code=0:=by kernel_rfl
theorem dW:cW.I8 2=(2,2):=by kernel_rfl
theorem dK:decide (2 < ((cW.at_ 2).told.length:Int))=true:=by kernel_rfl
theorem Live.told {V:AL}{ls:Vector BI 4}{ev:List Event}(h:(A3 V ls ev).Live){k:Int}(h0:0≤k)(h1:k < 4):(ls.at k).told.length≤1000000:=by
 have:=h.fit.told k h0 h1
 rw [B4 _ _ _ h0 h1] at this
 exact Nat.le_trans this (by decide)
theorem Live.wait {V:AL}{ls:Vector BI 4}{ev:List Event}(h:(A3 V ls ev).Live){k:Int}(h0:0≤k)(h1:k < 4):(ls.at k).wait.length≤1000000:=by
 have:=(h.Mx k h0 h1).n
 rw [B4 _ _ _ h0 h1] at this
 exact Nat.le_trans this (by decide)
theorem Live.queue {V:AL}{ls:Vector BI 4}{ev:List Event}(h:(A3 V ls ev).Live){k:Int}(h0:0≤k)(h1:k < 4):(ls.at k).queue.length≤1000000:=by
 have:=(h.Mx k h0 h1).ln.len
 rw [B4 _ _ _ h0 h1] at this
 exact Nat.le_trans this (by decide)
theorem Live.last {V:AL}{ls:Vector BI 4}{ev:List Event}(h:(A3 V ls ev).Live):ev.length≤1000000:=Nat.le_trans h.fit.last (by decide)
/-! #### do two houses stand alike? -/
def Za (s t:Az):Bool:=decide (s.wait=t.wait) && decide (s.pg.shown=t.pg.shown) && (s.pg.B6 == t.pg.B6) && decide (s.pg.ring=t.pg.ring) && (s.pg.cut == t.pg.cut)
def Zy (s t:Az):Bool:=decide (s.now=t.now) && (s.Cq == t.Cq) && (s.ret == t.ret) && decide (s.queue=t.queue)
def sameAt (H K:AI)(k:Int):Bool:=!(!decide ((H.I8 k).1=(K.I8 k).1) || !decide ((H.I8 k).2=(K.I8 k).2) || !Za (H.at_ k) (K.at_ k) || !Zy (H.at_ k) (K.at_ k))
def same (H K:AI):Bool:=B7 4 (sameAt H K) 4 && decide (H.w=K.w)
end AI
end Go.Ing
/- What beings do keeps: things, people, and who is far. -/
namespace Go.Ing
open Go
theorem FC {α β:Type}[Inhabited α]{n:Nat}(f:α→β)(v:Vector α n){k:Int}{x:α}(hx:f x=f (v.at k))(i:Int):f ((v.put k x).at i)=f (v.at i):=by
 unfold Vector.put Vector.at at *
 rw [List.getD_eq_getElem?_getD] at hx ⊢
 rw [List.getD_eq_getElem?_getD]
 simp only [Vector.toList_setIfInBounds]
 rw [List.getElem?_set]
 split
 ·rename_i h1
  split
  ·rw [← h1,← hx];rfl
  ·rename_i h2
   rw [← h1,List.getElem?_eq_none (by omega)]
 ·rfl
namespace AF
/-! #### things stay what they are -/
def Y8 (X:AH)(_:List Event)(Y:AH):Prop:=∀ i,(Y.AO.at i).name=(X.AO.at i).name∧(Y.AO.at i).kind=(X.AO.at i).kind
theorem aI (x:Aq)(q:Prop)(b:Int):Rel x q b Y8 where
 refl _:=fun _=>⟨rfl,rfl⟩
 trans h k:=fun i=>⟨(k i).1.trans (h i).1,(k i).2.trans (h i).2⟩
 bb _:=fun _=>⟨rfl,rfl⟩
 Bs {w i t} hn hk:=fun j=>⟨FC Al.name w.AO hn j,FC Al.kind w.AO hk j⟩
 Bz:=fun _=>⟨rfl,rfl⟩
 shut:=fun _=>⟨rfl,rfl⟩
 F3:=fun _=>⟨rfl,rfl⟩
 Gk _:=fun _=>⟨rfl,rfl⟩
 gone h _:=h
theorem YD:YC Y8:=⟨fun b _ _=>aI [] False b,fun _=>⟨rfl,rfl⟩,fun _ h _=>h⟩
/-! #### who is there -/
def aj (l:List Event)(c:Int):Prop:=∃ e∈l,e.kind=18∧e.Db=c
def ZD (X:AH)(l:List Event)(Y:AH):Prop:=∀ c,0≤c→c < 6→((Y.AM.at c).here=true→(X.AM.at c).here=true∧(Y.AM.at c).name=(X.AM.at c).name)∧(2≤c→¬ aj l c→(Y.AM.at c).here=(X.AM.at c).here)
theorem Gf {X Y:AH}{l:List Event}(h:∀ c,(Y.AM.at c).here=(X.AM.at c).here∧(Y.AM.at c).name=(X.AM.at c).name):ZD X l Y:=fun c _ _=>⟨fun e=>⟨by rw [← (h c).1];exact e,(h c).2⟩,fun _ _=>(h c).1⟩
theorem Uv {X Y Z:AH}{l m:List Event}(h:ZD X l Y)(k:ZD Y m Z):ZD X (l++m) Z:=fun c c0 c6=>⟨fun e=>by
  obtain⟨a,b⟩:=(k c c0 c6).1 e
  obtain⟨d,f⟩:=(h c c0 c6).1 a
  exact⟨d,b.trans f⟩,fun c2 hn=>((k c c0 c6).2 c2 fun⟨e,he,h1⟩=>hn ⟨e,List.mem_append_right _ he,h1⟩).trans ((h c c0 c6).2 c2 fun⟨e,he,h1⟩=>hn ⟨e,List.mem_append_left _ he,h1⟩)⟩
theorem XZ (x:Aq)(q:Prop){b:Int}(b0:0≤b)(b6:b < 6):Rel x q b ZD where
 refl _:=Gf fun _=>⟨rfl,rfl⟩
 trans:=Uv
 bb _:=Gf fun _=>⟨rfl,rfl⟩
 Bs _ _:=Gf fun _=>⟨rfl,rfl⟩
 Bz {w k f}:=Gf fun c=>⟨FC Ag.here w.AM (k:=k) (x:={ w.AM.at k with Bz:=f }) rfl c,FC Ag.name w.AM (k:=k) (x:={ w.AM.at k with Bz:=f }) rfl c⟩
 shut:=Gf fun _=>⟨rfl,rfl⟩
 F3 {w d r}:=Gf fun c=>⟨FC Ag.here w.AM (k:=b) (x:={ w.AM.at b with room:=r,Bz:=0 }) rfl c,FC Ag.name w.AM (k:=b) (x:={ w.AM.at b with room:=r,Bz:=0 }) rfl c⟩
 Gk _ {w}:=Gf fun _=>⟨rfl,rfl⟩
 gone {X l w} h hg:=fun c c0 c6=>by
  by_cases e:c=b
  ·subst e
   rw [AH.EL c0 c6]
   refine⟨fun e=>(by cases e),fun c2 hn=>?_⟩
   obtain⟨e,he,hk,ha⟩:=hg
   rcases hk with hk | ⟨_,hk⟩
   ·exact absurd ⟨e,he,hk,ha⟩ hn
   ·omega
  ·rw [AH.GS b0 b6 c0 e];exact h c c0 c6
theorem ab:YC ZD:=⟨fun b b0 b6=>XZ [] False b0 b6,fun {w k h}=>Gf fun c=>⟨FC Ag.here w.AM (k:=k) (x:={ w.AM.at k with BK:=h }) rfl c,FC Ag.name w.AM (k:=k) (x:={ w.AM.at k with BK:=h }) rfl c⟩,
 fun {X l w b} _ h _=>fun c c0 c6=>by
  have e1:=FC Ag.here w.AM (k:=b) (x:={ w.AM.at b with room:=0,BK:=10 }) rfl c
  have e2:=FC Ag.name w.AM (k:=b) (x:={ w.AM.at b with room:=0,BK:=10 }) rfl c
  have:=h c c0 c6
  rw [← e1,← e2] at this
  exact this⟩
def Still (_:AH)(l:List Event)(_:AH):Prop:=∀ e∈l,e.kind≠18
theorem Sk {x:Aq}{w:AH}{e:Event}(h:Shape x w e):e.kind≠18:=by
 cases h with
 | aW _=>show(16:Int)≠18;decide
 | said=>show(7:Int)≠18;decide
 | @kind k h=>show k≠18;omega
 | @dir k d h=>show k≠18;omega
 | @Bs k i h=>show k≠18;omega
 | @G0 k h=>show k≠18;omega
 | aV=>show(6:Int)≠18;decide
 | Wx=>show(5:Int)≠18;decide
 | CC _ _=>show(14:Int)≠18;decide
theorem UR (x:Aq)(b:Int):Rel x False b Still where
 refl _:=fun _ h=>by cases h
 trans h k:=fun e he=>(List.mem_append.1 he).elim (h e) (k e)
 bb {w e} h:=fun y hy=>by rw [List.mem_singleton.1 hy,(HF w b e).1];exact Sk h
 Bs _ _:=fun _ h=>by cases h
 Bz:=fun _ h=>by cases h
 shut:=fun _ h=>by cases h
 F3 {w d r}:=fun y hy=>by rw [List.mem_singleton.1 hy,(HF w b _).1];show(1:Int)≠18;decide
 Gk h:=h.elim
 gone h _:=h
theorem Yy:YC Still:=⟨fun b _ _=>UR [] b,fun _ h=>(by cases h),fun _ h _=>h⟩
def By (b:Int)(_:AH)(l:List Event)(_:AH):Prop:=∀ e∈l,e.Db=b
theorem cy (x:Aq)(q:Prop)(b:Int):Rel x q b (By b) where
 refl _:=fun _ h=>by cases h
 trans h k:=fun e he=>(List.mem_append.1 he).elim (h e) (k e)
 bb {w e} _:=fun y hy=>by rw [List.mem_singleton.1 hy,(HF w b e).2]
 Bs _ _:=fun _ h=>by cases h
 Bz:=fun _ h=>by cases h
 shut:=fun _ h=>by cases h
 F3 {w d r}:=fun y hy=>by rw [List.mem_singleton.1 hy,(HF w b _).2]
 Gk _ {w}:=fun y hy=>by rw [List.mem_singleton.1 hy,(HF w b _).2]
 gone h _:=h
/-! #### who stays in a room -/
end AF
end Go.Ing
/- What a house keeps through every act: people and pages. -/
namespace Go.Ing
open Go
namespace AF
theorem Wm (X:AH)(s:Aq)(b:Int):(Iy X s b).w=X.C4 b (JW s):=(Jh _).1
theorem QF (X:AH):∀ n:Nat,n≤6→2≤CM X n→(X.AM.at (CM X n)).here=false
 | 0,_,h=>by have:CM X 0=-1:=rfl;omega
 | n+1,hn,h=>by
  unfold CM at h ⊢
  split
  ·rename_i c
   rw [Bool.and_eq_true] at c
   simpa using c.1
  ·rename_i c
   rw [if_neg c] at h
   exact QF X n (by omega) h
theorem aF {X:AH}{b:Int}{o:Order}(hg:X.Bb=true)(b0:0≤b)(b6:b < 6)(hh:(X.AM.at b).here=true)(h0:0≤o.verb)(h1:o.verb≤20):(EA X b o)=((AF.act ⟨X,b,[]⟩ o).w,(AF.act ⟨X,b,[]⟩ o).out,0):=by
 unfold EA
 rw [if_neg (by rw [hg];decide),if_neg (by rw [decide_eq_false (by omega:¬ b < 0),decide_eq_false (by omega:¬ 6≤b),hh];decide),if_neg (by rw [decide_eq_false (by omega:¬ o.verb < 0),decide_eq_false (by omega:¬ 20 < o.verb)];decide)]
theorem Ud {X:AH}{b:Int}{o:Order}(hg:X.Bb=true)(hw:X.DH):(EA X b o).1.Bb=true:=by
 by_cases h:(EA X b o).2.2=0
 ·exact(keeps hw h).1
 ·have:(EA X b o).1=X:=by
   unfold EA at h ⊢
   split
   ·rfl
   ·split
    ·rfl
    ·split
     ·rfl
     ·rename_i c1 c2 c3
      rw [if_neg c1,if_neg c2,if_neg c3] at h
      exact absurd rfl h
  rw [this];exact hg
theorem Z3 {X:AH}{b:Int}(hg:X.Bb=true)(b0:0≤b)(b6:b < 6)(hh:(X.AM.at b).here=true):((EA X b AI.EB).1.AM.at b).here=false:=by
 rw [aF hg b0 b6 hh (by decide) (by decide)]
 have e:AF.act ⟨X,b,[]⟩ AI.EB=AF.Gk ⟨X,b,[]⟩:=rfl
 rw [e]
 have hf:=O8 ⟨X,b,[]⟩
 show((AF.Gk ⟨X,b,[]⟩).w.AM.at b).here=false
 rw [hf.2.2]
 show(((((⟨X,b,[]⟩:AF).kind 18).E3.w.AM).put b default).at b).here=false
 rw [Vector.CD b0 b6];rfl
theorem R2 {X:AH}{d:Int}(hg:X.Bb=true)(hw:X.DH):(CV X d).1.Bb=true:=by
 unfold CV
 rw [if_neg (by rw [hg];decide)]
 have h:=(LI YD (draw:=d) hg hw 6 (Nat.le_refl 6)).2.1
 generalize DW X d 6=r at *
 exact h
end AF
namespace AI
structure Td (U:Aq→Prop)(P:AI→Prop):Prop where
 lines:∀ {H k},P H→0≤k→k < 4→∀ q∈(H.at_ k).queue,U q
 begun:∀ {H},P H→P H.begun
 step:∀ {H X},P H→Step U H X→P X
 next:∀ {H k q r},P H→0≤k→k < 4→(H.at_ k).state≠0→(H.at_ k).queue=q :: r→P (H.next k r)
 K1:∀ {H k},P H→0≤k→k < 4→(H.at_ k).state=0→P (H.set k ((({ (default:Az) with state:=1,Au:=-1 }:Az).offer 3).offer 31))
 byte:∀ {H k u},P H→0≤k→k < 4→(H.at_ k).state≠0→P (H.set k (C1 (H.at_ k) u).1)
 HO:∀ {H k n},P H→0≤k→k < 4→(H.at_ k).state≠0→P (H.set k ((H.at_ k).HO n))
theorem FU (s:Az)(o:Int):(s.offer o).state=s.state:=by
 unfold Az.offer;split<;>exact(Ng _ _).2.1
structure Qm (U:Aq→Prop)(Z:AI)(P:AI→Prop):Prop where
 lines:∀ {H k},P H→0≤k→k < 4→∀ q∈(H.at_ k).queue,U q
 step:∀ {H X},P H→Step U H X→P X
 next:∀ {H k q r},P H→0≤k→k < 4→(H.at_ k).state≠0→(H.at_ k).queue=q :: r→P (H.next k r)
 K1:∀ {k},0≤k→k < 4→(Z.at_ k).state=0→P (Z.set k ((({ (default:Az) with state:=1,Au:=-1 }:Az).offer 3).offer 31))
 byte:∀ {k u},0≤k→k < 4→(Z.at_ k).state≠0→P (Z.set k (C1 (Z.at_ k) u).1)
 HO:∀ {k n},0≤k→k < 4→(Z.at_ k).state≠0→P (Z.set k ((Z.at_ k).HO n))
section
variable {U:Aq→Prop} {P:AI→Prop} {H X Z:AI} (K:Qm U Z P)
include K
theorem Qm.steps (h:P H)(s:Steps U H X):P X:=Steps.J5 (fun h s=>K.step h s) h s
theorem Qm.EN (h:P H){k:Int}(h0:0≤k)(h1:k < 4):P (H.EN k):=by
 rcases Ol (U:=U) H h0 h1 (K.lines h h0 h1) with ⟨_,e⟩ | ⟨q,r,hs,e,s⟩
 ·rw [e];exact h
 ·exact K.steps (K.next h h0 h1 hs e) s
theorem Qm.turns (h:P H):∀ k:Nat,k≤4→P (H.turns k)
 | 0,_=>h
 | k+1,hk=>K.EN (Qm.turns h k (by omega)) (by omega) (by omega)
theorem Qm.Be (h:P H):P H.Be:=K.steps h (OU H)
theorem Qm.told (h:P H){k:Int}(h0:0≤k)(h1:k < 4)(hs:(H.at_ k).state≠0){u:Aq}(hu:u∈XG):P (H.tell k u):=K.step h (.told h0 h1 hs hu)
theorem Qm.Dy (h:P Z)(a:B0):P (Z.Dy a).1:=by
 unfold AI.Dy
 split
 ·have hp:=K.Be (K.steps (K.turns h 4 (Nat.le_refl 4)) (Jy (Z.turns 4) a.n))
  dsimp only
  unfold AI.Ni
  exact hp
 ·split
  ·exact h
  ·split
   ·exact h
   ·rename_i c
    have hs:0≤a.BL∧a.BL < 4:=by simp only [Bool.or_eq_true,decide_eq_true_eq] at c;omega
    split
    ·exact h
    ·rename_i c2
     have c2':decide ((Z.at_ a.BL).state=0)=decide (a.kind=1):=by simpa using c2
     split
     ·rename_i c3
      have hz:(Z.at_ a.BL).state=0:=of_decide_eq_true (c2'.trans c3)
      have h1:=K.K1 hs.1 hs.2 hz
      have h2:=K.Be (K.told (u:=Hm) h1 hs.1 hs.2 (by
       rw [Di _ hs.1 hs.2 hs.1,if_pos rfl,FU,FU]
       exact(by decide:(1:Int)≠0)) (List.mem_cons_self ..))
      dsimp only
      unfold AI.K1
      exact h2
     ·rename_i c3
      have hz:(Z.at_ a.BL).state≠0:=fun e=>c3 (by rw [← c2'];exact decide_eq_true e)
      split
      ·have h1:=K.byte hs.1 hs.2 hz (u:=a.bytes)
       have h2:=K.Be h1
       have h3:=K.Be (K.told (u:=N9) h1 hs.1 hs.2 (by rw [Di _ hs.1 hs.2 hs.1,if_pos rfl,(F0 _ _).2.1];exact hz) (List.mem_cons_of_mem _ (List.mem_cons_self ..)))
       dsimp only
       rw [Il]
       split
       ·exact h3
       ·exact h2
      ·split
       ·have h1:=K.Be (K.HO (n:=a.n) hs.1 hs.2 hz)
        dsimp only
        exact h1
       ·have h1:=K.Be (K.steps h (Gi Z hs.1 hs.2))
        dsimp only
        exact h1
end
section
variable {U:Aq→Prop} {P:AI→Prop} (K:Td U P) {H X:AI}
include K
theorem Td.Dy (h:P X)(a:B0):P (X.Dy a).1:=Qm.Dy ⟨K.lines,K.step,K.next,K.K1 h,K.byte h,K.HO h⟩ h a
theorem Td.act (h:P H)(a:B0):P (H.act a).1:=by
 unfold AI.act
 split
 ·exact h
 ·exact K.Dy (K.begun h) a
theorem Td.run:∀(l:List B0) {H:AI},P H→P (H.run l).1
 | [],_,h=>h
 | a :: r,_,h=>Td.run r (K.act h a)
end
structure Home (H:AI):Prop where
 gd:H.w.Bb=true
 Fe:H.w.LK
 Mx:H.HN
 me:∀ k,0≤k→k < 4→(H.at_ k).state=2→2≤(H.at_ k).Au∧(H.at_ k).Au≤5∧(H.w.AM.at (H.at_ k).Au).here=true
 one:∀ j k,0≤j→j < 4→0≤k→k < 4→(H.at_ j).state=2→(H.at_ k).state=2→(H.at_ j).Au=(H.at_ k).Au→j=k
 all:∀ b,2≤b→b≤5→(H.w.AM.at b).here=true→∃ k,0≤k∧k < 4∧(H.at_ k).state=2∧(H.at_ k).Au=b
 named:∀ b,2≤b→b≤5→(H.w.AM.at b).here=true→AF.Ea (H.w.AM.at b).name=true
 diff:∀ b c,2≤b→b≤5→0≤c→c≤5→(H.w.AM.at b).here=true→(H.w.AM.at c).here=true→(H.w.AM.at c).name=(H.w.AM.at b).name→c=b
section
variable {H X:AI}
theorem Home.of (h:H.Home)(hw:X.w=H.w)(hs:∀ j,0≤j→j < 4→(X.at_ j).state=(H.at_ j).state∧(X.at_ j).Au=(H.at_ j).Au)(ho:X.HN):X.Home:=
 ⟨by rw [hw];exact h.gd,by rw [hw];exact h.Fe,ho,fun k k0 k1 e=>by
  obtain⟨a,b⟩:=hs k k0 k1
  rw [hw,b];exact h.me k k0 k1 (a ▸ e),fun j k j0 j1 k0 k1 e1 e2 e3=>by
  obtain⟨a,b⟩:=hs k k0 k1
  obtain⟨c,d⟩:=hs j j0 j1
  exact h.one j k j0 j1 k0 k1 (c ▸ e1) (a ▸ e2) (by rw [← d,← b];exact e3),fun b b0 b1 e=>by
  rw [hw] at e
  obtain⟨k,k0,k1,e1,e2⟩:=h.all b b0 b1 e
  obtain⟨c,d⟩:=hs k k0 k1
  exact⟨k,k0,k1,c.trans e1,d.trans e2⟩,by rw [hw];exact h.named,by rw [hw];exact h.diff⟩
theorem Home.put (h:H.Home){k:Int}(k0:0≤k)(k1:k < 4)(hn:(H.at_ k).state≠2){s:Az}(hs:s.state≠2)(ho:s.Ok):(H.set k s).Home:=by
 have e:∀ j,0≤j→(H.set k s).at_ j=if j=k then s else H.at_ j:=fun j j0=>Di H k0 k1 j0 s
 refine⟨h.gd,h.Fe,h.Mx.set k0 k1 ho,fun j j0 j1=>?_,fun i j i0 i1 j0 j1=>?_,fun b b0 b1 hb=>?_,h.named,h.diff⟩
 ·rw [e j j0];split
  ·exact fun q=>absurd q hs
  ·exact h.me j j0 j1
 ·rw [e i i0,e j j0];split
  ·exact fun q=>absurd q hs
  ·split
   ·exact fun _ q=>absurd q hs
   ·exact h.one i j i0 i1 j0 j1
 ·obtain⟨j,j0,j1,e1,e2⟩:=h.all b b0 b1 hb
  refine⟨j,j0,j1,?_⟩
  rw [e j j0,if_neg (fun q=>by subst q;exact hn e1)]
  exact⟨e1,e2⟩
theorem Home.land (h:H.Home){k:Int}(k0:0≤k)(k1:k < 4){w:AH}{es:List Event}(hg:w.Bb=true)(hw:w.LK)(hr:AF.ZD H.w es w)(hn:AF.Still H.w es w):(H.Hc k w (H.at_ k) es).Home:=by
 have hat:∀ j,0≤j→j < 4→((H.Hc k w (H.at_ k) es).at_ j).state=(H.at_ j).state∧((H.Hc k w (H.at_ k) es).at_ j).Au=(H.at_ j).Au:=fun j j0 j1=>by
  rw [Hs H k0 k1 _ _ _ j0 j1]
  have e:(if j=k then H.at_ k else H.at_ j)=H.at_ j:=by
   split
   ·rename_i q;rw [q]
   ·rfl
  rw [e];exact Az.Fh _ _
 have hok:(H.Hc k w (H.at_ k) es).HN:=fun j j0 j1=>by
  rw [Hs H k0 k1 _ _ _ j0 j1]
  exact Az.Ok.Fz (by split;exact h.Mx k k0 k1;exact h.Mx j j0 j1) es
 have hkeep:=MX H k w (H.at_ k) es
 have hgone:∀ c,¬ AF.aj es c:=fun c ⟨e,he,h1,_⟩=>hn e he h1
 refine Home.of (H:={ H with w:=w }) ⟨hg,hw,h.Mx,fun j j0 j1 e=>?_,h.one,fun b b0 b1 e=>h.all b b0 b1 ((hr b (by omega) (by omega)).1 e).1,fun b b0 b1 e=>?_,fun b c b0 b1 c0 c1 e1 e2 e3=>?_⟩ hkeep.1 hat hok
 ·obtain⟨a,b,c⟩:=h.me j j0 j1 e
  exact⟨a,b,((hr _ (by omega) (by omega)).2 a (hgone _)).trans c⟩
 ·obtain⟨p,q⟩:=(hr b (by omega) (by omega)).1 e
  show AF.Ea (w.AM.at b).name=true
  rw [q];exact h.named b b0 b1 p
 ·obtain⟨p,q⟩:=(hr b (by omega) (by omega)).1 e1
  obtain⟨p',q'⟩:=(hr c (by omega) (by omega)).1 e2
  exact h.diff b c b0 b1 c0 c1 p p' (by rw [← q,← q'];exact e3)
theorem Home.left (h:H.Home){k:Int}(k0:0≤k)(k1:k < 4)(hs:(H.at_ k).state=2):(H.Hc k (AF.EA H.w (H.at_ k).Au EB).1 default (AF.EA H.w (H.at_ k).Au EB).2.1).Home:=by
 obtain⟨b2,b5,hh⟩:=h.me k k0 k1 hs
 have hr:AF.ZD H.w (AF.EA H.w (H.at_ k).Au EB).2.1 (AF.EA H.w (H.at_ k).Au EB).1:=AF.RM (AF.XZ [] True (by omega) (by omega)) rfl (fun _=>trivial)
 have hb:AF.By (H.at_ k).Au H.w (AF.EA H.w (H.at_ k).Au EB).2.1 (AF.EA H.w (H.at_ k).Au EB).1:=AF.RM (AF.cy [] True _) rfl (fun _=>trivial)
 have hq:=AF.Z3 h.gd (show 0≤(H.at_ k).Au by omega) (by omega) hh
 have hg:=AF.Ud (b:=(H.at_ k).Au) (o:=EB) h.gd h.Fe.H3
 have hw:=(AF.KS (b:=(H.at_ k).Au) (o:=EB) h.Fe MV).1
 generalize hd:AF.EA H.w (H.at_ k).Au EB=D at *
 have hkeep:=MX H k D.1 default D.2.1
 have hat:=fun j j0 j1=>Hs H k0 k1 D.1 default D.2.1 (j:=j) j0 j1
 have st:∀ j,0≤j→j < 4→((H.Hc k D.1 default D.2.1).at_ j).state=2→j≠k∧(H.at_ j).state=2∧((H.Hc k D.1 default D.2.1).at_ j).Au=(H.at_ j).Au:=fun j j0 j1 e=>by
  rw [hat j j0 j1] at e ⊢
  rw [(Az.Fh _ _).1] at e
  rw [(Az.Fh _ _).2]
  by_cases q:j=k
  ·rw [if_pos q] at e;exact absurd (show(0:Int)=2 from e) (by decide)
  ·rw [if_neg q] at e ⊢;exact⟨q,e,rfl⟩
 refine⟨by rw [hkeep.1];exact hg,by rw [hkeep.1];exact hw,fun j j0 j1=>?_,fun j j0 j1 e=>?_,fun i j i0 i1 j0 j1 e1 e2 e3=>?_,fun b b0 b1 e=>?_,fun b b0 b1 e=>?_,fun b c b0 b1 c0 c1 e1 e2 e3=>?_⟩
 ·rw [hat j j0 j1]
  exact Az.Ok.Fz (by split;exact Az.DK;exact h.Mx j j0 j1) _
 ·obtain⟨q,e1,e2⟩:=st j j0 j1 e
  obtain⟨a,b,c⟩:=h.me j j0 j1 e1
  rw [hkeep.1,e2]
  refine⟨a,b,((hr _ (by omega) (by omega)).2 a fun⟨y,hy,_,ha⟩=>?_).trans c⟩
  exact q (h.one j k j0 j1 k0 k1 e1 hs (ha.symm.trans (hb y hy)))
 ·obtain⟨_,a1,a2⟩:=st i i0 i1 e1
  obtain⟨_,c1,c2⟩:=st j j0 j1 e2
  exact h.one i j i0 i1 j0 j1 a1 c1 (by rw [← a2,← c2];exact e3)
 ·rw [hkeep.1] at e
  obtain⟨p,_⟩:=(hr b (by omega) (by omega)).1 e
  obtain⟨j,j0,j1,a1,a2⟩:=h.all b b0 b1 p
  have hjk:j≠k:=fun q=>by subst q;rw [a2,e] at hq;cases hq
  refine⟨j,j0,j1,?_⟩
  rw [hat j j0 j1,(Az.Fh _ _).1,(Az.Fh _ _).2,if_neg hjk]
  exact⟨a1,a2⟩
 ·rw [hkeep.1] at e ⊢
  obtain⟨p,q⟩:=(hr b (by omega) (by omega)).1 e
  rw [q];exact h.named b b0 b1 p
 ·rw [hkeep.1] at e1 e2 e3
  obtain⟨p,q⟩:=(hr b (by omega) (by omega)).1 e1
  obtain⟨p',q'⟩:=(hr c (by omega) (by omega)).1 e2
  exact h.diff b c b0 b1 c0 c1 p p' (by rw [← q,← q'];exact e3)
theorem Home.QX (h:H.Home){k:Int}{u:Aq}(k0:0≤k)(k1:k < 4)(hs:(H.at_ k).state=1)(he:(AF.BX H.w u).2.2.2=0):(H.Hc k (AF.BX H.w u).1 { H.at_ k with state:=2,Au:=(AF.BX H.w u).2.1 } (AF.BX H.w u).2.2.1).Home:=by
 rcases AF.Ry H.w u with ⟨hn,_⟩ | ⟨e,f2,f5,hn,_,ht⟩
 ·exact absurd he hn
 have hw:=(AF.I1 (s:=u) h.Fe).1
 have hf:=AF.QF H.w 6 (Nat.le_refl 6) f2
 have hlen:u.length≤8:=by
  have h2:=hn
  simp only [AF.Ea,Bool.and_eq_true,decide_eq_true_eq] at h2
  omega
 have hfit:=AF.P6 (b:=AF.CM H.w 6) h.gd h.Fe.H3 (s:=u) (by omega) (by omega) (by omega)
 have hwe:=AF.Wm H.w u (AF.CM H.w 6)
 rw [e] at hw ⊢
 generalize AF.CM H.w 6=f at *
 generalize (AF.Iy H.w u f).out=es
 generalize (AF.Iy H.w u f).w=w at *
 show(H.Hc k w { H.at_ k with state:=2,Au:=f } es).Home
 have hw2:w.LK:=hw
 have hg:w.Bb=true:=by rw [hwe];exact hfit.gd
 have bf:w.AM.at f=AF.JW u:=by rw [hwe];exact AH.EL (by omega) (by omega) _
 have bn:∀ c,0≤c→c≠f→w.AM.at c=H.w.AM.at c:=fun c c0 hc=>by rw [hwe];exact AH.GS (by omega) (by omega) c0 hc _
 have hkeep:=MX H k w { H.at_ k with state:=2,Au:=f } es
 have hat:∀ j,0≤j→j < 4→((H.Hc k w { H.at_ k with state:=2,Au:=f } es).at_ j).state=(if j=k then 2 else(H.at_ j).state)∧((H.Hc k w { H.at_ k with state:=2,Au:=f } es).at_ j).Au=(if j=k then f else(H.at_ j).Au):=fun j j0 j1=>by
  rw [Hs H k0 k1 _ _ _ j0 j1,(Az.Fh _ _).1,(Az.Fh _ _).2]
  split<;>exact⟨rfl,rfl⟩
 have out:∀ j,0≤j→j < 4→(H.at_ j).state=2→(H.at_ j).Au≠f:=fun j j0 j1 e q=>by
  have:=(h.me j j0 j1 e).2.2
  rw [q,hf] at this;cases this
 refine⟨by rw [hkeep.1];exact hg,by rw [hkeep.1];exact hw2,fun j j0 j1=>?_,fun j j0 j1=>?_,fun i j i0 i1 j0 j1=>?_,fun b b0 b1 e=>?_,fun b b0 b1 e=>?_,fun b c b0 b1 c0 c1 e1 e2 e3=>?_⟩
 ·rw [Hs H k0 k1 _ _ _ j0 j1]
  exact Az.Ok.Fz (by split;exact(h.Mx k k0 k1).QX f;exact h.Mx j j0 j1) _
 ·rw [(hat j j0 j1).1,(hat j j0 j1).2,hkeep.1]
  split
  ·intro _;rw [bf];exact⟨by omega,by omega,rfl⟩
  ·intro e
   obtain⟨a,b,c⟩:=h.me j j0 j1 e
   exact⟨a,b,by rw [bn _ (by omega) (out j j0 j1 e)];exact c⟩
 ·rw [(hat i i0 i1).1,(hat i i0 i1).2,(hat j j0 j1).1,(hat j j0 j1).2]
  split
  ·rename_i q1
   split
   ·rename_i q2;intro _ _ _;rw [q1,q2]
   ·intro _ e q;exact absurd q.symm (out j j0 j1 e)
  ·split
   ·intro e _ q;exact absurd q (out i i0 i1 e)
   ·exact h.one i j i0 i1 j0 j1
 ·rw [hkeep.1] at e
  by_cases q:b=f
  ·exact⟨k,k0,k1,by rw [(hat k k0 k1).1,if_pos rfl],by rw [(hat k k0 k1).2,if_pos rfl,q]⟩
  ·rw [bn b (by omega) q] at e
   obtain⟨j,j0,j1,a1,a2⟩:=h.all b b0 b1 e
   have hjk:j≠k:=fun q=>by subst q;omega
   exact⟨j,j0,j1,by rw [(hat j j0 j1).1,if_neg hjk];exact a1,by rw [(hat j j0 j1).2,if_neg hjk];exact a2⟩
 ·rw [hkeep.1] at e ⊢
  by_cases q:b=f
  ·rw [q,bf];exact hn
  ·rw [bn b (by omega) q] at e ⊢;exact h.named b b0 b1 e
 ·rw [hkeep.1] at e1 e2 e3
  have hfree:∀ c,0≤c→c≤5→(H.w.AM.at c).here=true→(H.w.AM.at c).name≠u:=fun c c0 c1 hc q=>by
   have:=ht c c0 (by omega)
   unfold AF.It at this
   rw [hc,q] at this
   simp at this
  by_cases q1:b=f
  ·by_cases q2:c=f
   ·rw [q1,q2]
   ·rw [bn c (by omega) q2] at e2 e3
    rw [q1,bf] at e3
    exact absurd e3 (hfree c c0 c1 e2)
  ·rw [bn b (by omega) q1] at e1 e3
   by_cases q2:c=f
   ·rw [q2,bf] at e3
    exact absurd e3.symm (hfree b (by omega) b1 e1)
   ·rw [bn c (by omega) q2] at e2 e3
    exact h.diff b c b0 b1 c0 c1 e1 e2 e3
theorem SN (q:Aq)(hq:q.length≤1000):(Words.parse q).1.text.length≤1000000:=by
 have:=(Words.Jf q).2.2
 omega
theorem Home.step (h:H.Home)(hu:True){U:Aq→Prop}(hU:∀ q,U q→q.length≤1000)(s:Step U H X):X.Home:=by
 cases s with
 | @told k u h0 h1 hs _=>
  refine h.of rfl (fun j j0 j1=>?_) (h.Mx.step (U:=U) (.told h0 h1 hs ‹_›))
  unfold AI.tell
  rw [Di _ h0 h1 j0]
  split
  ·rename_i q;subst q;exact⟨(GA _ _).1,(GA _ _).2.1⟩
  ·exact⟨rfl,rfl⟩
 | @Be k h0 h1 hs=>
  refine h.of rfl (fun j j0 j1=>?_) (h.Mx.step (U:=U) (.Be h0 h1 hs))
  rw [Di _ h0 h1 j0]
  split
  ·rename_i q;subst q;exact⟨(IN _).2.1,(IN _).2.2.1⟩
  ·exact⟨rfl,rfl⟩
 | @free k h0 h1 hn=>exact h.put h0 h1 (fun e=>hn ⟨e,(h.me k h0 h1 e).2.2⟩) (show(0:Int)≠2 by decide) Az.DK
 | @goes k w s es h0 h1 g=>
  cases g with
  | left hs _=>exact h.left h0 h1 hs
  | QX hs he=>exact h.QX h0 h1 hs he
  | cS hq hn0 hn1 hv=>
   have hst:=(h.Mx k h0 h1).st
   obtain⟨b2,b5,hh⟩:=h.me k h0 h1 (by omega)
   exact h.land h0 h1 (AF.Ud h.gd h.Fe.H3) (AF.KS h.Fe (SN _ (hU _ hq))).1 (AF.RM (AF.XZ _ False (by omega) (by omega)) rfl (fun e=>hv e)) (AF.RM (AF.UR _ _) rfl (fun e=>hv e))
  | round=>exact h.land h0 h1 (AF.R2 h.gd h.Fe.H3) (AF.LH h.Fe).1 (AF.QH AF.ab h.Fe.H3) (AF.QH AF.Yy h.Fe.H3)
end
end AI
end Go.Ing
/- An act that is refused, and acts behind the last: plain laws. -/
namespace Go.Ing
open Go
theorem X7 {α:Type}(a b c:α) : [a,b,c].Perm [c,b,a]:=List.reverse_perm [c,b,a]
namespace AI
theorem S9 (H:AI):H.begun.w=H.w∧H.begun.last = []∧H.begun.CW=H.CW+1:=HG (H:={ H with CW:=H.CW+1,last:= [] }) 4
def zero:B0:=⟨0,0,0,[]⟩
end AI
end Go.Ing
/- Behind each act: people and pages. -/
namespace Go.Ing
open Go
namespace Az
theorem Still.heard {s:Az}(h:s.Still):({ s with told:= [] }:Az).Still:=by
 refine⟨?_,h.cut⟩
 have e:({ s with told:= [] }:Az).Be={ s.Be with told:= [] }:=by
  unfold Az.Be
  by_cases c:(!s.LR || decide (s.Dw.B1 < 0) || decide (200 < s.Dw.B1))=true
  ·rw [if_pos c,if_pos (show(!({ s with told:= [] }:Az).LR || decide (({ s with told:= [] }:Az).Dw.B1 < 0) || decide (200 < ({ s with told:= [] }:Az).Dw.B1))=true from c)]
  ·rw [if_neg c,if_neg (show ¬ (!({ s with told:= [] }:Az).LR || decide (({ s with told:= [] }:Az).Dw.B1 < 0) || decide (200 < ({ s with told:= [] }:Az).Dw.B1))=true from c)]
 rw [e,h.fl]
end Az
namespace AI
theorem Home.CW:Td (fun q=>q.length≤1000) Home where
 lines {H k} h h0 h1 q hq:=by
  have:=((Bg.F6 q).1 ((h.Mx k h0 h1).ln.queue q hq)).1
  omega
 begun {H} h:=h.of (S9 H).1 (fun j j0 j1=>by rw [JY j0 j1];exact⟨rfl,rfl⟩) h.Mx.begun
 step h s:=h.step trivial (fun _ h=>h) s
 next {H k q r} h h0 h1 _ e:=h.of rfl (fun j j0 j1=>by
  unfold AI.next;rw [Di _ h0 h1 j0];split
  ·rename_i q;subst q;exact⟨rfl,rfl⟩
  ·exact⟨rfl,rfl⟩) (h.Mx.set h0 h1 ((h.Mx k h0 h1).next e))
 K1 {H k} h h0 h1 hz:=h.put h0 h1 (by rw [hz];decide) (by rw [FU,FU];exact(by decide:(1:Int)≠2)) (((show({ (default:Az) with state:=1,Au:=-1 }:Az).Ok from⟨⟨show(0:Int)≤1 by decide,show(1:Int)≤2 by decide⟩,Az.DK.n,Az.DK.ring,Az.DK.s0,Az.DK.s1,Az.DK.ln⟩).offer 3).offer 31)
 byte {H k u} h h0 h1 _:=h.of rfl (fun j j0 j1=>by
  rw [Di _ h0 h1 j0];split
  ·rename_i q;subst q;exact⟨(F0 _ _).2.1,(F0 _ _).2.2.1⟩
  ·exact⟨rfl,rfl⟩) (h.Mx.set h0 h1 ((h.Mx k h0 h1).typed u))
 HO {H k n} h h0 h1 _:=h.of rfl (fun j j0 j1=>by
  rw [Di _ h0 h1 j0];split
  ·rename_i q;subst q;exact⟨rfl,rfl⟩
  ·exact⟨rfl,rfl⟩) (h.Mx.set h0 h1 ((h.Mx k h0 h1).HO n))
def Zero (H:AI):Prop:=∀ k,0≤k→k < 4→(H.at_ k).state=0→H.at_ k=default
theorem Zero.set {H:AI}(h:H.Zero){k:Int}(h0:0≤k)(h1:k < 4){s:Az}(hs:s.state=0→s=default):(H.set k s).Zero:=fun j j0 j1=>by
 rw [Di _ h0 h1 j0];split
 ·exact hs
 ·exact h j j0 j1
theorem Zero.CW:Td (fun _=>True) Zero where
 lines _ _ _ _ _:=trivial
 begun {H} h:=fun k h0 h1=>by
  rw [JY h0 h1]
  intro e
  rw [h k h0 h1 e];rfl
 step {H X} h s:=by
  cases s with
  | told h0 h1 hs _=>exact h.set h0 h1 (fun e=>absurd ((GA _ _).1.symm.trans e) hs)
  | Be h0 h1 hs=>exact h.set h0 h1 (fun e=>absurd ((IN _).2.1.symm.trans e) hs)
  | free h0 h1 _=>exact h.set h0 h1 (fun _=>rfl)
  | @goes k w s es h0 h1 g=>
   have hs:s.state=0→s=default:=by
    cases g with
    | left _ _=>exact fun _=>rfl
    | QX _ _=>exact fun e=>absurd (show(2:Int)=0 from e) (by decide)
    | cS _ hn _ _=>exact fun e=>absurd e hn
    | round=>exact h 0 (Int.le_refl 0) (by decide)
   intro j j0 j1
   rw [Hs H h0 h1 _ _ _ j0 j1]
   intro e
   rw [(Az.Fh _ _).1] at e
   have e2:(if j=k then s else H.at_ j)=default:=by
    split at e
    ·rename_i q;rw [if_pos q];exact hs e
    ·rename_i q;rw [if_neg q];exact h j j0 j1 e
   rw [e2];exact Nv es
 next {H k q r} h h0 h1 hs _:=h.set h0 h1 (fun e=>absurd e hs)
 K1 {H k} h h0 h1 _:=h.set h0 h1 (fun e=>by rw [FU,FU] at e;exact absurd (show(1:Int)=0 from e) (by decide))
 byte {H k u} h h0 h1 hs:=h.set h0 h1 (fun e=>absurd ((F0 _ _).2.1.symm.trans e) hs)
 HO {H k n} h h0 h1 hs:=h.set h0 h1 (fun e=>absurd e hs)
def Calm (H:AI):Prop:=∀ k,0≤k→k < 4→(H.at_ k).state≠0→(H.at_ k).Still
theorem S7 (X:AI)(h:X.HN)(a:B0):(X.Dy a).1=X∨∃ Y:AI,Y.HN∧(X.Dy a).1=Y.Be:=
 JE (fun Z=>Z=X∨∃ Y:AI,Y.HN∧Z=Y.Be) (.inl rfl) (fun d=> .inr ⟨_,(h.turns 4 (Nat.le_refl 4)).steps (U:=fun _=>True) (Jy _ d),rfl⟩)
  (fun k h0 h1=> .inr ⟨_,(h.set h0 h1 (((show({ (default:Az) with state:=1,Au:=-1 }:Az).Ok from⟨⟨show(0:Int)≤1 by decide,show(1:Int)≤2 by decide⟩,Az.DK.n,Az.DK.ring,Az.DK.s0,Az.DK.s1,Az.DK.ln⟩).offer 3).offer 31)).tell h0 h1 Hm,rfl⟩)
  (fun k u h0 h1=> .inr ⟨_,by
   have hs:=h.set h0 h1 ((h k h0 h1).typed u)
   exact(show(if decide (0 < (C1 (X.at_ k) u).2)=true then(X.set k (C1 (X.at_ k) u).1).tell k N9 else X.set k (C1 (X.at_ k) u).1).HN by
    split
    ·exact hs.tell h0 h1 N9
    ·exact hs),Il X k u⟩)
  (fun k z h0 h1=> .inr ⟨_,h.set h0 h1 ((h k h0 h1).HO z),rfl⟩) (fun k h0 h1=> .inr ⟨_,h.steps (U:=fun _=>True) (Gi X h0 h1),rfl⟩) a
theorem Calm.act {H:AI}(h:H.Calm)(ho:H.HN)(a:B0):(H.act a).1.Calm:=by
 unfold AI.act
 split
 ·exact h
 ·rcases S7 H.begun ho.begun a with e | ⟨Y,hy,e⟩
  ·rw [e]
   intro k h0 h1
   rw [JY h0 h1]
   exact fun hs=>(h k h0 h1 hs).heard
  ·rw [e]
   exact fun k h0 h1 hs=>S1 hy h0 h1 hs
theorem WO:AI.new.Home:=by
 have hb:∀ b:Int,2≤b→b≤5→(AI.new.w.AM.at b).here=true→False:=fun b b0 b1=>by
  have:b=2∨b=3∨b=4∨b=5:=by omega
  rcases this with e | e | e | e<;>subst e<;>decide
 have hs:∀ k,0≤k→k < 4→(AI.new.at_ k).state=2→False:=fun k h0 h1 e=>by
  rw [OP h0 h1] at e
  exact absurd (show(0:Int)=2 from e) (by decide)
 exact⟨AH.Xd,UZ,UD,fun k h0 h1 e=>(hs k h0 h1 e).elim,fun j k j0 j1 k0 k1 e=>(hs j j0 j1 e).elim,fun b b0 b1 e=>(hb b b0 b1 e).elim,fun b b0 b1 e=>(hb b b0 b1 e).elim,fun b c b0 b1 c0 c1 e=>(hb b b0 b1 e).elim⟩
theorem We:AI.new.Zero:=fun k h0 h1 _=>OP h0 h1
theorem WN:AI.new.Calm:=fun k h0 h1 e=>absurd (by rw [OP h0 h1];rfl) e
structure IH (H:AI):Prop where
 home:H.Home
 zero:H.Zero
 calm:H.Calm
 live:H.Live
theorem XS:AI.new.IH:=⟨WO,We,WN,Oa⟩
theorem IH.act {H:AI}(h:H.IH)(a:B0):(H.act a).1.IH:=⟨Home.CW.act h.home a,Zero.CW.act h.zero a,h.calm.act h.home.Mx a,h.live.act a⟩
theorem IH.run:∀(l:List B0) {H:AI},H.IH→(H.run l).1.IH
 | [],_,h=>h
 | a :: r,_,h=>IH.run r (h.act a)
theorem IH.cut {H:AI}(h:H.IH){k:Int}(h0:0≤k)(h1:k < 4):(H.at_ k).pg.cut=false:=by
 by_cases e:(H.at_ k).state=0
 ·rw [h.zero k h0 h1 e];rfl
 ·exact(h.calm k h0 h1 e).cut
def GZ (H:AI):Nat→Vector Bool 6
 | 0=>Vector.replicate 6 default
 | k+1=>if decide ((H.at_ k).state=2)=true then(GZ H k).put (H.at_ k).Au true else GZ H k
theorem Nc (H:AI){k:Int}(h:0≤k):GZ H (k+1).toNat=if decide ((H.at_ k).state=2)=true then(GZ H k.toNat).put (H.at_ k).Au true else GZ H k.toNat:=by
 obtain⟨m,rfl⟩:=Int.eq_ofNat_of_zero_le h
 rfl
theorem OH {H:AI}(h:H.Home){b:Int}(b0:0≤b)(b6:b < 6):∀ k:Nat,k≤4→((GZ H k).at b=true↔∃ j:Int,0≤j∧j < k∧(H.at_ j).state=2∧(H.at_ j).Au=b)
 | 0,_=>by
  refine⟨fun e=>?_,fun⟨j,_,_,_⟩=>by omega⟩
  have e2:(Vector.replicate 6 (default:Bool)).at b=true:=e
  clear e
  have:b=0∨b=1∨b=2∨b=3∨b=4∨b=5:=by omega
  rcases this with q | q | q | q | q | q<;>subst q<;>exact absurd e2 (by decide)
 | k+1,hk=>by
  have ih:=OH h b0 b6 k (by omega)
  unfold GZ
  split
  ·rename_i c
   have c':=of_decide_eq_true c
   obtain⟨m2,m5,_⟩:=h.me k (by omega) (by omega) c'
   rw [IL _ _ _ _ (by omega) (by omega) b0]
   split
   ·rename_i q
    exact⟨fun _=>⟨k,by omega,by omega,c',q.symm⟩,fun _=>rfl⟩
   ·rename_i q
    rw [ih]
    refine⟨fun⟨j,j0,j1,e⟩=>⟨j,j0,by omega,e⟩,fun⟨j,j0,j1,e1,e2⟩=>⟨j,j0,?_,e1,e2⟩⟩
    have:j≠(k:Int):=fun z=>q (by rw [← e2,z])
    omega
  ·rename_i c
   rw [ih]
   refine⟨fun⟨j,j0,j1,e⟩=>⟨j,j0,by omega,e⟩,fun⟨j,j0,j1,e1,e2⟩=>⟨j,j0,?_,e1,e2⟩⟩
   have:j≠(k:Int):=fun z=>c (decide_eq_true (by rw [← z];exact e1))
   omega
end AI
theorem U6 {V:AL}{ls:Vector BI 4}{ev:List Event}(h:(A3 V ls ev).IH){k:Int}(h0:0≤k)(h1:k < 4){g:Hd}(hl:g.len=(ls.at k).wait.length):Page.Bb ⟨g,(V.Ao.at k).out.shown,(V.Ao.at k).out.B6,(V.Ao.at k).out.ring,(V.Ao.at k).out.cut⟩=true:=by
 have ho:=h.live.Mx k h0 h1
 rw [B4 _ _ _ h0 h1] at ho
 refine Page.ND ?_ ho.ring ho.s0 ho.s1
 show g.len≤60
 rw [hl];exact ho.n
theorem Xi {V:AL}{ls:Vector BI 4}{ev:List Event}(h:(A3 V ls ev).IH){k:Int}(h0:0≤k)(h1:k < 4):(V.Ao.at k).out.cut=false:=by
 have:=h.cut h0 h1
 rw [B4 _ _ _ h0 h1] at this
 exact this
theorem V0 {V:AL}{ls:Vector BI 4}{ev:List Event}(h:(A3 V ls ev).IH){k:Int}(h0:0≤k)(h1:k < 4){g:Hd}(hl:g.len=(ls.at k).queue.length):Bg.Bb ⟨(V.Ao.at k).EE.now,(V.Ao.at k).EE.Cq,(V.Ao.at k).EE.ret,g⟩ (ls.at k).queue=true:=by
 have ho:=(h.live.Mx k h0 h1).ln
 rw [B4 _ _ _ h0 h1] at ho
 exact(Bg.GX hl).2 ho
section
variable {V:AL} {ls:Vector BI 4} {ev:List Event} {k:Int}
theorem JJ {v:A2}(h:(B9 v).1=2):v.state=2∧(B9 v).2=v.Au:=by
 unfold B9 at h ⊢
 split at h
 ·rename_i c;rw [if_pos c];exact⟨of_decide_eq_true c,rfl⟩
 ·rename_i c;exact absurd (decide_eq_true (show v.state=2 from h)) c
theorem Zz (h0:0≤k)(h1:k < 4)(h:(B9 (V.Ao.at k)).1=2):AI.GZ (A3 V ls ev) (k+1).toNat=(AI.GZ (A3 V ls ev) k.toNat).put (B9 (V.Ao.at k)).2 true:=by
 obtain⟨a,b⟩:=JJ h
 rw [AI.Nc _ h0,B4 _ _ _ h0 h1,if_pos (decide_eq_true (show(Cl (V.Ao.at k) (ls.at k)).state=2 from a)),b]
 rfl
theorem Zv (h0:0≤k)(h1:k < 4)(h:¬ (B9 (V.Ao.at k)).1=2):AI.GZ (A3 V ls ev) (k+1).toNat=AI.GZ (A3 V ls ev) k.toNat:=by
 rw [AI.Nc _ h0,B4 _ _ _ h0 h1,if_neg]
 intro e
 have e':(V.Ao.at k).state=2:=of_decide_eq_true e
 refine h ?_
 unfold B9
 rw [if_pos (decide_eq_true e')]
variable (hF:(A3 V ls ev).IH)
include hF
theorem VO (h0:0≤k)(h1:k < 4)(h:(B9 (V.Ao.at k)).1=2):2≤(B9 (V.Ao.at k)).2∧(B9 (V.Ao.at k)).2≤5:=by
 obtain⟨a,b⟩:=JJ h
 have hm:=hF.home.me k h0 h1 (by rw [B4 _ _ _ h0 h1];exact a)
 rw [B4 _ _ _ h0 h1] at hm
 rw [b];exact⟨hm.1,hm.2.1⟩
theorem Sx (h0:0≤k)(h1:k < 4)(h:(B9 (V.Ao.at k)).1=2):(decide ((B9 (V.Ao.at k)).2 < 2) || decide (6≤(B9 (V.Ao.at k)).2) || (AI.GZ (A3 V ls ev) k.toNat).at (B9 (V.Ao.at k)).2 || !(V.w.AM.at (B9 (V.Ao.at k)).2).here || !AF.Ea (V.w.AM.at (B9 (V.Ao.at k)).2).name)=false:=by
 obtain⟨a,b⟩:=JJ h
 have hst:((A3 V ls ev).at_ k).state=2:=by rw [B4 _ _ _ h0 h1];exact a
 have hbe:((A3 V ls ev).at_ k).Au=(V.Ao.at k).Au:=by rw [B4 _ _ _ h0 h1];rfl
 have hm:=hF.home.me k h0 h1 hst
 rw [hbe] at hm
 have hn:=hF.home.named _ hm.1 hm.2.1 hm.2.2
 have hu:(AI.GZ (A3 V ls ev) k.toNat).at (V.Ao.at k).Au=false:=by
  cases hc:(AI.GZ (A3 V ls ev) k.toNat).at (V.Ao.at k).Au with
  | false=>rfl
  | true=>
   obtain⟨j,j0,j1,e1,e2⟩:=(AI.OH hF.home (by omega) (by omega) k.toNat (by omega)).1 hc
   have:=hF.home.one j k j0 (by omega) h0 h1 e1 hst (by rw [e2,hbe])
   omega
 have hh:(V.w.AM.at (V.Ao.at k).Au).here=true:=hm.2.2
 have hn':AF.Ea (V.w.AM.at (V.Ao.at k).Au).name=true:=hn
 rw [b,decide_eq_false (by omega:¬ (V.Ao.at k).Au < 2),decide_eq_false (by omega:¬ 6≤(V.Ao.at k).Au),hu,hh,hn']
 rfl
theorem Vw (h0:0≤k)(h1:k < 4)(h:(B9 (V.Ao.at k)).1=2){c:Int}(c0:0≤c)(c6:c < 6):(!decide (c=(B9 (V.Ao.at k)).2) && (V.w.AM.at c).here && decide ((V.w.AM.at c).name=(V.w.AM.at (B9 (V.Ao.at k)).2).name))=false:=by
 obtain⟨a,b⟩:=JJ h
 have hst:((A3 V ls ev).at_ k).state=2:=by rw [B4 _ _ _ h0 h1];exact a
 have hbe:((A3 V ls ev).at_ k).Au=(V.Ao.at k).Au:=by rw [B4 _ _ _ h0 h1];rfl
 have hm:=hF.home.me k h0 h1 hst
 rw [hbe] at hm
 rw [b]
 cases hc:(!decide (c=(V.Ao.at k).Au) && (V.w.AM.at c).here && decide ((V.w.AM.at c).name=(V.w.AM.at (V.Ao.at k).Au).name)) with
 | false=>rfl
 | true=>
  simp only [Bool.and_eq_true,Bool.not_eq_true',decide_eq_false_iff_not,decide_eq_true_eq] at hc
  exact absurd (hF.home.diff _ c hm.1 hm.2.1 c0 (by omega) hm.2.2 hc.1.2 hc.2) hc.1.1
theorem Wj {c:Int}(c0:2≤c)(c6:c < 6):((V.w.AM.at c).here && !(AI.GZ (A3 V ls ev) (4:Int).toNat).at c)=false:=by
 cases hc:(V.w.AM.at c).here with
 | false=>rfl
 | true=>
  obtain⟨j,j0,j1,e⟩:=hF.home.all c c0 (by omega) hc
  have:=(AI.OH hF.home (b:=c) (by omega) c6 4 (Nat.le_refl 4)).2 ⟨j,j0,j1,e⟩
  show(true && !(AI.GZ (A3 V ls ev) 4).at c)=false
  rw [this];rfl
end
end Go.Ing

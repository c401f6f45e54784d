/- What the functions that the law of this seat reaches compute, and the plain laws of it. No condition. -/
import Derived.Test.YtlmmdjaoikaceaaGreatDoorHouseRunsEc3
import Derived.Test.YtlmmdjaoikaceaaGreatDoorHouseRunsRa1
import Derived.Test.YtlmmdjaoikaceaaGreatDoorHouseRunsRb1
set_option linter.unusedSimpArgs false
set_option linter.unusedVariables false
/- Who is far perceives nothing: plain laws. -/
namespace Go.Ing
open Go
namespace AD
theorem Mi (w:AD)(e:Event):∀ n:Nat,(w.GK e n).kind=e.kind∧(w.GK e n).Ak=e.Ak∧(w.GK e n).room=e.room∧(w.GK e n).other=e.other∧(w.GK e n).n=e.n∧(w.GK e n).CT=e.CT∧(w.GK e n).D8=e.D8∧(w.GK e n).AP=e.AP∧(w.GK e n).text=e.text
 | 0=>⟨rfl,rfl,rfl,rfl,rfl,rfl,rfl,rfl,rfl⟩
 | k+1=>Mi w e k
end AD
namespace AA
section
variable {b c rc:Int} {S:Int→Prop} {T:AA}
section
variable (c0:0≤c) (c6:c < 6) (hn:c≠b)
include c0 c6 hn
end
end
end AA
end Go.Ing
/- What others are told is not empty: plain laws. -/
namespace Go.Ing
open Go
namespace AD
end AD
theorem Ki {α:Type}{d:α}{xs:List α}{i:Nat}(h:i < xs.length):xs.getD i d∈xs:=by
 rw [List.getD_eq_getElem?_getD,List.getElem?_eq_getElem h]
 exact List.getElem_mem h
namespace AA
theorem NZ:∀(l:List Int) (T:AA),(T.CL l).out.length=T.out.length+l.length
 | [],T=>rfl
 | i :: r,T=>by rw [CL,NZ r,FH];show T.out.length+1+r.length=_;rw [List.length_cons];omega
theorem O9 (v to:Int):∀(l:List Int) (T:AA),(T.FV v to l).out.length≤T.out.length+l.length
 | [],T=>Nat.le_refl _
 | i :: r,T=>by
  have h1:=O9 v to r (T.Bh v to i)
  have h2:=T.PD v to i
  rw [FV,List.length_cons];omega
theorem TT (T:AA){l:List Int}(hl:l.length≤9)(o:Order):(T.Ot l o).out.length≤T.out.length+10:=by
 have h:=(C7 T.w l o.nth o.name o.Am).length_le
 unfold Ot
 rw [NZ]
 split
 ·rw [BQ];omega
 ·omega
theorem cP (T:AA)(o:Order):(T.get o).out.length≤T.out.length+11:=by
 have hb:=T.EL o.second
 unfold get
 split
 ·split
  ·omega
  ·have:=TT (T.box o.second).1 (AD.Fw (T.box o.second).1.w 2 (T.box o.second).2.1) o
   omega
 ·have:=TT T T.DB o
  omega
theorem Xf (T:AA)(o:Order):(T.EM o).out.length≤T.out.length+11:=by
 have hb:=T.My o
 unfold EM
 split
 ·omega
 ·unfold Xh
  have h:=(C7 (T.B0 o).1.w (T.B0 o).1.own o.nth o.name o.Am).length_le
  have h9:=(T.B0 o).1.FX
  refine Nat.le_trans (O9 _ _ _ _) ?_
  split
  ·rw [BQ];omega
  ·omega
theorem XQ (T:AA)(o:Order):(T.FR o).out.length≤T.out.length+2:=by
 unfold FR
 generalize (if (!decide (o.nth=1) || o.Am)=true then [] else o.name)=nm
 have hs:=T.Ej nm
 split
 ·omega
 ·refine Nat.le_trans (Nat.le_of_eq (BQ _ _)) ?_
  split
  ·show(T.AS nm).1.out.length+1≤_;omega
  ·show(T.AS nm).1.out.length+1≤_;omega
theorem OY (T:AA)(first:Bool)(i:Int)(v:Bool)(k:Int):(T.before first i v k).out.length=T.out.length+1:=by
 unfold before
 split
 ·rw [FH];rfl
 ·exact FH T k i
theorem dE (T:AA)(o:Order):(T.set o).out.length≤T.out.length+1:=by
 unfold set
 split
 ·unfold Hk
  split
  ·rw [BQ];exact Nat.le_refl _
  ·split
   ·rw [BQ];exact Nat.le_refl _
   ·refine Nat.le_trans (Nat.le_of_eq (BE _ _)) ?_
    split<;>exact Nat.le_refl _
 ·split
  ·rw [BQ];exact Nat.le_refl _
  ·split
   ·rw [BQ];exact Nat.le_refl _
   ·split
    ·exact Nat.le_of_eq (OY T _ _ _ _)
    ·exact Nat.le_of_eq (OY T _ _ _ _)
theorem bC (T:AA)(d:Int):(T.walk d).out.length≤T.out.length+11:=by
 unfold walk
 split
 ·rw [BQ];omega
 ·split
  ·rw [BQ];omega
  ·refine Nat.le_trans (M3 _).2.2 ?_
   rw [BE]
   show(T.out ++ [_]).length+1+9≤_
   simp
theorem bq (T:AA)(o:Order):(T.act o).out.length≤T.out.length+11:=by
 unfold act
 split
 ·exact T.bC _
 ·split
  ·exact Nat.le_trans (T.M3).2.2 (by omega)
  ·split
   ·rw [(T.JR _ _).2.2];omega
   ·split
    ·rw [BE];omega
    ·split
     ·rw [(T.VQ).2.1,HO];omega
     ·split
      ·exact Nat.le_trans (T.XQ o) (by omega)
      ·split
       ·exact T.cP o
       ·split
        ·exact T.Xf o
        ·exact Nat.le_trans (T.dE o) (by omega)
end AA
end Go.Ing
/- A round of all fights: plain functions and laws. -/
namespace Go.Ing
open Go
theorem Cj (d:Int):-2≤d.tmod 3∧d.tmod 3≤2:=by
 have h1:=Int.tmod_lt_of_pos d (show(0:Int) < 3 by decide)
 have h2:=Int.tmod_lt_of_pos (-d) (show(0:Int) < 3 by decide)
 rw [Int.neg_tmod] at h2
 omega
namespace AA
def Ec (w:AD)(b:Int):AA:=⟨w.Bc b { w.AF.at b with AW:=1 },b,[]⟩
def GR (w:AD)(b:Int):AA:=((Ec w b).kind 15).EG
def JM (w:AD)(b:Int):AA:=(GR w b).Cy b { (GR w b).w.AF.at b with room:=0,AW:=10 }
def FO (w:AD)(b:Int):AA:=if decide (b < 2)=true then(GR w b).Cy b default else((JM w b).kind 17).look
def hit (draw b:Int):Int:=1+(draw.tmod 3+3+b).tmod 3
def Aq (w:AD)(b A1 n:Int):AA:=(AA.Al ⟨w,b,[]⟩ { Dn 14 with other:=A1,n:=n }).Cy A1 { w.AF.at A1 with AW:=max 0 ((w.AF.at A1).AW - n) }
def DU (draw b:Int)(s:AD × List Event):AD × List Event:=
 if (!(s.1.AF.at b).here || decide ((s.1.AF.at b).A1=0))=true then s
 else if (!(s.1.AF.at ((s.1.AF.at b).A1 - 1)).here || !decide ((s.1.AF.at ((s.1.AF.at b).A1 - 1)).room=(s.1.AF.at b).room))=true then(s.1.Bc b { s.1.AF.at b with A1:=0 },s.2)
 else if decide (((Aq s.1 b ((s.1.AF.at b).A1 - 1) (hit draw b)).w.AF.at ((s.1.AF.at b).A1 - 1)).AW=0)=true then((FO (Aq s.1 b ((s.1.AF.at b).A1 - 1) (hit draw b)).w ((s.1.AF.at b).A1 - 1)).w,(s.2++(Aq s.1 b ((s.1.AF.at b).A1 - 1) (hit draw b)).out)++(FO (Aq s.1 b ((s.1.AF.at b).A1 - 1) (hit draw b)).w ((s.1.AF.at b).A1 - 1)).out)
 else((Aq s.1 b ((s.1.AF.at b).A1 - 1) (hit draw b)).w,s.2++(Aq s.1 b ((s.1.AF.at b).A1 - 1) (hit draw b)).out)
def DF (X:AD)(draw:Int):Nat→AD × List Event
 | 0=>(X,[])
 | k+1=>DU draw k (DF X draw k)
def BW (X:AD)(draw:Int):AD × List Event × Int:=if (!X.A3)=true then(X,[],2) else((DF X draw 6).1,(DF X draw 6).2,0)
theorem DM {X:AD}{draw k:Int}(h:0≤k):DF X draw (k+1).toNat=DU draw k (DF X draw k.toNat):=by
 obtain⟨m,rfl⟩:=Int.eq_ofNat_of_zero_le h
 rfl
theorem MC {draw b:Int}(h:0≤b):1≤hit draw b∧hit draw b≤3:=by
 unfold hit
 have:=Cj draw
 have h2:0≤draw.tmod 3+3+b:=by omega
 have h3:=Int.tmod_nonneg (a:=draw.tmod 3+3+b) 3 h2
 have h4:=Int.tmod_lt_of_pos (draw.tmod 3+3+b) (show(0:Int) < 3 by decide)
 omega
structure Ya (x:BC):Prop where
 room:0≤x.room∧x.room < 6
 AW:0≤x.AW∧x.AW≤10
 A1:0≤x.A1∧x.A1≤6
 off:x.here=false→x.A1=0
 alive:x.here=decide (0 < x.AW)
theorem gx {x:BC}(h:AD.Cb x=false):Ya x:=by
 simp only [AD.Cb,Bool.or_eq_false_iff,decide_eq_false_iff_not,Bool.and_eq_false_iff,Bool.not_eq_false',bne_eq_false_iff_eq] at h
 obtain⟨⟨⟨⟨⟨⟨⟨q1,q2⟩,q3⟩,q4⟩,q5⟩,q6⟩,q7⟩,q8⟩:=h
 refine⟨by omega,by omega,by omega,fun e=>?_,q8⟩
 rcases q7 with q | q
 ·rw [e] at q;cases q
 ·exact of_decide_eq_true q
theorem gu {x:BC}(h:Ya x):AD.Cb x=false:=by
 have h1:=h.room;have h2:=h.AW;have h3:=h.A1
 simp only [AD.Cb,Bool.or_eq_false_iff,decide_eq_false_iff_not,Bool.and_eq_false_iff,Bool.not_eq_false',bne_eq_false_iff_eq]
 refine⟨⟨⟨⟨⟨⟨⟨by omega,by omega⟩,by omega⟩,by omega⟩,by omega⟩,by omega⟩,?_⟩,h.alive⟩
 cases hh:x.here with
 | true=>exact .inl rfl
 | false=>exact .inr (decide_eq_true (h.off hh))
theorem GA {X:AD}(h:X.A3=true){b:Int}(h0:0≤b)(h6:b < 6):Ya (X.AF.at b):=gx (AD.E8 h h0 h6)
theorem KA {X:AD}(h:X.A3=true){b:Int}(h0:0≤b)(h6:b < 6){x:BC}(hx:Ya x)(hh:(X.AF.at b).here=true→x.here=true):(X.Bc b x).A3=true:=
 AD.Kk h h0 h6 (gu hx) fun i i0 i9 e1 e2=>by
  rcases (AD.IQ h i0 i9).BZ with ⟨a,_⟩ | ⟨_,_,a⟩ | ⟨a,_⟩
  ·omega
  ·rw [e2] at a;exact hh a
  ·omega
theorem Qz (X:AD)(b:Int)(x y:BC):(X.Bc b x).Bc b y=X.Bc b y:=by
 unfold AD.Bc
 show({ X with AF:=(X.AF.put b x).put b y }:AD)=_
 rw [Vector.EV]
section
variable {w:AD} {b A1 n:Int} (hg:w.A3=true) (hw:w.Co) (f0:0≤A1) (f6:A1 < 6) (hh:(w.AF.at A1).here=true)
include hg hw f0 f6 hh
theorem Ja:(Ec (Aq w b A1 n).w A1).Fit:=by
 have e:(Aq w b A1 n).w.Bc A1 { (Aq w b A1 n).w.AF.at A1 with AW:=1 }=w.Bc A1 { w.AF.at A1 with AW:=1 }:=by
  show(w.Bc A1 _).Bc A1 { (w.Bc A1 _).AF.at A1 with AW:=1 }=_
  rw [Qz,AD.Dx f0 f6]
 have k:=GA hg f0 f6
 refine⟨⟨f0,f6⟩,?_,?_,?_⟩
 ·show((Aq w b A1 n).w.Bc A1 _).Co
  rw [e];exact ER hw (hw.be A1)
 ·show((Aq w b A1 n).w.Bc A1 _).A3=true
  rw [e]
  exact KA hg f0 f6 ⟨k.room,⟨show(0:Int)≤1 by decide,show(1:Int)≤10 by decide⟩,k.A1,k.off,by rw [show({ w.AF.at A1 with AW:=1 }:BC).here=true from hh];rfl⟩ fun _=>hh
 ·show(((Aq w b A1 n).w.Bc A1 _).AF.at A1).here=true
  rw [e,AD.Dx f0 f6];exact hh
theorem Ug (hn:0 < (w.AF.at A1).AW - n)(h1:0≤n):(Aq w b A1 n).w.A3=true∧(Aq w b A1 n).w.Co:=by
 have k:=GA hg f0 f6
 have hk:=k.AW
 refine⟨KA hg f0 f6 ⟨k.room,⟨?_,?_⟩,k.A1,k.off,?_⟩ fun _=>hh,ER hw (hw.be A1)⟩
 ·show 0≤max 0 ((w.AF.at A1).AW - n);omega
 ·show max 0 ((w.AF.at A1).AW - n)≤10;omega
 ·show(w.AF.at A1).here=decide (0 < max 0 ((w.AF.at A1).AW - n))
  rw [hh,decide_eq_true (by omega)]
end
theorem Ml (w:AD)(b:Int):(GR w b).b=b∧(GR w b).out=((Ec w b).kind 15).out:=VR ((Ec w b).kind 15)
theorem VM (w:AD)(b:Int):(JM w b).b=b∧(JM w b).out=((Ec w b).kind 15).out∧(JM w b).w=(GR w b).w.Bc b { (GR w b).w.AF.at b with room:=0,AW:=10 }:=by
 have h:=Ml w b
 unfold JM
 rw [(DC _ _ _).1,(DC _ _ _).2.1,(DC _ _ _).2.2]
 exact⟨h.1,h.2,rfl⟩
theorem W0 (D:AD){b:Int}(hb:0≤b∧b < 6):({ D with AF:=(D.AF.put b { D.AF.at b with room:=0 }).put b { (D.AF.put b { D.AF.at b with room:=0 }).at b with AW:=10 } }:AD)=D.Bc b { D.AF.at b with room:=0,AW:=10 }:=by
 rw [Vector.Bk hb.1 hb.2,Vector.EV];rfl
theorem Rp {X F:AD}{b:Int}(h:F=((Ec X b).kind 15).EG.w)(x:BC):(GR X b).Cy b x=⟨F.Bc b x,b,((Ec X b).kind 15).out⟩:=by
 subst h
 have e:=Ml X b
 have h1:=DC (GR X b) b x
 cases hT:(GR X b).Cy b x with
 | mk w' b' o'=>
  rw [hT] at h1
  obtain⟨q1,q2,q3⟩:=h1
  simp only at q1 q2 q3
  rw [q1,q2,q3,e.1,e.2]
  rfl
theorem Rr {X F:AD}{b:Int}(h:F=((Ec X b).kind 15).EG.w):JM X b=⟨F.Bc b { F.AF.at b with room:=0,AW:=10 },b,((Ec X b).kind 15).out⟩:=by
 have h':(GR X b).w=F:=h.symm
 unfold JM
 rw [h',Rp h]
theorem Rq {w:AD}{b:Int}(h:(Ec w b).Fit):Es (Ec w b) (GR w b)∧∀ j,0≤j→j < 9→¬ (((GR w b).w.AH.at j).BZ=1∧((GR w b).w.AH.at j).at_=b):=by
 have g1:Es (Ec w b) ((Ec w b).kind 15):=h.goes.FW rfl rfl
 obtain⟨g2,k⟩:=XP g1.fit
 exact⟨g1.trans g2,k⟩
theorem Od {w:AD}{b:Int}(h:(Ec w b).Fit):(JM w b).Fit:=by
 have g:=(Rq h).1.fit
 have hb:0≤b∧b < 6:=h.b
 have e:=VM w b
 have eb:=(Ml w b).1
 have gb:=g.b
 have gh:=g.here
 rw [eb] at gb gh
 have k:=GA g.gd hb.1 hb.2
 have gbr:=g.br
 have ggd:=g.gd
 obtain⟨e1,_,e3⟩:=e
 generalize hD:(GR w b).w=D at *
 have hx:(D.Bc b { D.AF.at b with room:=0,AW:=10 }).A3=true:=KA ggd hb.1 hb.2 ⟨⟨Int.le_refl _,show(0:Int) < 6 by decide⟩,⟨show(0:Int)≤10 by decide,show(10:Int)≤10 by decide⟩,k.A1,k.off,gh⟩ fun _=>gh
 have hy:(D.Bc b { D.AF.at b with room:=0,AW:=10 }).Co:=ER gbr (gbr.be b)
 have hz:((D.Bc b { D.AF.at b with room:=0,AW:=10 }).AF.at b).here=true:=by rw [AD.Dx hb.1 hb.2];exact gh
 exact⟨by rw [e1];exact hb,by rw [e3];exact hy,by rw [e3];exact hx,by rw [e1,e3];exact hz⟩
theorem QY {w:AD}{b:Int}(h:(Ec w b).Fit):(FO w b).w.A3=true∧(FO w b).w.Co∧(FO w b).out.length≤12:=by
 have hb:0≤b∧b < 6:=h.b
 obtain⟨g,hk⟩:=Rq h
 unfold FO
 split
 ·rw [(DC _ _ _).2.1,(DC _ _ _).2.2]
  refine⟨AD.Kk (X:=(GR w b).w) g.fit.gd hb.1 hb.2 (by decide) fun i i0 i9 e1 e2=>absurd ⟨e1,e2⟩ (hk i i0 i9),ER (X:=(GR w b).w) g.fit.br (by decide),?_⟩
  rw [(Ml w b).2,HO]
  exact(by decide:(0:Nat)+1≤12)
 ·have f:=Od h
  have hl:=M3 ((JM w b).kind 17)
  refine⟨by rw [hl.1];exact f.gd,by rw [hl.1];exact f.br,?_⟩
  have h2:=hl.2.2
  rw [HO,(VM w b).2.1,HO] at h2
  exact Nat.le_trans h2 (by decide:(0:Nat)+1+1+9≤12)
theorem C5 {s:AD × List Event}{draw b:Int}(hg:s.1.A3=true)(hw:s.1.Co)(h0:0≤b)(h6:b < 6):(DU draw b s).1.A3=true∧(DU draw b s).1.Co∧(DU draw b s).2.length≤s.2.length+13:=by
 have kb:=GA hg h0 h6
 have hn:=MC (draw:=draw) h0
 unfold DU
 split
 ·exact⟨hg,hw,by omega⟩
 ·rename_i h1
  simp only [Bool.or_eq_true,Bool.not_eq_true',decide_eq_true_eq,not_or,Bool.not_eq_false] at h1
  have kf:=kb.A1
  split
  ·exact⟨KA hg h0 h6 ⟨kb.room,kb.AW,⟨Int.le_refl _,show(0:Int)≤6 by decide⟩,fun _=>rfl,kb.alive⟩ fun h=>h,ER hw (hw.be b),Nat.le_add_right _ _⟩
  ·rename_i h2
   simp only [Bool.or_eq_true,Bool.not_eq_true',decide_eq_false_iff_not,not_or,Bool.not_eq_false,Decidable.not_not] at h2
   have hf:=Ja (b:=b) (n:=hit draw b) hg hw (A1:=(s.1.AF.at b).A1 - 1) (by omega) (by omega) h2.1
   have hso:(Aq s.1 b ((s.1.AF.at b).A1 - 1) (hit draw b)).out.length=1:=rfl
   split
   ·obtain⟨d1,d2,d3⟩:=QY hf
    refine⟨d1,d2,?_⟩
    show((s.2++_)++_).length≤_
    rw [List.length_append,List.length_append,hso];omega
   ·rename_i h3
    have h3':¬ ((Aq s.1 b ((s.1.AF.at b).A1 - 1) (hit draw b)).w.AF.at ((s.1.AF.at b).A1 - 1)).AW=0:=fun e=>h3 (decide_eq_true e)
    have e:((Aq s.1 b ((s.1.AF.at b).A1 - 1) (hit draw b)).w.AF.at ((s.1.AF.at b).A1 - 1))={ s.1.AF.at ((s.1.AF.at b).A1 - 1) with AW:=max 0 ((s.1.AF.at ((s.1.AF.at b).A1 - 1)).AW - hit draw b) }:=Vector.Bk (by omega) (by omega)
    rw [e] at h3'
    have h3'':¬ max 0 ((s.1.AF.at ((s.1.AF.at b).A1 - 1)).AW - hit draw b)=0:=h3'
    obtain⟨d1,d2⟩:=Ug (b:=b) (n:=hit draw b) hg hw (A1:=(s.1.AF.at b).A1 - 1) (by omega) (by omega) h2.1 (by omega) (by omega)
    refine⟨d1,d2,?_⟩
    show(s.2++_).length≤_
    rw [List.length_append,hso];omega
end AA
end Go.Ing
/- What a round takes: plain laws. -/
namespace Go.Ing
open Go
namespace AA
def Qm (v:Vector Int 6)(e:Event):Vector Int 6:=if decide (e.kind=14)=true then v.put e.other (v.at e.other+e.n) else v
def QZ (v:Vector Bool 6)(e:Event):Vector Bool 6:=if decide (e.kind=15)=true then v.put e.Ak true else v
def Dq (l:List Event):Vector Int 6:=l.foldl Qm (Vector.replicate 6 default)
def FE (l:List Event):Vector Bool 6:=l.foldl QZ (Vector.replicate 6 default)
theorem O4 (l:List Event)(e:Event):Dq (l ++ [e])=Qm (Dq l) e:=by simp [Dq]
theorem Oe (l:List Event)(e:Event):FE (l ++ [e])=QZ (FE l) e:=by simp [FE]
def Quiet (q:List Event):Prop:=∀ e∈q,e.kind≠14∧e.kind≠15
theorem Oo:∀ {q:List Event} (v:Vector Int 6) (u:Vector Bool 6),Quiet q→q.foldl Qm v=v∧q.foldl QZ u=u
 | [],_,_,_=>⟨rfl,rfl⟩
 | e :: r,v,u,h=>by
  have he:=h e (List.mem_cons_self ..)
  have hr:Quiet r:=fun x hx=>h x (List.mem_cons_of_mem _ hx)
  rw [List.foldl_cons,List.foldl_cons,Qm,if_neg (by simp [he.1]),QZ,if_neg (by simp [he.2])]
  exact Oo v u hr
theorem Tc {l q:List Event}(h:Quiet q):Dq (l++q)=Dq l∧FE (l++q)=FE l:=by
 unfold Dq FE
 rw [List.foldl_append,List.foldl_append]
 exact Oo _ _ h
theorem Hs (T:AA)(e:Event):∃ x:Event,(T.Al e).out=T.out ++ [x]∧x.kind=e.kind∧x.Ak=T.b∧x.other=e.other∧x.n=e.n:=by
 obtain⟨a1,a2,_,a4,a5,_⟩:=AD.Mi T.w (T.DR e) 6
 have e2:(T.DR e).kind=e.kind∧(T.DR e).Ak=T.b∧(T.DR e).other=e.other∧(T.DR e).n=e.n:=by
  unfold DR
  split<;>exact⟨rfl,rfl,rfl,rfl⟩
 exact⟨_,rfl,a1.trans e2.1,a2.trans e2.2.1,a4.trans e2.2.2.1,a5.trans e2.2.2.2⟩
def Nd (T T':AA):Prop:=∃ q,T'.out=T.out++q∧∀ e∈q,e.kind=16
theorem Nd.refl (T:AA):Nd T T:=⟨[],by simp,fun _ h=>by cases h⟩
theorem Nd.tell {T T':AA}(h:Nd T T')(s:AL):Nd T (T'.tell s):=by
 obtain⟨q,e,k⟩:=h
 obtain⟨x,e2,k2,_⟩:=Hs T' { Dn 16 with text:=s }
 refine⟨q ++ [x],?_,fun y hy=>?_⟩
 ·show(T'.Al _).out=_
  rw [e2,e,List.append_assoc]
 ·rcases List.mem_append.1 hy with hy | hy
  ·exact k y hy
  ·have:y=x:=by simpa using hy
   rw [this];exact k2
theorem Nd.look {T T':AA}(h:Nd T T'):Nd T T'.look:=by
 have hk:∀ {T'':AA},Nd T T''→∀ k:Nat,Nd T (T''.D5 k):=fun {T''} h' k=>by
  induction k with
  | zero=>exact h'
  | succ k ih=>
   unfold D5
   split
   ·exact ih.tell _
   ·exact ih
 unfold AA.look
 split
 ·exact h.tell _
 ·refine hk ?_ 6
  have ha:Nd T T'.D6:=(h.tell _).tell _
  unfold BU
  split
  ·exact ha.tell _
  ·exact ha
/-! #### who is struck, who dies -/
def calm (b:Int)(x:BC):BC:={ x with A1:=if x.A1=b+1 then 0 else x.A1 }
theorem ZL {b:Int}{x:BC}(h:x.A1=b+1):calm b x={ x with A1:=0 }:=by unfold calm;rw [if_pos h]
theorem ZK {b:Int}{x:BC}(h:¬ x.A1=b+1):calm b x=x:=by unfold calm;rw [if_neg h]
theorem L4 (T:AA)(hb:0≤T.b):∀ k:Nat,k≤6→∀ c:Int,0≤c→c < 6→(T.CS k).w.AF.at c=if c < (k:Int) then calm T.b (T.w.AF.at c) else T.w.AF.at c
 | 0,_,c,c0,_=>by rw [if_neg (by omega)];rfl
 | k+1,hk,c,c0,c6=>by
  have ih:=L4 T hb k (by omega)
  have ihk:=ih k (by omega) (by omega)
  rw [if_neg (by omega)] at ihk
  have ihc:=ih c c0 c6
  unfold CS
  rw [ihk]
  by_cases e:(T.w.AF.at (k:Int)).A1=T.b+1
  ·rw [if_pos (decide_eq_true e)]
   show(((T.CS k).w.AF.put (k:Int) { (T.CS k).w.AF.at (k:Int) with A1:=0 }).at c)=_
   rw [IK _ _ _ _ (by omega) (by omega) c0]
   by_cases ec:c=(k:Int)
   ·subst ec
    rw [if_pos rfl,if_pos (by omega),ihk,ZL e]
   ·rw [if_neg ec,ihc]
    by_cases hl:c < (k:Int)
    ·rw [if_pos hl,if_pos (by omega)]
    ·rw [if_neg hl,if_neg (by omega)]
  ·rw [if_neg (by simpa using e),ihc]
   by_cases hl:c < (k:Int)
   ·rw [if_pos hl,if_pos (by omega)]
   ·rw [if_neg hl]
    by_cases ec:c=(k:Int)
    ·subst ec
     rw [if_pos (by omega),ZK e]
    ·rw [if_neg (by omega)]
theorem LO:∀(l:List Int) (T:AA),(T.BM l).w.AF=T.w.AF
 | [],_=>rfl
 | i :: r,T=>(LO r (T.Cz i)).trans rfl
theorem cK (T:AA)(hb:0≤T.b∧T.b < 6){c:Int}(c0:0≤c)(c6:c < 6):T.EG.w.AF.at c=if c=T.b then { T.w.AF.at c with A1:=0 } else calm T.b (T.w.AF.at c):=by
 have hd:=LO T.own T
 have hdb:=(Dg T.own T).1
 have hk:=L4 (T.BM T.own) (by rw [hdb];exact hb.1) 6 (Nat.le_refl _)
 rw [hd,hdb] at hk
 rw [JO]
 generalize (T.BM T.own).CS 6=D at *
 show(D.w.AF.put T.b { D.w.AF.at T.b with A1:=0 }).at c=_
 rw [IK _ _ _ _ hb.1 hb.2 c0]
 have hc:=hk c c0 c6
 rw [if_pos (by omega)] at hc
 by_cases e:c=T.b
 ·rw [if_pos e,if_pos e,← e,hc];rfl
 ·rw [if_neg e,if_neg e,hc]
structure fy (w w':AD)(f:Int):Prop where
 iT:∀ c,0≤c→c < 6→c≠f→(w'.AF.at c).AW=(w.AF.at c).AW∧(w'.AF.at c).room=(w.AF.at c).room∧(w'.AF.at c).here=(w.AF.at c).here∧((w'.AF.at c).A1=(w.AF.at c).A1∨(w'.AF.at c).A1=0)∧(w'.AF.at c).A1≠f+1
 here:(w'.AF.at f).here=decide (2≤f)
 A1:(w'.AF.at f).A1=0
theorem WQ {w:AD}{f c:Int}(hf:0≤f∧f < 6)(c0:0≤c)(c6:c < 6):(GR w f).w.AF.at c=if c=f then { (Ec w f).w.AF.at c with A1:=0 } else calm f ((Ec w f).w.AF.at c):=cK ((Ec w f).kind 15) hf c0 c6
theorem ZP {w:AD}{f c:Int}(hf:0≤f∧f < 6)(c0:0≤c)(c6:c < 6)(hn:c≠f):(GR w f).w.AF.at c=calm f (w.AF.at c):=by
 have h0:(Ec w f).w.AF.at c=w.AF.at c:=AD.Hv hf.1 hf.2 c0 hn _
 rw [WQ hf c0 c6,h0,if_neg hn]
theorem cD (f:Int)(hf:0≤f)(x:BC):(calm f x).AW=x.AW∧(calm f x).room=x.room∧(calm f x).here=x.here∧((calm f x).A1=x.A1∨(calm f x).A1=0)∧(calm f x).A1≠f+1:=by
 by_cases e:x.A1=f+1
 ·rw [ZL e]
  refine⟨rfl,rfl,rfl, .inr rfl,?_⟩
  show(0:Int)≠f+1
  omega
 ·rw [ZK e]
  exact⟨rfl,rfl,rfl, .inl rfl,e⟩
theorem WR {w w1 w':AD}{f:Int}(hf:0≤f∧f < 6)(ho:∀ c,0≤c→c < 6→c≠f→w1.AF.at c=calm f (w.AF.at c))(he:∀ c,0≤c→c < 6→c≠f→w'.AF.at c=w1.AF.at c)(h1:(w'.AF.at f).here=decide (2≤f))(h2:(w'.AF.at f).A1=0):fy w w' f:=by
 refine⟨fun c c0 c6 hn=>?_,h1,h2⟩
 rw [he c c0 c6 hn,ho c c0 c6 hn]
 exact cD f hf.1 _
theorem XJ {w:AD}{f:Int}(h:(Ec w f).Fit):fy w (FO w f).w f∧∃ x q,(FO w f).out=x :: q∧x.kind=15∧x.Ak=f∧Quiet q:=by
 have hf:0≤f∧f < 6:=h.b
 have ho:∀ c,0≤c→c < 6→c≠f→(GR w f).w.AF.at c=calm f (w.AF.at c):=fun c c0 c6 hn=>ZP hf c0 c6 hn
 obtain⟨x,e1,k1,k2,_⟩:=Hs (Ec w f) (Dn 15)
 have hout:((Ec w f).kind 15).out = [x]:=e1
 have g:=(Rq h).1.fit
 have gh:=g.here
 rw [(Ml w f).1] at gh
 have hme:=WQ (w:=w) hf hf.1 hf.2
 rw [if_pos rfl] at hme
 have hfoe:((GR w f).w.AF.at f).A1=0:=by rw [hme]
 unfold FO
 split
 ·rename_i c2
  have c2':=of_decide_eq_true c2
  rw [(DC _ _ _).2.1,(DC _ _ _).2.2,(Ml w f).2,hout]
  generalize (GR w f).w=D at *
  refine⟨WR (w1:=D) hf ho (fun c c0 _ hn=>AD.Hv hf.1 hf.2 c0 hn _) ?_ ?_,x,[],rfl,k1,k2,fun e he=>by cases he⟩
  ·show((D.Bc f default).AF.at f).here=_
   rw [AD.Dx hf.1 hf.2,decide_eq_false (by omega)];rfl
  ·show((D.Bc f default).AF.at f).A1=_
   rw [AD.Dx hf.1 hf.2];rfl
 ·rename_i c2
  have c2':¬ f < 2:=fun e=>c2 (decide_eq_true e)
  have hl:=M3 ((JM w f).kind 17)
  have e2:=VM w f
  obtain⟨y,e3,k3,_⟩:=Hs (JM w f) (Dn 17)
  obtain⟨q,e4,k4⟩:=(Nd.refl ((JM w f).kind 17)).look
  have e3':((JM w f).kind 17).out = [x] ++ [y]:=by rw [show((JM w f).kind 17).out=_ from e3,e2.2.1,hout]
  rw [hl.1,e4,e3',show((JM w f).kind 17).w=(JM w f).w from rfl,e2.2.2]
  generalize (GR w f).w=D at *
  refine⟨WR (w1:=D) hf ho (fun c c0 _ hn=>AD.Hv hf.1 hf.2 c0 hn _) ?_ ?_,x,y :: q,rfl,k1,k2,fun e he=>?_⟩
  ·rw [AD.Dx hf.1 hf.2,decide_eq_true (by omega)];exact gh
  ·rw [AD.Dx hf.1 hf.2];exact hfoe
  ·rcases List.mem_cons.1 he with he | he
   ·rw [he,k3];exact⟨by decide,by decide⟩
   ·rw [k4 e he];exact⟨by decide,by decide⟩
/-! #### the count of a round -/
def jD (e:Event):Prop:=(e.kind=14→1≤e.n∧e.n≤3∧0≤e.other∧e.other < 6)∧(e.kind=15→0≤e.Ak∧e.Ak < 6)
structure U3 (X:AD)(s:AD × List Event):Prop where
 ev:∀ e∈s.2,jD e
 un:∀ c,0≤c→c < 6→(FE s.2).at c=false→(s.1.AF.at c).AW=(X.AF.at c).AW - (Dq s.2).at c∧(s.1.AF.at c).room=(X.AF.at c).room∧(s.1.AF.at c).here=(X.AF.at c).here
 di:∀ c,0≤c→c < 6→(FE s.2).at c=true→(X.AF.at c).AW≤(Dq s.2).at c∧(s.1.AF.at c).here=decide (2≤c)∧(s.1.AF.at c).A1=0∧∀ a,0≤a→a < 6→(s.1.AF.at a).A1≠c+1
theorem aB {α:Type}[Inhabited α](c:Int)(c0:0≤c)(c6:c < 6):(Vector.replicate 6 (default:α)).at c=default:=by
 have:c=0∨c=1∨c=2∨c=3∨c=4∨c=5:=by omega
 rcases this with rfl | rfl | rfl | rfl | rfl | rfl<;>rfl
theorem U3.start (X:AD):U3 X (X,[]):=by
 have hh:∀ c,0≤c→c < 6→(Dq []).at c=0:=fun c c0 c6=>aB c c0 c6
 have hd:∀ c,0≤c→c < 6→(FE []).at c=false:=fun c c0 c6=>aB c c0 c6
 refine⟨fun _ h=>(by cases h),fun c c0 c6 _=>⟨?_,rfl,rfl⟩,fun c c0 c6 h=>?_⟩
 ·show(X.AF.at c).AW=(X.AF.at c).AW - (Dq []).at c
  rw [hh c c0 c6];omega
 ·have h':(FE []).at c=true:=h
  rw [hd c c0 c6] at h';cases h'
theorem U3.next {X:AD}{s:AD × List Event}{draw b:Int}(h:U3 X s)(hg:s.1.A3=true)(hw:s.1.Co)(h0:0≤b)(h6:b < 6):U3 X (DU draw b s):=by
 have kb:=GA hg h0 h6
 have hn:=MC (draw:=draw) h0
 unfold DU
 split
 ·exact h
 ·rename_i h1
  simp only [Bool.or_eq_true,Bool.not_eq_true',decide_eq_true_eq,not_or,Bool.not_eq_false] at h1
  have kf:=kb.A1
  split
  ·have hb:∀ c,0≤c→((s.1.Bc b { s.1.AF.at b with A1:=0 }).AF.at c).AW=(s.1.AF.at c).AW∧((s.1.Bc b { s.1.AF.at b with A1:=0 }).AF.at c).room=(s.1.AF.at c).room∧((s.1.Bc b { s.1.AF.at b with A1:=0 }).AF.at c).here=(s.1.AF.at c).here∧(((s.1.Bc b { s.1.AF.at b with A1:=0 }).AF.at c).A1=(s.1.AF.at c).A1∨((s.1.Bc b { s.1.AF.at b with A1:=0 }).AF.at c).A1=0):=fun c c0=>by
    by_cases e:c=b
    ·subst e;rw [AD.Dx h0 h6];exact⟨rfl,rfl,rfl, .inr rfl⟩
    ·rw [AD.Hv h0 h6 c0 e];exact⟨rfl,rfl,rfl, .inl rfl⟩
   refine⟨h.ev,fun c c0 c6 hd=>?_,fun c c0 c6 hd=>?_⟩
   ·obtain⟨q1,q2,q3⟩:=h.un c c0 c6 hd
    obtain⟨r1,r2,r3,_⟩:=hb c c0
    exact⟨r1.trans q1,r2.trans q2,r3.trans q3⟩
   ·obtain⟨q1,q2,q3,q4⟩:=h.di c c0 c6 hd
    obtain⟨_,_,r3,r4⟩:=hb c c0
    refine⟨q1,r3.trans q2,?_,fun a a0 a6=>?_⟩
    ·rcases r4 with r4 | r4
     ·exact r4.trans q3
     ·exact r4
    ·have:=q4 a a0 a6
     rcases (hb a a0).2.2.2 with r | r
     ·rw [r];exact this
     ·rw [r];omega
  ·rename_i h2
   simp only [Bool.or_eq_true,Bool.not_eq_true',decide_eq_false_iff_not,not_or,Bool.not_eq_false,Decidable.not_not] at h2
   generalize hfo:(s.1.AF.at b).A1 - 1=f at *
   generalize hit draw b=n at *
   have f0:0≤f:=by omega
   have f6:f < 6:=by omega
   have hf:=Ja (b:=b) (n:=n) hg hw (A1:=f) f0 f6 h2.1
   have kf2:=(GA hg f0 f6).AW
   obtain⟨x,ex,k1,k2,k3,k4⟩:=Hs ⟨s.1,b,[]⟩ { Dn 14 with other:=f,n:=n }
   have hso:(Aq s.1 b f n).out = [x]:=ex
   have hsw:(Aq s.1 b f n).w=s.1.Bc f { s.1.AF.at f with AW:=max 0 ((s.1.AF.at f).AW - n) }:=rfl
   have k1':x.kind=14:=k1
   have k3':x.other=f:=k3
   have k4':x.n=n:=k4
   have hH:Dq (s.2 ++ [x])=(Dq s.2).put f ((Dq s.2).at f+n):=by rw [O4,Qm,if_pos (decide_eq_true k1'),k3',k4']
   have hD:FE (s.2 ++ [x])=FE s.2:=by rw [Oe,QZ,if_neg (by rw [k1'];decide)]
   have hnd:(FE s.2).at f=false:=by
    cases hh:(FE s.2).at f with
    | false=>rfl
    | true=>exact absurd (by omega:(s.1.AF.at b).A1=f+1) ((h.di f f0 f6 hh).2.2.2 b h0 h6)
   have hfe:=h.un f f0 f6 hnd
   have hxe:jD x:=⟨fun _=>by rw [k3',k4'];omega,fun e=>by rw [k1'] at e;cases e⟩
   have hev:∀ e∈s.2 ++ [x],jD e:=fun e he=>by
    rcases List.mem_append.1 he with he | he
    ·exact h.ev e he
    ·have:e=x:=by simpa using he
     rw [this];exact hxe
   have hwc:∀ c,0≤c→c≠f→(Aq s.1 b f n).w.AF.at c=s.1.AF.at c:=fun c c0 hne=>by rw [hsw];exact AD.Hv f0 f6 c0 hne _
   have hwf:(Aq s.1 b f n).w.AF.at f={ s.1.AF.at f with AW:=max 0 ((s.1.AF.at f).AW - n) }:=by rw [hsw];exact AD.Dx f0 f6 _
   have hwa:∀ a,0≤a→((Aq s.1 b f n).w.AF.at a).A1=(s.1.AF.at a).A1:=fun a a0=>by
    by_cases e:a=f
    ·rw [e,hwf]
    ·rw [hwc a a0 e]
   have hHc:∀ c,0≤c→c≠f→((Dq s.2).put f ((Dq s.2).at f+n)).at c=(Dq s.2).at c:=fun c c0 hne=>Vector.EK f0 f6 c0 hne
   have hHf:((Dq s.2).put f ((Dq s.2).at f+n)).at f=(Dq s.2).at f+n:=Vector.Bk f0 f6
   split
   ·rename_i h3
    have h3':=of_decide_eq_true h3
    rw [hwf] at h3'
    have h3'':max 0 ((s.1.AF.at f).AW - n)=0:=h3'
    obtain⟨dd,y,q,e2,y1,y2,y3⟩:=XJ hf
    rw [e2,hso]
    generalize (FO (Aq s.1 b f n).w f).w=W at *
    have hA:Dq (s.2 ++ [x]++y :: q)=(Dq s.2).put f ((Dq s.2).at f+n)∧FE (s.2 ++ [x]++y :: q)=(FE s.2).put f true:=by
     have hq:=Tc (l:=s.2 ++ [x] ++ [y]) y3
     rw [show s.2 ++ [x]++y :: q=s.2 ++ [x] ++ [y]++q by simp,hq.1,hq.2,O4,Oe,hH,hD,Qm,if_neg (by rw [y1];decide),QZ,if_pos (decide_eq_true y1),y2]
     exact⟨rfl,rfl⟩
    refine⟨fun e he=>?_,fun c c0 c6 hd=>?_,fun c c0 c6 hd=>?_⟩
    ·rcases List.mem_append.1 he with he | he
     ·exact hev e he
     ·rcases List.mem_cons.1 he with he | he
      ·rw [he];exact⟨fun e=>absurd (y1.symm.trans e) (by decide),fun _=>by rw [y2];exact⟨f0,f6⟩⟩
      ·exact⟨fun e'=>absurd e' (y3 e he).1,fun e'=>absurd e' (y3 e he).2⟩
    ·have hd':((FE s.2).put f true).at c=false:=by rw [← hA.2];exact hd
     have hne:c≠f:=fun e=>by
      rw [e,Vector.Bk f0 f6] at hd';cases hd'
     rw [Vector.EK f0 f6 c0 hne] at hd'
     obtain⟨q1,q2,q3⟩:=h.un c c0 c6 hd'
     obtain⟨r1,r2,r3,_⟩:=dd.iT c c0 c6 hne
     rw [hwc c c0 hne] at r1 r2 r3
     show(W.AF.at c).AW=(X.AF.at c).AW - (Dq (s.2 ++ [x]++y :: q)).at c∧_
     rw [hA.1,hHc c c0 hne]
     exact⟨r1.trans q1,r2.trans q2,r3.trans q3⟩
    ·have hd':((FE s.2).put f true).at c=true:=by rw [← hA.2];exact hd
     show(X.AF.at c).AW≤(Dq (s.2 ++ [x]++y :: q)).at c∧_
     rw [hA.1]
     by_cases hne:c=f
     ·subst hne
      rw [hHf]
      refine⟨by omega,dd.here,dd.A1,fun a a0 a6=>?_⟩
      by_cases ea:a=c
      ·rw [ea,dd.A1];omega
      ·exact(dd.iT a a0 a6 ea).2.2.2.2
     ·rw [Vector.EK f0 f6 c0 hne] at hd'
      rw [hHc c c0 hne]
      obtain⟨q1,q2,q3,q4⟩:=h.di c c0 c6 hd'
      obtain⟨_,_,r3,r4,_⟩:=dd.iT c c0 c6 hne
      rw [hwc c c0 hne] at r3 r4
      refine⟨q1,r3.trans q2,?_,fun a a0 a6=>?_⟩
      ·rcases r4 with r4 | r4
       ·exact r4.trans q3
       ·exact r4
      ·by_cases ea:a=f
       ·rw [ea,dd.A1];omega
       ·have:=q4 a a0 a6
        have r:=(dd.iT a a0 a6 ea).2.2.2.1
        rw [hwc a a0 ea] at r
        rcases r with r | r
        ·rw [r];exact this
        ·rw [r];omega
   ·rename_i h3
    have h3':¬ ((Aq s.1 b f n).w.AF.at f).AW=0:=fun e=>h3 (decide_eq_true e)
    rw [hwf] at h3'
    have h3'':¬ max 0 ((s.1.AF.at f).AW - n)=0:=h3'
    rw [hso]
    refine⟨hev,fun c c0 c6 hd=>?_,fun c c0 c6 hd=>?_⟩
    ·have hd':(FE s.2).at c=false:=by rw [← hD];exact hd
     show((Aq s.1 b f n).w.AF.at c).AW=(X.AF.at c).AW - (Dq (s.2 ++ [x])).at c∧_
     rw [hH]
     by_cases hne:c=f
     ·subst hne
      rw [hHf,hwf]
      refine⟨?_,hfe.2.1,hfe.2.2⟩
      show max 0 ((s.1.AF.at c).AW - n)=_
      have:=hfe.1
      omega
     ·rw [hHc c c0 hne,hwc c c0 hne]
      exact h.un c c0 c6 hd'
    ·have hd':(FE s.2).at c=true:=by rw [← hD];exact hd
     have hne:c≠f:=fun e=>by rw [e,hnd] at hd';cases hd'
     show(X.AF.at c).AW≤(Dq (s.2 ++ [x])).at c∧_
     rw [hH,hHc c c0 hne]
     obtain⟨q1,q2,q3,q4⟩:=h.di c c0 c6 hd'
     refine⟨q1,by rw [hwc c c0 hne];exact q2,by rw [hwc c c0 hne];exact q3,fun a a0 a6=>by rw [hwa a a0];exact q4 a a0 a6⟩
theorem Q0 {X:AD}{draw:Int}(hg:X.A3=true)(hw:X.Co):∀ k:Nat,k≤6→U3 X (DF X draw k)∧(DF X draw k).1.A3=true∧(DF X draw k).1.Co∧(DF X draw k).2.length≤13 * k
 | 0,_=>⟨.start X,hg,hw,Nat.le_refl _⟩
 | k+1,hk=>by
  obtain⟨h1,h2,h3,h4⟩:=Q0 hg hw k (by omega)
  obtain⟨g1,g2,g3⟩:=C5 (draw:=draw) (b:=(k:Int)) h2 h3 (by omega) (by omega)
  exact⟨h1.next h2 h3 (by omega) (by omega),g1,g2,by show(DU draw k (DF X draw k)).2.length≤_;omega⟩
theorem aD {X:AD}{draw:Int}(hw:X.Co)(h:(BW X draw).2.2=0):U3 X ((BW X draw).1,(BW X draw).2.1)∧(BW X draw).1.A3=true∧(BW X draw).2.1.length≤78:=by
 unfold BW at h ⊢
 split at h
 ·cases h
 ·rename_i h1
  rw [if_neg h1]
  obtain⟨q1,q2,_,q4⟩:=Q0 (draw:=draw) (by simpa using h1) hw 6 (Nat.le_refl _)
  generalize DF X draw 6=S at *
  exact⟨q1,q2,Nat.le_trans q4 (by decide)⟩
end AA
end Go.Ing
/- The document's side of what beings do: plain functions and laws. -/
namespace Go.Ing
open Go
namespace AA
theorem Mz (w:AD)(a:AL):∀(l:List Int) (s:AL),CY w (a++s) l=a++CY w s l
 | [],s=>rfl
 | i :: r,s=>by
  rw [CY,CY]
  split
  ·rw [← Mz w a r];simp
  ·rw [← Mz w a r];simp
theorem Ko (w:AD):∀(l:List Int) (s:AL),s.length≤(CY w s l).length
 | [],s=>Nat.le_refl _
 | i :: r,s=>by
  rw [CY]
  split
  ·refine Nat.le_trans ?_ (Ko w r _);simp
  ·refine Nat.le_trans ?_ (Ko w r _);simp
def Gl (w:AD)(l:List Int):AL:=if decide (CY w [] l = [])=true then [32,110,111,116,104,105,110,103,46] else CY w [] l ++ [46]
theorem Lg (T:AA)(s:AL)(l:List Int):T.tell (s++Gl T.w l)=T.list s l:=by
 have hs:CY T.w s l=s++CY T.w [] l:=by have:=Mz T.w s l [];rwa [List.append_nil] at this
 unfold list Qs Gl
 cases l with
 | nil=>
  rw [if_pos (by simp [CY]),if_pos (by simp [CY])]
  rw [hs]
  simp [CY]
 | cons i r=>
  have hne:CY T.w [] (i :: r)≠ []:=by
   intro e
   have h2:1≤(CY T.w [] (i :: r)).length:=by
    rw [CY]
    split
    ·refine Nat.le_trans ?_ (Ko T.w r _);simp
    ·refine Nat.le_trans ?_ (Ko T.w r _);simp
   rw [e] at h2;simp at h2
  rw [if_neg (by simpa using hne),if_neg (by simp;omega),hs,List.append_assoc]
theorem Qr {w:AD}(hw:w.Co):∀(l:List Int) (s:AL),(CY w s l).length≤s.length+l.length * 140737488351234
 | [],s=>by simp [CY]
 | i :: r,s=>by
  have hn:=hw.th i
  rw [CY]
  have ih:=Qr hw r
  split
  ·refine Nat.le_trans (ih _) ?_
   simp only [List.length_append,List.length_cons,List.length_nil];omega
  ·refine Nat.le_trans (ih _) ?_
   simp only [List.length_append,List.length_cons,List.length_nil];omega
theorem Le {w:AD}(hw:w.Co){l:List Int}(hl:l.length≤9):(Gl w l).length≤1266637395161115:=by
 have h:=Qr hw l []
 unfold Gl
 split
 ·simp
 ·simp only [List.length_append,List.length_cons,List.length_nil] at h ⊢;omega
theorem UP {T:AA}(h:(!T.w.EE T.me.room)=false):T.seen=T.w.has 0 T.me.room:=if_neg (by rw [h];decide)
theorem gn (T:AA){k o d n:Int}{x u:AL}(h:decide (0≤o)=true):T.Al { Dn k with other:=o,dir:=d,n:=n,AP:=x,text:=u }={ T with out:=T.out ++ [T.w.GK ⟨k,(T.w.AF.at T.b).room,T.b,o,d,n,(T.w.AF.at T.b).name,(T.w.AF.at o).name,x,u,default⟩ 6] }:=by
 unfold Al DR
 rw [if_pos h];rfl
theorem gk (T:AA){k o d n:Int}{x u:AL}(h:decide (0≤o)=false):T.Al { Dn k with other:=o,dir:=d,n:=n,AP:=x,text:=u }={ T with out:=T.out ++ [T.w.GK ⟨k,(T.w.AF.at T.b).room,T.b,o,d,n,(T.w.AF.at T.b).name,[],x,u,default⟩ 6] }:=by
 unfold Al DR
 rw [if_neg (by rw [h];decide)];rfl
/-! #### names of players -/
def low (c:UInt8):Bool:=decide ((c.toNat:Int) < 97) || decide (122 < (c.toNat:Int))
def Gj (s:AL)(k:Nat):Bool:=(s.drop k).all fun c=>!low c
theorem Qt {s:AL}{k:Int}(h0:0≤k)(h1:k < s.length):Gj s k.toNat=(!low (s.getD k.toNat 0) && Gj s (k+1).toNat):=by
 have hk:k.toNat < s.length:=by omega
 unfold Gj
 rw [List.drop_eq_getElem_cons hk,show(k+1).toNat=k.toNat+1 by omega,List.getD_eq_getElem?_getD,List.getElem?_eq_getElem hk]
 rfl
theorem Tq (s:AL):Gj s (s.length:Int).toNat=true:=by
 unfold Gj
 rw [show(s.length:Int).toNat=s.length by omega,List.drop_length];rfl
def Ua:AL:= [115,111,109,101,111,110,101]
def iO:AL:= [121,111,117]
def GB (s:AL):Bool:=Gj s 0 && (decide (1≤(s.length:Int)) && decide ((s.length:Int)≤8) && !decide (s=Ua) && !decide (s=iO))
def ME (s:AL):Bool:=if (decide (s=Ua) || decide (s=iO) || decide (s = []) || decide (8 < (s.length:Int)))=true then false else Gj s 0
theorem Ld (s:AL):ME s=GB s:=by
 unfold ME GB
 split
 ·rename_i h
  simp only [Bool.or_eq_true,decide_eq_true_eq] at h
  rcases h with ((h | h) | h) | h
  ·simp [h]
  ·simp [h]
  ·simp [h]
  ·rw [decide_eq_false (by omega:¬ (s.length:Int)≤8)];simp
 ·rename_i h
  simp only [Bool.or_eq_true,decide_eq_true_eq,not_or] at h
  obtain⟨⟨⟨h1,h2⟩,h3⟩,h4⟩:=h
  have h5:1≤(s.length:Int):=by
   cases s with
   | nil=>exact absurd rfl h3
   | cons c r=>simp;omega
  rw [decide_eq_true h5,decide_eq_true (by omega:(s.length:Int)≤8),decide_eq_false h1,decide_eq_false h2]
  simp
/-! #### who enters -/
def IE (X:AD)(s:AL)(k:Int):Bool:=(X.AF.at k).here && decide ((X.AF.at k).name=s)
def Cg (X:AD):Nat→Int
 | 0=>-1
 | n+1=>if (!(X.AF.at ((5 - n:Nat):Int)).here && decide (2≤((5 - n:Nat):Int)))=true then((5 - n:Nat):Int) else Cg X n
theorem JP {X:AD}{k:Int}(h0:0≤k)(h5:k≤5):Cg X (5 - (k - 1)).toNat=if (!(X.AF.at k).here && decide (2≤k))=true then k else Cg X (5 - k).toNat:=by
 have e:(5 - (k - 1)).toNat=(5 - k).toNat+1:=by omega
 rw [e,Cg,show((5 - (5 - k).toNat:Nat):Int)=k by omega]
theorem Ze {X:AD}{k:Int}(h2:2≤k)(h5:k≤5)(h:(!(X.AF.at k).here)=false):Cg X (5 - (k - 1)).toNat=Cg X (5 - k).toNat:=by
 rw [JP (by omega) h5,h];rfl
theorem XS {X:AD}{k:Int}(h2:2≤k)(h5:k≤5)(h:(!(X.AF.at k).here)=true):Cg X (5 - (k - 1)).toNat=k:=by
 rw [JP (by omega) h5,h,decide_eq_true h2];rfl
theorem XT (X:AD):Cg X 6=Cg X 4:=by
 have h1:Cg X 6=Cg X 5:=by
  rw [Cg,if_neg (by simp)]
 have h2:Cg X 5=Cg X 4:=by
  rw [Cg,if_neg (by simp)]
 rw [h1,h2]
theorem Mq (X:AD):∀ n:Nat,n≤6→Cg X n=-1∨(2≤Cg X n∧Cg X n≤5)
 | 0,_=> .inl rfl
 | n+1,h=>by
  unfold Cg
  split
  ·rename_i c
   rw [Bool.and_eq_true] at c
   have:=of_decide_eq_true c.2
   exact .inr ⟨this,by omega⟩
  ·exact Mq X n (by omega)
def KH (s:AL):BC:={ (default:BC) with name:=s,here:=true,AW:=10 }
def ZY (X:AD)(s:AL)(b:Int):AA:=((⟨X.Bc b (KH s),b,[]⟩:AA).kind 17).look
def An (X:AD)(s:AL):AD × Int × List Event × Int:=
 if (!X.A3)=true then(X,0,[],2)
 else if (!GB s)=true then(X,0,[],1)
 else if (!A2 6 (fun k=>!IE X s k) 6)=true then(X,0,[],1)
 else if decide (Cg X 6 < 0)=true then(X,0,[],4)
 else((ZY X s (Cg X 6)).w,Cg X 6,(ZY X s (Cg X 6)).out,0)
theorem Mn (X:AD)(s:AL):(An X s).2.2.1.length≤10:=by
 unfold An
 split
 ·exact Nat.zero_le _
 ·split
  ·exact Nat.zero_le _
  ·split
   ·exact Nat.zero_le _
   ·split
    ·exact Nat.zero_le _
    ·exact(M3 _).2.2
theorem Qd {X:AD}{s:AL}{b:Int}(hg:X.A3=true)(hw:X.Co)(hs:s.length≤140737488351232)(h0:0≤b)(h6:b < 6):Fit ⟨X.Bc b (KH s),b,[]⟩:=
 ⟨⟨h0,h6⟩,ER hw hs,KA hg h0 h6 ⟨⟨Int.le_refl _,show(0:Int) < 6 by decide⟩,⟨show(0:Int)≤10 by decide,show(10:Int)≤10 by decide⟩,⟨Int.le_refl _,show(0:Int)≤6 by decide⟩,fun _=>rfl,rfl⟩ fun _=>rfl,by
  show((X.Bc b (KH s)).AF.at b).here=true
  rw [AD.Dx h0 h6];rfl⟩
end AA
end Go.Ing
/- A round, as the document says it: plain laws. -/
namespace Go.Ing
open Go
theorem OD {α:Type}[Inhabited α]{n:Nat}{v u:Vector α n}(h:∀ i:Int,0≤i→i < n→v.at i=u.at i):v=u:=by
 apply Vector.ext
 intro i hi
 have:=h (i:Int) (by omega) (by omega)
 unfold Vector.at at this
 rw [List.getD_eq_getElem?_getD,List.getD_eq_getElem?_getD] at this
 simpa [hi] using this
namespace AA
def C0 (T:AA):Nat→AA
 | 0=>T
 | k+1=>if (decide (((C0 T k).w.AH.at (k:Int)).BZ=1) && decide (((C0 T k).w.AH.at (k:Int)).at_=(C0 T k).b))=true then(C0 T k).Cz k else C0 T k
theorem KE {T:AA}{k:Int}(h:0≤k):C0 T (k+1).toNat=if (decide (((C0 T k.toNat).w.AH.at k).BZ=1) && decide (((C0 T k.toNat).w.AH.at k).at_=(C0 T k.toNat).b))=true then(C0 T k.toNat).Cz k else C0 T k.toNat:=by
 obtain⟨m,rfl⟩:=Int.eq_ofNat_of_zero_le h
 rfl
theorem L8:∀(l:List Int) (T:AA) (i:Int),T.BM (l ++ [i])=(T.BM l).Cz i
 | [],_,_=>rfl
 | j :: r,T,i=>by rw [List.cons_append,BM,L8 r,BM]
theorem R2 {X:AD}{a c:Int}{n:Nat}{i:Int}(h:i∈X.LV a c n):0≤i∧i < n:=by
 unfold AD.LV at h
 obtain⟨m,hm,rfl⟩:=List.mem_map.1 (List.mem_filter.1 h).1
 have:=List.mem_range.1 hm
 exact⟨by simp,by show((m:Nat):Int) < n;omega⟩
theorem NK:∀ {l:List Int} {T:AA} {j:Int},(∀ i∈l,0≤i∧i < 9)→0≤j→j ∉ l→(T.BM l).w.AH.at j=T.w.AH.at j
 | [],_,_,_,_,_=>rfl
 | i :: r,T,j,hm,j0,hn=>by
  have hi:=hm i (List.mem_cons_self ..)
  rw [BM,NK (fun x hx=>hm x (List.mem_cons_of_mem _ hx)) j0 (fun hx=>hn (List.mem_cons_of_mem _ hx)),HM hi.1 hi.2 j0,if_neg (fun e=>hn (by rw [e];exact List.mem_cons_self ..))]
theorem Km (T:AA):∀ k:Nat,k≤9→C0 T k=T.BM (T.w.LV 1 T.b k)
 | 0,_=>rfl
 | k+1,hk=>by
  have ih:=Km T k (by omega)
  have ht:(C0 T k).w.AH.at (k:Int)=T.w.AH.at (k:Int):=by
   rw [ih]
   exact NK (fun i hi=>by have:=R2 hi;omega) (by omega) (fun hi=>by have:=R2 hi;omega)
  have hb:(C0 T k).b=T.b:=by rw [ih];exact(Dg _ _).1
  unfold C0
  rw [ht,hb]
  have e1:((k:Int)+1).toNat=k+1:=by omega
  have e2:((k:Int)).toNat=k:=by omega
  by_cases c:(decide ((T.w.AH.at (k:Int)).BZ=1) && decide ((T.w.AH.at (k:Int)).at_=T.b))=true
  ·have:=AD.VW (X:=T.w) (k:=(k:Int)) (by omega) c
   rw [e1,e2] at this
   rw [if_pos c,this,L8,ih]
  ·have:=AD.VV (X:=T.w) (k:=(k:Int)) (by omega) (Bool.eq_false_iff.2 c)
   rw [e1,e2] at this
   rw [if_neg c,this,ih]
theorem Nw (T:AA):∀ k:Nat,(T.CS k).w.Ad=T.w.Ad∧(T.CS k).w.AH=T.w.AH
 | 0=>⟨rfl,rfl⟩
 | k+1=>by
  unfold CS
  split
  ·exact Nw T k
  ·exact Nw T k
theorem ay {A B:AA}(h1:A.w.Ad=B.w.Ad)(h2:A.w.AH=B.w.AH)(h3:A.w.AF=B.w.AF)(h4:A.b=B.b)(h5:A.out=B.out):A=B:=by
 cases A with
 | mk w b o=>
  cases B with
  | mk w' b' o'=>
   cases w;cases w'
   simp only at h1 h2 h3 h4 h5
   subst h1;subst h2;subst h3;subst h4;subst h5
   rfl
theorem Vd (T:AA)(hb:0≤T.b∧T.b < 6):((C0 T 9).BV (C0 T 9).b 0).CS 6=T.EG:=by
 have e:C0 T 9=T.BM T.own:=Km T 9 (Nat.le_refl _)
 have eb:(T.BM T.own).b=T.b:=(Dg _ _).1
 rw [e,JO,eb]
 generalize T.BM T.own=D at *
 rw [← eb] at hb ⊢
 have c1:=Nw (D.BV D.b 0) 6
 have c2:=Nw D 6
 have b1:=L3 (D.BV D.b 0) 6
 have b2:=L3 D 6
 have k1:=L4 (D.BV D.b 0) hb.1 6 (Nat.le_refl _)
 have k2:=L4 D hb.1 6 (Nat.le_refl _)
 have hs:∀ c,0≤c→(D.BV D.b 0).w.AF.at c=if c=D.b then { D.w.AF.at D.b with A1:=0 } else D.w.AF.at c:=fun c c0=>IK _ _ _ _ hb.1 hb.2 c0
 generalize D.CS 6=C at *
 generalize (D.BV D.b 0).CS 6=C' at *
 have hs2:∀ c,0≤c→((C).BV D.b 0).w.AF.at c=if c=D.b then { C.w.AF.at D.b with A1:=0 } else C.w.AF.at c:=fun c c0=>IK _ _ _ _ hb.1 hb.2 c0
 refine ay (c1.1.trans (c2.1.symm)) (c1.2.trans (c2.2.symm)) (OD fun c c0 c6=>?_) (b1.1.trans b2.1.symm) (b1.2.trans b2.2.symm)
 have q1:=k1 c c0 (by omega)
 have q2:=k2 c c0 (by omega)
 have q3:=k2 D.b hb.1 hb.2
 rw [if_pos (by omega)] at q1 q2 q3
 rw [hs2 c c0,q1,hs c c0]
 by_cases e2:c=D.b
 ·rw [if_pos e2,if_pos e2,q3]
  unfold calm
  by_cases e3:(0:Int)=D.b+1
  ·simp [← e3]
  ·show({ D.w.AF.at D.b with A1:=if (0:Int)=D.b+1 then 0 else 0 }:BC)=_
   rw [if_neg e3]
 ·rw [if_neg e2,if_neg e2,q2];rfl
theorem Qb:∀(l:List Int) (A B:AA),A.w=B.w→A.b=B.b→(A.BM l).w=(B.BM l).w
 | [],_,_,h,_=>h
 | i :: r,A,B,h,hb=>Qb r _ _ (by unfold Cz Ci me;rw [h,hb]) hb
theorem TF {A B:AA}(h:A.w=B.w)(hb:A.b=B.b):∀ k:Nat,(A.CS k).w=(B.CS k).w
 | 0=>h
 | k+1=>by
  have ih:=TF h hb k
  unfold CS
  rw [ih,hb]
  split
  ·show({ (A.CS k).w with AF:=_ }:AD)=_
   rw [ih];rfl
  ·exact ih
theorem ek {A B:AA}(h:A.w=B.w)(hb:A.b=B.b):A.EG.w=B.EG.w:=by
 have e:A.own=B.own:=by unfold own;rw [h,hb]
 have h1:=Qb A.own A B h hb
 have b1:(A.BM A.own).b=(B.BM A.own).b:=(Dg _ _).1.trans (hb.trans (Dg _ _).1.symm)
 have h2:=TF h1 b1 6
 rw [JO,JO,← e,← hb]
 show({ ((A.BM A.own).CS 6).w with AF:=_ }:AD)=_
 rw [h2];rfl
def pre (o:List Event)(T:AA):AA:=⟨T.w,T.b,o++T.out⟩
theorem NP (o:List Event)(T:AA)(e:Event):(pre o T).Al e=pre o (T.Al e):=by
 show(⟨T.w,T.b,(o++T.out) ++ [_]⟩:AA)=⟨T.w,T.b,o++(T.out ++ [_])⟩
 rw [List.append_assoc];rfl
theorem KU (o:List Event)(T:AA)(s:AL):(pre o T).tell s=pre o (T.tell s):=NP o T _
theorem Qk (o:List Event)(T:AA):∀ k:Nat,(pre o T).D5 k=pre o (T.D5 k)
 | 0=>rfl
 | k+1=>by
  unfold D5
  rw [show(pre o T).b=T.b from rfl,show(pre o T).w=T.w from rfl,Qk o T k]
  split
  ·exact KU o _ _
  ·rfl
theorem Zx (o:List Event)(T:AA):(pre o T).look=pre o T.look:=by
 have ha:(pre o T).D6=pre o T.D6:=by
  unfold D6
  rw [show(pre o T).w=T.w from rfl,show(pre o T).me=T.me from rfl,KU,KU]
 have hb:(pre o T).BU=pre o T.BU:=by
  unfold BU
  rw [show(pre o T).w=T.w from rfl,show(pre o T).me=T.me from rfl,ha]
  split
  ·exact KU o _ _
  ·rfl
 unfold look
 rw [show(pre o T).w=T.w from rfl,show(pre o T).me=T.me from rfl,hb,KU,Qk]
 split<;>rfl
theorem VZ {d k:Int}(h0:0≤k)(h6:k < 6):([1,2,3]:List Int).getD ((((d.tmod 3+3).tmod 3+k).tmod 3).toNat) 0=hit d k∧0≤((d.tmod 3+3).tmod 3+k).tmod 3∧((d.tmod 3+3).tmod 3+k).tmod 3 < 3:=by
 have hm:=Cj d
 unfold hit
 generalize d.tmod 3=m at *
 have e1:(m+3).tmod 3=(m+3) % 3:=Int.tmod_eq_emod_of_nonneg (by omega)
 rw [e1]
 have e2:((m+3) % 3+k).tmod 3=((m+3) % 3+k) % 3:=Int.tmod_eq_emod_of_nonneg (by omega)
 have e3:(m+3+k).tmod 3=(m+3+k) % 3:=Int.tmod_eq_emod_of_nonneg (by omega)
 rw [e2,e3]
 have e4:((m+3) % 3+k) % 3=(m+3+k) % 3:=by omega
 rw [e4]
 have hr:(m+3+k) % 3=0∨(m+3+k) % 3=1∨(m+3+k) % 3=2:=by omega
 rcases hr with e | e | e<;>rw [e]<;>exact⟨rfl,by decide,by decide⟩
theorem Vc {T:AA}(h:T.Fit)(k:Nat)(hk:k≤9):Es T (C0 T k):=by
 rw [Km T k hk]
 refine(G8 h fun i hi=>?_).1
 have h1:=R2 hi
 unfold AD.LV at hi
 have h2:=(List.mem_filter.1 hi).2
 rw [Bool.and_eq_true] at h2
 exact⟨h1.1,by omega,fun _=>of_decide_eq_true h2.2⟩
theorem N1 (T:AA){i:Int}(h0:0≤i)(h9:i < 9)(c:decide ((((T.w.AH.put i { T.w.AH.at i with BZ:=0 }).put i { (T.w.AH.put i { T.w.AH.at i with BZ:=0 }).at i with at_:=(T.w.AF.at T.b).room }).at i).kind=2)=true):({ T.w with AH:=((T.w.AH.put i { T.w.AH.at i with BZ:=0 }).put i { (T.w.AH.put i { T.w.AH.at i with BZ:=0 }).at i with at_:=(T.w.AF.at T.b).room }).put i { ((T.w.AH.put i { T.w.AH.at i with BZ:=0 }).put i { (T.w.AH.put i { T.w.AH.at i with BZ:=0 }).at i with at_:=(T.w.AF.at T.b).room }).at i with on:=false } }:AD)=(T.Cz i).w:=by
 rw [Vector.Bk h0 h9,Vector.Bk h0 h9] at c
 rw [Vector.Bk h0 h9,Vector.EV,Vector.Bk h0 h9,Vector.EV]
 unfold Cz
 rw [if_pos (show decide ((T.w.AH.at i).kind=2)=true from c)];rfl
theorem R9 (T:AA){i:Int}(h0:0≤i)(h9:i < 9)(c:decide ((((T.w.AH.put i { T.w.AH.at i with BZ:=0 }).put i { (T.w.AH.put i { T.w.AH.at i with BZ:=0 }).at i with at_:=(T.w.AF.at T.b).room }).at i).kind=2)=false):({ T.w with AH:=(T.w.AH.put i { T.w.AH.at i with BZ:=0 }).put i { (T.w.AH.put i { T.w.AH.at i with BZ:=0 }).at i with at_:=(T.w.AF.at T.b).room } }:AD)=(T.Cz i).w:=by
 rw [Vector.Bk h0 h9,Vector.Bk h0 h9] at c
 rw [Vector.Bk h0 h9,Vector.EV]
 unfold Cz
 rw [if_neg (show ¬ decide ((T.w.AH.at i).kind=2)=true from by rw [show decide ((T.w.AH.at i).kind=2)=false from c];decide)];rfl
theorem Zn (T:AA)(k:Nat)(h:k≤9):(C0 T k).b=T.b∧(C0 T k).out=T.out∧(C0 T k).w.AF=T.w.AF:=by
 rw [Km T k h]
 exact⟨(Dg _ _).1,(Dg _ _).2,LO _ _⟩
theorem YQ {w:AD}{b f n:Int}(h:n < (w.AF.at f).AW):(Aq w b f n).w={ w with AF:=w.AF.put f { w.AF.at f with AW:=(w.AF.at f).AW - n } }:=by
 show w.Bc f { w.AF.at f with AW:=max 0 ((w.AF.at f).AW - n) }=_
 rw [show max 0 ((w.AF.at f).AW - n)=(w.AF.at f).AW - n by omega];rfl
theorem NB {w:AD}{b f n:Int}(f0:0≤f)(f6:f < 6):((Aq w b f n).w.AF.at f).AW=max 0 ((w.AF.at f).AW - n):=by
 show((w.Bc f _).AF.at f).AW=_
 rw [AD.Dx f0 f6]
theorem VL {w:AD}{b f n:Int}(f0:0≤f)(f6:f < 6):Ec (Aq w b f n).w f=⟨w.Bc f { w.AF.at f with AW:=1 },f,[]⟩:=by
 unfold Ec
 have e:(Aq w b f n).w.Bc f { (Aq w b f n).w.AF.at f with AW:=1 }=w.Bc f { w.AF.at f with AW:=1 }:=by
  show(w.Bc f _).Bc f { (w.Bc f _).AF.at f with AW:=1 }=_
  rw [Qz,AD.Dx f0 f6]
 rw [e]
theorem SL {w F:AD}{b f n:Int}{o:List Event}(f0:0≤f)(f6:f < 6)(h:F=(AA.kind ⟨w.Bc f { w.AF.at f with AW:=1 },f,o⟩ 15).EG.w):F=((Ec (Aq w b f n).w f).kind 15).EG.w∧(AA.kind ⟨w.Bc f { w.AF.at f with AW:=1 },f,o⟩ 15).out=o++((Ec (Aq w b f n).w f).kind 15).out:=by
 rw [VL f0 f6]
 exact⟨h.trans (ek rfl rfl),rfl⟩
theorem UC {w F:AD}{b f n:Int}{o:List Event}(f0:0≤f)(f6:f < 6)(h2:decide (f < 2)=true)(h:F=(AA.kind ⟨w.Bc f { w.AF.at f with AW:=1 },f,o++(Aq w b f n).out⟩ 15).EG.w):((FO (Aq w b f n).w f).w,(o++(Aq w b f n).out)++(FO (Aq w b f n).w f).out)=({ F with AF:=F.AF.put f default },(AA.kind ⟨w.Bc f { w.AF.at f with AW:=1 },f,o++(Aq w b f n).out⟩ 15).out):=by
 obtain⟨e1,e2⟩:=SL (b:=b) (n:=n) f0 f6 h
 have hd:FO (Aq w b f n).w f=_:=if_pos h2
 rw [Rp e1] at hd
 rw [hd,e2];rfl
theorem UB {w F:AD}{b f n:Int}{o:List Event}(f0:0≤f)(f6:f < 6)(h2:decide (f < 2)=false)(h:F=(AA.kind ⟨w.Bc f { w.AF.at f with AW:=1 },f,o++(Aq w b f n).out⟩ 15).EG.w):((FO (Aq w b f n).w f).w,(o++(Aq w b f n).out)++(FO (Aq w b f n).w f).out)=((AA.kind ⟨F.Bc f { F.AF.at f with room:=0,AW:=10 },f,(AA.kind ⟨w.Bc f { w.AF.at f with AW:=1 },f,o++(Aq w b f n).out⟩ 15).out⟩ 17).look.w,(AA.kind ⟨F.Bc f { F.AF.at f with room:=0,AW:=10 },f,(AA.kind ⟨w.Bc f { w.AF.at f with AW:=1 },f,o++(Aq w b f n).out⟩ 15).out⟩ 17).look.out):=by
 obtain⟨e1,e2⟩:=SL (b:=b) (n:=n) f0 f6 h
 have hd:FO (Aq w b f n).w f=((JM (Aq w b f n).w f).kind 17).look:=if_neg (by rw [h2];decide)
 rw [Rr e1] at hd
 rw [hd,e2]
 generalize o++(Aq w b f n).out=O at *
 generalize ((Ec (Aq w b f n).w f).kind 15).out=R at *
 have hp:AA.kind ⟨F.Bc f { F.AF.at f with room:=0,AW:=10 },f,O++R⟩ 17=pre O (AA.kind ⟨F.Bc f { F.AF.at f with room:=0,AW:=10 },f,R⟩ 17):=NP O ⟨F.Bc f { F.AF.at f with room:=0,AW:=10 },f,R⟩ (Dn 17)
 rw [hp,Zx]
 rfl
theorem aA {w F:AD}{b f n:Int}{o:List Event}(f0:0≤f)(f6:f < 6)(hs:(Ec (Aq w b f n).w f).Fit)(h:F=(AA.kind ⟨w.Bc f { w.AF.at f with AW:=1 },f,o⟩ 15).EG.w)(R:List Event):Fit ⟨F.Bc f { F.AF.at f with room:=0,AW:=10 },f,R⟩:=by
 have hf2:=Od hs
 rw [Rr (SL (b:=b) (n:=n) f0 f6 h).1] at hf2
 exact hf2.FW rfl rfl
theorem cS {x:BC}(h:Ya x)(hf:¬ x.A1=0):x.here=true:=by
 cases hh:x.here with
 | true=>rfl
 | false=>exact absurd (h.off hh) hf
theorem LL {w:AD}{f:Int}(f0:0≤f)(f6:f < 6):w.AV f=(w.AF.at f).here:=by
 unfold AD.AV
 rw [decide_eq_true f0,decide_eq_true f6];rfl
theorem M7 {X:AD}(hw:X.Co)(draw:Int):(BW X draw).2.1.length≤78:=by
 by_cases h:(BW X draw).2.2=0
 ·exact(aD hw h).2.2
 ·unfold BW at h ⊢
  split
  ·exact Nat.zero_le _
  ·rename_i h1
   rw [if_neg h1] at h
   exact absurd rfl h
end AA
end Go.Ing
/- What beings do, as the document says it: plain laws. -/
namespace Go.Ing
open Go
namespace AA
def dn (z:Int):Int:=IntKind.i64.wrap (z - 1)
theorem dS {z:Int}(h:-9223372036854775807≤z)(h2:z≤9223372036854775807):dn z=z - 1:=IntWalk.i64_in _ (by omega)
theorem ed:dn (-9223372036854775808)=9223372036854775807:=by decide
def Ia (a:Bool):List Int→Int→List Int
 | [],_=> []
 | i :: r,z=>if (a || decide (dn z=0))=true then i :: Ia a r (dn z) else Ia a r (dn z)
def skip (w:AD)(u:AL)(i:Int):Bool:=!decide (u = []) && !decide (u=(w.AH.at i).name)
def F4 (w:AD)(u:AL)(a:Bool):List Int→Int→List Int
 | [],_=> []
 | i :: r,z=>if skip w u i=true then F4 w u a r z else if (a || decide (dn z=0))=true then i :: F4 w u a r (dn z) else F4 w u a r (dn z)
theorem dF (w:AD)(u:AL)(i:Int):skip w u i=!(decide (u = []) || decide ((w.AH.at i).name=u)):=by
 unfold skip
 by_cases h:u = []
 ·simp [h]
 ·by_cases h2:u=(w.AH.at i).name
  ·simp [h,← h2]
  ·have h3:¬ (w.AH.at i).name=u:=fun e=>h2 e.symm
   simp [h,h2,h3]
theorem Pj (w:AD)(u:AL)(a:Bool):∀(l:List Int) (z:Int),F4 w u a l z=Ia a (HV w u l) z
 | [],_=>rfl
 | i :: r,z=>by
  unfold F4 HV
  rw [List.filter_cons,dF]
  by_cases c:(decide (u = []) || decide ((w.AH.at i).name=u))=true
  ·rw [if_neg (by rw [c];decide),if_pos c,Ia,Pj w u a r]
   rfl
  ·rw [if_pos (by simpa using c),if_neg c]
   exact Pj w u a r z
theorem Pm:∀(l:List Int) (z:Int),Ia true l z=l
 | [],_=>rfl
 | i :: r,z=>by rw [Ia,if_pos (by simp),Pm r]
theorem Na (l:List Int):∀(z:Int),(l.length:Int)≤1000→(z≤0∨(l.length:Int) < z)→-9223372036854775808≤z→z≤9223372036854775807→Ia false l z = []:=by
 induction l with
 | nil=>intro z _ _ _ _;rfl
 | cons i r ih=>
  intro z hl h h0 h1
  rw [List.length_cons] at hl h
  rw [Ia]
  by_cases e:z=-9223372036854775808
  ·subst e
   rw [ed,if_neg (by decide)]
   exact ih _ (by omega) (.inr (by omega)) (by omega) (by omega)
  ·rw [dS (by omega) h1,if_neg (by
    rw [Bool.false_or,decide_eq_true_eq];omega)]
   exact ih _ (by omega) (by omega) (by omega) (by omega)
theorem V0 (l:List Int):∀(z:Int),1≤z→z≤l.length→(l.length:Int)≤1000→Ia false l z=(l.take z.toNat).drop (z - 1).toNat:=by
 induction l with
 | nil=>intro z h1 h2 _;simp at h2;omega
 | cons i r ih=>
  intro z h1 h2 hl
  rw [List.length_cons] at hl h2
  rw [Ia,dS (by omega) (by omega)]
  by_cases e:z=1
  ·subst e
   rw [if_pos (by simp),Na r _ (by omega) (.inl (by omega)) (by omega) (by omega)]
   simp
  ·rw [if_neg (by rw [Bool.false_or,decide_eq_true_eq];omega),ih (z - 1) (by omega) (by omega) (by omega)]
   have e1:z.toNat=(z - 1).toNat+1:=by omega
   have e2:(z - 1).toNat=(z - 1 - 1).toNat+1:=by omega
   rw [e1,List.take_succ_cons]
   conv=>rhs;rw [e2]
   rw [List.drop_succ_cons,← e2]
theorem V5 (w:AD)(u:AL)(a:Bool){l:List Int}(hl:l.length≤100){z:Int}(h0:-9223372036854775808≤z)(h1:z≤9223372036854775807):F4 w u a l z=AR w l z u a:=by
 have hp:=Qx w u l
 rw [Pj]
 unfold AR
 cases a with
 | true=>rw [if_pos rfl];exact Pm _ _
 | false=>
  rw [if_neg (by decide)]
  by_cases c:(decide (z < 1) || decide (((HV w u l).length:Int) < z))=true
  ·rw [if_pos c]
   simp only [Bool.or_eq_true,decide_eq_true_eq] at c
   exact Na _ _ (by omega) (by omega) h0 h1
  ·rw [if_neg c]
   simp only [Bool.or_eq_true,decide_eq_true_eq,not_or] at c
   exact V0 _ _ (by omega) (by omega) (by omega)
theorem Ui {w:AD}{u:AL}{a:Bool}{l:List Int}{k z:Int}(h0:0≤k)(h1:k < l.length):F4 w u a (l.drop k.toNat) z=if skip w u (l.getD k.toNat 0)=true then F4 w u a (l.drop (k+1).toNat) z else if (a || decide (dn z=0))=true then l.getD k.toNat 0 :: F4 w u a (l.drop (k+1).toNat) (dn z) else F4 w u a (l.drop (k+1).toNat) (dn z):=by
 rw [MA h0 h1];rfl
theorem ef (z:Int):-9223372036854775808≤dn z∧dn z≤9223372036854775807:=by
 have:=Go.wf_wrap .i64 (z - 1)
 exact Go.bounds_i64 this
def De (T:AA)(u:AL):Int:=if (T.box u).2.2=true then(T.box u).2.1 else -1
def EN (T:AA)(u:AL):Int:=if (T.AS u).2.2=true then(T.AS u).2.1 else -1
def Wi (u:AL):Bool:=decide ((Words.Br u).2.2.2=0) && !(Words.Br u).2.2.1
def Jh (T:AA)(u:AL):List Int:=AR T.w (T.own++T.seen) (Words.Br u).1 (Words.Br u).2.1 false
theorem PM {u:AL}:(!decide ((Words.Br u).2.2.2=0) || (Words.Br u).2.2.1)=!Wi u:=by
 unfold Wi;cases decide ((Words.Br u).2.2.2=0)<;>cases (Words.Br u).2.2.1<;>rfl
theorem ez {T:AA}{u:AL}(h:Wi u=false):T.one u=(0,false):=if_pos (by rw [PM,h];rfl)
theorem Z8 {T:AA}{u:AL}(h:Wi u=true)(c:decide (((T.Jh u).length:Int)=0)=true):T.one u=(0,false):=(if_neg (by rw [PM,h];decide)).trans (if_pos c)
theorem Tu {T:AA}{u:AL}(h:Wi u=true)(c:decide (((T.Jh u).length:Int)=0)=false):T.one u=((T.Jh u).getD 0 0,true):=(if_neg (by rw [PM,h];decide)).trans (if_neg (by rw [show decide (((AR T.w (T.own++T.seen) (Words.Br u).1 (Words.Br u).2.1 false).length:Int)=0)=false from c];decide))
theorem bz {T:AA}{u:AL}(h:Wi u=false):T.box u=(T.tell HB,0,false):=if_pos (by rw [ez h];rfl)
theorem cA {T:AA}{u:AL}(h:Wi u=true)(c:(decide (((T.Jh u).length:Int)=0) || !decide ((T.w.AH.at ((T.Jh u).getD 0 0)).kind=3))=true):T.box u=(T.tell HB,0,false):=by
 cases c1:decide (((T.Jh u).length:Int)=0) with
 | true=>exact if_pos (by rw [Z8 h c1];rfl)
 | false=>
  rw [c1,Bool.false_or] at c
  exact if_pos (by rw [Tu h c1];exact c)
theorem TD {T:AA}{u:AL}(h:Wi u=true)(c:(decide (((T.Jh u).length:Int)=0) || !decide ((T.w.AH.at ((T.Jh u).getD 0 0)).kind=3))=false):T.box u=if (!(T.w.AH.at ((T.Jh u).getD 0 0)).on)=true then(T.tell R6,0,false) else(T,(T.Jh u).getD 0 0,true):=by
 rw [Bool.or_eq_false_iff] at c
 have e:=Tu h c.1
 unfold box
 rw [e,if_neg (by show ¬ (!true || !decide ((T.w.AH.at ((T.Jh u).getD 0 0)).kind=3))=true;rw [c.2];decide)]
theorem Nv {T:AA}{u:AL}{X:AA}{i:Int}{b:Bool}(h:T.box u=(X,i,b)):T.De u=if b=true then i else -1:=by unfold De;rw [h]
theorem UY {T:AA}{u:AL}{X:AA}{i:Int}{b:Bool}(h:T.AS u=(X,i,b)):T.EN u=if b=true then i else -1:=by unfold EN;rw [h]
theorem dG {T:AA}{u:AL}(h:Wi u=false):T.AS u=(T.tell KI,0,false):=if_neg (by rw [show(decide ((Words.Br u).2.2.2=0) && !(Words.Br u).2.2.1)=false from h];decide)
theorem YM {T:AA}{u:AL}(h:Wi u=true)(hs:T.Fk (Words.Br u).2.1 6 (Words.Br u).1=none):T.AS u=(T.tell KI,0,false):=(show T.AS u=_ from if_pos h).trans (by simp only [hs])
theorem ah {T:AA}{u:AL}{k:Int}(h:Wi u=true)(hs:T.Fk (Words.Br u).2.1 6 (Words.Br u).1=some k):T.AS u=(T,k,true):=(show T.AS u=_ from if_pos h).trans (by simp only [hs])
theorem TC {T:AA}{u:AL}:decide (T.De u < 0)=(!(T.box u).2.2):=by
 unfold De
 have:=T.WN u
 cases h:(T.box u).2.2 with
 | true=>rw [if_pos rfl];exact decide_eq_false (by omega)
 | false=>rw [if_neg (by decide)];rfl
theorem Q7 {T:AA}{u:AL}:decide (T.EN u < 0)=(!(T.AS u).2.2):=by
 unfold EN
 have:=T.HF u
 cases h:(T.AS u).2.2 with
 | true=>rw [if_pos rfl];exact decide_eq_false (by omega)
 | false=>rw [if_neg (by decide)];rfl
theorem SI {d:Int}(h0:0≤d)(h6:d < 6):AD.opposite d=(d+3).tmod 6:=by
 unfold AD.opposite
 rw [show max 0 (min d 5)=d by omega]
theorem Wk {d:Int}(h0:0≤d):0≤(d+3).tmod 6∧(d+3).tmod 6 < 6:=⟨Int.tmod_nonneg 6 (by omega),Int.tmod_lt_of_pos _ (by decide)⟩
/-! #### what is taken -/
theorem bw {T:AA}{u:AL}(h:decide (T.De u < 0)=true):(T.box u).2.2=false:=by
 rw [TC] at h;simpa using h
theorem ZJ {T:AA}{u:AL}(h:decide (T.De u < 0)=false):(T.box u).2.2=true∧T.De u=(T.box u).2.1:=by
 rw [TC] at h
 have h2:(T.box u).2.2=true:=by simpa using h
 exact⟨h2,if_pos h2⟩
theorem ag {T:AA}{u:AL}(h:decide (T.EN u < 0)=true):(T.AS u).2.2=false:=by
 rw [Q7] at h;simpa using h
theorem YL {T:AA}{u:AL}(h:decide (T.EN u < 0)=false):(T.AS u).2.2=true∧T.EN u=(T.AS u).2.1:=by
 rw [Q7] at h
 have h2:(T.AS u).2.2=true:=by simpa using h
 exact⟨h2,if_pos h2⟩
theorem eu {T:AA}{o:Order}(h:(!decide (o.second = []))=true)(c:decide (T.De o.second < 0)=true):T.get o=(T.box o.second).1:=
 (if_pos h).trans (if_pos (by rw [bw c];rfl))
theorem WZ {T:AA}{o:Order}(h:(!decide (o.second = []))=true)(c:decide (T.De o.second < 0)=false):T.get o=(T.box o.second).1.Ot ((T.box o.second).1.w.has 2 (T.De o.second)) o:=by
 obtain⟨h1,h2⟩:=ZJ c
 rw [h2]
 exact(if_pos h).trans (if_neg (by rw [h1];decide))
theorem TU {T:AA}{o:Order}(h:(!decide (o.second = []))=false):T.get o=T.Ot T.seen o:=if_neg (by rw [h];decide)
/-! #### what is set -/
theorem iF {v:Int}(h0:12≤v)(h1:v≤17):([3,1,2]:List Int).getD ((v - 12).tdiv 2).toNat 0=setKind v∧0≤(v - 12).tdiv 2∧(v - 12).tdiv 2 < 3:=by
 have h:v=12∨v=13∨v=14∨v=15∨v=16∨v=17:=by omega
 rcases h with e | e | e | e | e | e<;>rw [e]<;>exact⟨rfl,by decide,by decide⟩
theorem af (a b:Bool):(a == !b)=(a != b):=by cases a<;>cases b<;>rfl
theorem cI {T:AA}{d:Int}{p:Bool}{k:Int}(h:decide ((T.w.Ad.at (T.w.AF.at T.b).room).BH.at d - 1 < 0)=true):T.Hk d p k=T.tell HB:=if_pos h
theorem cJ {T:AA}{d:Int}{p:Bool}{k:Int}(h:decide ((T.w.Ad.at (T.w.AF.at T.b).room).BH.at d - 1 < 0)=false)(h2:((T.w.Ad.at (T.w.AF.at T.b).room).shut.at d == !p)=true):T.Hk d p k=T.tell Zh:=
 (if_neg (by show ¬ decide ((T.w.Ad.at (T.w.AF.at T.b).room).BH.at d - 1 < 0)=true;rw [h];decide)).trans (if_pos (by rw [af] at h2;exact h2))
theorem ZW {T:AA}{d:Int}{p:Bool}{k:Int}(d0:0≤d)(d6:d < 6)(h:decide ((T.w.Ad.at (T.w.AF.at T.b).room).BH.at d - 1 < 0)=false)(h2:((T.w.Ad.at (T.w.AF.at T.b).room).shut.at d == !p)=false)
  (h3:decide (((T.By (T.w.AF.at T.b).room d (!p)).w.Ad.at ((T.w.Ad.at (T.w.AF.at T.b).room).BH.at d - 1)).BH.at ((d+3).tmod 6)=(T.w.AF.at T.b).room+1)=true) :
  T.Hk d p k=((T.By (T.w.AF.at T.b).room d (!p)).By ((T.w.Ad.at (T.w.AF.at T.b).room).BH.at d - 1) ((d+3).tmod 6) (!p)).Al { Dn k with other:=-1,dir:=0,n:=0,AP:=Jg,text:= [] }:=by
 rw [← SI d0 d6] at h3 ⊢
 exact((if_neg (by show ¬ decide ((T.w.Ad.at (T.w.AF.at T.b).room).BH.at d - 1 < 0)=true;rw [h];decide)).trans (if_neg (by rw [af] at h2;show ¬ ((T.w.Ad.at (T.w.AF.at T.b).room).shut.at d != p)=true;rw [h2];decide))).trans (congrArg (fun q=>AA.Al q { Dn k with AP:=Jg }) (if_pos h3))
theorem ZU {T:AA}{d:Int}{p:Bool}{k:Int}(d0:0≤d)(d6:d < 6)(h:decide ((T.w.Ad.at (T.w.AF.at T.b).room).BH.at d - 1 < 0)=false)(h2:((T.w.Ad.at (T.w.AF.at T.b).room).shut.at d == !p)=false)
  (h3:decide (((T.By (T.w.AF.at T.b).room d (!p)).w.Ad.at ((T.w.Ad.at (T.w.AF.at T.b).room).BH.at d - 1)).BH.at ((d+3).tmod 6)=(T.w.AF.at T.b).room+1)=false) :
  T.Hk d p k=(T.By (T.w.AF.at T.b).room d (!p)).Al { Dn k with other:=-1,dir:=0,n:=0,AP:=Jg,text:= [] }:=by
 rw [← SI d0 d6] at h3
 exact((if_neg (by show ¬ decide ((T.w.Ad.at (T.w.AF.at T.b).room).BH.at d - 1 < 0)=true;rw [h];decide)).trans (if_neg (by rw [af] at h2;show ¬ ((T.w.Ad.at (T.w.AF.at T.b).room).shut.at d != p)=true;rw [h2];decide))).trans (congrArg (fun q=>AA.Al q { Dn k with AP:=Jg }) (if_neg (by rw [show decide (((T.By T.me.room d (!p)).w.Ad.at ((T.w.Ad.at T.me.room).BH.at d - 1)).BH.at (AD.opposite d)=T.me.room+1)=false from h3];decide)))
theorem MU {T:AA}{o:Order}(h:((Words.dir o.name).2 && decide (setKind o.verb=3))=true):T.set o=T.Hk (Words.dir o.name).1 (CG o.verb) (Q5 o.verb):=if_pos h
theorem UU {T:AA}{o:Order}(h:decide (setKind o.verb=3)=true):T.B9 o=AR T.w (T.own++T.seen) (max 1 o.nth) o.name false:=by
 rw [Int.max_comm];exact congrArg (fun q=>AR T.w q _ _ _) (if_pos h)
theorem UW {T:AA}{o:Order}(h:decide (setKind o.verb=3)=false):T.B9 o=AR T.w T.own (max 1 o.nth) o.name false:=by
 rw [Int.max_comm];exact congrArg (fun q=>AR T.w q _ _ _) (if_neg (by rw [h];decide))
theorem UX {T:AA}{o:Order}(h:((Words.dir o.name).2 && decide (setKind o.verb=3))=false)(h2:(decide (((T.B9 o).length:Int)=0) || !decide ((T.w.AH.at ((T.B9 o).getD 0 0)).kind=setKind o.verb))=true):T.set o=T.tell HB:=(if_neg (by rw [h];decide)).trans (if_pos h2)
theorem aa {T:AA}{o:Order}(h:((Words.dir o.name).2 && decide (setKind o.verb=3))=false)(h2:(decide (((T.B9 o).length:Int)=0) || !decide ((T.w.AH.at ((T.B9 o).getD 0 0)).kind=setKind o.verb))=false)(h3:((T.w.AH.at ((T.B9 o).getD 0 0)).on == CG o.verb)=true):T.set o=T.tell Zh:=
 (if_neg (by rw [h];decide)).trans ((if_neg (by rw [h2];decide)).trans (if_pos h3))
theorem MV {T:AA}{o:Order}(h:((Words.dir o.name).2 && decide (setKind o.verb=3))=false)(h2:(decide (((T.B9 o).length:Int)=0) || !decide ((T.w.AH.at ((T.B9 o).getD 0 0)).kind=setKind o.verb))=false)(h3:((T.w.AH.at ((T.B9 o).getD 0 0)).on == CG o.verb)=false):T.set o=T.before (CG o.verb != decide (setKind o.verb=2)) ((T.B9 o).getD 0 0) (CG o.verb) (Q5 o.verb):=by
 refine(if_neg (by rw [h];decide)).trans ((if_neg (by rw [h2];decide)).trans ((if_neg (by rw [h3];decide)).trans ?_))
 cases CG o.verb<;>cases decide (setKind o.verb=2)<;>rfl
/-! #### what is let go of -/
def PB (T:AA)(o:Order):Int:=if (T.B0 o).2.2=true then(T.B0 o).2.1 else -1
theorem cY {T:AA}{o:Order}(h:decide (o.verb=9)=true):(T.B0 o).1=(T.box o.second).1∧T.PB o=T.De o.second:=by
 have e:T.B0 o=T.box o.second:=if_pos h
 unfold PB De
 rw [e];exact⟨rfl,rfl⟩
theorem Zw {T:AA}{o:Order}(h:decide (o.verb=9)=false)(h2:decide (o.verb=10)=true):(T.B0 o).1=(T.AS o.second).1∧T.PB o=T.EN o.second:=by
 have e:T.B0 o=T.AS o.second:=(if_neg (by rw [h];decide)).trans (if_pos h2)
 unfold PB EN
 rw [e];exact⟨rfl,rfl⟩
theorem cX {T:AA}{o:Order}(h:decide (o.verb=9)=false)(h2:decide (o.verb=10)=false):(T.B0 o).1=T∧T.PB o=0:=by
 have e:T.B0 o=(T,0,true):=(if_neg (by rw [h];decide)).trans (if_neg (by rw [h2];decide))
 unfold PB
 rw [e];exact⟨rfl,rfl⟩
theorem SB (T:AA)(o:Order):(T.B0 o).1.w=T.w∧(T.B0 o).1.b=T.b:=by
 unfold B0
 split
 ·exact T.J3 o.second
 ·split
  ·exact T.He o.second
  ·exact⟨rfl,rfl⟩
theorem Iq (T:AA)(o:Order):0≤(T.B0 o).2.1∧(T.B0 o).2.1 < 9:=by
 unfold B0
 split
 ·exact T.WN o.second
 ·split
  ·have:=T.HF o.second;omega
  ·exact⟨Int.le_refl 0,show(0:Int) < 9 by decide⟩
theorem Tl {T:AA}{o:Order}(hv:o.verb=8∨o.verb=9∨o.verb=10)(h:(T.B0 o).2.2=true):Nh (T.B0 o).1 o.verb (T.B0 o).2.1:=by
 unfold Nh
 rw [(T.SB o).1]
 unfold B0 at h ⊢
 split at h
 ·rename_i h2
  rw [if_pos h2]
  obtain⟨a0,a9,hk,_⟩:=eY h
  have:=of_decide_eq_true h2
  exact .inr (.inr ⟨by omega,by omega,a0,a9,hk⟩)
 ·rename_i h2
  rw [if_neg h2]
  split at h
  ·rename_i h3
   rw [if_pos h3]
   obtain⟨a0,a6,_,hs⟩:=UZ h
   exact .inr (.inl ⟨of_decide_eq_true h3,a0,a6,(AD.Fu (AD.Vr hs).2.1).2.2⟩)
  ·rename_i h3
   rw [if_neg h3]
   refine .inl ?_
   rcases hv with e | e | e
   ·exact e
   ·exact absurd (decide_eq_true e) h2
   ·exact absurd (decide_eq_true e) h3
theorem Ti {T:AA}{o:Order}:decide (T.PB o < 0)=(!(T.B0 o).2.2):=by
 unfold PB
 have:=T.Iq o
 cases h:(T.B0 o).2.2 with
 | true=>rw [if_pos rfl];exact decide_eq_false (by omega)
 | false=>rw [if_neg (by decide)];rfl
theorem Zo {T X:AA}{o:Order}{to:Int}(hX:X=(T.B0 o).1)(ht:to=T.PB o)(h:decide (to < 0)=true):T.EM o=X:=by
 rw [ht,Ti] at h
 rw [hX]
 exact if_pos h
theorem Xg {T X:AA}{o:Order}{to:Int}(hX:X=(T.B0 o).1)(ht:to=T.PB o)(h:decide (to < 0)=false):T.EM o=X.Xh to o∧0≤to∧to < 9∧(o.verb=8∨o.verb=9∨o.verb=10→Nh X o.verb to):=by
 rw [ht,Ti] at h
 have h2:(T.B0 o).2.2=true:=by simpa using h
 have e:to=(T.B0 o).2.1:=ht.trans (if_pos h2)
 rw [hX,e]
 exact⟨if_neg (by rw [h];decide),(T.Iq o).1,(T.Iq o).2,fun hv=>Tl hv h2⟩
def La (T:AA)(o:Order):List Int:=AR T.w T.own o.nth o.name o.Am
def PE (T:AA)(o:Order):AA:=if decide (((T.La o).length:Int)=0)=true then T.tell SG else T
theorem Zu {T:AA}{o:Order}(h:decide (((T.La o).length:Int)=0)=true):T.PE o=T.tell SG:=if_pos h
theorem Zt {T:AA}{o:Order}(h:decide (((T.La o).length:Int)=0)=false):T.PE o=T:=if_neg (by rw [h];decide)
theorem Zv (T:AA)(o:Order):(T.PE o).w=T.w∧(T.PE o).b=T.b∧(T.PE o).out.length≤T.out.length+1:=by
 unfold PE
 split
 ·exact⟨rfl,rfl,by rw [BQ];exact Nat.le_refl _⟩
 ·exact⟨rfl,rfl,Nat.le_succ _⟩
def PA (T:AA)(to:Int)(o:Order)(k:Nat):AA:=(T.PE o).FV o.verb to ((T.La o).take k)
theorem NS {v to:Int}:∀(l:List Int) (T:AA) (i:Int),T.FV v to (l ++ [i])=(T.FV v to l).Bh v to i
 | [],_,_=>rfl
 | _ :: r,_,i=>NS r _ i
theorem dJ {l:List Int}{k:Int}(h0:0≤k)(h1:k < l.length):l.take (k+1).toNat=l.take k.toNat ++ [l.getD k.toNat 0]:=by
 obtain⟨m,rfl⟩:=Int.eq_ofNat_of_zero_le h0
 have hm:m < l.length:=by omega
 show l.take (m+1)=l.take m ++ [l.getD m 0]
 rw [List.take_add_one,List.getElem?_eq_getElem hm,List.getD_eq_getElem?_getD,List.getElem?_eq_getElem hm]
 rfl
theorem EA {T:AA}{to:Int}{o:Order}{k:Int}(h0:0≤k)(h1:k < (T.La o).length):T.PA to o (k+1).toNat=(T.PA to o k.toNat).Bh o.verb to ((T.La o).getD k.toNat 0):=by
 unfold PA
 rw [dJ h0 h1,NS]
theorem Tf {T:AA}{to:Int}{o:Order}:T.PA to o ((T.La o).length:Int).toNat=T.Xh to o:=by
 unfold PA
 rw [show((T.La o).length:Int).toNat=(T.La o).length by omega,List.take_length]
 rfl
theorem KF {T:AA}{o:Order}:(∀ i∈T.La o,Mh T.w T.b i)∧(T.La o).Nodup∧(T.La o).length≤9:=
 ⟨fun _ hi=>(Hu (CO hi)).Nn,List.Nodup.sublist (C7 ..) (AD.XX ..),Nat.le_trans (C7 ..).length_le (AA.FX T)⟩
theorem Zp {T:AA}(h:T.Fit){to:Int}{o:Order}(ht:Nh T o.verb to)(k:Nat):(T.PA to o k).Fit:=by
 have hs:=T.Zv o
 have g:Es T (T.PE o):=h.goes.FW hs.1 hs.2.1
 refine(NR g.fit (List.Nodup.sublist (List.take_sublist ..) KF.2.1) (fun i hi=>?_) (ht.next (by rw [hs.1]) fun _ _ _=>by rw [hs.1])).fit
 rw [hs.1,hs.2.1]
 exact KF.1 i (List.mem_of_mem_take hi)
theorem O8 (v to:Int):∀(l:List Int) (T:AA),(T.FV v to l).out.length≤T.out.length+l.length∧(T.FV v to l).b=T.b
 | [],_=>⟨Nat.le_refl _,rfl⟩
 | i :: r,T=>by
  obtain⟨h1,h2⟩:=O8 v to r (T.Bh v to i)
  have h3:=T.PD v to i
  rw [FV,List.length_cons]
  exact⟨by omega,h2.trans (T.Zs v to i)⟩
theorem Th (T:AA)(to:Int)(o:Order)(k:Nat):(T.PA to o k).out.length≤T.out.length+10∧(T.PA to o k).b=T.b:=by
 have hs:=T.Zv o
 obtain⟨h1,h2⟩:=O8 o.verb to ((T.La o).take k) (T.PE o)
 have h3:=(KF (T:=T) (o:=o)).2.2
 have h4:((T.La o).take k).length≤(T.La o).length:=(List.take_sublist ..).length_le
 unfold PA
 exact⟨by omega,h2.trans hs.2.1⟩
theorem Tk {T:AA}{v to i:Int}(h:(decide ((T.w.AH.at i).kind=2) && (T.w.AH.at i).on)=true):T.Bh v to i=T.tell fK:=if_pos h
theorem SA {T:AA}{v to i:Int}(h:(decide ((T.w.AH.at i).kind=2) && (T.w.AH.at i).on)=false)(h2:(decide (v=9) && T.w.O6 to i)=true):T.Bh v to i=T.tell Z2:=by
 rw [Bool.and_eq_true] at h2
 have:=of_decide_eq_true h2.1
 exact(if_neg (by rw [h];decide)).trans ((if_neg (by rw [decide_eq_true_eq];omega)).trans ((if_neg (by rw [decide_eq_true_eq];omega)).trans (if_pos h2.2)))
theorem Zq {T:AA}{v to i:Int}(hi:0≤i∧i < 9)(h:(decide ((T.w.AH.at i).kind=2) && (T.w.AH.at i).on)=false)(h2:decide (v=8)=true):T.Bh v to i=(T.place i 0 T.me.room).Al { Dn 4 with other:=-1,dir:=0,n:=0,AP:=(T.w.AH.at i).name,text:= [] }:=
 ((if_neg (by rw [h];decide)).trans (if_pos h2)).trans (by unfold AP;rw [C9 hi.1 hi.2];rfl)
theorem Zr {T:AA}{v to i:Int}(hi:0≤i∧i < 9)(ht:0≤to)(h:(decide ((T.w.AH.at i).kind=2) && (T.w.AH.at i).on)=false)(h2:(decide (v=9) && T.w.O6 to i)=false)(h3:decide (v=9)=true):T.Bh v to i=(T.place i 2 to).Al { Dn 5 with other:=-1,dir:=0,n:=0,AP:=(T.w.AH.at i).name,text:=((T.place i 2 to).w.AH.at to).name }:=by
 have:=of_decide_eq_true h3
 rw [Ch hi.1 hi.2 ht]
 rw [h3,Bool.true_and] at h2
 exact(if_neg (by rw [h];decide)).trans ((if_neg (by rw [decide_eq_true_eq];omega)).trans ((if_neg (by rw [decide_eq_true_eq];omega)).trans ((if_neg (by rw [h2];decide)).trans rfl)))
theorem Xi {T:AA}{v to i:Int}(h:(decide ((T.w.AH.at i).kind=2) && (T.w.AH.at i).on)=false)(h3:decide (v=10)=true):T.Bh v to i=(T.place i 1 to).Al { Dn 6 with other:=to,dir:=0,n:=0,AP:=(T.w.AH.at i).name,text:= [] }:=by
 have:=of_decide_eq_true h3
 exact(if_neg (by rw [h];decide)).trans ((if_neg (by rw [decide_eq_true_eq];omega)).trans ((if_pos h3).trans rfl))
theorem Nh.jo {T:AA}{v to:Int}(h:Nh T v to)(hv:v=10):to < 6:=by
 rcases h with h | ⟨_,_,h,_⟩ | ⟨_,h,_⟩<;>omega
theorem Xe {T X:AA}{o:Order}{p:Bool}(hX:X=(T.B0 o).1)(hp:p=(T.B0 o).2.2)(h:(!p)=true):T.EM o=X:=by
 rw [hp] at h
 rw [hX]
 exact if_pos h
theorem Ve {T X:AA}{o:Order}{to:Int}{p:Bool}(hX:X=(T.B0 o).1)(ht:to=(T.B0 o).2.1)(hp:p=(T.B0 o).2.2)(h:(!p)=false):T.EM o=X.Xh to o∧0≤to∧to < 9∧(o.verb=8∨o.verb=9∨o.verb=10→Nh X o.verb to):=by
 rw [hp] at h
 have h2:(T.B0 o).2.2=true:=by simpa using h
 rw [hX,ht]
 exact⟨if_neg (by rw [h];decide),(T.Iq o).1,(T.Iq o).2,fun hv=>Tl hv h2⟩
/-! #### what a being does -/
theorem Ft {T:AA}{o:Order}(h:o.verb < 6):T.act o=T.walk o.verb:=by
 unfold act;rw [if_pos (decide_eq_true h)]
theorem gi {T:AA}{o:Order}(h:o.verb=6):T.act o=T.look:=by
 unfold act;rw [if_neg (by rw [decide_eq_true_eq];omega),if_pos (decide_eq_true h)]
theorem eT {T:AA}{o:Order}(h:o.verb=19):T.act o=T.tell ([89,111,117,32,104,97,118,101]++Gl T.w T.own):=by
 unfold act;rw [if_neg (by rw [decide_eq_true_eq];omega),if_neg (by rw [decide_eq_true_eq];omega),if_pos (decide_eq_true h),Lg];rfl
theorem eS {T:AA}{o:Order}(h:o.verb=11):T.act o=T.Al { Dn 7 with other:=-1,dir:=0,n:=0,AP:= [],text:=o.text }:=by
 unfold act;rw [if_neg (by rw [decide_eq_true_eq];omega),if_neg (by rw [decide_eq_true_eq];omega),if_neg (by rw [decide_eq_true_eq];omega),if_pos (decide_eq_true h)];rfl
theorem eU {T:AA}{o:Order}(h:o.verb=20):T.act o=T.J6:=by
 unfold act;rw [if_neg (by rw [decide_eq_true_eq];omega),if_neg (by rw [decide_eq_true_eq];omega),if_neg (by rw [decide_eq_true_eq];omega),if_neg (by rw [decide_eq_true_eq];omega),if_pos (decide_eq_true h)]
theorem VD {T:AA}{o:Order}(h:o.verb=18):T.act o=T.FR o:=by
 unfold act;rw [if_neg (by rw [decide_eq_true_eq];omega),if_neg (by rw [decide_eq_true_eq];omega),if_neg (by rw [decide_eq_true_eq];omega),if_neg (by rw [decide_eq_true_eq];omega),if_neg (by rw [decide_eq_true_eq];omega),if_pos (decide_eq_true h)]
theorem bp {T:AA}{o:Order}(h:8≤o.verb∧o.verb≤10):T.act o=T.EM o:=by
 have e:(decide (o.verb=8) || decide (o.verb=9) || decide (o.verb=10))=true:=by
  rw [Bool.or_eq_true,Bool.or_eq_true,decide_eq_true_eq,decide_eq_true_eq,decide_eq_true_eq];omega
 unfold act;rw [if_neg (by rw [decide_eq_true_eq];omega),if_neg (by rw [decide_eq_true_eq];omega),if_neg (by rw [decide_eq_true_eq];omega),if_neg (by rw [decide_eq_true_eq];omega),if_neg (by rw [decide_eq_true_eq];omega),if_neg (by rw [decide_eq_true_eq];omega),if_neg (by rw [decide_eq_true_eq];omega),if_pos e]
theorem bt {T:AA}{o:Order}(h:12≤o.verb∧o.verb≤17):T.act o=T.set o:=by
 have e:¬ (decide (o.verb=8) || decide (o.verb=9) || decide (o.verb=10))=true:=by
  rw [Bool.or_eq_true,Bool.or_eq_true,decide_eq_true_eq,decide_eq_true_eq,decide_eq_true_eq];omega
 unfold act;rw [if_neg (by rw [decide_eq_true_eq];omega),if_neg (by rw [decide_eq_true_eq];omega),if_neg (by rw [decide_eq_true_eq];omega),if_neg (by rw [decide_eq_true_eq];omega),if_neg (by rw [decide_eq_true_eq];omega),if_neg (by rw [decide_eq_true_eq];omega),if_neg (by rw [decide_eq_true_eq];omega),if_neg e]
def Bb (o:Order):AL:=if (!decide (o.nth=1) || o.Am)=true then [] else o.name
theorem Zd {T:AA}{o:Order}(h:decide (0≤T.EN (Bb o))=false):T.FR o=(T.AS (Bb o)).1:=
 if_pos (by
  have h2:decide (T.EN (Bb o) < 0)=true:=decide_eq_true (by have:=of_decide_eq_false h;omega)
  have h3:=ag h2
  show(!(T.AS (Bb o)).2.2)=true
  rw [h3];rfl)
theorem XR {T:AA}{o:Order}(h:decide (0≤T.EN (Bb o))=true):0≤T.EN (Bb o)∧T.EN (Bb o) < 6∧T.FR o=(if decide ((((T.AS (Bb o)).1.BV T.b (T.EN (Bb o)+1)).w.AF.at (T.EN (Bb o))).A1=0)=true then((T.AS (Bb o)).1.BV T.b (T.EN (Bb o)+1)).BV (T.EN (Bb o)) (T.b+1) else(T.AS (Bb o)).1.BV T.b (T.EN (Bb o)+1)).tell IL:=by
 have h2:decide (T.EN (Bb o) < 0)=false:=decide_eq_false (by have:=of_decide_eq_true h;omega)
 obtain⟨h3,h4⟩:=YL h2
 have hr:=T.HF (Bb o)
 rw [h4]
 refine⟨hr.1,hr.2,(if_neg (by show ¬ (!(T.AS (Bb o)).2.2)=true;rw [h3];decide)).trans ?_⟩
 show(if decide ((((T.AS (Bb o)).1.BV (T.AS (Bb o)).1.b ((T.AS (Bb o)).2.1+1)).w.AF.at (T.AS (Bb o)).2.1).A1=0)=true then((T.AS (Bb o)).1.BV (T.AS (Bb o)).1.b ((T.AS (Bb o)).2.1+1)).BV (T.AS (Bb o)).2.1 ((T.AS (Bb o)).1.b+1) else((T.AS (Bb o)).1.BV (T.AS (Bb o)).1.b ((T.AS (Bb o)).2.1+1))).tell IL=_
 rw [(T.He (Bb o)).2]
theorem Zb {T:AA}{F:AD}(h:F=(T.kind 18).EG.w):T.J6=⟨{ F with AF:=F.AF.put T.b default },T.b,(T.kind 18).out⟩:=by
 obtain⟨h1,h2,h3⟩:=T.VQ
 rw [← h] at h3
 cases e:T.J6 with
 | mk w b out=>
  rw [e] at h1 h2 h3
  subst h1 h2 h3
  rfl
theorem Qu (X:AD)(b:Int):(!X.AV b)=(decide (b < 0) || decide (6≤b) || !(X.AF.at b).here):=by
 have e0:decide (b < 0)=!decide (0≤b):=by
  by_cases h:0≤b
  ·rw [decide_eq_true h,decide_eq_false (by omega)];rfl
  ·rw [decide_eq_false h,decide_eq_true (by omega)];rfl
 have e1:decide (6≤b)=!decide (b < 6):=by
  by_cases h:b < 6
  ·rw [decide_eq_true h,decide_eq_false (by omega)];rfl
  ·rw [decide_eq_false h,decide_eq_true (by omega)];rfl
 rw [e0,e1]
 unfold AD.AV
 cases decide (0≤b)<;>cases decide (b < 6)<;>rfl
theorem Ke (X:AD)(b:Int)(o:Order):(Dk X b o).2.1.length≤11:=by
 unfold Dk
 split
 ·exact Nat.zero_le _
 ·split
  ·exact Nat.zero_le _
  ·split
   ·exact Nat.zero_le _
   ·have:=bq (⟨X,b,[]⟩:AA) o
    exact Nat.le_trans this (Nat.le_refl 11)
end AA
end Go.Ing
/- Engine: the same rules, said shorter. -/
namespace Go.Ing
open Go
section
variable {F:List (Nat × Value)} {v0 v1 v2 v3 v4 v5 v6 v7 v8 v9 v10 v11:Value}
theorem Sub.t1 (k0:Nat)(h0:lk k0 F=some v0:=by rfl):Sub F [(k0,v0)]:= .cons h0 (.nil _)
theorem Sub.t2 (k0 k1:Nat)(h0:lk k0 F=some v0:=by rfl)(h1:lk k1 F=some v1:=by rfl):Sub F [(k0,v0),(k1,v1)]:= .cons h0 (.cons h1 (.nil _))
theorem Sub.t3 (k0 k1 k2:Nat)(h0:lk k0 F=some v0:=by rfl)(h1:lk k1 F=some v1:=by rfl)(h2:lk k2 F=some v2:=by rfl):Sub F [(k0,v0),(k1,v1),(k2,v2)]:= .cons h0 (.cons h1 (.cons h2 (.nil _)))
theorem Sub.t4 (k0 k1 k2 k3:Nat)(h0:lk k0 F=some v0:=by rfl)(h1:lk k1 F=some v1:=by rfl)(h2:lk k2 F=some v2:=by rfl)(h3:lk k3 F=some v3:=by rfl):Sub F [(k0,v0),(k1,v1),(k2,v2),(k3,v3)]:= .cons h0 (.cons h1 (.cons h2 (.cons h3 (.nil _))))
theorem Sub.t5 (k0 k1 k2 k3 k4:Nat)(h0:lk k0 F=some v0:=by rfl)(h1:lk k1 F=some v1:=by rfl)(h2:lk k2 F=some v2:=by rfl)(h3:lk k3 F=some v3:=by rfl)(h4:lk k4 F=some v4:=by rfl):Sub F [(k0,v0),(k1,v1),(k2,v2),(k3,v3),(k4,v4)]:= .cons h0 (.cons h1 (.cons h2 (.cons h3 (.cons h4 (.nil _)))))
theorem Sub.t6 (k0 k1 k2 k3 k4 k5:Nat)(h0:lk k0 F=some v0:=by rfl)(h1:lk k1 F=some v1:=by rfl)(h2:lk k2 F=some v2:=by rfl)(h3:lk k3 F=some v3:=by rfl)(h4:lk k4 F=some v4:=by rfl)(h5:lk k5 F=some v5:=by rfl):Sub F [(k0,v0),(k1,v1),(k2,v2),(k3,v3),(k4,v4),(k5,v5)]:= .cons h0 (.cons h1 (.cons h2 (.cons h3 (.cons h4 (.cons h5 (.nil _))))))
theorem Sub.t7 (k0 k1 k2 k3 k4 k5 k6:Nat)(h0:lk k0 F=some v0:=by rfl)(h1:lk k1 F=some v1:=by rfl)(h2:lk k2 F=some v2:=by rfl)(h3:lk k3 F=some v3:=by rfl)(h4:lk k4 F=some v4:=by rfl)(h5:lk k5 F=some v5:=by rfl)(h6:lk k6 F=some v6:=by rfl):Sub F [(k0,v0),(k1,v1),(k2,v2),(k3,v3),(k4,v4),(k5,v5),(k6,v6)]:= .cons h0 (.cons h1 (.cons h2 (.cons h3 (.cons h4 (.cons h5 (.cons h6 (.nil _)))))))
theorem Sub.t8 (k0 k1 k2 k3 k4 k5 k6 k7:Nat)(h0:lk k0 F=some v0:=by rfl)(h1:lk k1 F=some v1:=by rfl)(h2:lk k2 F=some v2:=by rfl)(h3:lk k3 F=some v3:=by rfl)(h4:lk k4 F=some v4:=by rfl)(h5:lk k5 F=some v5:=by rfl)(h6:lk k6 F=some v6:=by rfl)(h7:lk k7 F=some v7:=by rfl):Sub F [(k0,v0),(k1,v1),(k2,v2),(k3,v3),(k4,v4),(k5,v5),(k6,v6),(k7,v7)]:= .cons h0 (.cons h1 (.cons h2 (.cons h3 (.cons h4 (.cons h5 (.cons h6 (.cons h7 (.nil _))))))))
theorem Sub.t9 (k0 k1 k2 k3 k4 k5 k6 k7 k8:Nat)(h0:lk k0 F=some v0:=by rfl)(h1:lk k1 F=some v1:=by rfl)(h2:lk k2 F=some v2:=by rfl)(h3:lk k3 F=some v3:=by rfl)(h4:lk k4 F=some v4:=by rfl)(h5:lk k5 F=some v5:=by rfl)(h6:lk k6 F=some v6:=by rfl)(h7:lk k7 F=some v7:=by rfl)(h8:lk k8 F=some v8:=by rfl):Sub F [(k0,v0),(k1,v1),(k2,v2),(k3,v3),(k4,v4),(k5,v5),(k6,v6),(k7,v7),(k8,v8)]:= .cons h0 (.cons h1 (.cons h2 (.cons h3 (.cons h4 (.cons h5 (.cons h6 (.cons h7 (.cons h8 (.nil _)))))))))
end
section
variable {P:Program} {n:Nat} {w0:World} {M:List Nat} {Q:Exit→Go.Act→World→Prop} {F F':List (Nat × Value)} {L L' A K:List AJ} {ops:Array Oper} {rest l:List Oper} {d id:Nat} {op:Op} {T:TypeId} {pos:String} {Bn:Array Edge} {v v':Value} {x y:Code}
theorem Gs (h:GL P n w0 M l.toArray (Exit.then (y.wp P Q) Q) l F L):G P n w0 M (.seq (.region id l.toArray false) y) Q F L:=Yp (J0 h)
theorem Gn (hs:Sub F F')(h:G P n w0 M y Q F' L):GL P n w0 M ops (Exit.then (y.wp P Q) Q) [] F L:=OG (Yk hs (RR h))
theorem Gt (h:PS P n w0 M op T F L v L')(k:GL P n w0 M ops Q rest ((d,v) :: F) L')(hd:Nat.blt d n=true:=by rfl):GL P n w0 M ops Q (⟨some d,op,T,pos,Bn,none⟩ :: rest) F L:=KZ hd h k
theorem Gm {x:Operand}(h:ev F x=some v)(k:GL P n w0 M ops Q rest ((d,v) :: F) L)(hd:Nat.blt d n=true:=by rfl):GL P n w0 M ops Q (⟨some d, .move x,T,pos,Bn,none⟩ :: rest) F L:=KZ hd (JH h) k
theorem j2 {j:Nat}{z:Bool}(t:Nat)(hj:(ops[j]?).bind (·.dst)=some t)(hb:lk t F=some (.bool z))(h:z=true→PS P n w0 M op T F L v L)(k:GL P n w0 M ops Q rest ((d,cv z v) :: F) L)(hd:Nat.blt d n=true:=by rfl):GL P n w0 M ops Q (⟨some d,op,T,pos,Bn,some (j,true)⟩ :: rest) F L:=Ye hj hb hd h k
theorem jz {j:Nat}{z:Bool}(t:Nat)(hj:(ops[j]?).bind (·.dst)=some t)(hb:lk t F=some (.bool z))(h:z=false→PS P n w0 M op T F L v L)(k:GL P n w0 M ops Q rest ((d,cv (!z) v) :: F) L)(hd:Nat.blt d n=true:=by rfl):GL P n w0 M ops Q (⟨some d,op,T,pos,Bn,some (j,false)⟩ :: rest) F L:=Yd hj hb hd h k
end
section
variable {P:Program} {n:Nat} {w0:World} {M:List Nat} {Q:Exit→Go.Act→World→Prop} {l:List Oper} {Rs:List Nat} {F:List (Nat × Value)}
variable {k i j d:Nat} {V A:List Nat} {D:List (Nat × (Nat × Value))} {L:List AJ} {op:Op} {T:TypeId} {pos:String} {Bn:Array Edge} {v v':Value}
theorem Pf (i:Nat)(ho:l[i]?=some ⟨some d,op,T,pos,Bn,none⟩)(h:PS P n w0 M op T (DQ D Bn.toList++F) L v L)(k':IJ P n w0 M Q l Rs F k (i :: V) (i :: A) ((i,(d,v)) :: D) L)(hc:cM l V i Bn.toList=true:=by kernel_rfl)(hlk:Xk F d v:=by first | exact .inl rfl | exact .inr rfl):IJ P n w0 M Q l Rs F (k+1) V A D L:=
 OR i ho rfl hc (bf (Lv h)) k' hlk
theorem Pk (h:HK P n w0 M Q l Rs F i D L A)(hr:reaches Rs i j=true:=by kernel_rfl):HK P n w0 M Q l Rs F i D L (j :: A):=QR hr h
theorem Po (ho:l[j]?=some ⟨some d,op,T,pos,Bn,none⟩)(h:PS P n w0 M op T (DQ D Bn.toList++F) L v' L)(hl:NT j D=some (d,v))(e:v'=v)(k':HK P n w0 M Q l Rs F i D L A):HK P n w0 M Q l Rs F i D L (j :: A):=Sv ho (bf (Lv h)) hl e k'
end
section
variable {P:Program} {n:Nat} {w0:World} {M:List Nat} {F:List (Nat × Value)} {L:List AJ}
theorem cF {x:Operand}{c:Bool}{v:Value}(h:ev F x=some (cv (!c) v))(q:c=false):ev F x=some v:=iB h (by rw [q];rfl)
theorem gf {T U f off b o:Nat}{x:Operand}(hf:FA P T f off)(hx:ev F x=some (.pointer (some ⟨b,o,none⟩))):PS P n w0 M (.fieldAddr T x f) U F L (.pointer (some ⟨b,o+off,none⟩)) L:=JF hf hx
theorem gg {T:TypeId}{x:Operand}{p:Addr}(hx:ev F x=some (.pointer (some p))):PS P n w0 M (.nilCheck x) T F L (.pointer (some p)) L:=NH hx
end
theorem Ab.ar {α:Type}{n:Nat}[Inhabited α]{e:α→List Value}{sz:Nat}(fe:Flat e sz){i:Int}(h:0≤i∧i < (n:Int)):Ab (BT (n:=n) e) e (i.toNat * sz) sz (fun v=>v.at i) (fun v y=>v.put i y):=Ab.arr fe h.1 h.2
class Nz (a:Prop) (b:outParam Prop):Prop where
 h:a→b
theorem kz {a b:Prop}[i:Nz a b](h:a):b:=i.h h
section
variable {p:Prop} [Decidable p] {a b:Bool} {x y:Prop} {m n:Int}
instance (priority:=low):Nz p p:=⟨id⟩
instance:Nz (decide p=true) p:=⟨of_decide_eq_true⟩
instance (priority:=low):Nz (decide p=false) (¬ p):=⟨of_decide_eq_false⟩
instance:Nz (decide (m < n)=false) (n≤m):=⟨fun h=>Int.not_lt.1 (of_decide_eq_false h)⟩
instance:Nz (decide (m≤n)=false) (n < m):=⟨fun h=>Int.not_le.1 (of_decide_eq_false h)⟩
instance [i:Nz (a=false) x]:Nz ((!a)=true) x:=⟨fun h=>i.h (by simpa using h)⟩
instance [i:Nz (a=true) x]:Nz ((!a)=false) x:=⟨fun h=>i.h (by simpa using h)⟩
instance [i:Nz (a=true) x][j:Nz (b=true) y]:Nz ((a && b)=true) (x∧y):=⟨fun h=>⟨i.h (jn ▸ h).1,j.h (jn ▸ h).2⟩⟩
instance [i:Nz (a=false) x][j:Nz (b=false) y]:Nz ((a || b)=false) (x∧y):=⟨fun h=>⟨i.h (jR ▸ h).1,j.h (jR ▸ h).2⟩⟩
instance [i:Nz (a=true) x][j:Nz (b=true) y]:Nz ((a || b)=true) (x∨y):=⟨fun h=>(kK ▸ h:a=true∨b=true).imp i.h j.h⟩
instance [i:Nz (a=false) x][j:Nz (b=false) y]:Nz ((a && b)=false) (x∨y):=⟨fun h=>(kI ▸ h:a=false∨b=false).imp i.h j.h⟩
end
section
variable {F:List (Nat × Value)} {P:Program} {L L' K rs:List AJ} {r r' s:AJ} {x:Operand} {v:Value} {xs:List Operand} {vs:List Value}
theorem Ig.h:Ig (r :: L) r r' (r' :: L):= .head
theorem Ig.t (h:Ig L r r' L'):Ig (s :: L) r r' (s :: L'):= .tail h
theorem L0.h:L0 (r :: L) r L:= .head
theorem L0.t (h:L0 L r L'):L0 (s :: L) r (s :: L'):= .tail h
theorem AK.n:AK L [] L:= .nil
theorem AK.c (h:L0 L r L')(hs:AK L' rs K):AK L (r :: rs) K:= .cons h hs
theorem Nr.n:Nr F [] []:= .nil
theorem Nr.c (h:ev F x=some v)(hs:Nr F xs vs):Nr F (x :: xs) (v :: vs):= .cons h hs
theorem Rs.n:Rs P F L [] []:= .nil
end
section
variable {α:Type} {a b c d e f g h i j:α} {l:List α}
theorem _root_.List.Mem.m0:List.Mem a (a :: l):= .head _
theorem _root_.List.Mem.m1:List.Mem a (b :: a :: l):= .tail _ .m0
theorem _root_.List.Mem.m2:List.Mem a (b :: c :: a :: l):= .tail _ .m1
end
end Go.Ing
/- A house's data, in Lean, and their parts. -/
namespace Go.Ing
open Go
structure A4 where
 state:Int
 AV:Int
 DZ:AI
 Ay:BO
 out:A7
 told:Hd
instance:Inhabited A4:=⟨⟨0,0,default,⟨[],false,false,⟨none,0,0⟩⟩,⟨⟨none,0,0⟩,0,false,[],false⟩,⟨none,0,0⟩⟩⟩
def A4.enc (x:A4):List Value:=AT x.state++AT x.AV++AI.enc x.DZ++BO.enc x.Ay++A7.enc x.out++EF x.told
instance A4.fl:Flat A4.enc 22:=⟨fun x=>by simp [A4.enc,BO.fl.len,A7.fl.len,AI.fl.len,P1.len,Bo.len],fun x v hv=>by
 simp only [A4.enc,List.mem_append] at hv
 rcases hv with ((((h | h) | h) | h) | h) | h
 ·exact Bo.one _ v h
 ·exact Bo.one _ v h
 ·exact AI.fl.one _ v h
 ·exact BO.fl.one _ v h
 ·exact A7.fl.one _ v h
 ·exact P1.one _ v h⟩
instance A4.l0:Ab A4.enc (AT) 0 1 (fun x=>x.state) (fun x y=>{ x with state:=y }):=
 Ab.EP Bo (fun _=> []) (fun x=>AT x.AV++AI.enc x.DZ++BO.enc x.Ay++A7.enc x.out++EF x.told) (fun _=>rfl) (fun x=>by simp [A4.enc]) (fun x y=>by simp [A4.enc])
instance A4.l1:Ab A4.enc (AT) 1 1 (fun x=>x.AV) (fun x y=>{ x with AV:=y }):=
 Ab.EP Bo (fun x=>AT x.state) (fun x=>AI.enc x.DZ++BO.enc x.Ay++A7.enc x.out++EF x.told) (fun x=>by simp [Bo.len]) (fun x=>by simp [A4.enc]) (fun x y=>by simp [A4.enc])
instance A4.l2:Ab A4.enc (AI.enc) 2 10 (fun x=>x.DZ) (fun x y=>{ x with DZ:=y }):=
 Ab.EP AI.fl (fun x=>AT x.state++AT x.AV) (fun x=>BO.enc x.Ay++A7.enc x.out++EF x.told) (fun x=>by simp [Bo.len]) (fun x=>by simp [A4.enc]) (fun x y=>by simp [A4.enc])
instance A4.l3:Ab A4.enc (BO.enc) 12 4 (fun x=>x.Ay) (fun x y=>{ x with Ay:=y }):=
 Ab.EP BO.fl (fun x=>AT x.state++AT x.AV++AI.enc x.DZ) (fun x=>A7.enc x.out++EF x.told) (fun x=>by simp [AI.fl.len,Bo.len]) (fun x=>by simp [A4.enc]) (fun x y=>by simp [A4.enc])
instance A4.l4:Ab A4.enc (A7.enc) 16 5 (fun x=>x.out) (fun x y=>{ x with out:=y }):=
 Ab.EP A7.fl (fun x=>AT x.state++AT x.AV++AI.enc x.DZ++BO.enc x.Ay) (fun x=>EF x.told) (fun x=>by simp [BO.fl.len,AI.fl.len,Bo.len]) (fun x=>by simp [A4.enc]) (fun x y=>by simp [A4.enc])
instance A4.l5:Ab A4.enc (EF) 21 1 (fun x=>x.told) (fun x y=>{ x with told:=y }):=
 Ab.EP P1 (fun x=>AT x.state++AT x.AV++AI.enc x.DZ++BO.enc x.Ay++A7.enc x.out) (fun _=> []) (fun x=>by simp [BO.fl.len,A7.fl.len,AI.fl.len,Bo.len]) (fun x=>by simp [A4.enc]) (fun x y=>by simp [A4.enc])
structure AE where
 w:AD
 AQ:Sc A4 4
 Bg:Int
 last:Hd
def AE.enc (x:AE):List Value:=AD.enc x.w++BT A4.enc x.AQ++AT x.Bg++EF x.last
instance AE.fl:Flat AE.enc 255:=⟨fun x=>by simp [AE.enc,(IM A4.fl).len,AD.fl.len,P1.len,Bo.len],fun x v hv=>by
 simp only [AE.enc,List.mem_append] at hv
 rcases hv with ((h | h) | h) | h
 ·exact AD.fl.one _ v h
 ·exact(IM A4.fl).one _ v h
 ·exact Bo.one _ v h
 ·exact P1.one _ v h⟩
instance AE.l0:Ab AE.enc (AD.enc) 0 165 (fun x=>x.w) (fun x y=>{ x with w:=y }):=
 Ab.EP AD.fl (fun _=> []) (fun x=>BT A4.enc x.AQ++AT x.Bg++EF x.last) (fun _=>rfl) (fun x=>by simp [AE.enc]) (fun x y=>by simp [AE.enc])
instance AE.l1:Ab AE.enc (BT A4.enc) 165 88 (fun x=>x.AQ) (fun x y=>{ x with AQ:=y }):=
 Ab.EP (IM A4.fl) (fun x=>AD.enc x.w) (fun x=>AT x.Bg++EF x.last) (fun x=>by simp [AD.fl.len]) (fun x=>by simp [AE.enc]) (fun x y=>by simp [AE.enc])
instance AE.l2:Ab AE.enc (AT) 253 1 (fun x=>x.Bg) (fun x y=>{ x with Bg:=y }):=
 Ab.EP Bo (fun x=>AD.enc x.w++BT A4.enc x.AQ) (fun x=>EF x.last) (fun x=>by simp [(IM A4.fl).len,AD.fl.len]) (fun x=>by simp [AE.enc]) (fun x y=>by simp [AE.enc])
instance AE.l3:Ab AE.enc (EF) 254 1 (fun x=>x.last) (fun x y=>{ x with last:=y }):=
 Ab.EP P1 (fun x=>AD.enc x.w++BT A4.enc x.AQ++AT x.Bg) (fun _=> []) (fun x=>by simp [(IM A4.fl).len,AD.fl.len,Bo.len]) (fun x=>by simp [AE.enc]) (fun x y=>by simp [AE.enc])
end Go.Ing
/- What a house does: plain functions. -/
namespace Go.Ing
open Go
structure Ao where
 state:Int
 AV:Int
 DZ:AI
 now:AL
 long:Bool
 ret:Bool
 queue:List AL
 pg:Page.Pg
 wait:List AL
 told:List AL
instance:Inhabited Ao:=⟨⟨0,0,default,[],false,false,[],⟨0,false,[],false⟩,[],[]⟩⟩
structure AG where
 w:AD
 AQ:Vector Ao 4
 Bg:Int
 last:List Event
namespace Ao
def PR (s:Ao):Bool:=decide ((s.wait.length:Int)≤60) && decide ((s.pg.ring.length:Int)≤700) && decide (0≤s.pg.shown) && decide (s.pg.shown≤200)
def line (s:Ao)(u:AL):Ao:=
 if (!s.PR)=true then s else if s.pg.cut=true then s
 else if decide (60≤(s.wait.length:Int))=true then { s with pg:={ s.pg with cut:=true } } else { s with wait:=s.wait ++ [u] }
def note (s:Ao)(u:AL):Ao:=if (!s.pg.cut)=true then { s with told:=s.told ++ [u] } else s
def tell (s:Ao)(u:AL):Ao:=(s.line u).note u
def send (s:Ao)(u:AL):Ao:=if (!s.PR)=true then s else if s.pg.cut=true then s else { s with pg:=Page.put s.pg u }
def BJ (s:Ao):Ao:=
 if (!s.PR || decide (s.DZ.Bw < 0) || decide (200 < s.DZ.Bw))=true then s
 else { s with pg:=(Page.BJ s.DZ.Bw s.wait s.pg).1,wait:=(Page.BJ s.DZ.Bw s.wait s.pg).2 }
def Er (s:Ao):Ao:={ s with pg:={ s.pg with shown:=0,BS:=false } }
def iA (s:Ao)(n:Int):Nat:=(max 0 (min n (s.pg.ring.length:Int))).toNat
def Jb (s:Ao)(n:Int):Ao:={ s with pg:={ s.pg with ring:=s.pg.ring.drop (s.iA n) } }
def out (s:Ao)(n:Int):AL:=s.pg.ring.take (s.iA n)
def Lb (s:Ao):Bool:=
 !(decide (60 < (s.now.length:Int)) || decide (6 < (s.queue.length:Int)) || (s.long && decide (60 < (s.now.length:Int))) || (s.ret && (!decide (s.now = []) || s.long))) && (s.queue ++ [s.now]).all Aa.Ey
def typed (s:Ao)(u:AL):Ao × Int:=
 if (!s.Lb)=true then(s,0)
 else
  let x:=Aa.feed ⟨s.now,s.long,s.ret,s.queue,0⟩ u
  ({ s with now:=x.now,long:=x.long,ret:=x.ret,queue:=x.queue },x.lost)
def bytes (s:Ao)(u:AL):Ao × AL:=({ s with DZ:=(s.DZ.CM u).1 }.send (s.DZ.CM u).2.2.1,(s.DZ.CM u).2.1)
def offer (s:Ao)(opt:Int):Ao:=
 if decide ((s.DZ.Cs opt).2.1 = [])=true then { s with DZ:=((s.DZ.Cs opt).1.Ask opt).1 }.send ([]++((s.DZ.Cs opt).1.Ask opt).2.1)
 else { s with DZ:=(s.DZ.Cs opt).1 }.send ((s.DZ.Cs opt).2.1 ++ [])
end Ao
namespace AG
def at_ (H:AG)(k:Int):Ao:=H.AQ.at k
def set (H:AG)(k:Int)(s:Ao):AG:={ H with AQ:=H.AQ.put k s }
def tell (H:AG)(k:Int)(u:AL):AG:=H.set k ((H.at_ k).tell u)
def CE (e:Event)(H:AG):Nat→AG
 | 0=>H
 | k+1=>if (!decide (((CE e H k).at_ k).state=2))=true then CE e H k else if (AD.tell e ((CE e H k).at_ k).AV).2=true then(CE e H k).tell k (AD.tell e ((CE e H k).at_ k).AV).1 else CE e H k
def Io (H:AG)(l:List Event):AG:=l.foldl (fun X e=>CE e X 4) H
def Fi (H:AG)(l:List Event):AG:={ H with last:=H.last++l }.Io l
def DL:Order:={ (default:Order) with verb:=20 }
def Vb (H:AG)(k:Int):AG:={ H with w:=(AA.Dk H.w (H.at_ k).AV DL).1 }
def leave (H:AG)(k:Int):AG:=
 (if (decide ((H.at_ k).state=2) && (H.w.AF.at (H.at_ k).AV).here)=true then((H.Vb k).set k default).Fi (AA.Dk H.w (H.at_ k).AV DL).2.1 else H).set k default
def CI (H:AG):Nat→AG × Bool
 | 0=>(H,false)
 | k+1=>
  if decide (((CI H k).1.at_ k).state=0)=true then CI H k
  else if (((CI H k).1.at_ k).BJ).pg.cut=true then(((CI H k).1.set k (((CI H k).1.at_ k).BJ)).leave k,true)
  else((CI H k).1.set k (((CI H k).1.at_ k).BJ),(CI H k).2)
def HN (H:AG):Nat→AG
 | 0=>H
 | n+1=>if (!(H.CI 4).2)=true then(H.CI 4).1 else(H.CI 4).1.HN n
def BJ (H:AG):AG:=H.HN 5
def CT:AL:= [87,104,111,32,97,114,101,32,121,111,117,63]
def TK:AL:= [78,111,116,32,115,111,32,102,97,115,116,46]
def fL:AL:= [87,104,97,116,63]
def SH:AL:= [84,104,97,116,32,105,115,32,110,111,32,110,97,109,101,46]
def noRoom:AL:= [84,104,101,114,101,32,105,115,32,110,111,32,114,111,111,109,46]
def P7 (H:AG)(k:Int):AG:=((H.set k ((({ (default:Ao) with state:=1,AV:=-1 }).offer 3).offer 31)).tell k CT).BJ
def named (H:AG)(k:Int)(u:AL):AG:=
 if decide ((AA.An H.w u).2.2.2=0)=true then({ H with w:=(AA.An H.w u).1 }.set k { H.at_ k with state:=2,AV:=(AA.An H.w u).2.1 }).Fi (AA.An H.w u).2.2.1
 else if decide ((AA.An H.w u).2.2.2=4)=true then H.tell k noRoom
 else H.tell k SH
def order (H:AG)(k:Int)(u:AL):AG:=
 if (!decide ((Words.parse u).2=0))=true then H.tell k fL
 else if decide ((Words.parse u).1.verb=20)=true then H.leave k
 else { H with w:=(AA.Dk H.w (H.at_ k).AV (Words.parse u).1).1 }.Fi (AA.Dk H.w (H.at_ k).AV (Words.parse u).1).2.1
def Dz (H:AG)(k:Int):AG:=
 if decide ((H.at_ k).state=0)=true then H
 else match (H.at_ k).queue with
  | []=>H
  | q :: r=>
   let H1:=H.set k { H.at_ k with queue:=r }.Er
   if (H.at_ k).pg.BS=true then H1
   else if decide ((H.at_ k).state=1)=true then H1.named k (Words.DG 32 (Words.Dy 32 q))
   else H1.order k q
def turns (H:AG):Nat→AG
 | 0=>H
 | k+1=>(turns H k).Dz k
def PV (H:AG)(d:Int):AG:=
 let X:=H.turns 4
 ({ X with w:=(AA.BW X.w d).1 }.Fi (AA.BW X.w d).2.1).BJ
def D0 (H:AG):Nat→AG
 | 0=>H
 | k+1=>(D0 H k).set k { (D0 H k).at_ k with told:= [] }
def begun (H:AG):AG:={ H with Bg:=H.Bg+1,last:= [] }.D0 4
def ok:CC:=⟨0,[]⟩
def byte (H:AG)(k:Int)(u:AL):AG:=
 let s1:=(H.at_ k).bytes u
 let s2:=s1.1.typed s1.2
 ((if decide (0 < s2.2)=true then(H.set k s2.1).tell k TK else H.set k s2.1)).BJ
def Eb (X:AG)(a:Ba):AG × CC:=
 if decide (a.kind=5)=true then(X.PV a.n,ok)
 else if (decide (a.kind < 1) || decide (5 < a.kind))=true then(X,⟨5,[]⟩)
 else if (decide (a.AY < 0) || decide (4≤a.AY))=true then(X,⟨2,[]⟩)
 else if (decide ((X.at_ a.AY).state=0) != decide (a.kind=1))=true then(X,⟨3,[]⟩)
 else if decide (a.kind=1)=true then(X.P7 a.AY,ok)
 else if decide (a.kind=2)=true then(X.byte a.AY a.bytes,ok)
 else if decide (a.kind=3)=true then((X.set a.AY ((X.at_ a.AY).Jb a.n)).BJ,⟨0,(X.at_ a.AY).out a.n⟩)
 else((X.leave a.AY).BJ,ok)
def act (H:AG)(a:Ba):AG × CC:=if decide (400≤H.Bg)=true then(H,⟨4,[]⟩) else H.begun.Eb a
def new:AG:=⟨AD.new,Vector.replicate 4 default,0,[]⟩
def run:AG→List Ba→AG × List CC
 | H,[]=>(H,[])
 | H,a :: l=>((run (H.act a).1 l).1,(H.act a).2 :: (run (H.act a).1 l).2)
end AG
end Go.Ing
/- Engine: several slices together; a seat of a house. -/
namespace Go.Ing
open Go
def AJ.CQ (l:List AJ):AJ where
 Bp:=l.flatMap AJ.Bp
 ok w:=(∀ r∈l,r.ok w)∧l.Pairwise fun r s=>∀ b:Nat,b∈r.Bp→b ∉ s.Bp
 loc w w' h hw:=⟨fun r hr=>r.loc w w' (fun b hb=>h b (List.mem_flatMap.2 ⟨r,hr,hb⟩)) (hw.1 r hr),hw.2⟩
section
variable {w0 w:World} {M:List Nat} {l L:List AJ}
theorem St.db (h:St w0 M w (AJ.CQ l :: L)):St w0 M w (l++L):=by
 have hm:∀ r∈l,∀ b∈r.Bp,b∈(AJ.CQ l).Bp:=fun r hr b hb=>List.mem_flatMap.2 ⟨r,hr,hb⟩
 have hf:=h.ok (AJ.CQ l) (List.mem_cons_self ..)
 refine⟨h.os,h.tape,h.output,h.size,h.IW,fun r hr=>?_,fun r hr=>?_,List.pairwise_append.2 ⟨hf.2,(List.pairwise_cons.1 h.Ii).2,fun r hr s hs b hb=>(List.pairwise_cons.1 h.Ii).1 s hs b (hm r hr b hb)⟩⟩
 ·rcases List.mem_append.1 hr with hr | hr
  ·exact hf.1 r hr
  ·exact h.ok r (List.mem_cons_of_mem _ hr)
 ·rcases List.mem_append.1 hr with hr | hr
  ·exact fun b hb=>h.Bp _ (List.mem_cons_self ..) b (hm r hr b hb)
  ·exact h.Bp r (List.mem_cons_of_mem _ hr)
theorem St.dZ (h:St w0 M w (l++L)):St w0 M w (AJ.CQ l :: L):=by
 have hd:=List.pairwise_append.1 h.Ii
 refine⟨h.os,h.tape,h.output,h.size,h.IW,fun r hr=>?_,fun r hr=>?_,List.pairwise_cons.2 ⟨fun s hs b hb=>?_,hd.2.1⟩⟩
 ·rcases List.mem_cons.1 hr with rfl | hr
  ·exact⟨fun r hr=>h.ok r (List.mem_append_left _ hr),hd.1⟩
  ·exact h.ok r (List.mem_append_right _ hr)
 ·rcases List.mem_cons.1 hr with rfl | hr
  ·intro b hb
   obtain⟨r,hr,hb'⟩:=List.mem_flatMap.1 hb
   exact h.Bp r (List.mem_append_left _ hr) b hb'
  ·exact h.Bp r (List.mem_append_right _ hr)
 ·obtain⟨r,hr,hb'⟩:=List.mem_flatMap.1 hb
  exact hd.2.2 r hr s hs b hb'
end
structure Af where
 queue:List AL
 wait:List AL
 told:List AL
 deriving Inhabited
def FK (T:Nat)(v:A4)(l:Af):List AJ:= [AJ.own v.Ay.queue T 1 (l.queue.flatMap Ac),AJ.own v.out.wait T 1 (l.wait.flatMap Ac),AJ.own v.told T 1 (l.told.flatMap Ac)]
def BF (T:Nat)(vs:Vector A4 4)(ls:Vector Af 4):List AJ:=FK T (vs.at 0) (ls.at 0)++(FK T (vs.at 1) (ls.at 1)++(FK T (vs.at 2) (ls.at 2)++FK T (vs.at 3) (ls.at 3)))
def GS (T:Nat)(k:Int)(vs:Vector A4 4)(ls:Vector Af 4):List AJ:=
 if k=0 then FK T (vs.at 1) (ls.at 1)++(FK T (vs.at 2) (ls.at 2)++FK T (vs.at 3) (ls.at 3))
 else if k=1 then FK T (vs.at 0) (ls.at 0)++(FK T (vs.at 2) (ls.at 2)++FK T (vs.at 3) (ls.at 3))
 else if k=2 then FK T (vs.at 0) (ls.at 0)++(FK T (vs.at 1) (ls.at 1)++FK T (vs.at 3) (ls.at 3))
 else FK T (vs.at 0) (ls.at 0)++(FK T (vs.at 1) (ls.at 1)++FK T (vs.at 2) (ls.at 2))
theorem JV {α:Type}(a b c:List α):(a++(b++c)).Perm (b++(a++c)):=by
 rw [← List.append_assoc,← List.append_assoc]
 exact List.perm_append_comm.append_right c
theorem four {k:Int}(h0:0≤k)(h1:k < 4):k=0∨k=1∨k=2∨k=3:=by omega
theorem Ql (T:Nat){k:Int}(h0:0≤k)(h1:k < 4)(vs:Vector A4 4)(ls:Vector Af 4):(BF T vs ls).Perm (FK T (vs.at k) (ls.at k)++GS T k vs ls):=by
 unfold BF GS
 rcases four h0 h1 with e | e | e | e<;>subst e
 ·exact .refl _
 ·exact JV _ _ _
 ·exact((JV _ _ _).append_left _).trans (JV _ _ _)
 ·exact(((List.perm_append_comm).append_left _).append_left _).trans (((JV _ _ _).append_left _).trans (JV _ _ _))
theorem XY (T:Nat){k:Int}(h0:0≤k)(h1:k < 4)(vs:Vector A4 4)(ls:Vector Af 4)(v:A4)(l:Af):GS T k (vs.put k v) (ls.put k l)=GS T k vs ls:=by
 have hv:∀ i:Int,0≤i→i≠k→(vs.put k v).at i=vs.at i:=fun i hi hn=>Vector.EK h0 h1 hi hn
 have hl:∀ i:Int,0≤i→i≠k→(ls.put k l).at i=ls.at i:=fun i hi hn=>Vector.EK h0 h1 hi hn
 unfold GS
 rcases four h0 h1 with e | e | e | e<;>subst e
 ·rw [if_pos rfl,if_pos rfl,hv 1 (by decide) (by decide),hv 2 (by decide) (by decide),hv 3 (by decide) (by decide),hl 1 (by decide) (by decide),hl 2 (by decide) (by decide),hl 3 (by decide) (by decide)]
 ·rw [if_neg (by decide),if_pos rfl,if_neg (by decide),if_pos rfl,hv 0 (by decide) (by decide),hv 2 (by decide) (by decide),hv 3 (by decide) (by decide),hl 0 (by decide) (by decide),hl 2 (by decide) (by decide),hl 3 (by decide) (by decide)]
 ·rw [if_neg (by decide),if_neg (by decide),if_pos rfl,if_neg (by decide),if_neg (by decide),if_pos rfl,hv 0 (by decide) (by decide),hv 1 (by decide) (by decide),hv 3 (by decide) (by decide),hl 0 (by decide) (by decide),hl 1 (by decide) (by decide),hl 3 (by decide) (by decide)]
 ·rw [if_neg (by decide),if_neg (by decide),if_neg (by decide),if_neg (by decide),if_neg (by decide),if_neg (by decide),hv 0 (by decide) (by decide),hv 1 (by decide) (by decide),hv 2 (by decide) (by decide),hl 0 (by decide) (by decide),hl 1 (by decide) (by decide),hl 2 (by decide) (by decide)]
def AE.AY (V:AE)(k:Int)(s:A4):AE:={ V with AQ:=V.AQ.put k s }
def Fj (V:AE)(k:Int)(s:A4):List Value:=(V.AY k s).enc
theorem Ab.AY (V:AE){k:Int}(h0:0≤k)(h1:k < 4):Ab (Fj V k) A4.enc (165+k.toNat * 22) 22 (fun s=>s) (fun _ y=>y):=by
 have hl:=AE.l1.comp (Ab.arr (n:=4) A4.fl h0 h1)
 refine⟨fun x=>?_,hl.len,fun x=>hl.YX _,fun x y=>?_,hl.one⟩
 ·have:=hl.get (V.AY k x)
  rw [show((V.AY k x).AQ.at k)=x from Vector.Bk h0 h1] at this
  exact this
 ·have:=hl.set (V.AY k x) y
  rw [show({ V.AY k x with AQ:=(V.AY k x).AQ.put k y }:AE)=V.AY k y from by unfold AE.AY;rw [Vector.EV]] at this
  exact this
theorem Vector.Wo {α:Type}[Inhabited α]{n:Nat}(v:Vector α n){k:Int}(h0:0≤k)(h1:k < n):v.put k (v.at k)=v:=by
 apply OD
 intro i i0 i1
 by_cases e:i=k
 ·subst e;rw [Vector.Bk h0 h1]
 ·rw [Vector.EK h0 h1 i0 e]
theorem AE.YJ (V:AE){k:Int}(h0:0≤k)(h1:k < 4):V.AY k (V.AQ.at k)=V:=by
 unfold AE.AY;rw [Vector.Wo _ h0 h1]
def B5 (v:A4)(l:Af):Ao:=⟨v.state,v.AV,v.DZ,v.Ay.now,v.Ay.long,v.Ay.ret,l.queue,Page.of v.out,l.wait,l.told⟩
def AO (V:AE)(ls:Vector Af 4)(ev:List Event):AG:=⟨V.w,Vector.ofFn fun i=>B5 (V.AQ.at ((i:Nat):Int)) (ls.at ((i:Nat):Int)),V.Bg,ev⟩
theorem B2 (V:AE)(ls:Vector Af 4)(ev:List Event){k:Int}(h0:0≤k)(h1:k < 4):(AO V ls ev).at_ k=B5 (V.AQ.at k) (ls.at k):=by
 rcases four h0 h1 with e | e | e | e<;>subst e<;>rfl
theorem Fq (V:AE)(ls:Vector Af 4)(ev:List Event){k:Int}(h0:0≤k)(h1:k < 4)(v:A4)(l:Af):AO (V.AY k v) (ls.put k l) ev=(AO V ls ev).set k (B5 v l):=by
 unfold AO AG.set AE.AY
 congr 1
 apply OD
 intro i i0 i1
 have hof:∀(f:Fin 4→Ao),(Vector.ofFn f).at i=f ⟨i.toNat,by omega⟩:=fun f=>by
  rcases four i0 i1 with e | e | e | e<;>subst e<;>rfl
 rw [hof]
 have hi:((i.toNat:Nat):Int)=i:=by omega
 by_cases e:i=k
 ·subst e
  rw [Vector.Bk h0 h1]
  show B5 ((V.AQ.put i v).at ((i.toNat:Nat):Int)) ((ls.put i l).at ((i.toNat:Nat):Int))=_
  rw [hi,Vector.Bk h0 h1,Vector.Bk h0 h1]
 ·rw [Vector.EK h0 h1 i0 e,hof]
  show B5 ((V.AQ.put k v).at ((i.toNat:Nat):Int)) ((ls.put k l).at ((i.toNat:Nat):Int))=B5 (V.AQ.at ((i.toNat:Nat):Int)) (ls.at ((i.toNat:Nat):Int))
  rw [hi,Vector.EK h0 h1 i0 e,Vector.EK h0 h1 i0 e]
section
variable {P:Program} {n:Nat} {w0 w:World} {M:List Nat} {Q:Exit→Go.Act→World→Prop} {F:List (Nat × Value)} {L K:List AJ} {cd:Code} {b T TS:Nat} {V:AE} {ls:Vector Af 4} {k:Int}
theorem St.iH (h0:0≤k)(h1:k < 4)(h:St w0 M w (AJ.box b T V.enc :: AJ.CQ (BF TS V.AQ ls) :: K)) :
  St w0 M w (AJ.own (V.AQ.at k).Ay.queue TS 1 ((ls.at k).queue.flatMap Ac) :: AJ.own (V.AQ.at k).out.wait TS 1 ((ls.at k).wait.flatMap Ac) :: AJ.own (V.AQ.at k).told TS 1 ((ls.at k).told.flatMap Ac) :: AJ.box b T (Fj V k (V.AQ.at k)) :: AJ.CQ (GS TS k V.AQ ls) :: K):=by
 have h2:St w0 M w (BF TS V.AQ ls++(AJ.box b T V.enc :: K)):=(h.perm (List.Perm.swap ..)).db
 have h3:=h2.perm ((Ql TS h0 h1 V.AQ ls).append_right _)
 have h4:St w0 M w (GS TS k V.AQ ls++(FK TS (V.AQ.at k) (ls.at k)++(AJ.box b T V.enc :: K))):=by
  refine h3.perm ?_
  rw [List.append_assoc]
  exact JV _ _ _
 have h5:=h4.dZ
 unfold Fj
 rw [V.YJ h0 h1]
 refine h5.perm ?_
 exact(JV [AJ.CQ (GS TS k V.AQ ls)] (FK TS (V.AQ.at k) (ls.at k) ++ [AJ.box b T V.enc]) K).trans (.of_eq (by simp [FK]))
theorem St.close' (h0:0≤k)(h1:k < 4){s:A4}{qs ws ts:List AL}{q w' t:Hd}(hq:s.Ay.queue=q)(hw:s.out.wait=w')(ht:s.told=t)
  (h:St w0 M w (AJ.own q TS 1 (qs.flatMap Ac) :: AJ.own w' TS 1 (ws.flatMap Ac) :: AJ.own t TS 1 (ts.flatMap Ac) :: AJ.box b T (Fj V k s) :: AJ.CQ (GS TS k V.AQ ls) :: K)) :
  St w0 M w (AJ.box b T (V.AY k s).enc :: AJ.CQ (BF TS (V.AY k s).AQ (ls.put k ⟨qs,ws,ts⟩)) :: K):=by
 subst hq hw ht
 have e1:(V.AY k s).AQ.at k=s:=Vector.Bk h0 h1
 have e2:(ls.put k ⟨qs,ws,ts⟩).at k=⟨qs,ws,ts⟩:=Vector.Bk h0 h1
 have hp:=Ql TS h0 h1 (V.AY k s).AQ (ls.put k ⟨qs,ws,ts⟩)
 rw [e1,e2,show GS TS k (V.AY k s).AQ (ls.put k ⟨qs,ws,ts⟩)=GS TS k V.AQ ls from XY TS h0 h1 _ _ _ _] at hp
 have h2:St w0 M w (AJ.CQ (GS TS k V.AQ ls) :: (FK TS s ⟨qs,ws,ts⟩++(AJ.box b T (V.AY k s).enc :: K))):=
  h.perm ((JV [AJ.CQ (GS TS k V.AQ ls)] (FK TS s ⟨qs,ws,ts⟩ ++ [AJ.box b T (V.AY k s).enc]) K).symm.trans (.of_eq (by simp [FK]))|>.symm.symm)
 have h3:=h2.db
 have h4:St w0 M w ((FK TS s ⟨qs,ws,ts⟩++GS TS k V.AQ ls)++(AJ.box b T (V.AY k s).enc :: K)):=h3.perm (by rw [List.append_assoc];exact JV _ _ _)
 have h5:=(h4.perm (hp.symm.append_right _)).dZ
 exact h5.perm (List.Perm.swap ..)
theorem C8 (h0:0≤k)(h1:k < 4)(h:∀ s l,V.AQ.at k=s→ls.at k=l→(s.Ay.queue.len=l.queue.length∧s.out.wait.len=l.wait.length∧s.told.len=l.told.length)→G P n w0 M cd Q F (AJ.own s.Ay.queue TS 1 (l.queue.flatMap Ac) :: AJ.own s.out.wait TS 1 (l.wait.flatMap Ac) :: AJ.own s.told TS 1 (l.told.flatMap Ac) :: AJ.box b T (Fj V k s) :: AJ.CQ (GS TS k V.AQ ls) :: K)) :
  G P n w0 M cd Q F (AJ.box b T V.enc :: AJ.CQ (BF TS V.AQ ls) :: K):=fun a w hF hS=>
 have hO:=hS.iH h0 h1
 h _ _ rfl rfl ⟨(Kn.own (.head _) w hO).HQ Ct (by decide),(Kn.own (.tail _ (.head _)) w hO).HQ Ct (by decide),(Kn.own (.tail _ (.tail _ (.head _))) w hO).HQ Ct (by decide)⟩ a w hF hO
theorem Cr (h0:0≤k)(h1:k < 4){s:A4}{qs ws ts:List AL}{q w' t:Hd}(hq:s.Ay.queue=q)(hw:s.out.wait=w')(ht:s.told=t)(h:G P n w0 M cd Q F (AJ.box b T (V.AY k s).enc :: AJ.CQ (BF TS (V.AY k s).AQ (ls.put k ⟨qs,ws,ts⟩)) :: K)) :
  G P n w0 M cd Q F (AJ.own q TS 1 (qs.flatMap Ac) :: AJ.own w' TS 1 (ws.flatMap Ac) :: AJ.own t TS 1 (ts.flatMap Ac) :: AJ.box b T (Fj V k s) :: AJ.CQ (GS TS k V.AQ ls) :: K):=fun a w hF hS=>h a w hF (hS.close' h0 h1 hq hw ht)
theorem Lx {x:Exit}(h0:0≤k)(h1:k < 4){s:A4}{qs ws ts:List AL}{q w' t:Hd}(hq:s.Ay.queue=q)(hw:s.out.wait=w')(ht:s.told=t)(h:GQ n w0 M Q x F (AJ.box b T (V.AY k s).enc :: AJ.CQ (BF TS (V.AY k s).AQ (ls.put k ⟨qs,ws,ts⟩)) :: K)) :
  GQ n w0 M Q x F (AJ.own q TS 1 (qs.flatMap Ac) :: AJ.own w' TS 1 (ws.flatMap Ac) :: AJ.own t TS 1 (ts.flatMap Ac) :: AJ.box b T (Fj V k s) :: AJ.CQ (GS TS k V.AQ ls) :: K):=fun a w hF hS=>h a w hF (hS.close' h0 h1 hq hw ht)
end
theorem B3 {V:AE}{ls:Vector Af 4}{ev:List Event}{k:Int}(h0:0≤k)(h1:k < 4){s v:A4}{l l':Af}(hs:V.AQ.at k=s)(hl:ls.at k=l){f:Ao→Ao}(e:B5 v l'=f (B5 s l)):AO (V.AY k v) (ls.put k l') ev=(AO V ls ev).set k (f ((AO V ls ev).at_ k)):=by
 rw [Fq V ls ev h0 h1,B2 V ls ev h0 h1,hs,hl,e]
theorem JW {v:A4}{l:Af}(h:v.out.wait.len=l.wait.length):(B5 v l).PR=Page.A3 v.out:=by
 unfold Ao.PR Page.A3
 rw [h];rfl
end Go.Ing
/- A house: plain laws for the walks. -/
namespace Go.Ing
open Go
theorem Tm {v:A4}{l:Af}{u:AL}(hw:v.out.wait.len=l.wait.length)(h:Page.A3 v.out=false):(B5 v l).line u=B5 v l:=if_pos (by rw [JW hw,h];rfl)
theorem Tn {v:A4}{l:Af}{u:AL}(hw:v.out.wait.len=l.wait.length)(h:Page.A3 v.out=true)(c:v.out.cut=true):(B5 v l).line u=B5 v l:=(if_neg (by rw [JW hw,h];decide)).trans (if_pos c)
theorem Qo {v:A4}{l:Af}{u:AL}(hw:v.out.wait.len=l.wait.length)(h:Page.A3 v.out=true)(c:v.out.cut=false)(n:60≤l.wait.length):(B5 v l).line u=B5 { v with out:=⟨v.out.wait,v.out.shown,v.out.BS,v.out.ring,true⟩ } l:=
 (if_neg (by rw [JW hw,h];decide)).trans ((if_neg (by show ¬ v.out.cut=true;rw [c];decide)).trans (if_pos (decide_eq_true (show(60:Int)≤(l.wait.length:Int) by omega))))
theorem Qp {v:A4}{l:Af}{u:AL}(hw:v.out.wait.len=l.wait.length)(h:Page.A3 v.out=true)(c:v.out.cut=false)(n:l.wait.length < 60)(w:Hd):(B5 v l).line u=B5 { v with out:=⟨w,v.out.shown,v.out.BS,v.out.ring,v.out.cut⟩ } ⟨l.queue,l.wait ++ [u],l.told⟩:=
 (if_neg (by rw [JW hw,h];decide)).trans ((if_neg (by show ¬ v.out.cut=true;rw [c];decide)).trans (if_neg (by rw [decide_eq_true_eq];show ¬ (60:Int)≤(l.wait.length:Int);omega)))
theorem Z4 {v:A4}{l:Af}{u:AL}(h:(!v.out.cut)=true)(t:Hd):(B5 v l).note u=B5 { v with told:=t } ⟨l.queue,l.wait,l.told ++ [u]⟩:=if_pos h
theorem Z3 {v:A4}{l:Af}{u:AL}(h:(!v.out.cut)=false):(B5 v l).note u=B5 v l:=if_neg (by show ¬ (!v.out.cut)=true;rw [h];decide)
theorem AG.F1 (H:AG){k j:Int}(h0:0≤k)(h1:k < 4)(j0:0≤j)(s:Ao):(H.set k s).at_ j=if j=k then s else H.at_ j:=by
 unfold AG.set AG.at_
 by_cases e:j=k
 ·subst e;rw [if_pos rfl];exact Vector.Bk h0 h1
 ·rw [if_neg e];exact Vector.EK h0 h1 j0 e
theorem BQ (s:Ao)(u:AL):(s.tell u).told.length≤s.told.length+1:=by
 have h:(s.line u).told=s.told:=by
  unfold Ao.line;split
  ·rfl
  ·split
   ·rfl
   ·split<;>rfl
 unfold Ao.tell Ao.note
 split
 ·show((s.line u).told ++ [u]).length≤_
  rw [h,List.length_append];exact Nat.le_refl _
 ·rw [h];exact Nat.le_succ _
theorem F3 {V V':AE}{ls ls':Vector Af 4}{ev ev':List Event}{k:Int}{u:AL}(h0:0≤k)(h1:k < 4)(e:AO V' ls' ev'=(AO V ls ev).tell k u){j:Int}(j0:0≤j)(j1:j < 4) :
  (ls'.at j).told.length≤(ls.at j).told.length+1∧(j≠k→(ls'.at j).told=(ls.at j).told):=by
 have h:=congrArg (fun H=>(AG.at_ H j).told) e
 simp only [AG.tell] at h
 rw [B2 _ _ _ j0 j1,AG.F1 _ h0 h1 j0] at h
 have h':(ls'.at j).told=(if j=k then((AO V ls ev).at_ k).tell u else(AO V ls ev).at_ j).told:=h
 by_cases c:j=k
 ·subst c
  rw [if_pos rfl,B2 _ _ _ j0 j1] at h'
  exact⟨by rw [h'];exact BQ _ _,fun hn=>absurd rfl hn⟩
 ·rw [if_neg c,B2 _ _ _ j0 j1] at h'
  exact⟨by rw [h'];exact Nat.le_succ _,fun _=>h'⟩
theorem Fx {V:AE}{ls:Vector Af 4}{ev:List Event}{e:Event}{X:AG}{i:Int}(h0:0≤i)(h1:i < 4)(h:AO V ls ev=AG.CE e X i.toNat):AG.CE e X (i+1).toNat=if (!decide ((V.AQ.at i).state=2))=true then AO V ls ev else if (AD.tell e (V.AQ.at i).AV).2=true then(AO V ls ev).tell i (AD.tell e (V.AQ.at i).AV).1 else AO V ls ev:=by
 obtain⟨m,rfl⟩:=Int.eq_ofNat_of_zero_le h0
 have ha:=B2 V ls ev h0 h1
 rw [show((m:Int)+1).toNat=m+1 by omega,AG.CE]
 rw [show((m:Int)).toNat=m by omega] at h
 rw [← h,ha]
 rfl
theorem O0 {H:AG}{es:List Event}{k:Int}(h0:0≤k)(h1:k < es.length):H.Io (es.take (k+1).toNat)=AG.CE (es.getD k.toNat default) (H.Io (es.take k.toNat)) 4:=by
 obtain⟨m,rfl⟩:=Int.eq_ofNat_of_zero_le h0
 have hm:m < es.length:=by omega
 show H.Io (es.take (m+1))=AG.CE (es.getD m default) (H.Io (es.take m)) 4
 unfold AG.Io
 rw [List.take_add_one,List.getElem?_eq_getElem hm,List.foldl_append,List.getD_eq_getElem?_getD,List.getElem?_eq_getElem hm]
 rfl
def Sy (ls:Vector Af 4)(n:Nat):Prop:=∀ j:Int,0≤j→j < 4→(ls.at j).told.length≤n
theorem TZ {H:AG}{ev es:List Event}(h:H.last=ev):AG.Fi H es=({ H with last:=ev++es }:AG).Io es:=by subst h;rfl
end Go.Ing
/- What is said in a land of short names is short: plain laws. -/
namespace Go.Ing
open Go
namespace AD
structure Mf (w:AD):Prop where
 th:∀ i,(w.AH.at i).name.length≤100
 be:∀ i,(w.AF.at i).name.length≤100
 ro:∀ i,(w.Ad.at i).name.length≤100
theorem Mf.GN {w:AD}(h:w.Mf):w.Co:=⟨fun i=>Nat.le_trans (h.th i) (by decide),fun i=>Nat.le_trans (h.be i) (by decide),fun i=>Nat.le_trans (h.ro i) (by decide)⟩
theorem bE {X:AD}(h:X.Mf){i:Int}{t:A9}(ht:t.name.length≤100):(X.It i t).Mf:=⟨fun j=>by
 rcases Vector.QU X.AH i j t with e | e
 ·show((X.AH.put i t).at j).name.length≤_;rw [e];exact ht
 ·show((X.AH.put i t).at j).name.length≤_;rw [e];exact h.th j,h.be,h.ro⟩
theorem I6 {X:AD}(h:X.Mf){i:Int}{t:BC}(ht:t.name.length≤100):(X.Bc i t).Mf:=⟨h.th,fun j=>by
 rcases Vector.QU X.AF i j t with e | e
 ·show((X.AF.put i t).at j).name.length≤_;rw [e];exact ht
 ·show((X.AF.put i t).at j).name.length≤_;rw [e];exact h.be j,h.ro⟩
theorem bD {X:AD}(h:X.Mf){r d:Int}{v:Bool}:(X.PW r d v).Mf:=⟨h.th,h.be,fun j=>by
 rcases Vector.QU X.Ad r j { X.Ad.at r with shut:=(X.Ad.at r).shut.put d v } with e | e
 ·show((X.Ad.put r _).at j).name.length≤_;rw [e];exact h.ro r
 ·show((X.Ad.put r _).at j).name.length≤_;rw [e];exact h.ro j⟩
end AD
namespace AA
structure CR (T:AA):Prop where
 Fg:T.w.Mf
 out:∀ e∈T.out,AD.Small e
theorem M0 {w:AD}(hw:w.Mf):∀(l:List Int) (s:AL),(CY w s l).length≤s.length+l.length * 102
 | [],s=>by simp [CY]
 | i :: r,s=>by
  have hn:=hw.th i
  unfold CY
  split
  ·have:=M0 hw r (s ++ [32]++(w.AH.at i).name ++ [42])
   simp only [List.length_append,List.length_cons,List.length_nil] at this ⊢
   omega
  ·have:=M0 hw r (s ++ [32]++(w.AH.at i).name)
   simp only [List.length_append,List.length_cons,List.length_nil] at this ⊢
   omega
theorem NJ:(default:BC).name.length≤100:=by decide
section
variable {T:AA}
theorem CR.Al (h:CR T){e:Event}(h1:e.AP.length≤1000000)(h2:e.text.length≤1000000)(h3:e.D8.length≤1000000)(h4:-9223372036854775808≤e.n)(h5:e.n≤9223372036854775807):CR (T.Al e):=by
 refine⟨h.Fg,fun x hx=>?_⟩
 rcases List.mem_append.1 (show x∈T.out ++ [T.w.GK (T.DR e) 6] from hx) with hx | hx
 ·exact h.out x hx
 ·have hx':x=T.w.GK (T.DR e) 6:=by simpa using hx
  subst hx'
  obtain⟨a1,a2,a3,a4,a5,a6,a7,a8,a9⟩:=AD.Mi T.w (T.DR e) 6
  have e2:(T.DR e).n=e.n∧(T.DR e).CT=T.me.name∧(T.DR e).D8.length≤1000000∧(T.DR e).AP=e.AP∧(T.DR e).text=e.text:=by
   unfold DR
   split
   ·exact⟨rfl,rfl,Nat.le_trans (h.Fg.be _) (by decide),rfl,rfl⟩
   ·exact⟨rfl,rfl,h3,rfl,rfl⟩
  obtain⟨b4,b5,b6,b7,b8⟩:=e2
  refine⟨?_,?_,?_,?_,?_,?_⟩
  ·rw [a6,b5];exact Nat.le_trans (h.Fg.be T.b) (by decide)
  ·rw [a7];exact Nat.le_trans b6 (by decide)
  ·rw [a8,b7];exact Nat.le_trans h1 (by decide)
  ·rw [a9,b8];exact Nat.le_trans h2 (by decide)
  ·rw [a5,b4];exact h4
  ·rw [a5,b4];exact h5
theorem CR.tell (h:CR T){s:AL}(hs:s.length≤1000000):CR (T.tell s):=h.Al (Nat.zero_le _) hs (Nat.zero_le _) (show(-9223372036854775808:Int)≤0 by decide) (show(0:Int)≤9223372036854775807 by decide)
theorem CR.kind (h:CR T)(k:Int):CR (T.kind k):=h.Al (Nat.zero_le _) (Nat.zero_le _) (Nat.zero_le _) (show(-9223372036854775808:Int)≤0 by decide) (show(0:Int)≤9223372036854775807 by decide)
theorem CR.AP (h:CR T)(k i:Int):CR (T.AP k i):=h.Al (Nat.le_trans (h.Fg.th i) (by decide)) (Nat.zero_le _) (Nat.zero_le _) (show(-9223372036854775808:Int)≤0 by decide) (show(0:Int)≤9223372036854775807 by decide)
theorem CR.land (h:CR T){w':AD}(ht:w'.Mf):CR { T with w:=w' }:=⟨ht,h.out⟩
theorem CR.Ci (h:CR T){i:Int}{t:A9}(ht:t.name=(T.w.AH.at i).name):CR (T.Ci i t):=h.land (w':=T.w.It i t) (AD.bE h.Fg (by rw [ht];exact h.Fg.th i))
theorem CR.place (h:CR T)(i BZ at_:Int):CR (T.place i BZ at_):=h.Ci rfl
theorem CR.BV (h:CR T)(k f:Int):CR (T.BV k f):=h.land (w':=T.w.Bc k { T.w.AF.at k with A1:=f }) (AD.I6 h.Fg (h.Fg.be k))
theorem CR.Cy (h:CR T)(k:Int){x:BC}(hx:x.name.length≤100):CR (T.Cy k x):=h.land (w':=T.w.Bc k x) (AD.I6 h.Fg hx)
theorem CR.By (h:CR T)(r d:Int)(v:Bool):CR (T.By r d v):=h.land (w':=T.w.PW r d v) (AD.bD h.Fg)
theorem CR.HT (h:CR T)(r:Int):CR (T.HT r):=h.land (w':=T.w.Bc T.b { T.me with room:=r,A1:=0 }) (AD.I6 h.Fg (h.Fg.be T.b))
theorem CR.list (h:CR T){s:AL}(hs:s.length≤100){l:List Int}(hl:l.length≤9):CR (T.list s l):=by
 refine h.tell ?_
 have:=M0 h.Fg l s
 unfold Qs
 split<;>simp only [List.length_append,List.length_cons,List.length_nil]<;>omega
theorem CR.look (h:CR T):CR T.look:=by
 have hk:∀ {T':AA},CR T'→∀ k:Nat,CR (T'.D5 k):=fun {T'} h' k=>by
  induction k with
  | zero=>exact h'
  | succ k ih=>
   unfold D5
   split
   ·exact ih.tell (by
     have:=ih.Fg.be k
     have e:(T'.D5 k).w=T'.w:=(HA T' k).1
     rw [e] at this
     simp only [List.length_append,List.length_cons,List.length_nil];omega)
   ·exact ih
 unfold AA.look
 split
 ·exact h.tell (by show([73,116,32,105,115,32,100,97,114,107,46]:AL).length≤_;decide)
 ·refine hk ?_ 6
  have ha:CR T.D6:=(h.tell (by
   have:=h.Fg.ro T.me.room
   simp only [List.length_append,List.length_cons,List.length_nil];omega)).tell (by
   have:=F5 (T.w.Ad.at T.me.room) 6
   omega)
  unfold BU
  split
  ·exact ha.list (by decide) (AD.Fw ..)
  ·exact ha
theorem CR.walk (h:CR T)(d:Int):CR (T.walk d):=by
 unfold AA.walk
 split
 ·exact h.tell (by decide)
 ·split
  ·exact h.tell (by decide)
  ·have i1:CR (T.Al { Dn 1 with dir:=d }):=h.Al (Nat.zero_le _) (Nat.zero_le _) (Nat.zero_le _) (show(-9223372036854775808:Int)≤0 by decide) (show(0:Int)≤9223372036854775807 by decide)
   exact((i1.HT _).Al (e:={ Dn 2 with dir:=AD.opposite d }) (Nat.zero_le _) (Nat.zero_le _) (Nat.zero_le _) (show(-9223372036854775808:Int)≤0 by decide) (show(0:Int)≤9223372036854775807 by decide)).look
theorem CR.box (h:CR T)(u:AL):CR (T.box u).1:=by
 unfold AA.box
 split
 ·exact h.tell (by decide)
 ·split
  ·exact h.tell (by decide)
  ·exact h
theorem CR.AS (h:CR T)(u:AL):CR (T.AS u).1:=by
 unfold AA.AS
 split
 ·split
  ·exact h
  ·exact h.tell (by decide)
 ·exact h.tell (by decide)
theorem CR.CL (l:List Int):∀ {T':AA},CR T'→CR (T'.CL l):=by
 induction l with
 | nil=>exact fun h=>h
 | cons i r ih=>exact fun {T'} h=>ih ((h.place i 1 T'.b).AP 3 i)
theorem CR.Ot (h:CR T)(l:List Int)(o:Order):CR (T.Ot l o):=by
 unfold AA.Ot
 refine CR.CL _ ?_
 split
 ·exact h.tell (by decide)
 ·exact h
theorem CR.get (h:CR T)(o:Order):CR (T.get o):=by
 unfold AA.get
 split
 ·split
  ·exact h.box _
  ·exact(h.box _).Ot _ _
 ·exact h.Ot _ _
theorem CR.Bh (h:CR T)(v to i:Int):CR (T.Bh v to i):=by
 unfold AA.Bh
 split
 ·exact h.tell (by decide)
 ·split
  ·exact(h.place _ _ _).AP _ _
  ·split
   ·exact(h.place i 1 to).Al (e:={ Dn 6 with other:=to,AP:=(T.w.AH.at i).name }) (Nat.le_trans (h.Fg.th i) (by decide)) (Nat.zero_le _) (Nat.zero_le _) (show(-9223372036854775808:Int)≤0 by decide) (show(0:Int)≤9223372036854775807 by decide)
   ·split
    ·exact h.tell (by decide)
    ·exact(h.place i 2 to).Al (e:={ Dn 5 with AP:=(T.w.AH.at i).name,text:=(T.w.AH.at to).name }) (Nat.le_trans (h.Fg.th i) (by decide)) (Nat.le_trans (h.Fg.th to) (by decide)) (Nat.zero_le _) (show(-9223372036854775808:Int)≤0 by decide) (show(0:Int)≤9223372036854775807 by decide)
theorem CR.FV {v to:Int}(l:List Int):∀ {T':AA},CR T'→CR (T'.FV v to l):=by
 induction l with
 | nil=>exact fun h=>h
 | cons i r ih=>exact fun h=>ih (h.Bh v to i)
theorem CR.EM (h:CR T)(o:Order):CR (T.EM o):=by
 have ht:CR (T.B0 o).1:=by
  unfold B0
  split
  ·exact h.box _
  ·split
   ·exact h.AS _
   ·exact h
 unfold AA.EM
 split
 ·exact ht
 ·unfold Xh
  refine CR.FV _ ?_
  split
  ·exact ht.tell (by decide)
  ·exact ht
theorem CR.FR (h:CR T)(o:Order):CR (T.FR o):=by
 unfold AA.FR
 generalize (if (!decide (o.nth=1) || o.Am)=true then [] else o.name)=nm
 have hs:=h.AS nm
 split
 ·exact hs
 ·refine CR.tell ?_ (by decide)
  split
  ·exact(hs.BV _ _).BV _ _
  ·exact hs.BV _ _
theorem CR.before (h:CR T)(first:Bool)(i:Int)(v:Bool)(k:Int):CR (T.before first i v k):=by
 unfold AA.before
 split
 ·exact(CR.Ci h (i:=i) (t:={ T.w.AH.at i with on:=v }) rfl).AP _ _
 ·exact(h.AP k i).Ci rfl
theorem CR.Hk (h:CR T)(d:Int)(on:Bool)(k:Int):CR (T.Hk d on k):=by
 unfold AA.Hk
 split
 ·exact h.tell (by decide)
 ·split
  ·exact h.tell (by decide)
  ·refine CR.Al ?_ (by show([100,111,111,114]:AL).length≤1000000;decide) (Nat.zero_le _) (Nat.zero_le _) (show(-9223372036854775808:Int)≤0 by decide) (show(0:Int)≤9223372036854775807 by decide)
   split
   ·exact(h.By _ _ _).By _ _ _
   ·exact h.By _ _ _
theorem CR.set (h:CR T)(o:Order):CR (T.set o):=by
 unfold AA.set
 split
 ·exact h.Hk _ _ _
 ·split
  ·exact h.tell (by decide)
  ·split
   ·exact h.tell (by decide)
   ·split
    ·exact h.before _ _ _ _
    ·exact h.before _ _ _ _
theorem CR.BM (l:List Int):∀ {T':AA},CR T'→CR (T'.BM l):=by
 induction l with
 | nil=>exact fun h=>h
 | cons i r ih=>exact fun {T'} h=>ih (CR.Ci h (i:=i) rfl)
theorem CR.CS (h:CR T):∀ k:Nat,CR (T.CS k)
 | 0=>h
 | k+1=>by
  unfold AA.CS
  split
  ·exact(CR.CS h k).BV _ _
  ·exact CR.CS h k
theorem CR.EG (h:CR T):CR T.EG:=by
 rw [JO]
 exact((CR.BM _ h).CS 6).BV _ _
theorem CR.J6 (h:CR T):CR T.J6:=by
 have hf:=CR.EG (h.kind 18)
 unfold AA.J6
 generalize (T.kind 18).EG=F at *
 exact hf.Cy T.b (x:=default) NJ
theorem CR.act (h:CR T){o:Order}(hx:o.text.length≤1000000):CR (T.act o):=by
 unfold AA.act
 split
 ·exact h.walk _
 ·split
  ·exact h.look
  ·split
   ·exact h.list (by decide) (AD.Fw ..)
   ·split
    ·exact h.Al (e:={ Dn 7 with text:=o.text }) (Nat.zero_le _) hx (Nat.zero_le _) (show(-9223372036854775808:Int)≤0 by decide) (show(0:Int)≤9223372036854775807 by decide)
    ·split
     ·exact h.J6
     ·split
      ·exact h.FR _
      ·split
       ·exact h.get _
       ·split
        ·exact h.EM _
        ·exact h.set _
end
theorem Kg {X:AD}{b:Int}{o:Order}(hw:X.Mf)(hx:o.text.length≤1000000):(Dk X b o).1.Mf∧∀ e∈(Dk X b o).2.1,AD.Small e:=by
 unfold Dk
 split
 ·exact⟨hw,fun e h=>by cases h⟩
 ·split
  ·exact⟨hw,fun e h=>by cases h⟩
  ·split
   ·exact⟨hw,fun e h=>by cases h⟩
   ·have:=CR.act (T:=⟨X,b,[]⟩) ⟨hw,fun e h=>by cases h⟩ hx
    exact⟨this.Fg,this.out⟩
theorem JN {X:AD}{s:AL}(hw:X.Mf):(An X s).1.Mf∧∀ e∈(An X s).2.2.1,AD.Small e:=by
 unfold An
 split
 ·exact⟨hw,fun e h=>by cases h⟩
 ·split
  ·exact⟨hw,fun e h=>by cases h⟩
  ·rename_i h1
   split
   ·exact⟨hw,fun e h=>by cases h⟩
   ·split
    ·exact⟨hw,fun e h=>by cases h⟩
    ·have hn:s.length≤8:=by
      have h2:GB s=true:=by simpa using h1
      simp only [GB,Bool.and_eq_true,decide_eq_true_eq] at h2
      omega
     have h0:CR ⟨X.Bc (Cg X 6) (KH s),Cg X 6,[]⟩:=⟨AD.I6 hw (by show s.length≤100;omega),fun e h=>by cases h⟩
     have:=(h0.kind 17).look
     exact⟨this.Fg,this.out⟩
theorem Vz {w:AD}{b A1 n:Int}(hw:w.Mf)(h0:1≤n)(h1:n≤3):CR (Aq w b A1 n):=by
 have hs:CR ⟨w,b,[]⟩:=⟨hw,fun e h=>by cases h⟩
 unfold Aq
 exact(hs.Al (e:={ Dn 14 with other:=A1,n:=n }) (Nat.zero_le _) (Nat.zero_le _) (Nat.zero_le _) (show -9223372036854775808≤n by omega) (show n≤9223372036854775807 by omega)).Cy _ (hw.be A1)
theorem CR.jQ {T:AA}(h:CR T)(b:Int):CR (T.Cy b { T.w.AF.at b with room:=0,AW:=10 }):=h.Cy b (h.Fg.be b)
theorem ZQ {w:AD}{b:Int}(hw:w.Mf):CR (FO w b):=by
 have h0:CR (Ec w b):=⟨AD.I6 hw (hw.be b),fun e h=>by cases h⟩
 have h1:CR (GR w b):=by unfold GR;exact(h0.kind 15).EG
 unfold FO
 split
 ·generalize GR w b=F at *
  exact h1.Cy b (x:=default) NJ
 ·have h2:CR (JM w b):=by unfold JM;exact h1.jQ b
  exact(h2.kind 17).look
theorem Vp {draw b:Int}(hb:0≤b){s:AD × List Event}(h:s.1.Mf∧∀ e∈s.2,AD.Small e):(DU draw b s).1.Mf∧∀ e∈(DU draw b s).2,AD.Small e:=by
 have hh:=MC (draw:=draw) hb
 unfold DU
 split
 ·exact h
 ·split
  ·exact⟨AD.I6 h.1 (h.1.be b),h.2⟩
  ·have hk:=Vz (b:=b) (A1:=(s.1.AF.at b).A1 - 1) h.1 hh.1 hh.2
   split
   ·have hd:=ZQ (b:=(s.1.AF.at b).A1 - 1) hk.Fg
    refine⟨hd.Fg,fun e he=>?_⟩
    rcases List.mem_append.1 he with he | he
    ·rcases List.mem_append.1 he with he | he
     ·exact h.2 e he
     ·exact hk.out e he
    ·exact hd.out e he
   ·refine⟨hk.Fg,fun e he=>?_⟩
    rcases List.mem_append.1 he with he | he
    ·exact h.2 e he
    ·exact hk.out e he
theorem Pa {X:AD}{draw:Int}(hw:X.Mf):∀ k:Nat,(DF X draw k).1.Mf∧∀ e∈(DF X draw k).2,AD.Small e
 | 0=>⟨hw,fun e h=>by cases h⟩
 | k+1=>Vp (by omega) (Pa hw k)
theorem Ll {X:AD}{draw:Int}(hw:X.Mf):(BW X draw).1.Mf∧∀ e∈(BW X draw).2.1,AD.Small e:=by
 unfold BW
 split
 ·exact⟨hw,fun e h=>by cases h⟩
 ·have h:=Pa (draw:=draw) hw 6
  generalize DF X draw 6=r at *
  exact h
end AA
end Go.Ing
/- What a house keeps: plain laws. -/
namespace Go.Ing
open Go
namespace AG
def eR (q:List AL):Prop:=q.length≤6∧∀ s∈q,s.length≤60
structure Fit (H:AG)(n m:Nat):Prop where
 Fg:H.w.Mf
 told:∀ k:Int,0≤k→k < 4→(H.at_ k).told.length≤n
 last:H.last.length≤m
 AV:∀ k:Int,0≤k→k < 4→(H.at_ k).state=2→0≤(H.at_ k).AV∧(H.at_ k).AV < 6
 wait:∀ k:Int,0≤k→k < 4→∀ s∈(H.at_ k).wait,s.length≤70368744000000
 queue:∀ k:Int,0≤k→k < 4→eR (H.at_ k).queue
variable {H:AG} {n m:Nat}
theorem Fit.mono (h:H.Fit n m){n' m':Nat}(hn:n≤n')(hm:m≤m'):H.Fit n' m':=⟨h.Fg,fun k a b=>Nat.le_trans (h.told k a b) hn,Nat.le_trans h.last hm,h.AV,h.wait,h.queue⟩
theorem Fit.set (h:H.Fit n m){k:Int}(h0:0≤k)(h1:k < 4){s:Ao}(ht:s.told.length≤n)(hb:s.state=2→0≤s.AV∧s.AV < 6)(hw:∀ u∈s.wait,u.length≤70368744000000)(hq:eR s.queue):(H.set k s).Fit n m:=by
 have e:∀ j:Int,0≤j→(H.set k s).at_ j=if j=k then s else H.at_ j:=fun j j0=>AG.F1 H h0 h1 j0 s
 refine⟨h.Fg,fun j a b=>?_,h.last,fun j a b=>?_,fun j a b=>?_,fun j a b=>?_⟩<;>rw [e j a]<;>split
 ·exact ht
 ·exact h.told j a b
 ·exact hb
 ·exact h.AV j a b
 ·exact hw
 ·exact h.wait j a b
 ·exact hq
 ·exact h.queue j a b
theorem Fit.land (h:H.Fit n m){w:AD}(hw:w.Mf):({ H with w:=w }:AG).Fit n m:=⟨hw,h.told,h.last,h.AV,h.wait,h.queue⟩
theorem Qq (s:Ao)(u:AL):(s.line u).wait=s.wait∨(s.line u).wait=s.wait ++ [u]:=by
 unfold Ao.line
 split
 ·exact .inl rfl
 ·split
  ·exact .inl rfl
  ·split
   ·exact .inl rfl
   ·exact .inr rfl
theorem Xj (s:Ao)(u:AL):(s.line u).state=s.state∧(s.line u).AV=s.AV∧(s.line u).queue=s.queue∧(s.line u).told=s.told:=by
 unfold Ao.line
 split
 ·exact⟨rfl,rfl,rfl,rfl⟩
 ·split
  ·exact⟨rfl,rfl,rfl,rfl⟩
  ·split<;>exact⟨rfl,rfl,rfl,rfl⟩
theorem Kw (s:Ao)(u:AL):(s.tell u).state=s.state∧(s.tell u).AV=s.AV∧(s.tell u).queue=s.queue∧(s.tell u).wait=(s.line u).wait:=by
 obtain⟨a,b,c,_⟩:=Xj s u
 unfold Ao.tell Ao.note
 split
 ·exact⟨a,b,c,rfl⟩
 ·exact⟨a,b,c,rfl⟩
theorem Fit.tell (h:H.Fit n m){k:Int}(h0:0≤k)(h1:k < 4){u:AL}(hu:u.length≤70368744000000):(H.tell k u).Fit (n+1) m:=by
 obtain⟨a,b,c,d⟩:=Kw (H.at_ k) u
 refine(h.mono (Nat.le_succ n) (Nat.le_refl m)).set h0 h1 (Nat.le_trans (BQ _ _) (Nat.succ_le_succ (h.told k h0 h1))) (by rw [a,b];exact h.AV k h0 h1) (fun s hs=>?_) (by rw [c];exact h.queue k h0 h1)
 rw [d] at hs
 rcases Qq (H.at_ k) u with e | e<;>rw [e] at hs
 ·exact h.wait k h0 h1 s hs
 ·rcases List.mem_append.1 hs with hs | hs
  ·exact h.wait k h0 h1 s hs
  ·rw [List.mem_singleton.1 hs];exact hu
theorem dK {e:Event}(he:AD.Small e)(b:Int):(AD.tell e b).1.length≤70368744000000:=by
 unfold AD.tell
 split
 ·exact Nat.zero_le _
 ·split
  ·exact Nat.zero_le _
  ·refine Nat.le_trans (AD.Pp he (AD.RJ he b) (AD.Lu he b) _ _) ?_
   have:=AD.Ph e b
   omega
theorem WL {k j:Int}(h0:0≤k)(h1:k < 4)(j0:0≤j)(hn:j≠k)(u:AL):(H.tell k u).at_ j=H.at_ j:=by
 unfold AG.tell
 rw [AG.F1 H h0 h1 j0,if_neg hn]
theorem LW (e:Event)(H:AG):∀ k:Nat,k≤4→∀ j:Int,(k:Int)≤j→j < 4→(CE e H k).at_ j=H.at_ j
 | 0,_,_,_,_=>rfl
 | k+1,hk,j,h0,h1=>by
  have ih:=LW e H k (by omega) j (by omega) h1
  unfold CE
  split
  ·exact ih
  ·split
   ·rw [WL (by omega) (by omega) (by omega) (by omega)];exact ih
   ·exact ih
theorem Oy {e:Event}(he:AD.Small e)(h:H.Fit n m):∀ k:Nat,k≤4→(CE e H k).Fit (n+1) m
 | 0,_=>h.mono (Nat.le_succ n) (Nat.le_refl m)
 | k+1,hk=>by
  have ih:=Oy he h k (by omega)
  unfold CE
  split
  ·exact ih
  ·split
   ·have hr:=LW e H k (by omega) k (Int.le_refl _) (by omega)
    obtain⟨a,b,c,d⟩:=Kw ((CE e H k).at_ k) (AD.tell e ((CE e H k).at_ k).AV).1
    unfold AG.tell
    refine ih.set (by omega) (by omega) ?_ (by rw [a,b];exact ih.AV k (by omega) (by omega)) (fun s hs=>?_) (by rw [c];exact ih.queue k (by omega) (by omega))
    ·refine Nat.le_trans (BQ _ _) ?_
     rw [hr];exact Nat.succ_le_succ (h.told k (by omega) (by omega))
    ·rw [d] at hs
     rcases Qq ((CE e H k).at_ k) (AD.tell e ((CE e H k).at_ k).AV).1 with q | q<;>rw [q] at hs
     ·exact ih.wait k (by omega) (by omega) s hs
     ·rcases List.mem_append.1 hs with hs | hs
      ·exact ih.wait k (by omega) (by omega) s hs
      ·rw [List.mem_singleton.1 hs];exact dK he _
   ·exact ih
theorem Qj:∀(es:List Event) {H:AG} {n:Nat},(∀ e∈es,AD.Small e)→H.Fit n m→(H.Io es).Fit (n+es.length) m
 | [],_,_,_,h=>h
 | e :: r,H,n,he,h=>by
  have h1:=Oy (he e (List.mem_cons_self ..)) h 4 (Nat.le_refl 4)
  have h2:=Qj r (fun x hx=>he x (List.mem_cons_of_mem _ hx)) h1
  rw [List.length_cons,show n+(r.length+1)=n+1+r.length by omega]
  exact h2
theorem Fit.Fi (h:H.Fit n m){es:List Event}(he:∀ e∈es,AD.Small e):(H.Fi es).Fit (n+es.length) (m+es.length):=by
 refine Qj (m:=m+es.length) es he ?_
 exact⟨h.Fg,h.told,by show(H.last++es).length≤_;rw [List.length_append];exact Nat.add_le_add_right h.last _,h.AV,h.wait,h.queue⟩
theorem Fit.free (h:H.Fit n m){k:Int}(h0:0≤k)(h1:k < 4):(H.set k default).Fit n m:=
 h.set h0 h1 (Nat.zero_le _) (fun e=>absurd (show(0:Int)=2 from e) (by decide)) (fun u hu=>by cases hu) ⟨Nat.zero_le _,fun u hu=>by cases hu⟩
theorem M5:DL.text.length≤1000000:=Nat.zero_le _
theorem Fit.leave (h:H.Fit n m){k:Int}(h0:0≤k)(h1:k < 4):(H.leave k).Fit (n+11) (m+11):=by
 unfold AG.leave
 refine Fit.free ?_ h0 h1
 split
 ·have hd:=AA.Kg (b:=(H.at_ k).AV) (o:=DL) h.Fg M5
  have hl:=AA.Ke H.w (H.at_ k).AV DL
  exact(((h.land hd.1).free h0 h1).Fi hd.2).mono (Nat.add_le_add_left hl n) (Nat.add_le_add_left hl m)
 ·exact h.mono (Nat.le_add_right ..) (Nat.le_add_right ..)
theorem TM (ht:Int):∀(l:List AL) (x:Page.Pg),∀ s∈(Page.BJ ht l x).2,s∈l
 | [],_,s,h=>h
 | q :: r,x,s,h=>by
  unfold Page.BJ at h
  split at h
  ·exact h
  ·split at h
   ·exact h
   ·exact List.mem_cons_of_mem _ (TM ht r _ s h)
theorem Q3 (s:Ao):s.BJ.told=s.told∧s.BJ.state=s.state∧s.BJ.AV=s.AV∧s.BJ.queue=s.queue∧∀ u∈s.BJ.wait,u∈s.wait:=by
 unfold Ao.BJ
 split
 ·exact⟨rfl,rfl,rfl,rfl,fun _ h=>h⟩
 ·exact⟨rfl,rfl,rfl,rfl,TM _ _ _⟩
theorem Fit.WW (h:H.Fit n m){k:Int}(h0:0≤k)(h1:k < 4):(H.set k (H.at_ k).BJ).Fit n m:=by
 obtain⟨a,b,c,d,e⟩:=Q3 (H.at_ k)
 exact h.set h0 h1 (by rw [a];exact h.told k h0 h1) (by rw [b,c];exact h.AV k h0 h1) (fun u hu=>h.wait k h0 h1 u (e u hu)) (by rw [d];exact h.queue k h0 h1)
theorem Kh (h:H.Fit n m):∀ k:Nat,k≤4→(H.CI k).1.Fit (n+11 * k) (m+11 * k)
 | 0,_=>h
 | k+1,hk=>by
  have ih:=Kh h k (by omega)
  unfold CI
  split
  ·exact ih.mono (by omega) (by omega)
  ·split
   ·exact((ih.WW (by omega) (by omega)).leave (by omega) (by omega)).mono (by omega) (by omega)
   ·exact(ih.WW (by omega) (by omega)).mono (by omega) (by omega)
theorem Qh:∀(r:Nat) {H:AG} {n m:Nat},H.Fit n m→(H.HN r).Fit (n+44 * r) (m+44 * r)
 | 0,_,_,_,h=>h
 | r+1,H,n,m,h=>by
  have h1:=Kh h 4 (Nat.le_refl 4)
  unfold HN
  split
  ·exact h1.mono (by omega) (by omega)
  ·exact(Qh r h1).mono (by omega) (by omega)
theorem Fit.BJ (h:H.Fit n m):H.BJ.Fit (n+220) (m+220):=Qh 5 h
end AG
end Go.Ing
/- A house: plain laws for the walks, on. -/
namespace Go.Ing
open Go
theorem FD {V:AE}{ls:Vector Af 4}{ev:List Event}{k:Int}(h0:0≤k)(h1:k < 4):AO (V.AY k default) (ls.put k ⟨[],[],[]⟩) ev=(AO V ls ev).set k default:=Fq V ls ev h0 h1 _ _
theorem JJ {V:AE}{ls:Vector Af 4}{ev:List Event}{w:AD}:AO { V with w:=w } ls ev={ AO V ls ev with w:=w }:=rfl
theorem N1 {V V4:AE}{ls ls4:Vector Af 4}{ev ev4:List Event}{k:Int}(h0:0≤k)(h1:k < 4)(c:(decide ((V.AQ.at k).state=2) && (V.w.AF.at (V.AQ.at k).AV).here)=true)
  (e:AO V4 ls4 ev4=(AO (AE.AY { V with w:=(AA.Dk V.w (V.AQ.at k).AV AG.DL).1 } k default) (ls.put k ⟨[],[],[]⟩) ev).Fi (AA.Dk V.w (V.AQ.at k).AV AG.DL).2.1) :
  AO (V4.AY k default) (ls4.put k ⟨[],[],[]⟩) ev4=(AO V ls ev).leave k:=by
 rw [FD h0 h1,e,FD h0 h1,JJ]
 have ha:=B2 V ls ev h0 h1
 unfold AG.leave AG.Vb
 rw [ha]
 rw [if_pos (show(decide ((B5 (V.AQ.at k) (ls.at k)).state=2) && ((AO V ls ev).w.AF.at (B5 (V.AQ.at k) (ls.at k)).AV).here)=true from c)]
 rfl
theorem R9 {V:AE}{ls:Vector Af 4}{ev:List Event}{k:Int}(h0:0≤k)(h1:k < 4)(c:(decide ((V.AQ.at k).state=2) && (V.w.AF.at (V.AQ.at k).AV).here)=false) :
  AO (V.AY k default) (ls.put k ⟨[],[],[]⟩) ev=(AO V ls ev).leave k:=by
 rw [FD h0 h1]
 have ha:=B2 V ls ev h0 h1
 unfold AG.leave
 rw [ha]
 rw [if_neg (show ¬ (decide ((B5 (V.AQ.at k) (ls.at k)).state=2) && ((AO V ls ev).w.AF.at (B5 (V.AQ.at k) (ls.at k)).AV).here)=true by rw [show(decide ((B5 (V.AQ.at k) (ls.at k)).state=2) && ((AO V ls ev).w.AF.at (B5 (V.AQ.at k) (ls.at k)).AV).here)=false from c];decide)]
theorem Cx {V:AE}{ls:Vector Af 4}{ev:List Event}{n m:Nat}(h:(AO V ls ev).Fit n m):Sy ls n:=fun j j0 j1=>by
 have:=h.told j j0 j1
 rw [B2 V ls ev j0 j1] at this
 exact this
theorem W7 {V:AE}{ls:Vector Af 4}{ev:List Event}{n m:Nat}(h:(AO V ls ev).Fit n m){k:Int}(h0:0≤k)(h1:k < 4):(V.AQ.at k).state≠2∨(0≤(V.AQ.at k).AV∧(V.AQ.at k).AV < 6):=by
 have:=h.AV k h0 h1
 rw [B2 V ls ev h0 h1] at this
 by_cases c:(V.AQ.at k).state=2
 ·exact .inr (this c)
 ·exact .inl c
theorem St.or {w0 w:World}{M:List Nat}{L:List AJ}{T TS:Nat}{h f g:Hd}{xs qs zs:List AL}(ho:fP T h xs TS f qs TS g zs)(hS:St w0 M w (AJ.own g TS 1 (zs.flatMap Ac) :: AJ.own f TS 1 (qs.flatMap Ac) :: L)):St w0 M w (AJ.own h TS 1 (xs.flatMap Ac) :: L):=by
 rcases ho with ⟨_,rfl,rfl,_,_⟩ | ⟨_,rfl,rfl⟩
 ·exact hS.sub (List.sublist_cons_self ..)
 ·exact hS.sub (List.Sublist.cons_cons _ (List.sublist_cons_self ..))
theorem gD {n:Nat}{w0:World}{M:List Nat}{Q:Exit→Go.Act→World→Prop}{F:List (Nat × Value)}{L:List AJ}{x:Exit}{T TS:Nat}{h f g:Hd}{xs qs zs:List AL}(ho:fP T h xs TS f qs TS g zs)(k:GQ n w0 M Q x F (AJ.own h TS 1 (xs.flatMap Ac) :: L)):GQ n w0 M Q x F (AJ.own g TS 1 (zs.flatMap Ac) :: AJ.own f TS 1 (qs.flatMap Ac) :: L):=fun a w hF hS=>k a w hF (St.or ho hS)
theorem Ol {v:A4}{l:Af}(hw:v.out.wait.len=l.wait.length)(h:(!Page.A3 v.out || decide (v.DZ.Bw < 0) || decide (200 < v.DZ.Bw))=true):B5 v l=(B5 v l).BJ:=
 (if_pos (show(!(B5 v l).PR || decide (v.DZ.Bw < 0) || decide (200 < v.DZ.Bw))=true by rw [JW hw];exact h)).symm
theorem WX {v:A4}{l:Af}(hw:v.out.wait.len=l.wait.length)(h:(!Page.A3 v.out || decide (v.DZ.Bw < 0) || decide (200 < v.DZ.Bw))=false)(w:Hd) :
  B5 { v with out:=⟨w,(Page.BJ v.DZ.Bw l.wait (Page.of v.out)).1.shown,(Page.BJ v.DZ.Bw l.wait (Page.of v.out)).1.BS,(Page.BJ v.DZ.Bw l.wait (Page.of v.out)).1.ring,(Page.BJ v.DZ.Bw l.wait (Page.of v.out)).1.cut⟩ } ⟨l.queue,(Page.BJ v.DZ.Bw l.wait (Page.of v.out)).2,l.told⟩=(B5 v l).BJ:=
 ((if_neg (show ¬ (!(B5 v l).PR || decide (v.DZ.Bw < 0) || decide (200 < v.DZ.Bw))=true by rw [JW hw,h];decide)).trans rfl).symm
theorem Fv {V:AE}{ls:Vector Af 4}{ev:List Event}{c:Bool}{H:AG}{i:Int}(h0:0≤i)(h1:i < 4)(h:(AO V ls ev,c)=H.CI i.toNat) :
  H.CI (i+1).toNat=if decide ((V.AQ.at i).state=0)=true then(AO V ls ev,c) else if (((AO V ls ev).at_ i).BJ).pg.cut=true then(((AO V ls ev).set i ((AO V ls ev).at_ i).BJ).leave i,true) else((AO V ls ev).set i ((AO V ls ev).at_ i).BJ,c):=by
 obtain⟨m,rfl⟩:=Int.eq_ofNat_of_zero_le h0
 have ha:=B2 V ls ev h0 h1
 rw [show((m:Int)+1).toNat=m+1 by omega,AG.CI]
 rw [show((m:Int)).toNat=m by omega] at h
 rw [← h]
 rw [show decide (((AO V ls ev).at_ (m:Int)).state=0)=decide ((V.AQ.at (m:Int)).state=0) by rw [ha];rfl]
theorem N8 {V V':AE}{ls ls':Vector Af 4}{ev ev':List Event}{i:Int}(h0:0≤i)(h1:i < 4){s:Ao}(e:AO V' ls' ev'=(AO V ls ev).set i s):(V'.AQ.at i).out.cut=s.pg.cut:=by
 have h:=congrArg (fun H=>(AG.at_ H i).pg.cut) e
 rw [B2 V' ls' ev' h0 h1,AG.F1 _ h0 h1 h0,if_pos rfl] at h
 exact h
theorem Oj {X:AG}{k:Int}(h0:0≤k)(h1:k < 5):X.HN (5 - k).toNat=if (!(X.CI 4).2)=true then(X.CI 4).1 else(X.CI 4).1.HN (5 - (k+1)).toNat:=by
 rw [show(5 - k).toNat=(5 - (k+1)).toNat+1 by omega,AG.HN]
theorem Mp {H:AG}{n m:Nat}(h:H.Fit n m){V:AE}{ls:Vector Af 4}{ev:List Event}{c:Bool}{i:Int}(h0:0≤i)(h1:i≤4)(e:(AO V ls ev,c)=H.CI i.toNat):(AO V ls ev).Fit (n+44) (m+44):=by
 have:=AG.Kh h i.toNat (by omega)
 rw [← e] at this
 exact this.mono (by omega) (by omega)
theorem Sd {V:AE}{ls:Vector Af 4}{ev:List Event}{n m:Nat}(h:(AO V ls ev).Fit n m){k:Int}(h0:0≤k)(h1:k < 4):∀ s∈(ls.at k).wait,s.length≤70368744000000:=by
 have:=h.wait k h0 h1
 rw [B2 V ls ev h0 h1] at this
 exact this
end Go.Ing
/- A house: who comes, and what is typed: plain laws for the walks. -/
namespace Go.Ing
open Go
namespace Words
def OS (N:Nat)(o:Order):Prop:=o.name.length≤N∧o.second.length≤N∧o.text.length≤N
theorem FF (N:Nat):OS N default:=⟨Nat.zero_le _,Nat.zero_le _,Nat.zero_le _⟩
theorem ZO (u p:AL):(GP u p).1.length≤u.length:=by
 unfold GP
 split
 ·exact Nat.le_refl _
 ·show(List.drop _ u).length≤_
  rw [List.length_drop];omega
theorem Z5 (u:AL):(Br u).2.1.length≤u.length:=by
 unfold Br
 split
 ·exact Nat.zero_le _
 ·split
  ·exact ZO u _
  ·split
   ·split
    ·exact Nat.zero_le _
    ·exact Nat.le_refl _
   ·unfold K0
    have:=(Ny 46 u).2
    split
    ·split
     ·exact Nat.zero_le _
     ·exact this
    ·exact Nat.zero_le _
theorem ab {N:Nat}{o:Order}{j:AL × Bool}{W:List AL}{m:Nat}(h:OS N o)(hw:(W.getD 0 []).length≤N):OS N (KJ o j W m).1:=by
 unfold KJ
 split
 ·exact h
 ·split
  ·exact FF N
  ·exact⟨h.1,hw,h.2.2⟩
theorem fF {N:Nat}{o:Order}{j:AL × Bool}{W:List AL}{m:Nat}(h:OS N o)(hw:∀ i,(W.getD i []).length≤N):OS N (Lj o j W m).1:=by
 unfold Lj
 split
 ·split
  ·exact FF N
  ·refine ab h ?_
   have:=hw 1
   rw [List.getD_eq_getElem?_getD,List.getElem?_drop,← List.getD_eq_getElem?_getD]
   exact this
 ·exact ab h (hw 0)
theorem ae {N:Nat}{v:Int}{W:List AL}{m:Nat}(hw:∀ i,(W.getD i []).length≤N):OS N (KK v W m).1:=by
 unfold KK
 split
 ·exact FF N
 ·refine fF ⟨Nat.le_trans (Z5 _) (hw 0),Nat.zero_le _,Nat.zero_le _⟩ (fun i=>?_)
  rw [List.getD_eq_getElem?_getD,List.getElem?_drop,← List.getD_eq_getElem?_getD]
  exact hw (1+i)
theorem Up (i:Nat):(AD.DE.getD i []).length≤20:=by
 rw [List.getD_eq_getElem?_getD]
 cases h:AD.DE[i]? with
 | none=>exact Nat.zero_le _
 | some w=>
  have hm:w∈AD.DE:=List.mem_of_getElem? h
  have:∀ w∈AD.DE,w.length≤20:=by decide
  exact this w hm
theorem KL (s:AL):OS (s.length+20) (parse s).1:=by
 have hw:∀ i,(((words s).drop 1).getD i []).length≤s.length+20:=fun i=>Nat.le_trans (Ky s i 1) (by omega)
 unfold parse
 split
 ·exact FF _
 ·split
  ·exact FF _
  ·unfold PQ
   split
   ·split
    ·exact FF _
    ·refine⟨Nat.zero_le _,Nat.zero_le _,?_⟩
     show(said s).length≤_
     unfold said
     have h1:=Ma 32 (Dy 32 (cut 32 (DG 32 s)).2.1)
     have h2:=OC 32 (cut 32 (DG 32 s)).2.1
     have h3:=(Ny 32 (DG 32 s)).2
     have h4:=Ma 32 s
     omega
   ·split
    ·split
     ·exact FF _
     ·exact⟨Nat.zero_le _,Nat.zero_le _,Nat.zero_le _⟩
    ·split
     ·exact FF _
     ·split
      ·split
       ·exact⟨Nat.le_trans (Up _) (by omega),Nat.zero_le _,Nat.zero_le _⟩
       ·exact ae hw
      ·exact ae hw
end Words
theorem QO {V:AE}{ls:Vector Af 4}{ev:List Event}{n m:Nat}(h:(AO V ls ev).Fit n m){k:Int}(h0:0≤k)(h1:k < 4):AG.eR (ls.at k).queue:=by
 have:=h.queue k h0 h1
 rw [B2 V ls ev h0 h1] at this
 exact this
theorem AG.I1 (H:AG){k:Int}(h0:0≤k)(h1:k < 4):H.set k (H.at_ k)=H:=by
 unfold AG.set AG.at_
 rw [Vector.Wo _ h0 h1]
theorem TI {X:AD}{s:AL}(h:(AA.An X s).2.2.2=0):0≤(AA.An X s).2.1∧(AA.An X s).2.1 < 6:=by
 have hf:=AA.Mq X 6 (Nat.le_refl 6)
 unfold AA.An at h ⊢
 split
 ·exact⟨Int.le_refl 0,show(0:Int) < 6 by decide⟩
 ·split
  ·exact⟨Int.le_refl 0,show(0:Int) < 6 by decide⟩
  ·split
   ·exact⟨Int.le_refl 0,show(0:Int) < 6 by decide⟩
   ·split
    ·rename_i h1 h2 h3 h4
     rw [if_neg h1,if_neg h2,if_neg h3,if_pos h4] at h
     exact absurd h (show ¬ (4:Int)=0 by decide)
    ·rename_i h4
     show 0≤AA.Cg X 6∧AA.Cg X 6 < 6
     rw [decide_eq_true_eq] at h4
     omega
namespace AG
variable {H:AG} {n m:Nat}
theorem Fit.enters (h:H.Fit n m){k:Int}(h0:0≤k)(h1:k < 4){u:AL}(c:(AA.An H.w u).2.2.2=0):(({ H with w:=(AA.An H.w u).1 }:AG).set k { H.at_ k with state:=2,AV:=(AA.An H.w u).2.1 }).Fit n m:=by
 have hs:=AA.JN (s:=u) h.Fg
 exact(h.land hs.1).set h0 h1 (h.told k h0 h1) (fun _=>TI c) (h.wait k h0 h1) (h.queue k h0 h1)
theorem Fit.named (h:H.Fit n m){k:Int}(h0:0≤k)(h1:k < 4)(u:AL):(H.named k u).Fit (n+11) (m+11):=by
 unfold AG.named
 split
 ·rename_i c
  have hs:=AA.JN (s:=u) h.Fg
  have hl:=AA.Mn H.w u
  exact((h.enters h0 h1 (of_decide_eq_true c)).Fi hs.2).mono (by omega) (by omega)
 ·split
  ·exact(h.tell h0 h1 (show noRoom.length≤_ by decide)).mono (by omega) (by omega)
  ·exact(h.tell h0 h1 (show SH.length≤_ by decide)).mono (by omega) (by omega)
theorem Fit.order (h:H.Fit n m){k:Int}(h0:0≤k)(h1:k < 4){u:AL}(hu:u.length≤1000):(H.order k u).Fit (n+11) (m+11):=by
 unfold AG.order
 split
 ·exact(h.tell h0 h1 (show fL.length≤_ by decide)).mono (by omega) (by omega)
 ·split
  ·exact h.leave h0 h1
  ·have hp:=Words.KL u
   have hd:=AA.Kg (b:=(H.at_ k).AV) (o:=(Words.parse u).1) h.Fg (by have:=hp.2.2;omega)
   have hl:=AA.Ke H.w (H.at_ k).AV (Words.parse u).1
   exact((h.land hd.1).Fi hd.2).mono (by omega) (by omega)
theorem Fit.Er (h:H.Fit n m){k:Int}(h0:0≤k)(h1:k < 4){q:AL}{r:List AL}(e:(H.at_ k).queue=q :: r):(H.set k { H.at_ k with queue:=r }.Er).Fit n m:=
 h.set h0 h1 (h.told k h0 h1) (h.AV k h0 h1) (h.wait k h0 h1) (by
  have hq:=h.queue k h0 h1
  rw [e] at hq
  exact⟨Nat.le_of_succ_le hq.1,fun u hu=>hq.2 u (List.mem_cons_of_mem _ hu)⟩)
theorem Fit.Dz (h:H.Fit n m){k:Int}(h0:0≤k)(h1:k < 4):(H.Dz k).Fit (n+11) (m+11):=by
 unfold AG.Dz
 split
 ·exact h.mono (by omega) (by omega)
 ·split
  ·exact h.mono (by omega) (by omega)
  ·rename_i q r e
   have ht:=h.Er h0 h1 e
   have hq:=(h.queue k h0 h1).2 q (by rw [e];exact List.mem_cons_self ..)
   simp only []
   split
   ·exact ht.mono (by omega) (by omega)
   ·split
    ·exact ht.named h0 h1 _
    ·exact ht.order h0 h1 (by omega)
theorem HH (h:H.Fit n m):∀ k:Nat,k≤4→(H.turns k).Fit (n+11 * k) (m+11 * k)
 | 0,_=>h
 | k+1,hk=>by
  have ih:=HH h k (by omega)
  unfold AG.turns
  exact(ih.Dz (by omega) (by omega)).mono (by omega) (by omega)
end AG
theorem SF {V V3 V4:AE}{ls ls3 ls4:Vector Af 4}{ev ev4:List Event}{k:Int}{u:AL}(c:decide ((AA.An V.w u).2.2.2=0)=true)
  (e3:AO V3 ls3 ev=({ AO V ls ev with w:=(AA.An V.w u).1 }:AG).set k { (AO V ls ev).at_ k with state:=2,AV:=(AA.An V.w u).2.1 })
  (e:AO V4 ls4 ev4=(AO V3 ls3 ev).Fi (AA.An V.w u).2.2.1):AO V4 ls4 ev4=(AO V ls ev).named k u:=by
 rw [e,e3]
 exact(if_pos c).symm
theorem SE {V V4:AE}{ls ls4:Vector Af 4}{ev ev4:List Event}{k:Int}{u:AL}(c:decide ((AA.An V.w u).2.2.2=0)=false)(c2:decide ((AA.An V.w u).2.2.2=4)=true)
  (e:AO V4 ls4 ev4=(AO V ls ev).tell k AG.noRoom):AO V4 ls4 ev4=(AO V ls ev).named k u:=e.trans ((if_neg (by show ¬ decide ((AA.An V.w u).2.2.2=0)=true;rw [c];decide)).trans (if_pos c2)).symm
theorem SD {V V4:AE}{ls ls4:Vector Af 4}{ev ev4:List Event}{k:Int}{u:AL}(c:decide ((AA.An V.w u).2.2.2=0)=false)(c2:decide ((AA.An V.w u).2.2.2=4)=false)
  (e:AO V4 ls4 ev4=(AO V ls ev).tell k AG.SH):AO V4 ls4 ev4=(AO V ls ev).named k u:=e.trans ((if_neg (by show ¬ decide ((AA.An V.w u).2.2.2=0)=true;rw [c];decide)).trans (if_neg (by show ¬ decide ((AA.An V.w u).2.2.2=4)=true;rw [c2];decide))).symm
theorem N4 {V V4:AE}{ls ls4:Vector Af 4}{ev ev4:List Event}{k:Int}{u:AL}(h0:0≤k)(h1:k < 4)(c:(!decide ((Words.parse u).2=0))=false)(c2:decide ((Words.parse u).1.verb=20)=false)
  (e:AO V4 ls4 ev4=(AO { V with w:=(AA.Dk V.w (V.AQ.at k).AV (Words.parse u).1).1 } ls ev).Fi (AA.Dk V.w (V.AQ.at k).AV (Words.parse u).1).2.1):AO V4 ls4 ev4=(AO V ls ev).order k u:=by
 rw [e,JJ]
 have ha:=B2 V ls ev h0 h1
 unfold AG.order
 rw [if_neg (by rw [c];decide),if_neg (by rw [c2];decide),ha]
 rfl
theorem RC {V:AE}{ls:Vector Af 4}{ev:List Event}{k:Int}(h0:0≤k)(h1:k < 4)(c:decide ((V.AQ.at k).state=0)=true):AO V ls ev=(AO V ls ev).Dz k:=by
 have ha:=B2 V ls ev h0 h1
 exact(if_pos (show decide (((AO V ls ev).at_ k).state=0)=true by rw [ha];exact c)).symm
theorem RD {V:AE}{ls:Vector Af 4}{ev:List Event}{k:Int}(h0:0≤k)(h1:k < 4){sv:A4}{sl:Af}(hs:V.AQ.at k=sv)(hl:ls.at k=sl)(hq:sl.queue = [])(c:decide ((V.AQ.at k).state=0)=false) :
  AO (V.AY k sv) (ls.put k ⟨sl.queue,sl.wait,sl.told⟩) ev=(AO V ls ev).Dz k:=by
 have ha:=B2 V ls ev h0 h1
 rw [B3 h0 h1 hs hl (f:=fun x=>x) rfl,AG.I1 _ h0 h1]
 unfold AG.Dz
 rw [if_neg (show ¬ decide (((AO V ls ev).at_ k).state=0)=true by rw [ha];show ¬ decide ((V.AQ.at k).state=0)=true;rw [c];decide)]
 have e:((AO V ls ev).at_ k).queue = []:=by rw [ha,hl];exact hq
 split
 ·rfl
 ·rename_i q r e2;rw [e] at e2;cases e2
theorem CW {V:AE}{ls:Vector Af 4}{ev:List Event}{k:Int}(h0:0≤k)(h1:k < 4){sv:A4}{sl:Af}(hs:V.AQ.at k=sv)(hl:ls.at k=sl){q:AL}{r:List AL}(hq:sl.queue=q :: r)(c:decide ((V.AQ.at k).state=0)=false)(h':Hd) :
  AO (V.AY k { sv with Ay:=⟨sv.Ay.now,sv.Ay.long,sv.Ay.ret,h'⟩,out:=⟨sv.out.wait,0,false,sv.out.ring,sv.out.cut⟩ }) (ls.put k ⟨r,sl.wait,sl.told⟩) ev=(AO V ls ev).set k { (AO V ls ev).at_ k with queue:=r }.Er∧((AO V ls ev).at_ k).queue=q :: r ∧
  (AO V ls ev).Dz k=if sv.out.BS=true then(AO V ls ev).set k { (AO V ls ev).at_ k with queue:=r }.Er else if decide (sv.state=1)=true then((AO V ls ev).set k { (AO V ls ev).at_ k with queue:=r }.Er).named k (Words.DG 32 (Words.Dy 32 q)) else((AO V ls ev).set k { (AO V ls ev).at_ k with queue:=r }.Er).order k q:=by
 have ha:=B2 V ls ev h0 h1
 have e:((AO V ls ev).at_ k).queue=q :: r:=by rw [ha,hl];exact hq
 refine⟨B3 h0 h1 hs hl (f:=fun x=>{ x with queue:=r }.Er) rfl,e,?_⟩
 unfold AG.Dz
 rw [if_neg (show ¬ decide (((AO V ls ev).at_ k).state=0)=true by rw [ha];show ¬ decide ((V.AQ.at k).state=0)=true;rw [c];decide)]
 split
 ·rename_i e2;rw [e] at e2;cases e2
 ·rename_i q' r' e2
  rw [e] at e2
  obtain⟨rfl,rfl⟩:=List.cons.inj e2
  have e3:((AO V ls ev).at_ k).pg.BS=sv.out.BS:=by rw [ha,hs];rfl
  have e4:((AO V ls ev).at_ k).state=sv.state:=by rw [ha,hs];rfl
  simp only [e3,e4]
theorem Ps {H:AG}{i:Int}(h0:0≤i):H.turns (i+1).toNat=(H.turns i.toNat).Dz i:=by
 obtain⟨m,rfl⟩:=Int.eq_ofNat_of_zero_le h0
 rfl
end Go.Ing
/- A house: who comes, bytes that come: plain laws for the walks. -/
namespace Go.Ing
open Go
def cq:Hd:=⟨none,0,0⟩
def Df (t:AI)(g:Page.Pg):A4:=⟨1,-1,t,⟨[],false,false,cq⟩,⟨cq,g.shown,g.BS,g.ring,g.cut⟩,cq⟩
def Z1:Af:=⟨[],[],[]⟩
theorem UR {v:A4}{l:Af}{u:AL}(hw:v.out.wait.len=l.wait.length):(B5 v l).send u=B5 { v with out:=⟨v.out.wait,(Page.send v.out u).1.shown,(Page.send v.out u).1.BS,(Page.send v.out u).1.ring,(Page.send v.out u).1.cut⟩ } l:=by
 unfold Ao.send Page.send
 rw [JW hw]
 cases h:Page.A3 v.out with
 | false=>rfl
 | true=>
  have e:(B5 v l).pg.cut=v.out.cut:=rfl
  cases hc:v.out.cut with
  | true=>rw [e,hc];show B5 v l=B5 { v with out:=⟨v.out.wait,v.out.shown,v.out.BS,v.out.ring,v.out.cut⟩ } l;rfl
  | false=>rw [e,hc];rfl
def IV (t:AI)(opt:Int):AI:=if decide ((t.Cs opt).2.1 = [])=true then((t.Cs opt).1.Ask opt).1 else(t.Cs opt).1
def M4 (t:AI)(opt:Int):AL:=if decide ((t.Cs opt).2.1 = [])=true then(t.Cs opt).2.1++((t.Cs opt).1.Ask opt).2.1 else(t.Cs opt).2.1 ++ []
def Lh (t:AI)(g:Page.Pg)(opt:Int):Page.Pg:=(Page.send ⟨cq,g.shown,g.BS,g.ring,g.cut⟩ (M4 t opt)).1
theorem NU (t:AI)(g:Page.Pg)(opt:Int):(B5 (Df t g) Z1).offer opt=B5 (Df (IV t opt) (Lh t g opt)) Z1:=by
 have h:=UR (v:=Df (IV t opt) g) (l:=Z1) (u:=M4 t opt) rfl
 unfold Ao.offer
 have e:(B5 (Df t g) Z1).DZ=t:=rfl
 rw [e]
 by_cases c:decide ((t.Cs opt).2.1 = [])=true
 ·rw [if_pos c]
  have e1:IV t opt=((t.Cs opt).1.Ask opt).1:=if_pos c
  have e2:M4 t opt = []++((t.Cs opt).1.Ask opt).2.1:=(if_pos c).trans (by rw [of_decide_eq_true c])
  rw [← e1,← e2]
  exact h
 ·rw [if_neg c]
  have e1:IV t opt=(t.Cs opt).1:=if_neg c
  have e2:M4 t opt=(t.Cs opt).2.1 ++ []:=if_neg c
  rw [← e1,← e2]
  exact h
def EH (j:Int):Int:=(((Vector.replicate 2 (default:Int)).put 0 3).put 1 31).at j
def CJ:Nat→AI × Page.Pg
 | 0=>(default,⟨0,false,[],false⟩)
 | j+1=>(IV (CJ j).1 (EH j),Lh (CJ j).1 (CJ j).2 (EH j))
theorem HC {j:Int}(h0:0≤j):CJ (j+1).toNat=(IV (CJ j.toNat).1 (EH j),Lh (CJ j.toNat).1 (CJ j.toNat).2 (EH j)):=by
 obtain⟨m,rfl⟩:=Int.eq_ofNat_of_zero_le h0
 rfl
theorem Li:B5 (Df (CJ 2).1 (CJ 2).2) Z1=(({ (default:Ao) with state:=1,AV:=-1 }).offer 3).offer 31:=by
 have h0:({ (default:Ao) with state:=1,AV:=-1 }:Ao)=B5 (Df (CJ 0).1 (CJ 0).2) Z1:=rfl
 rw [h0,NU,NU]
 rfl
theorem FB (t:AI)(opt:Int):(t.Cs opt).2.1.length≤3:=by
 unfold AI.Cs
 split
 ·exact Nat.zero_le _
 ·split
  ·exact Nat.zero_le _
  ·split
   ·exact Nat.zero_le _
   ·exact Nat.le_refl 3
theorem Hp (t:AI)(opt:Int):(t.Ask opt).2.1.length≤3:=by
 unfold AI.Ask
 split
 ·exact Nat.zero_le _
 ·split
  ·exact Nat.zero_le _
  ·split
   ·exact Nat.zero_le _
   ·exact Nat.le_refl 3
theorem AG.Fit.comes {H:AG}{n m:Nat}(h:H.Fit n m){k:Int}(h0:0≤k)(h1:k < 4)(t:AI)(g:Page.Pg):(H.set k (B5 (Df t g) Z1)).Fit n m:=
 h.set h0 h1 (Nat.zero_le _) (fun e=>absurd (show(1:Int)=2 from e) (by decide)) (fun u hu=>by cases hu) ⟨Nat.zero_le _,fun u hu=>by cases hu⟩
theorem AG.Fit.P7 {H:AG}{n m:Nat}(h:H.Fit n m){k:Int}(h0:0≤k)(h1:k < 4):(H.P7 k).Fit (n+221) (m+220):=by
 unfold AG.P7
 rw [← Li]
 exact((h.comes h0 h1 _ _).tell h0 h1 (show AG.CT.length≤_ by decide)).BJ.mono (by omega) (by omega)
end Go.Ing
/- A house: an act: plain laws for the walks. -/
namespace Go.Ing
open Go
theorem Qn {v:A4}{l:Af}(h:v.Ay.queue.len=l.queue.length):(B5 v l).Lb=Aa.A3 v.Ay l.queue:=by
 unfold Ao.Lb Aa.A3 Aa.Hq
 rw [h];rfl
theorem YT {v:A4}{l:Af}{u:AL}(h:v.Ay.queue.len=l.queue.length)(c:Aa.A3 v.Ay l.queue=false):(B5 v l).typed u=(B5 v l,0):=if_pos (by rw [Qn h,c];rfl)
theorem bB {v:A4}{l:Af}{u:AL}(h:v.Ay.queue.len=l.queue.length)(c:Aa.A3 v.Ay l.queue=true)(q:Hd) :
  (B5 v l).typed u=(B5 { v with Ay:=⟨(Aa.feed (Aa.start v.Ay l.queue) u).now,(Aa.feed (Aa.start v.Ay l.queue) u).long,(Aa.feed (Aa.start v.Ay l.queue) u).ret,q⟩ } ⟨(Aa.feed (Aa.start v.Ay l.queue) u).queue,l.wait,l.told⟩,(Aa.feed (Aa.start v.Ay l.queue) u).lost):=
 (if_neg (by rw [Qn h,c];decide)).trans rfl
theorem Um (s:Ao)(u:AL):(s.typed u).1.told=s.told∧(s.typed u).1.state=s.state∧(s.typed u).1.AV=s.AV∧(s.typed u).1.wait=s.wait∧(AG.eR s.queue→AG.eR (s.typed u).1.queue):=by
 unfold Ao.typed
 split
 ·exact⟨rfl,rfl,rfl,rfl,fun h=>h⟩
 ·rename_i c
  refine⟨rfl,rfl,rfl,rfl,fun _=>?_⟩
  have hg:Aa.A3 ⟨s.now,s.long,s.ret,⟨none,s.queue.length,0⟩⟩ s.queue=true:=by
   have:s.Lb=true:=by simpa using c
   exact this
  have ho:=Aa.WV u ((Aa.ES (l:=⟨s.now,s.long,s.ret,⟨none,s.queue.length,0⟩⟩) rfl).1 hg)
  exact⟨ho.len,fun q hq=>((Aa.Di q).1 (ho.queue q hq)).1⟩
theorem Vs (s:Ao)(u:AL):(s.send u).told=s.told∧(s.send u).state=s.state∧(s.send u).AV=s.AV∧(s.send u).wait=s.wait∧(s.send u).queue=s.queue:=by
 unfold Ao.send
 split
 ·exact⟨rfl,rfl,rfl,rfl,rfl⟩
 ·split<;>exact⟨rfl,rfl,rfl,rfl,rfl⟩
def DD (s:Ao)(u:AL):Ao × Int:=(s.bytes u).1.typed (s.bytes u).2
theorem SX (s:Ao)(u:AL):(DD s u).1.told=s.told∧(DD s u).1.state=s.state∧(DD s u).1.AV=s.AV∧(DD s u).1.wait=s.wait∧(AG.eR s.queue→AG.eR (DD s u).1.queue):=by
 have h1:=Um (s.bytes u).1 (s.bytes u).2
 have h2:=Vs { s with DZ:=(s.DZ.CM u).1 } (s.DZ.CM u).2.2.1
 obtain⟨a,b,c,d,e⟩:=h1
 obtain⟨a',b',c',d',e'⟩:=h2
 exact⟨a.trans a',b.trans b',c.trans c',d.trans d',fun hq=>e (by rw [show(s.bytes u).1.queue=s.queue from e'];exact hq)⟩
theorem L2 (H:AG)(k:Int)(u:AL):H.byte k u=(if decide (0 < (DD (H.at_ k) u).2)=true then(H.set k (DD (H.at_ k) u).1).tell k AG.TK else H.set k (DD (H.at_ k) u).1).BJ:=rfl
def heard (v:A4)(u:AL):A4:={ v with DZ:=(v.DZ.CM u).1,out:=⟨v.out.wait,(Page.send v.out (v.DZ.CM u).2.2.1).1.shown,(Page.send v.out (v.DZ.CM u).2.2.1).1.BS,(Page.send v.out (v.DZ.CM u).2.2.1).1.ring,(Page.send v.out (v.DZ.CM u).2.2.1).1.cut⟩ }
theorem QV {v:A4}{l:Af}{u:AL}(hw:v.out.wait.len=l.wait.length):(B5 v l).bytes u=(B5 (heard v u) l,(v.DZ.CM u).2.1):=by
 unfold Ao.bytes
 exact congrArg (fun x=>(x,_)) (UR (v:={ v with DZ:=(v.DZ.CM u).1 }) (l:=l) (u:=(v.DZ.CM u).2.2.1) hw)
theorem Jc {v:A4}{l:Af}{u:AL}(hw:v.out.wait.len=l.wait.length)(h:v.Ay.queue.len=l.queue.length)(c:Aa.A3 v.Ay l.queue=false):DD (B5 v l) u=(B5 (heard v u) l,0):=by
 unfold DD
 rw [QV hw]
 exact YT (v:=heard v u) h c
theorem EC {v:A4}{l:Af}{u:AL}(hw:v.out.wait.len=l.wait.length)(h:v.Ay.queue.len=l.queue.length)(c:Aa.A3 v.Ay l.queue=true)(q:Hd) :
  DD (B5 v l) u=(B5 { heard v u with Ay:=⟨(Aa.feed (Aa.start v.Ay l.queue) (v.DZ.CM u).2.1).now,(Aa.feed (Aa.start v.Ay l.queue) (v.DZ.CM u).2.1).long,(Aa.feed (Aa.start v.Ay l.queue) (v.DZ.CM u).2.1).ret,q⟩ } ⟨(Aa.feed (Aa.start v.Ay l.queue) (v.DZ.CM u).2.1).queue,l.wait,l.told⟩,(Aa.feed (Aa.start v.Ay l.queue) (v.DZ.CM u).2.1).lost):=by
 unfold DD
 rw [QV hw]
 exact bB (v:=heard v u) h c q
namespace AG
variable {H:AG} {n m:Nat}
theorem Mc {i:Int}(h0:0≤i):H.D0 (i+1).toNat=(H.D0 i.toNat).set i { (H.D0 i.toNat).at_ i with told:= [] }:=by
 obtain⟨k,rfl⟩:=Int.eq_ofNat_of_zero_le h0
 rfl
theorem Jd:∀ k:Nat,(H.D0 k).w=H.w∧(H.D0 k).last=H.last∧(H.D0 k).Bg=H.Bg
 | 0=>⟨rfl,rfl,rfl⟩
 | k+1=>Jd k
theorem Pu:∀ k:Nat,k≤4→∀ j:Int,0≤j→j < 4→(H.D0 k).at_ j=if j < k then { H.at_ j with told:= [] } else H.at_ j
 | 0,_,j,j0,_=>by rw [if_neg (by omega)];rfl
 | k+1,hk,j,j0,j1=>by
  have ih:=Pu k (by omega)
  show(((H.D0 k).set k _).at_ j)=_
  rw [F1 _ (by omega) (by omega) j0]
  by_cases c:j=(k:Int)
  ·subst c
   rw [if_pos rfl,if_pos (by omega),ih _ j0 j1,if_neg (by omega)]
  ·rw [if_neg c,ih j j0 j1]
   by_cases c2:j < (k:Int)
   ·rw [if_pos c2,if_pos (by omega)]
   ·rw [if_neg c2,if_neg (by omega)]
theorem TB {j:Int}(j0:0≤j)(j1:j < 4):H.begun.at_ j={ H.at_ j with told:= [] }:=by
 have:=Pu (H:={ H with Bg:=H.Bg+1,last:= [] }) 4 (Nat.le_refl 4) j j0 j1
 rw [if_pos (by omega)] at this
 exact this
theorem Fit.begun (h:H.Fit n m):H.begun.Fit 0 0:=by
 have hs:=Jd (H:={ H with Bg:=H.Bg+1,last:= [] }) 4
 refine⟨by show(D0 _ 4).w.Mf;rw [hs.1];exact h.Fg,fun j a b=>?_,by show(D0 _ 4).last.length≤0;rw [hs.2.1];exact Nat.le_refl 0,fun j a b=>?_,fun j a b=>?_,fun j a b=>?_⟩<;>rw [TB a b]
 ·exact Nat.le_refl 0
 ·exact h.AV j a b
 ·exact h.wait j a b
 ·exact h.queue j a b
theorem Fit.typed (h:H.Fit n m){k:Int}(h0:0≤k)(h1:k < 4)(u:AL):(H.set k (DD (H.at_ k) u).1).Fit n m:=by
 obtain⟨a,b,c,d,e⟩:=SX (H.at_ k) u
 exact h.set h0 h1 (by rw [a];exact h.told k h0 h1) (by rw [b,c];exact h.AV k h0 h1) (by rw [d];exact h.wait k h0 h1) (e (h.queue k h0 h1))
theorem Fit.Jb (h:H.Fit n m){k:Int}(h0:0≤k)(h1:k < 4)(z:Int):(H.set k ((H.at_ k).Jb z)).Fit n m:=
 h.set h0 h1 (h.told k h0 h1) (h.AV k h0 h1) (h.wait k h0 h1) (h.queue k h0 h1)
theorem Fit.PV (h:H.Fit n m)(d:Int):(H.PV d).Fit (n+400) (m+400):=by
 have h1:=HH h 4 (Nat.le_refl 4)
 have hr:=AA.Ll (draw:=d) h1.Fg
 have hl:=AA.M7 h1.Fg.GN d
 exact(((h1.land hr.1).Fi hr.2).BJ).mono (by omega) (by omega)
theorem Fit.byte (h:H.Fit 0 0){k:Int}(h0:0≤k)(h1:k < 4)(u:AL):(H.byte k u).Fit 1000 1000:=by
 rw [L2]
 refine(Fit.BJ (n:=1) (m:=0) ?_).mono (by omega) (by omega)
 split
 ·exact(h.typed h0 h1 _).tell h0 h1 (show TK.length≤_ by decide)
 ·exact(h.typed h0 h1 _).mono (by omega) (by omega)
theorem LK (P:AG→Prop)(h0:P H)(hp:∀ d,P (H.PV d))(hc:∀ k,0≤k→k < 4→P (H.P7 k))(hb:∀ k u,0≤k→k < 4→P (H.byte k u))(ht:∀ k z,0≤k→k < 4→P ((H.set k ((H.at_ k).Jb z)).BJ))(hl:∀ k,0≤k→k < 4→P (H.leave k).BJ)(a:Ba):P (H.Eb a).1:=by
 unfold AG.Eb
 split
 ·dsimp only;exact hp a.n
 ·split
  ·dsimp only;exact h0
  ·split
   ·dsimp only;exact h0
   ·rename_i c
    have hs:0≤a.AY∧a.AY < 4:=by simp only [Bool.or_eq_true,decide_eq_true_eq] at c;omega
    split
    ·dsimp only;exact h0
    ·split
     ·dsimp only;exact hc _ hs.1 hs.2
     ·split
      ·dsimp only;exact hb _ _ hs.1 hs.2
      ·split
       ·dsimp only;exact ht _ _ hs.1 hs.2
       ·dsimp only;exact hl _ hs.1 hs.2
theorem Fit.Eb (h:H.Fit 0 0)(a:Ba):(H.Eb a).1.Fit 1000 1000:=
 LK (fun X=>X.Fit 1000 1000) (h.mono (by omega) (by omega)) (fun d=>(h.PV d).mono (by omega) (by omega)) (fun k h0 h1=>(h.P7 h0 h1).mono (by omega) (by omega)) (fun k u h0 h1=>h.byte h0 h1 u)
  (fun k z h0 h1=>((h.Jb h0 h1 z).BJ).mono (by omega) (by omega)) (fun k h0 h1=>((h.leave h0 h1).BJ).mono (by omega) (by omega)) a
theorem Fit.act (h:H.Fit n m)(a:Ba):(H.act a).1.Fit (n+1000) (m+1000):=by
 unfold AG.act
 split
 ·exact h.mono (by omega) (by omega)
 ·exact(h.begun.Eb a).mono (by omega) (by omega)
theorem Ft {H:AG}(c:decide (400≤H.Bg)=false)(a:Ba):H.act a=H.begun.Eb a:=if_neg (by rw [c];decide)
end AG
theorem DN (V:AE)(ls:Vector Af 4)(ev:List Event){k:Int}(h0:0≤k)(h1:k < 4):decide (((AO V ls ev).at_ k).state=0)=decide ((V.AQ.at k).state=0):=by rw [B2 V ls ev h0 h1];rfl
theorem DJ {V:AE}{ls:Vector Af 4}{ev:List Event}{k:Int}(h0:0≤k)(h1:k < 4){sv v:A4}{sl l:Af}(hs:V.AQ.at k=sv)(hl:ls.at k=sl){u:AL}{z:Int}(e:DD (B5 sv sl) u=(B5 v l,z)) :
  AO (V.AY k v) (ls.put k l) ev=(AO V ls ev).set k (DD ((AO V ls ev).at_ k) u).1∧(DD ((AO V ls ev).at_ k) u).2=z:=by
 have ha:DD ((AO V ls ev).at_ k) u=(B5 v l,z):=by rw [B2 V ls ev h0 h1,hs,hl];exact e
 rw [Fq V ls ev h0 h1,ha]
 exact⟨rfl,rfl⟩
theorem GO {V V2:AE}{ls ls2:Vector Af 4}{ev:List Event}{k:Int}(h0:0≤k)(h1:k < 4){u:AL}{z:Int}(e:AO V2 ls2 ev=(AO V ls ev).set k (DD ((AO V ls ev).at_ k) u).1∧(DD ((AO V ls ev).at_ k) u).2=z)(hF:(AO V ls ev).Fit 0 0):(AO V2 ls2 ev).Fit 0 0:=by
 rw [e.1];exact hF.typed h0 h1 u
theorem Ih {V V2 V3 V4:AE}{ls ls2 ls3 ls4:Vector Af 4}{ev ev3 ev4:List Event}{k:Int}(_:0≤k)(_:k < 4){u:AL}{z:Int}(e:AO V2 ls2 ev=(AO V ls ev).set k (DD ((AO V ls ev).at_ k) u).1∧(DD ((AO V ls ev).at_ k) u).2=z)
  (e3:(decide (0 < z)=true∧AO V3 ls3 ev3=(AO V2 ls2 ev).tell k AG.TK)∨(decide (0 < z)=false∧AO V3 ls3 ev3=AO V2 ls2 ev)) (e4:AO V4 ls4 ev4=(AO V3 ls3 ev3).BJ):AO V4 ls4 ev4=(AO V ls ev).byte k u:=by
 rw [e4,L2,e.2]
 rcases e3 with ⟨c,e3⟩ | ⟨c,e3⟩
 ·rw [e3,if_pos c,e.1]
 ·rw [e3,if_neg (by rw [c];decide),e.1]
theorem Uk (V:AE)(ls:Vector Af 4)(ev:List Event){k:Int}(h0:0≤k)(h1:k < 4){sv:A4}(hs:V.AQ.at k=sv)(n:Int):sv.out.ring.take (max 0 (min n (sv.out.ring.length:Int))).toNat=((AO V ls ev).at_ k).out n:=by
 rw [B2 V ls ev h0 h1,hs];rfl
theorem QM (t:AI)(u:AL):(t.CM u).2.1.length≤u.length:=by
 unfold AI.CM
 split
 ·exact Nat.zero_le _
 ·exact(AI.Zc u t).1
end Go.Ing
/- A house, from outside: plain laws for the walks. -/
namespace Go.Ing
open Go
namespace AG
def OA (H:AG)(i:Int):Int × Int:=if decide ((H.at_ i).state=2)=true then(2,(H.at_ i).AV) else((H.at_ i).state,-1)
theorem UM:∀(l:List Ba) (H:AG) (a:Ba),run H (l ++ [a])=(((run H l).1.act a).1,(run H l).2 ++ [((run H l).1.act a).2])
 | [],_,_=>rfl
 | b :: r,H,a=>by
  have ih:=UM r (H.act b).1 a
  show((run (H.act b).1 (r ++ [a])).1,(H.act b).2 :: (run (H.act b).1 (r ++ [a])).2)=_
  rw [ih];rfl
theorem SS:∀(l:List Ba) (H:AG),(run H l).2.length=l.length
 | [],_=>rfl
 | b :: r,H=>congrArg Nat.succ (SS r (H.act b).1)
theorem UN {H:AG}{xs:List Ba}{k:Int}(h0:0≤k)(h1:k < xs.length):run H (xs.take (k+1).toNat)=(((run H (xs.take k.toNat)).1.act (xs.getD k.toNat default)).1,(run H (xs.take k.toNat)).2 ++ [((run H (xs.take k.toNat)).1.act (xs.getD k.toNat default)).2]):=by
 obtain⟨m,rfl⟩:=Int.eq_ofNat_of_zero_le h0
 have hm:m < xs.length:=by omega
 show run H (xs.take (m+1))=(((run H (xs.take m)).1.act (xs.getD m default)).1,(run H (xs.take m)).2 ++ [((run H (xs.take m)).1.act (xs.getD m default)).2])
 rw [List.take_add_one,List.getElem?_eq_getElem hm,List.getD_eq_getElem?_getD,List.getElem?_eq_getElem hm]
 exact UM _ _ _
theorem UO:∀(k:Nat) (l:List Ba) (H:AG),(run H (l.take k)).2=(run H l).2.take k
 | 0,_,_=>rfl
 | k+1,[],_=>rfl
 | k+1,a :: r,H=>congrArg (List.cons (H.act a).2) (UO k r (H.act a).1)
def Fits (H:AG):Prop:=∃ n m,H.Fit n m
theorem Fits.act {H:AG}(h:H.Fits)(a:Ba):(H.act a).1.Fits:=by
 obtain⟨n,m,h⟩:=h
 exact⟨_,_,h.act a⟩
theorem Fits.run:∀(l:List Ba) {H:AG},H.Fits→(run H l).1.Fits
 | [],_,h=>h
 | a :: r,_,h=>Fits.run r (h.act a)
theorem cn:AD.new.Mf:=by
 refine⟨fun i=>?_,fun i=>?_,fun i=>?_⟩
 ·rcases Vector.OW AD.new.AH i with e | ⟨j,j0,j1,e⟩
  ·rw [e];exact Nat.zero_le _
  ·rw [e]
   have:j=0∨j=1∨j=2∨j=3∨j=4∨j=5∨j=6∨j=7∨j=8:=by omega
   rcases this with h | h | h | h | h | h | h | h | h<;>subst h<;>decide
 ·rcases Vector.OW AD.new.AF i with e | ⟨j,j0,j1,e⟩
  ·rw [e];exact Nat.zero_le _
  ·rw [e]
   have:j=0∨j=1∨j=2∨j=3∨j=4∨j=5:=by omega
   rcases this with h | h | h | h | h | h<;>subst h<;>decide
 ·rcases Vector.OW AD.new.Ad i with e | ⟨j,j0,j1,e⟩
  ·rw [e];exact Nat.zero_le _
  ·rw [e]
   have:j=0∨j=1∨j=2∨j=3∨j=4∨j=5:=by omega
   rcases this with h | h | h | h | h | h<;>subst h<;>decide
theorem Z0 {k:Int}(h0:0≤k)(h1:k < 4):AG.new.at_ k=default:=by
 rcases four h0 h1 with e | e | e | e<;>subst e<;>rfl
theorem ck:AG.new.Fit 0 0:=by
 refine⟨cn,fun k a b=>?_,Nat.le_refl 0,fun k a b=>?_,fun k a b=>?_,fun k a b=>?_⟩<;>rw [Z0 a b]
 ·exact Nat.le_refl 0
 ·exact fun e=>absurd (show(0:Int)=2 from e) (by decide)
 ·exact fun u hu=>by cases hu
 ·exact⟨Nat.zero_le _,fun u hu=>by cases hu⟩
end AG
theorem St.WU {w0 w:World}{M:List Nat}{L l:List AJ}(h:St w0 M w L)(hl:∀ r∈l,r.Bp = []∧r.ok w):St w0 M w (AJ.CQ l :: L):=by
 have hf:(AJ.CQ l).Bp = []:=by
  show l.flatMap AJ.Bp = []
  rw [List.flatMap_eq_nil_iff]
  exact fun r hr=>(hl r hr).1
 refine⟨h.os,h.tape,h.output,h.size,h.IW,fun r hr=>?_,fun r hr=>?_,List.pairwise_cons.2 ⟨fun s hs b hb=>?_,h.Ii⟩⟩
 ·rcases List.mem_cons.1 hr with rfl | hr
  ·refine⟨fun r hr=>(hl r hr).2,?_⟩
   refine List.Pairwise.imp_of_mem (R:=fun _ _=>True) (fun {a b} ha hb _ x hx=>?_) (List.pairwise_of_forall (fun _ _=>trivial))
   rw [(hl a ha).1] at hx;cases hx
  ·exact h.ok r hr
 ·rcases List.mem_cons.1 hr with rfl | hr
  ·rw [hf];exact fun b hb=>by cases hb
  ·exact h.Bp r hr
 ·rw [hf] at hb;cases hb
def Kq:Vector A4 4:=Vector.replicate 4 default
def Kp:Vector Af 4:=Vector.replicate 4 ⟨[],[],[]⟩
theorem Tb (T:Nat)(w:World):∀ r∈BF T Kq Kp,r.Bp = []∧r.ok w:=by
 have hs:∀ r∈FK T default ⟨[],[],[]⟩,r.Bp = []∧r.ok w:=fun r hr=>by
  unfold FK at hr
  simp only [List.mem_cons,List.mem_nil_iff,or_false] at hr
  rcases hr with rfl | rfl | rfl<;>exact⟨rfl, .inl ⟨rfl,rfl⟩⟩
 intro r hr
 have e:BF T Kq Kp=FK T default ⟨[],[],[]⟩++(FK T default ⟨[],[],[]⟩++(FK T default ⟨[],[],[]⟩++FK T default ⟨[],[],[]⟩)):=rfl
 rw [e] at hr
 simp only [List.mem_append] at hr
 rcases hr with h | h | h | h<;>exact hs r h
end Go.Ing
/- Engine: calls of closures that read what they are handed; slices that are only read, beside boxes. -/
namespace Go.Ing
open Go
section
variable {P:Program} {n:Nat} {w0:World} {M:List Nat} {Q:Exit→Go.Act→World→Prop} {F:List (Nat × Value)} {L:List AJ} {ops:Array Oper} {rest:List Oper}
def j8 (w:World)(M:List Nat)(h:Hd)(T sz:Nat)(cs:List Value):Prop:=Rd w h T sz cs∧(cs≠ []→∀ b o,h.a=some ⟨b,o,none⟩→b ∉ M)
end
theorem Rd.pull {w0 w:World}{L A K:List AJ}{h:Hd}{T sz:Nat}{cs:List Value}(hr:Rd w0 h T sz cs)(hS:St w0 [] w L)(hp:AK L A K):j8 w (BP A) h T sz cs:=
 ⟨hS.rd hr,fun hne b o e=>by
  obtain⟨b',o',C,fz,h1,h2,_⟩:=hr.2 hne
  rw [e] at h1
  injection h1 with h1
  injection h1 with h1
  subst h1
  exact PJ h2 (by simp) hS hp⟩
instance:Inhabited AE:=⟨⟨default,Vector.replicate 4 default,0,⟨none,0,0⟩⟩⟩
end Go.Ing
/- Engine: the texts in a slice of acts that came in, and how much they can take. -/
namespace Go.Ing
open Go Go.RowKit Go.ChangeShapes Go.WideShapes Go.ChangeAt
section
variable {H:Type} {enc:TypeId × Value→H} {P:Program} {w:World}
theorem Nb {e:TypeId}{d:DataW H}:∀ {l:List (DataW H)},d∈l→∀ n∈d.weights P e,n∈DataW.weightsAll P e l
 | [],h,_,_=>by cases h
 | x :: r,h,n,hn=>by
  simp only [DataW.weightsAll]
  rcases List.mem_cons.1 h with rfl | h
  ·exact List.mem_append_left _ hn
  ·exact List.mem_append_right _ (Nb h n hn)
theorem VE {t E TS:TypeId}{fs:Array Field}{h:Hd}{d:DataW H}{p:List MemPlace}{T0:Nat}{xs:List Ba}(hT:P.underlying t=some (.slice E))(hE:P.underlying E=some (.struct fs))(hf:(fs[3]?).map (fun f=>(f.type,f.offset))=some (TS,3))(hS:P.underlying TS=some .string)(zE:P.cellsOf E=4)(zS:P.cellsOf TS=1)
  (hd:DataW.Trod enc P w 0 (fun _=>true) true t h.val d p) (hr:Rd w h T0 4 (xs.flatMap Ba.enc)) (hw:∀ n∈d.weights P t,n≤reachBytes):∀ a∈xs,a.bytes.length≤140737488351232:=by
 have hlen:h.len=xs.length:=hr.HQ Ba.fl (by decide)
 intro a ha
 obtain⟨i,hi,rfl⟩:=List.getElem_of_mem ha
 have hb:∃ b o,h.a=some ⟨b,o,none⟩:=by
  have hne:xs.flatMap Ba.enc≠ []:=fun e=>by
   have:=congrArg List.length e
   rw [CX Ba.fl.len] at this
   simp only [List.length_nil] at this
   omega
  obtain⟨b,o,_,_,e,_⟩:=hr.2 hne
  exact⟨b,o,e⟩
 obtain⟨b,o,hb⟩:=hb
 obtain⟨fuel,hfu⟩:=hd
 have hv:h.val = .slice (some ⟨b,o,none⟩) h.len h.cap:=by rw [← hb];rfl
 have hcs:h.val.cells.toList = [.slice (some ⟨b,o,none⟩) h.len h.cap]:=by rw [hv];rfl
 rw [hcs] at hfu
 rcases DataW.trod_slice hT hfu with ⟨h3,_⟩ | ⟨a',len,cap,elems,rest,m,_,h3,h4,_,hlc,_,h5,hel,_⟩
 ·simp at h3
 ·simp at h3
  obtain⟨rfl,rfl,rfl⟩:=h3
  have hd':d = .slice (elems.map (·.1)) (rest.map (·.1)):=congrArg Prod.fst h4
  have h6:=hel i (by omega)
  have hi':i < elems.length:=by omega
  rw [List.getElem?_eq_getElem hi',Option.bind_eq_some_iff] at h6
  obtain⟨c,h7,h9⟩:=h6
  obtain⟨ys,q,_,hx,hl,hlen',hfl⟩:=DataW.trod_struct hE h9
  cases hf3:fs[3]? with
  | none=>rw [hf3] at hf;cases hf
  | some f=>
   rw [hf3] at hf
   simp at hf
   obtain⟨rfl,hoff⟩:=hf
   have h1:=hfl 3 f hf3
   have h3s:3 < fs.size:=by
    rcases Nat.lt_or_ge 3 fs.size with h' | h'
    ·exact h'
    ·rw [Array.getElem?_eq_none h'] at hf3;cases hf3
   have h2:ys[3]?=some (ys[3]'(by omega)):=List.getElem?_eq_getElem (by omega)
   rw [h2,zS,hoff] at h1
   obtain⟨s,e1,e2,_⟩:=DataW.trod_string hS h1
   have hc:=World.cells?_some h7
   rw [zE] at hc
   have h10:=hc.2.2 3 (by omega)
   have h11:c[3]?=some (.string s):=by
    have:=congrArg (fun l=>l[0]?) e1
    simp only [List.getElem?_take,List.getElem?_drop] at this
    simpa using this
   obtain⟨b',o',C,fz,k1,k2,k3,k4⟩:=O7 Ba.fl Ba.l3 hr hi (by decide)
   have k1':(some ⟨b,o,none⟩:Option Addr)=some ⟨b',o',none⟩:=hb.symm.trans k1
   injection k1' with k1'
   injection k1' with kb ko
   subst kb;subst ko
   rw [ED,ED] at h10
   unfold World.cell? at h10
   simp only [k2] at h10
   have k5:C[o+i * 4+3]?=some (Ae xs[i].bytes):=by
    have:=congrArg (fun l=>l[0]?) k4
    simp only [List.getElem?_take,List.getElem?_drop] at this
    simpa [Ac] using this
   have k6:Ae xs[i].bytes = .string s:=by
    rw [h11] at h10
    have:C[o+i * 4+3]?=some (Value.string s):=by simpa using h10
    rw [k5] at this
    injection this
   have k7:s.data.toList=xs[i].bytes:=by
    simp [Ae] at k6
    rw [← k6]
   have hmem:xs[i].bytes.length∈d.weights P t:=by
    rw [hd']
    simp only [DataW.weights,hT]
    refine List.mem_cons_of_mem _ (List.mem_append_left _ (Nb (d:=elems[i].1) (List.mem_map.2 ⟨elems[i],List.getElem_mem _,rfl⟩) _ ?_))
    have hx':elems[i].1 = .agg (ys.map (·.1)):=congrArg Prod.fst hx
    rw [hx']
    simp only [DataW.weights,hE]
    refine DataW.weights_mem_each (j:=3) (t:=f.type) (d:=(ys[3]'(by omega)).1) ?_ ?_ _ ?_
    ·rw [List.getElem?_map];simp [hf3]
    ·rw [List.getElem?_map,h2];rfl
    ·rw [e2,k7];simp [DataW.weights]
   exact hw _ hmem
end
end Go.Ing
/- What every turn keeps: a principle. -/
namespace Go.Ing
open Go
namespace AA
inductive XE (w:AD):AL→Prop
 | word {s:AL}:s∈ [J5,ZM,R6,HB,SG,KI,fK,Z2,Zh,IL]→XE w s
 | room (r:Int):XE w ([84,104,101,32]++(w.Ad.at r).name ++ [46])
 | ways (r:Room):XE w (Gd r 6)
 | list {s:AL} (l:List Int):s∈ [[72,101,114,101,32,105,115],[89,111,117,32,104,97,118,101]]→XE w (Qs w s l ++ [46])
 | seen (k:Int):XE w ((w.AF.at k).name ++ [32,105,115,32,104,101,114,101,46])
inductive Shape (x:AL)(w:AD):Event→Prop
 | kN {s:AL}:XE w s→Shape x w { Dn 16 with text:=s }
 | said:Shape x w { Dn 7 with text:=x }
 | kind {k:Int}:k=15∨k=17→Shape x w (Dn k)
 | dir {k d:Int}:k=1∨k=2→Shape x w { Dn k with dir:=d }
 | AP {k i:Int}:k=3∨k=4∨(8≤k∧k≤13)→Shape x w { Dn k with AP:=(w.AH.at i).name }
 | Hk {k:Int}:k=8∨k=9→Shape x w { Dn k with AP:=Jg }
 | kG {i to:Int}:Shape x w { Dn 6 with other:=to,AP:=(w.AH.at i).name }
 | jT {i to:Int}:Shape x w { Dn 5 with AP:=(w.AH.at i).name,text:=(w.AH.at to).name }
 | Aq {A1 n:Int}:1≤n→n≤3→Shape x w { Dn 14 with other:=A1,n:=n }
def ev (w:AD)(b:Int)(e:Event):Event:=w.GK (DR ⟨w,b,[]⟩ e) 6
structure Rel (x:AL)(q:Prop)(b:Int)(R:AD→List Event→AD→Prop):Prop where
 refl:∀ w,R w [] w
 trans:∀ {X l Y m Z},R X l Y→R Y m Z→R X (l++m) Z
 hap:∀ {w e},Shape x w e→R w [ev w b e] w
 AP:∀ {w:AD} {i:Int} {t:A9},t.name=(w.AH.at i).name→t.kind=(w.AH.at i).kind→R w [] (w.It i t)
 A1:∀ {w:AD} {k f:Int},R w [] (w.Bc k { w.AF.at k with A1:=f })
 shut:∀ {w:AD} {r d:Int} {v:Bool},R w [] (w.PW r d v)
 HT:∀ {w:AD} {d r:Int},R w [ev w b { Dn 1 with dir:=d }] (w.Bc b { w.AF.at b with room:=r,A1:=0 })
 J6:q→∀ {w},R w [ev w b (Dn 18)] w
 gone:∀ {X l w},R X l w→(∃ e∈l,(e.kind=18∨(e.kind=15∧b < 2))∧e.Ak=b)→R X l (w.Bc b default)
section
variable {x:AL} {q:Prop} {b:Int} {R:AD→List Event→AD→Prop} (K:Rel x q b R) {X:AD} {T:AA}
include K
end
end AA
end Go.Ing
/- What every round of fights keeps, and every coming in: a principle. -/
namespace Go.Ing
open Go
namespace AA
structure jG (R:AD→List Event→AD→Prop):Prop where
 all:∀ b,0≤b→b < 6→Rel [] False b R
 kH:∀ {w:AD} {k h:Int},R w [] (w.Bc k { w.AF.at k with AW:=h })
 kO:∀ {X l w} {b:Int},2≤b→R X l w→(∃ e∈l,e.kind=15∧e.Ak=b)→R X l (w.Bc b { w.AF.at b with room:=0,AW:=10 })
section
variable {R:AD→List Event→AD→Prop} (K:jG R)
include K
omit K in
end
end AA
end Go.Ing
/- What happens within an act of a house, in small steps. -/
namespace Go.Ing
open Go
namespace Ao
def CE (s:Ao)(e:Event):Ao:=if (AD.tell e s.AV).2=true then s.tell (AD.tell e s.AV).1 else s
def Gz (s:Ao)(es:List Event):Ao:=if s.state=2 then es.foldl CE s else s
end Ao
theorem lt_next {j:Int}{k:Nat}(c:¬ j=(k:Int)):(j < ((k+1:Nat):Int))=(j < (k:Int)):=propext ⟨fun _=>by omega,fun _=>by omega⟩
namespace AG
theorem K5 (e:Event)(H:AG):∀ k:Nat,k≤4→∀ j:Int,0≤j→j < 4→(CE e H k).at_ j=if j < k∧(H.at_ j).state=2 then(H.at_ j).CE e else H.at_ j
 | 0,_,j,h0,_=>by rw [if_neg (by omega)];rfl
 | k+1,hk,j,h0,h1=>by
  have ih:=K5 e H k (by omega) j h0 h1
  have ihk:=LW e H k (by omega) k (Int.le_refl _) (by omega)
  by_cases c:j=(k:Int)
  ·subst c
   unfold CE
   rw [ihk]
   split
   ·rename_i c1
    rw [if_neg (by simp at c1;exact fun h=>c1 h.2)];exact ihk
   ·rename_i c1
    have hr:(if (k:Int) < ((k+1:Nat):Int)∧(H.at_ k).state=2 then(H.at_ k).CE e else H.at_ k)=if (AD.tell e (H.at_ k).AV).2=true then(H.at_ k).tell (AD.tell e (H.at_ k).AV).1 else H.at_ k:=if_pos ⟨by omega,by simpa using c1⟩
    rw [hr]
    by_cases c2:(AD.tell e (H.at_ k).AV).2=true
    ·rw [if_pos c2,if_pos c2]
     unfold AG.tell
     rw [AG.F1 _ (by omega) (by omega) h0,if_pos rfl,ihk]
    ·rw [if_neg c2,if_neg c2];exact ihk
  ·have e2:(CE e H (k+1)).at_ j=(CE e H k).at_ j:=by
    rw [CE.eq_2]
    split
    ·rfl
    ·split
     ·exact WL (by omega) (by omega) h0 c _
     ·rfl
   rw [e2,ih];simp only [lt_next c]
theorem Ww (s:Ao)(e:Event):(s.CE e).state=s.state∧(s.CE e).AV=s.AV:=by
 unfold Ao.CE
 split
 ·exact⟨(Kw _ _).1,(Kw _ _).2.1⟩
 ·exact⟨rfl,rfl⟩
theorem TY {j:Int}(j0:0≤j)(j1:j < 4):∀(es:List Event) (H:AG),(H.Io es).at_ j=(H.at_ j).Gz es
 | [],H=>by show H.at_ j=_;unfold Ao.Gz;split<;>rfl
 | e :: r,H=>by
  have ih:=TY j0 j1 r (CE e H 4)
  show((CE e H 4).Io r).at_ j=_
  have h1:=K5 e H 4 (Nat.le_refl 4) j j0 j1
  rw [ih,h1]
  by_cases c:(H.at_ j).state=2
  ·rw [if_pos ⟨by omega,c⟩]
   unfold Ao.Gz
   rw [if_pos c,if_pos (by rw [(Ww _ e).1];exact c)]
   rfl
  ·rw [if_neg (fun h=>c h.2)]
   unfold Ao.Gz
   rw [if_neg c,if_neg c]
theorem Wb (H:AG)(es:List Event){j:Int}(j0:0≤j)(j1:j < 4):(H.Fi es).at_ j=(H.at_ j).Gz es:=TY j0 j1 es _
theorem ei {H K:AG}(h1:H.w=K.w)(h2:∀ j,0≤j→j < 4→H.at_ j=K.at_ j)(h3:H.Bg=K.Bg)(h4:H.last=K.last):H=K:=by
 cases H;cases K
 simp only at h1 h3 h4
 subst h1 h3 h4
 congr 1
 exact OD fun i i0 i1=>h2 i i0 i1
def cy:List AL:= [CT,TK,fL,SH,noRoom]
inductive Es (U:AL→Prop)(H:AG):Int→AD→Ao→List Event→Prop
 | left {k:Int}:(H.at_ k).state=2→(H.w.AF.at (H.at_ k).AV).here=true→Es U H k (AA.Dk H.w (H.at_ k).AV DL).1 default (AA.Dk H.w (H.at_ k).AV DL).2.1
 | cE {k:Int} {u:AL}:(H.at_ k).state=1→(AA.An H.w u).2.2.2=0→Es U H k (AA.An H.w u).1 { H.at_ k with state:=2,AV:=(AA.An H.w u).2.1 } (AA.An H.w u).2.2.1
 | jl {k:Int} {q:AL}:U q→(H.at_ k).state≠0→(H.at_ k).state≠1→(Words.parse q).1.verb≠20→Es U H k (AA.Dk H.w (H.at_ k).AV (Words.parse q).1).1 (H.at_ k) (AA.Dk H.w (H.at_ k).AV (Words.parse q).1).2.1
 | round {d:Int}:Es U H 0 (AA.BW H.w d).1 (H.at_ 0) (AA.BW H.w d).2.1
def Nq (H:AG)(k:Int)(w:AD)(s:Ao)(es:List Event):AG:=({ H with w:=w }.set k s).Fi es
inductive Step (U:AL→Prop)(H:AG):AG→Prop
 | told {k:Int} {u:AL}:0≤k→k < 4→(H.at_ k).state≠0→u∈cy→Step U H (H.tell k u)
 | BJ {k:Int}:0≤k→k < 4→(H.at_ k).state≠0→Step U H (H.set k (H.at_ k).BJ)
 | goes {k:Int} {w:AD} {s:Ao} {es:List Event}:0≤k→k < 4→Es U H k w s es→Step U H (H.Nq k w s es)
 | free {k:Int}:0≤k→k < 4→¬ ((H.at_ k).state=2∧(H.w.AF.at (H.at_ k).AV).here=true)→Step U H (H.set k default)
inductive Steps (U:AL→Prop)(H:AG):AG→Prop
 | refl:Steps U H H
 | tail {X Y:AG}:Steps U H X→Step U X Y→Steps U H Y
section
variable {U:AL→Prop} {H X Y:AG}
theorem Step.one (h:Step U H X):Steps U H X:= .tail .refl h
theorem Steps.trans (h:Steps U H X)(k:Steps U X Y):Steps U H Y:=by
 induction k with
 | refl=>exact h
 | tail _ s ih=>exact ih.tail s
theorem Steps.LX {P:AG→Prop}(hs:∀ {H X:AG},P H→Step U H X→P X)(h:P H)(k:Steps U H X):P X:=by
 induction k with
 | refl=>exact h
 | tail _ s ih=>exact hs ih s
theorem Sa (H:AG){k:Int}(h0:0≤k)(h1:k < 4)(w:AD)(s:Ao)(es:List Event){j:Int}(j0:0≤j)(j1:j < 4):(H.Nq k w s es).at_ j=(if j=k then s else H.at_ j).Gz es:=by
 unfold Nq
 rw [Wb _ _ j0 j1,F1 _ h0 h1 j0]
 rfl
theorem O1 (es:List Event):(default:Ao).Gz es=default:=if_neg (show ¬ (0:Int)=2 by decide)
theorem KT (H:AG){k:Int}(h0:0≤k)(h1:k < 4):Steps U H (H.leave k):=by
 unfold AG.leave
 split
 ·rename_i c
  rw [Bool.and_eq_true,decide_eq_true_eq] at c
  have s:Step U H (H.Nq k (AA.Dk H.w (H.at_ k).AV DL).1 default (AA.Dk H.w (H.at_ k).AV DL).2.1):= .goes h0 h1 (.left c.1 c.2)
  have e:(((H.Vb k).set k default).Fi (AA.Dk H.w (H.at_ k).AV DL).2.1).set k default=H.Nq k (AA.Dk H.w (H.at_ k).AV DL).1 default (AA.Dk H.w (H.at_ k).AV DL).2.1:=by
   show(H.Nq k _ default _).set k default=_
   have:=Sa H h0 h1 (AA.Dk H.w (H.at_ k).AV DL).1 default (AA.Dk H.w (H.at_ k).AV DL).2.1 h0 h1
   rw [if_pos rfl,O1] at this
   have h2:=I1 (H.Nq k (AA.Dk H.w (H.at_ k).AV DL).1 default (AA.Dk H.w (H.at_ k).AV DL).2.1) h0 h1
   rw [this] at h2
   exact h2
  rw [e]
  exact s.one
 ·rename_i c
  exact(Step.free h0 h1 (fun h=>c (by rw [Bool.and_eq_true,decide_eq_true_eq];exact h))).one
theorem KS (H:AG):∀ k:Nat,k≤4→Steps U H (H.CI k).1
 | 0,_=> .refl
 | k+1,hk=>by
  have ih:=KS H k (by omega)
  unfold CI
  split
  ·exact ih
  ·rename_i c
   have s:Step U (H.CI k).1 ((H.CI k).1.set k (((H.CI k).1.at_ k).BJ)):= .BJ (by omega) (by omega) (by simpa using c)
   split
   ·exact(ih.tail s).trans (KT _ (by omega) (by omega))
   ·exact ih.tail s
theorem NY:∀(n:Nat) (H:AG),Steps U H (H.HN n)
 | 0,_=> .refl
 | n+1,H=>by
  unfold HN
  split
  ·exact KS H 4 (Nat.le_refl 4)
  ·exact(KS H 4 (Nat.le_refl 4)).trans (NY n _)
theorem Vy (H:AG):Steps U H H.BJ:=NY 5 H
theorem Ud (H:AG){k:Int}(h0:0≤k)(h1:k < 4)(hs:(H.at_ k).state=1)(u:AL):Steps U H (H.named k u):=by
 unfold AG.named
 split
 ·rename_i c
  exact(Step.goes h0 h1 (.cE hs (of_decide_eq_true c))).one
 ·have hn:(H.at_ k).state≠0:=by omega
  split
  ·exact(Step.told h0 h1 hn (by simp [cy])).one
  ·exact(Step.told h0 h1 hn (by simp [cy])).one
theorem Ue (H:AG){k:Int}(h0:0≤k)(h1:k < 4)(hs:(H.at_ k).state≠0)(h2:(H.at_ k).state≠1){u:AL}(hu:U u):Steps U H (H.order k u):=by
 unfold AG.order
 split
 ·exact(Step.told h0 h1 hs (by simp [cy])).one
 ·split
  ·exact KT H h0 h1
  ·rename_i c
   have:=(Step.goes (H:=H) h0 h1 (.jl hu hs h2 (fun e=>c (decide_eq_true e)))).one
   unfold Nq at this
   rw [show({ H with w:=(AA.Dk H.w (H.at_ k).AV (Words.parse u).1).1 }:AG).set k (H.at_ k)={ H with w:=(AA.Dk H.w (H.at_ k).AV (Words.parse u).1).1 } from I1 { H with w:=(AA.Dk H.w (H.at_ k).AV (Words.parse u).1).1 } h0 h1] at this
   exact this
theorem Uf (H:AG)(d:Int):Steps U H ({ H with w:=(AA.BW H.w d).1 }.Fi (AA.BW H.w d).2.1):=by
 have:=(Step.goes (U:=U) (H:=H) (Int.le_refl 0) (by decide) (.round (d:=d))).one
 unfold Nq at this
 rw [show({ H with w:=(AA.BW H.w d).1 }:AG).set 0 (H.at_ 0)={ H with w:=(AA.BW H.w d).1 } from I1 { H with w:=(AA.BW H.w d).1 } (Int.le_refl 0) (by decide)] at this
 exact this
def next (H:AG)(k:Int)(r:List AL):AG:=H.set k { H.at_ k with queue:=r }.Er
theorem V8 (H:AG){k:Int}(h0:0≤k)(h1:k < 4)(hU:∀ q∈(H.at_ k).queue,U q):(((H.at_ k).state=0∨(H.at_ k).queue = [])∧H.Dz k=H)∨∃ q r,(H.at_ k).state≠0∧(H.at_ k).queue=q :: r∧Steps U (H.next k r) (H.Dz k):=by
 unfold AG.Dz
 split
 ·rename_i c;exact .inl ⟨.inl (of_decide_eq_true c),rfl⟩
 ·rename_i c
  have c':(H.at_ k).state≠0:=fun e=>c (decide_eq_true e)
  split
  ·rename_i e;exact .inl ⟨.inr e,rfl⟩
  ·rename_i q r e
   refine .inr ⟨q,r,c',e,?_⟩
   have ha:(H.next k r).at_ k={ H.at_ k with queue:=r }.Er:=by unfold next;rw [F1 _ h0 h1 h0,if_pos rfl]
   have hst:((H.next k r).at_ k).state=(H.at_ k).state:=by rw [ha];rfl
   show Steps U (H.next k r) (if (H.at_ k).pg.BS=true then H.next k r else if decide ((H.at_ k).state=1)=true then(H.next k r).named k (Words.DG 32 (Words.Dy 32 q)) else(H.next k r).order k q)
   split
   ·exact .refl
   ·split
    ·rename_i c2
     exact Ud _ h0 h1 (by rw [hst];exact of_decide_eq_true c2) _
    ·rename_i c2
     exact Ue _ h0 h1 (by rw [hst];exact c') (by rw [hst];exact fun e=>c2 (decide_eq_true e)) (hU q (by rw [e];exact List.mem_cons_self ..))
end
end AG
end Go.Ing
/- What a seat is behind every act: plain laws. -/
namespace Go.Ing
open Go
namespace Page
theorem On (ht:Int):∀(l:List AL) (x:Pg),x.ring.length≤700→0≤x.shown→x.shown≤200→(BJ ht l x).1.ring.length≤700∧0≤(BJ ht l x).1.shown∧(BJ ht l x).1.shown≤200
 | [],x,h1,h2,h3=>⟨h1,h2,h3⟩
 | s :: r,x,h1,h2,h3=>by
  unfold BJ
  split
  ·exact⟨h1,h2,h3⟩
  ·split
   ·refine⟨MH h1,?_,?_⟩<;>rw [HG]
    ·exact h2
    ·exact h3
   ·refine On ht r _ (MH h1) ?_ ?_<;>rw [HG]
    ·show 0≤min (x.shown+1) 200;omega
    ·show min (x.shown+1) 200≤200;omega
end Page
namespace Ao
structure Ok (s:Ao):Prop where
 st:0≤s.state∧s.state≤2
 n:s.wait.length≤60
 ring:s.pg.ring.length≤700
 s0:0≤s.pg.shown
 s1:s.pg.shown≤200
 ln:Aa.Ok ⟨s.now,s.long,s.ret,s.queue,0⟩
theorem fA (s:Ao):s.PR=true↔s.wait.length≤60∧s.pg.ring.length≤700∧0≤s.pg.shown∧s.pg.shown≤200:=by
 simp only [PR,Bool.and_eq_true,decide_eq_true_eq];omega
theorem ey (s:Ao):s.Lb=true↔Aa.Ok ⟨s.now,s.long,s.ret,s.queue,0⟩:=
 Aa.ES (l:=⟨s.now,s.long,s.ret,⟨none,s.queue.length,0⟩⟩) (qs:=s.queue) rfl
variable {s:Ao}
theorem Ok.PR (h:s.Ok):s.PR=true:=(fA s).2 ⟨h.n,h.ring,h.s0,h.s1⟩
theorem Ok.Lb (h:s.Ok):s.Lb=true:=(ey s).2 h.ln
theorem Ht:(default:Ao).Ok:=⟨⟨Int.le_refl 0,by decide⟩,Nat.zero_le _,Nat.zero_le _,Int.le_refl 0,by decide,(⟨Aa.NA,(fun s hs=>by cases hs),Nat.zero_le _,(fun h=>by cases h)⟩:Aa.Ok ⟨[],false,false,[],0⟩)⟩
theorem Ok.line (h:s.Ok)(u:AL):(s.line u).Ok:=by
 unfold Ao.line
 split
 ·exact h
 ·split
  ·exact h
  ·split
   ·exact⟨h.st,h.n,h.ring,h.s0,h.s1,h.ln⟩
   ·rename_i c
    refine⟨h.st,?_,h.ring,h.s0,h.s1,h.ln⟩
    have hn:=h.n
    have c':¬ (60:Int)≤s.wait.length:=fun e=>c (decide_eq_true e)
    show(s.wait ++ [u]).length≤60
    rw [List.length_append,List.length_singleton];omega
theorem Ok.tell (h:s.Ok)(u:AL):(s.tell u).Ok:=by
 have:=h.line u
 unfold Ao.tell Ao.note
 split
 ·exact⟨this.st,this.n,this.ring,this.s0,this.s1,this.ln⟩
 ·exact this
theorem Ok.BJ (h:s.Ok):s.BJ.Ok:=by
 unfold Ao.BJ
 split
 ·exact h
 ·have hk:=Page.On s.DZ.Bw s.wait s.pg h.ring h.s0 h.s1
  exact⟨h.st,Nat.le_trans (Page.cN _ _ _) h.n,hk.1,hk.2.1,hk.2.2,h.ln⟩
theorem Ok.send (h:s.Ok)(u:AL):(s.send u).Ok:=by
 unfold Ao.send
 split
 ·exact h
 ·split
  ·exact h
  ·exact⟨h.st,h.n,Page.MH h.ring,by show 0≤(Page.put s.pg u).shown;rw [Page.HG];exact h.s0,by show(Page.put s.pg u).shown≤200;rw [Page.HG];exact h.s1,h.ln⟩
theorem Ok.DZ (h:s.Ok)(t:AI):({ s with DZ:=t }:Ao).Ok:=⟨h.st,h.n,h.ring,h.s0,h.s1,h.ln⟩
theorem Ok.offer (h:s.Ok)(opt:Int):(s.offer opt).Ok:=by
 unfold Ao.offer
 split
 ·exact(h.DZ _).send _
 ·exact(h.DZ _).send _
theorem Ok.Jb (h:s.Ok)(n:Int):(s.Jb n).Ok:=⟨h.st,h.n,by show(s.pg.ring.drop _).length≤700;rw [List.length_drop];have:=h.ring;omega,h.s0,h.s1,h.ln⟩
theorem Ok.next (h:s.Ok){q:AL}{r:List AL}(e:s.queue=q :: r):({ s with queue:=r }:Ao).Er.Ok:=
 ⟨h.st,h.n,h.ring,Int.le_refl 0,show(0:Int)≤200 by decide,⟨h.ln.now,fun x hx=>h.ln.queue x (by show x∈s.queue;rw [e];exact List.mem_cons_of_mem _ hx),by
  have:=h.ln.len
  have h2:s.queue.length≤6:=this
  rw [e,List.length_cons] at h2
  show r.length≤6;omega,h.ln.ret⟩⟩
theorem Ok.typed (h:s.Ok)(u:AL):(DD s u).1.Ok:=by
 have h1:(s.bytes u).1.Ok:=(h.DZ _).send _
 unfold DD Ao.typed
 split
 ·exact h1
 ·have ho:=Aa.WV (s.bytes u).2 h1.ln
  exact⟨h1.st,h1.n,h1.ring,h1.s0,h1.s1,⟨ho.now,ho.queue,ho.len,ho.ret⟩⟩
theorem Ok.cE (h:s.Ok)(b:Int):({ s with state:=2,AV:=b }:Ao).Ok:=⟨⟨show(0:Int)≤2 by decide,show(2:Int)≤2 by decide⟩,h.n,h.ring,h.s0,h.s1,h.ln⟩
theorem Ok.CE (h:s.Ok)(e:Event):(s.CE e).Ok:=by
 unfold Ao.CE;split
 ·exact h.tell _
 ·exact h
theorem WY:∀(es:List Event) {s:Ao},s.Ok→(es.foldl Ao.CE s).Ok
 | [],_,h=>h
 | e :: r,_,h=>WY r (h.CE e)
theorem Ok.Gz (h:s.Ok)(es:List Event):(s.Gz es).Ok:=by
 unfold Ao.Gz
 split
 ·exact WY es h
 ·exact h
theorem Ok.heard (h:s.Ok):({ s with told:= [] }:Ao).Ok:=⟨h.st,h.n,h.ring,h.s0,h.s1,h.ln⟩
theorem Zg (s:Ao)(es:List Event):(s.Gz es).state=s.state∧(s.Gz es).AV=s.AV:=by
 unfold Ao.Gz
 split
 ·induction es generalizing s with
  | nil=>exact⟨rfl,rfl⟩
  | cons e r ih=>
   rename_i c
   have h1:=AG.Ww s e
   have:=ih (s.CE e) (by rw [h1.1];exact c)
   exact⟨this.1.trans h1.1,this.2.trans h1.2⟩
 ·exact⟨rfl,rfl⟩
theorem Ol (s:Ao)(c:(decide (s.DZ.Bw < 0) || decide (200 < s.DZ.Bw))=true):s.BJ=s:=by
 unfold Ao.BJ
 rw [if_pos]
 rw [Bool.or_assoc,c,Bool.or_true]
end Ao
namespace AG
def JE (H:AG):Prop:=∀ k,0≤k→k < 4→(H.at_ k).Ok
section
variable {U:AL→Prop} {H X:AG}
theorem JE.set (h:H.JE){k:Int}(h0:0≤k)(h1:k < 4){s:Ao}(hs:s.Ok):(H.set k s).JE:=fun j j0 j1=>by
 rw [F1 _ h0 h1 j0];split
 ·exact hs
 ·exact h j j0 j1
theorem JE.step (h:H.JE)(s:Step U H X):X.JE:=by
 cases s with
 | told h0 h1 _ _=>exact h.set h0 h1 ((h _ h0 h1).tell _)
 | BJ h0 h1 _=>exact h.set h0 h1 (h _ h0 h1).BJ
 | free h0 h1 _=>exact h.set h0 h1 Ao.Ht
 | goes h0 h1 g=>
  intro j j0 j1
  rw [Sa H h0 h1 _ _ _ j0 j1]
  refine Ao.Ok.Gz ?_ _
  split
  ·cases g with
   | left _ _=>exact Ao.Ht
   | cE _ _=>exact(h _ h0 h1).cE _
   | jl _ _ _ _=>exact h _ h0 h1
   | round=>exact h _ (Int.le_refl 0) (by decide)
  ·exact h j j0 j1
theorem JE.steps (h:H.JE)(s:Steps U H X):X.JE:=Steps.LX (P:=JE) (fun h s=>h.step s) h s
/-! #### nobody is cut off behind all that flows -/
def busy (H:AG)(k:Int):Nat:=if (H.at_ k).state=0 then 0 else 1
def HL (H:AG):Nat:=H.busy 0+H.busy 1+H.busy 2+H.busy 3
theorem cB {H X:AG}(h:∀ j,0≤j→j < 4→(H.at_ j).state=0→(X.at_ j).state=0):X.HL≤H.HL∧∀ k,0≤k→k < 4→(H.at_ k).state≠0→(X.at_ k).state=0→X.HL < H.HL:=by
 have hb:∀ j,0≤j→j < 4→X.busy j≤H.busy j∧H.busy j≤1∧((H.at_ j).state≠0→(X.at_ j).state=0→X.busy j < H.busy j):=fun j j0 j1=>by
  have:=h j j0 j1
  unfold busy
  refine⟨?_,?_,?_⟩
  ·split
   ·exact Nat.zero_le _
   ·rename_i c
    rw [if_neg (fun e=>c (this e))];exact Nat.le_refl _
  ·split<;>omega
  ·intro a b
   rw [if_pos b,if_neg a];decide
 have b0:=hb 0 (by decide) (by decide);have b1:=hb 1 (by decide) (by decide);have b2:=hb 2 (by decide) (by decide);have b3:=hb 3 (by decide) (by decide)
 unfold HL
 refine⟨by omega,fun k k0 k1 a b=>?_⟩
 rcases four k0 k1 with e | e | e | e<;>subst e
 ·have:=b0.2.2 a b;omega
 ·have:=b1.2.2 a b;omega
 ·have:=b2.2.2 a b;omega
 ·have:=b3.2.2 a b;omega
theorem Te (H:AG){k:Int}(h0:0≤k)(h1:k < 4){j:Int}(j0:0≤j)(j1:j < 4):(H.leave k).at_ j=if j=k then default else(H.at_ j).Gz (if decide ((H.at_ k).state=2) && (H.w.AF.at (H.at_ k).AV).here then(AA.Dk H.w (H.at_ k).AV DL).2.1 else []):=by
 unfold AG.leave
 rw [F1 _ h0 h1 j0]
 split
 ·rfl
 ·rename_i c
  split
  ·rw [Wb _ _ j0 j1,F1 _ h0 h1 j0,if_neg c]
   rfl
  ·unfold Ao.Gz;split<;>rfl
theorem LU (H:AG):∀ k:Nat,k≤4→∀ j,0≤j→j < 4→(H.at_ j).state=0→((H.CI k).1.at_ j).state=0
 | 0,_,_,_,_,h=>h
 | k+1,hk,j,j0,j1,h=>by
  have ih:=LU H k (by omega) j j0 j1 h
  have hf:(((H.CI k).1.set k (((H.CI k).1.at_ k).BJ)).at_ j).state=0:=by
   rw [F1 _ (by omega) (by omega) j0]
   split
   ·rename_i e;subst e;rw [(Q3 _).2.1];exact ih
   ·exact ih
  unfold CI
  split
  ·exact ih
  ·split
   ·show(AG.at_ (AG.leave _ _) j).state=0
    rw [Te _ (by omega) (by omega) j0 j1]
    split
    ·rfl
    ·rw [(Ao.Zg _ _).1];exact hf
   ·exact hf
theorem Qg (H:AG):∀ k:Nat,k≤4→(H.CI k).2=true→∃ j,0≤j∧j < 4∧(H.at_ j).state≠0∧((H.CI k).1.at_ j).state=0
 | 0,_,h=>by cases h
 | k+1,hk,h=>by
  have ih:=Qg H k (by omega)
  have hn:(((H.CI k).1.at_ k).state≠0)→(H.at_ k).state≠0:=fun c e=>c (LU H k (by omega) k (by omega) (by omega) e)
  unfold CI at h ⊢
  split at h
  ·rename_i c
   rw [if_pos c];exact ih h
  ·rename_i c
   have c':((H.CI k).1.at_ k).state≠0:=by simpa using c
   rw [if_neg c]
   split at h
   ·rename_i c2
    rw [if_pos c2]
    refine⟨k,by omega,by omega,hn c',?_⟩
    show(AG.at_ (AG.leave _ _) k).state=0
    rw [Te _ (by omega) (by omega) (by omega) (by omega),if_pos rfl];rfl
   ·rename_i c2
    rw [if_neg c2]
    obtain⟨j,j0,j1,a,b⟩:=ih h
    refine⟨j,j0,j1,a,?_⟩
    show(AG.at_ (AG.set _ _ _) j).state=0
    rw [F1 _ (by omega) (by omega) j0]
    split
    ·rename_i e;subst e;exact absurd b c'
    ·exact b
end
end AG
end Go.Ing
/- Acts that are played: plain laws. -/
namespace Go.Ing
open Go
namespace AI
def Gp (t:AI):Nat:=if t.at_=2 then 2 else if t.at_=1 then 1 else 0
theorem YN (t:AI)(b:UInt8):(t.step b).2.2.length+(t.step b).1.Gp≤1+t.Gp:=by
 unfold step;dsimp only
 split
 ·rename_i c;have c':=of_decide_eq_true c
  have hp:t.Gp=0:=by unfold Gp;rw [if_neg (by omega),if_neg (by omega)]
  split
  ·exact Nat.le_add_right 1 _
  ·show 0+t.Gp≤1+t.Gp;omega
 ·split
  ·rename_i c;have c':=of_decide_eq_true c
   have hp:t.Gp=1:=by unfold Gp;rw [if_neg (by omega),if_pos c']
   rw [hp]
   split
   ·exact Nat.zero_le _
   ·split
    ·exact Nat.zero_le _
    ·split
     ·exact Nat.le_refl 2
     ·exact Nat.zero_le _
  ·split
   ·rename_i c;have c':=of_decide_eq_true c
    have hp:t.Gp=2:=by unfold Gp;rw [if_pos c']
    rw [hp]
    exact IU _ _ _
   ·split
    ·rename_i c;have c':=of_decide_eq_true c
     split
     ·exact Nat.zero_le _
     ·show 0+(t.collect b).Gp≤_
      have:(t.collect b).at_=t.at_:=by unfold collect;split<;>rfl
      unfold Gp;rw [this];rw [if_neg (by omega),if_neg (by omega)];omega
    ·split
     ·rename_i c;have c':=of_decide_eq_true c
      split
      ·show 0+(collect { t with at_:=3 } b).Gp≤_
       have:(collect { t with at_:=3 } b).at_=3:=by unfold collect;split<;>rfl
       unfold Gp;rw [this];rw [if_neg (by decide),if_neg (by decide)];omega
      ·split
       ·show 0+Gp { t.measure with at_:=0,sub:= [] }≤_;exact Nat.zero_le _
       ·exact Nat.zero_le _
     ·show 0+t.Gp≤_;omega
theorem Mo:∀(s:AL) (t:AI),(t.feed s).2.2.length≤s.length+t.Gp
 | [],t=>Nat.zero_le _
 | b :: s,t=>by
  have h1:=YN t b
  have h2:=Mo s (t.step b).1
  show((t.step b).2.2++((t.step b).1.feed s).2.2).length≤s.length+1+t.Gp
  rw [List.length_append];omega
theorem Wl (t:AI):t.Gp≤2:=by unfold Gp;split;exact Nat.le_refl 2;split<;>decide
theorem FL.yb {X t:AI}{u x y:AL}{k:Int}(h:FL X u k t x y):y.length≤u.length+2:=by
 have h1:=Mo u X
 have h2:=Wl X
 rw [h.e3,List.length_append] at h1
 omega
theorem QN (t:AI)(u:AL):(t.CM u).2.2.1.length≤u.length+2:=by
 unfold CM
 split
 ·exact Nat.zero_le _
 ·have h1:=Mo u t
  have h2:=Wl t
  show(t.feed u).2.2.length≤_
  omega
end AI
namespace AG
section
variable {H:AG}
theorem JE.tell (h:H.JE){k:Int}(h0:0≤k)(h1:k < 4)(u:AL):(H.tell k u).JE:=h.set h0 h1 ((h k h0 h1).tell u)
theorem JE.BJ (h:H.JE):H.BJ.JE:=h.steps (U:=fun _=>True) (Vy H)
theorem JE.Dz (h:H.JE){k:Int}(h0:0≤k)(h1:k < 4):(H.Dz k).JE:=by
 rcases V8 (U:=fun _=>True) H h0 h1 (fun _ _=>trivial) with ⟨_,e⟩ | ⟨q,r,_,e,s⟩
 ·rw [e];exact h
 ·exact JE.steps (h.set h0 h1 ((h k h0 h1).next e)) s
theorem JE.turns (h:H.JE):∀ k:Nat,k≤4→(H.turns k).JE
 | 0,_=>h
 | k+1,hk=>(JE.turns h k (by omega)).Dz (by omega) (by omega)
theorem JE.begun (h:H.JE):H.begun.JE:=fun k h0 h1=>by rw [TB h0 h1];exact(h k h0 h1).heard
theorem JE.Eb (h:H.JE)(a:Ba):(H.Eb a).1.JE:=
 LK (fun X=>X.JE) h (fun d=>((h.turns 4 (Nat.le_refl 4)).steps (U:=fun _=>True) (Uf _ d)).BJ)
  (fun k h0 h1=>((h.set h0 h1 (((show({ (default:Ao) with state:=1,AV:=-1 }:Ao).Ok from⟨⟨show(0:Int)≤1 by decide,show(1:Int)≤2 by decide⟩,Ao.Ht.n,Ao.Ht.ring,Ao.Ht.s0,Ao.Ht.s1,Ao.Ht.ln⟩).offer 3).offer 31)).tell h0 h1 CT).BJ)
  (fun k u h0 h1=>by
   rw [L2]
   refine JE.BJ ?_
   have hs:=h.set h0 h1 ((h k h0 h1).typed u)
   split
   ·exact hs.tell h0 h1 TK
   ·exact hs)
  (fun k z h0 h1=>(h.set h0 h1 ((h k h0 h1).Jb z)).BJ) (fun k h0 h1=>(h.steps (U:=fun _=>True) (KT H h0 h1)).BJ) a
theorem JE.act (h:H.JE)(a:Ba):(H.act a).1.JE:=by
 unfold AG.act
 split
 ·exact h
 ·exact h.begun.Eb a
end
structure Live (H:AG):Prop where
 fit:H.Fit 1000 1000
 Bg:0≤H.Bg
 iS:H.JE
theorem Live.fits {H:AG}(h:H.Live):H.Fits:=⟨_,_,h.fit⟩
theorem cm:AG.new.JE:=fun k h0 h1=>by rw [Z0 h0 h1];exact Ao.Ht
theorem Tt:AG.new.Live:=⟨ck.mono (by decide) (by decide),Int.le_refl 0,cm⟩
section
variable {H X:AG}
theorem Ox (e:Event)(H:AG):∀ k:Nat,(CE e H k).Bg=H.Bg
 | 0=>rfl
 | k+1=>by
  have ih:=Ox e H k
  rw [CE.eq_2]
  split
  ·exact ih
  ·split<;>exact ih
theorem Oz:∀(es:List Event) (H:AG),(H.Io es).Bg=H.Bg
 | [],_=>rfl
 | e :: r,H=>(Oz r _).trans (Ox e H 4)
theorem Kl (H:AG)(es:List Event):(H.Fi es).Bg=H.Bg:=Oz es _
theorem LZ (H:AG)(k:Int):(H.leave k).Bg=H.Bg:=by
 unfold AG.leave
 split
 ·exact Kl _ _
 ·rfl
theorem LS (H:AG):∀ k:Nat,(H.CI k).1.Bg=H.Bg
 | 0=>rfl
 | k+1=>by
  have ih:=LS H k
  unfold CI
  split
  ·exact ih
  ·split
   ·exact(LZ _ _).trans ih
   ·exact ih
theorem Oh:∀(n:Nat) (H:AG),(H.HN n).Bg=H.Bg
 | 0,_=>rfl
 | n+1,H=>by
  unfold HN
  split
  ·exact LS H 4
  ·exact(Oh n _).trans (LS H 4)
theorem Ij (H:AG):H.BJ.Bg=H.Bg:=Oh 5 H
theorem V7 (H:AG)(k:Int):(H.Dz k).Bg=H.Bg:=by
 unfold AG.Dz
 split
 ·rfl
 ·split
  ·rfl
  ·dsimp only
   split
   ·rfl
   ·split
    ·unfold AG.named
     split
     ·exact Kl _ _
     ·split<;>rfl
    ·unfold AG.order
     split
     ·rfl
     ·split
      ·exact LZ _ _
      ·exact Kl _ _
theorem Pq (H:AG):∀ k:Nat,(H.turns k).Bg=H.Bg
 | 0=>rfl
 | k+1=>(V7 _ _).trans (Pq H k)
theorem XG (X:AG)(a:Ba):(X.Eb a).1.Bg=X.Bg:=
 LK (fun Y=>Y.Bg=X.Bg) rfl (fun d=>(Ij _).trans ((Kl _ _).trans (Pq X 4))) (fun k _ _=>Ij _) (fun k u _ _=>by rw [L2,Ij];split<;>rfl) (fun k z _ _=>Ij _) (fun k _ _=>(Ij _).trans (LZ _ _)) a
theorem VF (H:AG):H.begun.Bg=H.Bg+1:=(Jd (H:={ H with Bg:=H.Bg+1,last:= [] }) 4).2.2
theorem S1 (H:AG)(a:Ba):(H.act a).1.Bg=if 400≤H.Bg then H.Bg else H.Bg+1:=by
 unfold AG.act
 by_cases c:400≤H.Bg
 ·rw [if_pos (decide_eq_true c),if_pos c]
 ·rw [if_neg (fun e=>c (of_decide_eq_true e)),if_neg c]
  exact(XG _ _).trans (VF H)
theorem Live.act (h:H.Live)(a:Ba):(H.act a).1.Live:=⟨by
 unfold AG.act
 split
 ·exact h.fit
 ·exact(h.fit.begun).Eb a,by rw [S1];have:=h.Bg;split<;>omega,h.iS.act a⟩
theorem Live.run:∀(l:List Ba) {H:AG},H.Live→(H.run l).1.Live
 | [],_,h=>h
 | a :: r,_,h=>Live.run r (h.act a)
theorem UI:∀(l:List Ba) {H:AG},H.Bg+l.length≤400→(H.run l).1.Bg=H.Bg+l.length
 | [],H,_=>by show H.Bg=_;simp
 | a :: r,H,h=>by
  rw [List.length_cons] at h
  have h1:(H.act a).1.Bg=H.Bg+1:=by rw [S1,if_neg (by omega)]
  have:=UI r (H:=(H.act a).1) (by rw [h1];omega)
  show((H.act a).1.run r).1.Bg=_
  rw [this,h1,List.length_cons];omega
end
theorem UL {xs:List Ba}{k:Int}(h0:0≤k)(h1:k < xs.length)(H:AG):(H.run (xs.take (k+1).toNat)).1=((H.run (xs.take k.toNat)).1.act (xs.getD k.toNat default)).1:=by rw [UN h0 h1]
/-! #### does a house answer at all? -/
theorem Live.told {V:AE}{ls:Vector Af 4}{ev:List Event}(h:(AO V ls ev).Live){k:Int}(h0:0≤k)(h1:k < 4):(ls.at k).told.length≤1000000:=by
 have:=h.fit.told k h0 h1
 rw [B2 _ _ _ h0 h1] at this
 exact Nat.le_trans this (by decide)
theorem Live.wait {V:AE}{ls:Vector Af 4}{ev:List Event}(h:(AO V ls ev).Live){k:Int}(h0:0≤k)(h1:k < 4):(ls.at k).wait.length≤1000000:=by
 have:=(h.iS k h0 h1).n
 rw [B2 _ _ _ h0 h1] at this
 exact Nat.le_trans this (by decide)
theorem Live.queue {V:AE}{ls:Vector Af 4}{ev:List Event}(h:(AO V ls ev).Live){k:Int}(h0:0≤k)(h1:k < 4):(ls.at k).queue.length≤1000000:=by
 have:=(h.iS k h0 h1).ln.len
 rw [B2 _ _ _ h0 h1] at this
 exact Nat.le_trans this (by decide)
theorem Live.last {V:AE}{ls:Vector Af 4}{ev:List Event}(h:(AO V ls ev).Live):ev.length≤1000000:=Nat.le_trans h.fit.last (by decide)
/-! #### do two houses stand alike? -/
def fE (s t:Ao):Bool:=decide (s.wait=t.wait) && decide (s.pg.shown=t.pg.shown) && (s.pg.BS == t.pg.BS) && decide (s.pg.ring=t.pg.ring) && (s.pg.cut == t.pg.cut)
def fD (s t:Ao):Bool:=decide (s.now=t.now) && (s.long == t.long) && (s.ret == t.ret) && decide (s.queue=t.queue)
def sameAt (H K:AG)(k:Int):Bool:=!(!decide ((H.OA k).1=(K.OA k).1) || !decide ((H.OA k).2=(K.OA k).2) || !fE (H.at_ k) (K.at_ k) || !fD (H.at_ k) (K.at_ k))
def same (H K:AG):Bool:=A2 4 (sameAt H K) 4 && decide (H.w=K.w)
end AG
end Go.Ing
/- An act that is refused, and acts behind the last: plain laws. -/
namespace Go.Ing
open Go
theorem Wm {α:Type}(a b c:α) : [a,b,c].Perm [c,b,a]:=List.reverse_perm [c,b,a]
namespace AG
def zero:Ba:=⟨0,0,0,[]⟩
end AG
end Go.Ing
/- The replies to acts: plain laws. -/
namespace Go.Ing
open Go
namespace AG
theorem Q2 {xs:List Ba}{k:Int}(h0:0≤k)(h1:k < xs.length)(H:AG):(H.run (xs.take (k+1).toNat)).2=(H.run (xs.take k.toNat)).2 ++ [((H.run (xs.take k.toNat)).1.act (xs.getD k.toNat default)).2]:=by rw [UN h0 h1]
end AG
end Go.Ing
/- The document's house: plain laws for the walks. -/
namespace Go.Ing
open Go
theorem AA.ZT {X:AD}{b:Int}{o:Order}(h:(X.AF.at b).here=false):(AA.Dk X b o).1=X∧(AA.Dk X b o).2.1 = []:=by
 unfold AA.Dk
 split
 ·exact⟨rfl,rfl⟩
 ·rw [if_pos (by rw [h];simp)]
  exact⟨rfl,rfl⟩
namespace AG
variable {H X:AG}
theorem Xd (H:AG){k:Int}(h0:0≤k)(h1:k < 4)(c:(H.at_ k).state=2):H.leave k=H.Nq k (AA.Dk H.w (H.at_ k).AV DL).1 default (AA.Dk H.w (H.at_ k).AV DL).2.1:=by
 unfold AG.leave
 by_cases hh:(H.w.AF.at (H.at_ k).AV).here=true
 ·rw [if_pos (by rw [c,hh];rfl)]
  have a:=Sa H h0 h1 (AA.Dk H.w (H.at_ k).AV DL).1 default (AA.Dk H.w (H.at_ k).AV DL).2.1 h0 h1
  rw [if_pos rfl,O1] at a
  have s:=I1 (H.Nq k (AA.Dk H.w (H.at_ k).AV DL).1 default (AA.Dk H.w (H.at_ k).AV DL).2.1) h0 h1
  rw [a] at s
  exact s
 ·rw [if_neg (by rw [c];simpa using hh)]
  have g:=AA.ZT (X:=H.w) (b:=(H.at_ k).AV) (o:=DL) (by simpa using hh)
  rw [g.1,g.2]
  unfold AG.Nq AG.Fi
  exact ei rfl (fun _ _ _=>rfl) rfl (List.append_nil _).symm
theorem Xc (H:AG){k:Int}(c:(H.at_ k).state≠2):H.leave k=H.set k default:=by
 unfold AG.leave
 rw [if_neg (by rw [decide_eq_false c];simp)]
structure LJ (H X:AG)(n m:Nat)(again:Bool)(q:Nat):Prop where
 q5:q≤5
 fit:X.Fit (n+44 * q) (m+44 * q)
 on:again=true→X.HL+q < 5∧H.BJ=X.HN (5 - q)
 off:again=false→H.BJ=X
theorem eZ (H:AG):H.HL≤4:=by
 have h:∀ k,H.busy k≤1:=fun k=>by unfold busy;split<;>decide
 have a:=h 0;have b:=h 1;have c:=h 2;have d:=h 3
 unfold HL;omega
theorem LJ.start {n m:Nat}(h:H.Fit n m):LJ H H n m true 0:=⟨by decide,h,fun _=>⟨by have:=eZ H;omega,rfl⟩,fun e=>by cases e⟩
theorem LJ.step {n m q:Nat}(h:LJ H X n m true q){Y:AG}{c:Bool}(e:(Y,c)=X.CI 4):LJ H Y n m c (q+1)∧(c=true→Y.HL < X.HL):=by
 have h1:=h.on rfl
 have hf:=Kh h.fit 4 (Nat.le_refl 4)
 have hc:=Qg X 4 (Nat.le_refl 4)
 have hb:=cB (H:=X) (X:=(X.CI 4).1) (fun j j0 j1 hs=>LU X 4 (Nat.le_refl 4) j j0 j1 hs)
 rw [← e] at hf hc hb
 have hy:c=true→Y.HL < X.HL:=fun ec=>by
  obtain⟨j,j0,j1,a,b⟩:=hc ec
  exact hb.2 j j0 j1 a b
 refine⟨⟨by omega,hf.mono (by omega) (by omega),fun ec=>⟨by have:=hy ec;omega,?_⟩,fun ec=>?_⟩,hy⟩
 ·rw [h1.2,show 5 - q=(5 - (q+1))+1 by omega,HN,← e,ec];rfl
 ·rw [h1.2,show 5 - q=(5 - (q+1))+1 by omega,HN,← e,ec];rfl
def N9 (X:AG)(again:Bool):Nat:=if again=true then X.HL+1 else 0
theorem Vu {Y:AG}{c:Bool}(h:c=true→Y.HL < X.HL):N9 Y c < N9 X true:=by
 unfold N9
 rw [if_pos rfl]
 split
 ·rename_i e;have:=h e;omega
 ·omega
end AG
section
variable {V V4:AE} {ls ls4:Vector Af 4} {ev ev4:List Event} {k:Int} {sv:A4} {sl:Af}
theorem Zf (h0:0≤k)(h1:k < 4)(hs:V.AQ.at k=sv)(c:decide (sv.state=2)=true)
  (e:AO V4 ls4 ev4=(AO { V.AY k default with w:=(AA.Dk V.w sv.AV AG.DL).1 } (ls.put k ⟨[],[],[]⟩) ev).Fi (AA.Dk V.w sv.AV AG.DL).2.1):AO V4 ls4 ev4=(AO V ls ev).leave k:=by
 have ha:=B2 V ls ev h0 h1
 subst hs
 rw [AG.Xd (AO V ls ev) h0 h1 (by rw [ha];exact of_decide_eq_true c),e,JJ,FD h0 h1,ha]
 rfl
theorem eo (h0:0≤k)(h1:k < 4)(hs:V.AQ.at k=sv)(c:decide (sv.state=2)=false):AO (V.AY k default) (ls.put k ⟨[],[],[]⟩) ev=(AO V ls ev).leave k:=by
 have ha:=B2 V ls ev h0 h1
 subst hs
 rw [AG.Xc (AO V ls ev) (by rw [ha];exact of_decide_eq_false c),FD h0 h1]
theorem TP (h0:0≤k)(h1:k < 4){n m:Nat}{w:AD}(h:(AO V ls ev).Fit n m)(hw:w.Mf):(AO { V.AY k default with w:=w } (ls.put k ⟨[],[],[]⟩) ev).Fit n m:=by
 rw [JJ,FD h0 h1]
 exact(h.free h0 h1).land hw
theorem SW (hs:V.AQ.at k=sv){b:Bool}(c:(decide (sv.state=0) || b)=false):decide ((V.AQ.at k).state=0)=false:=by
 rw [Bool.or_eq_false_iff] at c
 rw [hs];exact c.1
theorem YS (hl:sv.Ay.queue.len=sl.queue.length){b:Bool}(c:(b || decide ((sv.Ay.queue.len:Int)=0))=false):sl.queue≠ []:=by
 rw [Bool.or_eq_false_iff,decide_eq_false_iff_not,hl] at c
 intro e
 rw [e] at c
 exact c.2 rfl
theorem YR (h0:0≤k)(h1:k < 4)(hs:V.AQ.at k=sv)(hl:ls.at k=sl)(hq:sv.Ay.queue.len=sl.queue.length)(c:(decide (sv.state=0) || decide ((sv.Ay.queue.len:Int)=0))=true):AO (V.AY k sv) (ls.put k ⟨sl.queue,sl.wait,sl.told⟩) ev=(AO V ls ev).Dz k:=by
 by_cases d:decide ((V.AQ.at k).state=0)=true
 ·rw [B3 h0 h1 hs hl (f:=fun x=>x) rfl,AG.I1 _ h0 h1]
  exact RC h0 h1 d
 ·have d':decide ((V.AQ.at k).state=0)=false:=by simpa using d
  refine RD h0 h1 hs hl ?_ d'
  rw [Bool.or_eq_true] at c
  rcases c with c | c
  ·rw [hs,c] at d';cases d'
  ·rw [decide_eq_true_eq,hq] at c
   exact List.length_eq_zero_iff.1 (by omega)
end
theorem cr {V:AE}{ls:Vector Af 4}{ev:List Event}{k:Int}{sv:A4}(h0:0≤k)(h1:k < 4)(h:(AO V ls ev).JE)(hs:V.AQ.at k=sv):sv.Ay.now.length≤9223372036854775807:=by
 have a:=(h k h0 h1).ln.now
 rw [B2 V ls ev h0 h1,hs] at a
 exact Nat.le_trans ((Aa.Di _).1 a).1 (by decide)
theorem Words.Qv (s:AL):-9223372036854775808≤(Words.parse s).1.nth∧(Words.parse s).1.nth≤9223372036854775807:=by
 have h:=Words.Vj s
 by_cases c:(Words.parse s).2=0
 ·have a:=(h.1 c).n0
  have b:=(h.1 c).n1
  omega
 ·rw [h.2 c]
  exact⟨by decide,by decide⟩
namespace AG
def D3 (X:AG)(a:Ba):AG × CC:=
 if (decide (a.kind < 1) || decide (5 < a.kind))=true then(X,⟨5,[]⟩)
 else if decide (a.kind=5)=true then(X.PV a.n,ok)
 else if (decide (a.AY < 0) || decide (3 < a.AY))=true then(X,⟨2,[]⟩)
 else if ((decide (a.kind=1) && !decide ((X.at_ a.AY).state=0)) || (!decide (a.kind=1) && decide ((X.at_ a.AY).state=0)))=true then(X,⟨3,[]⟩)
 else if decide (a.kind=1)=true then(X.P7 a.AY,ok)
 else if decide (a.kind=2)=true then(X.byte a.AY a.bytes,ok)
 else if decide (a.kind=3)=true then((X.set a.AY ((X.at_ a.AY).Jb a.n)).BJ,⟨0,(X.at_ a.AY).out a.n⟩)
 else((X.leave a.AY).BJ,ok)
theorem ZD (X:AG)(a:Ba):D3 X a=X.Eb a:=by
 unfold D3 Eb
 have e1:(decide (4≤a.AY))=decide (3 < a.AY):=decide_eq_decide.2 (by omega)
 have e2:((decide (a.kind=1) && !decide ((X.at_ a.AY).state=0)) || (!decide (a.kind=1) && decide ((X.at_ a.AY).state=0)))=(decide ((X.at_ a.AY).state=0) != decide (a.kind=1)):=by
  cases decide (a.kind=1)<;>cases decide ((X.at_ a.AY).state=0)<;>rfl
 rw [e1,e2]
 by_cases c5:a.kind=5
 ·rw [if_neg (by simp;omega)]
  rw [if_pos (decide_eq_true c5),if_pos (decide_eq_true c5)]
 ·rw [if_neg (c:=decide (a.kind=5)=true) (by simpa using c5),if_neg (c:=decide (a.kind=5)=true) (by simpa using c5)]
theorem FM {H:AG}(c:H.Bg < 400)(a:Ba):H.act a=D3 H.begun a:=(Ft (decide_eq_false (by omega)) a).trans (ZD _ a).symm
/-! #### the replies -/
def fC (l:List Ba):Int:=if 400 < l.length then 4 else 0
def aE (l:List Ba):List CC:=if 400 < l.length then [] else(AG.new.run l).2
theorem Wt {l:List Ba}(h:l.length≤400):fC l=0:=if_neg (by omega)
theorem SR {l:List Ba}(h:l.length≤400):aE l=(AG.new.run l).2:=if_neg (by omega)
theorem Wq {l:List Ba}(h:400 < l.length):fC l=4:=if_pos h
theorem SQ {l:List Ba}(h:400 < l.length):aE l = []:=if_pos h
theorem UH {l:List Ba}(h:l.length≤400):(aE l).length=l.length:=by rw [SR h,SS]
theorem aC {xs:List Ba}{k:Int}(h0:0≤k)(h1:k < xs.length)(H:AG):(H.run xs).2.getD k.toNat default=((H.run (xs.take k.toNat)).1.act (xs.getD k.toNat default)).2:=by
 have e:=Q2 h0 h1 H
 have hl:(H.run (xs.take k.toNat)).2.length=k.toNat:=by rw [SS,List.length_take];omega
 rw [UO (k+1).toNat] at e
 have g:((H.run xs).2.take (k+1).toNat).getD k.toNat default=(H.run xs).2.getD k.toNat default:=by
  rw [List.getD_eq_getElem?_getD,List.getD_eq_getElem?_getD,List.getElem?_take,if_pos (by omega)]
 rw [← g,e,List.getD_eq_getElem?_getD,List.getElem?_append_right (by omega),hl,Nat.sub_self]
 rfl
theorem bu {xs:List Ba}{k:Int}(h0:0≤k)(h1:k≤xs.length)(h4:k≤400):(AG.new.run (xs.take k.toNat)).1.Bg=k:=by
 have hl:(xs.take k.toNat).length=k.toNat:=by rw [List.length_take];omega
 rw [UI _ (by show(0:Int)+_≤400;rw [hl];omega),hl]
 show(0:Int)+_=_
 omega
end AG
end Go.Ing
/- Houses from outside, at any place: plain laws for the walks. -/
namespace Go.Ing
open Go
section
variable {V W:AE} {ls ms:Vector Af 4} {ev fv:List Event} {i:Int}
end
section
variable {w0:World} {M:List Nat} {L:List AJ} {T:Nat} {V:AE} {ls:Vector Af 4} {i:Int}
end
end Go.Ing
/- Engine: how many acts a slice that came in can hold. -/
namespace Go.Ing
open Go Go.RowKit Go.ChangeShapes Go.WideShapes Go.ChangeAt
theorem ZE {H:Type}{enc:TypeId × Value→H}{P:Program}{w:World}{t E:TypeId}{h:Hd}{d:DataW H}{p:List MemPlace}(hT:P.underlying t=some (.slice E))
  (hd:DataW.Trod enc P w 0 (fun _=>true) true t h.val d p) (hw:∀ n∈d.weights P t,n≤reachBytes):h.len * P.bytesOf E≤reachBytes:=by
 obtain⟨fuel,hfu⟩:=hd
 have hcs:h.val.cells.toList = [.slice h.a h.len h.cap]:=rfl
 rw [hcs] at hfu
 rcases DataW.trod_slice hT hfu with ⟨h3,_⟩ | ⟨a',len,cap,elems,rest,m,_,h3,h4,_,hlc,_,h5,hel,_⟩
 ·simp at h3
  rw [h3.2.1];simp
 ·simp at h3
  obtain⟨_,rfl,rfl⟩:=h3
  have hd':d = .slice (elems.map (·.1)) (rest.map (·.1)):=congrArg Prod.fst h4
  have:=hw ((elems.length+rest.length) * P.bytesOf E) (by rw [hd'];simp [DataW.weights,hT])
  refine Nat.le_trans (Nat.mul_le_mul_right _ ?_) this
  omega
end Go.Ing

/- What the functions that the law of this seat reaches compute, and the plain laws of it. No condition. -/
import Derived.Test.YtoidpggbbfncpaaGreatDoorTopFarEc3
import Derived.Test.YtoidpggbbfncpaaGreatDoorTopFarRa1
import Derived.Test.YtoidpggbbfncpaaGreatDoorTopFarRb1
set_option linter.unusedSimpArgs false
set_option linter.unusedVariables false
/- Who is far perceives nothing: plain laws. -/
namespace Go.Ing
open Go
namespace AH
theorem HP (w:AH)(e:Event):∀ n:Nat,(w.G0 e n).kind=e.kind∧(w.G0 e n).CU=e.CU∧(w.G0 e n).room=e.room∧(w.G0 e n).other=e.other∧(w.G0 e n).n=e.n∧(w.G0 e n).Hq=e.Hq∧(w.G0 e n).EO=e.EO∧(w.G0 e n).Bs=e.Bs∧(w.G0 e n).text=e.text
 | 0=>⟨rfl,rfl,rfl,rfl,rfl,rfl,rfl,rfl,rfl⟩
 | k+1=>HP w e k
theorem O0 {w:AH}{b:Int}{e f:Event}(h1:f.kind=e.kind)(h2:f.CU=e.CU)(h3:f.room=e.room)(h4:f.other=e.other):w.B4 b f=w.B4 b e:=by
 unfold B4 TB
 rw [h1,h2,h3,h4]
theorem Uv (w:AH)(e:Event):∀ n:Nat,n≤6→∀ c:Int,0≤c→c < n→(w.G0 e n).GZ.at c=w.B4 c e
 | 0,_,c,h0,h1=>by omega
 | k+1,hn,c,h0,h1=>by
  obtain⟨a1,a2,a3,a4,_⟩:=HP w e k
  show((w.G0 e k).GZ.put (k:Int) (w.B4 k (w.G0 e k))).at c=_
  rw [HX _ _ _ _ (by omega) (by omega) h0]
  split
  ·rename_i e1
   subst e1
   exact O0 a1 a2 a3 a4
  ·exact Uv w e k (by omega) c h0 (by omega)
theorem Ph {w:AH}{c:Int}{e:Event}(h:w.B4 c e≠0)(hn:c≠e.CU):e.kind≠16∧(w.AL.at c).room=e.room:=by
 rcases NH w c e with h' | ⟨_,⟨h',_⟩ | ⟨_,h1,h2,_⟩⟩
 ·exact absurd h' h
 ·exact absurd h' hn
 ·exact⟨h1,h2⟩
end AH
namespace AE
section
variable {b c rc:Int} {S:Int→Prop} {T:AE}
section
variable (c0:0≤c) (c6:c < 6) (hn:c≠b)
include c0 c6 hn
end
end
end AE
end Go.Ing
/- What others are told is not empty: plain laws. -/
namespace Go.Ing
open Go
namespace AH
end AH
theorem MJ {α:Type}{d:α}{xs:List α}{i:Nat}(h:i < xs.length):xs.getD i d∈xs:=by
 rw [List.getD_eq_getElem?_getD,List.getElem?_eq_getElem h]
 exact List.getElem_mem h
namespace AE
theorem Mz:∀(l:List Int) (T:AE),(T.DG l).out.length=T.out.length+l.length
 | [],T=>rfl
 | i :: r,T=>by rw [DG,Mz r,Fc];show T.out.length+1+r.length=_;rw [List.length_cons];omega
theorem PF (v to:Int):∀(l:List Int) (T:AE),(T.Ek v to l).out.length≤T.out.length+l.length
 | [],T=>Nat.le_refl _
 | i :: r,T=>by
  have h1:=PF v to r (T.Cu v to i)
  have h2:=T.Ov v to i
  rw [Ek,List.length_cons];omega
theorem SG (T:AE){l:List Int}(hl:l.length≤9)(o:Order):(T.KW l o).out.length≤T.out.length+10:=by
 have h:=(EU T.w l o.nth o.name o.Bj).length_le
 unfold KW
 rw [Mz]
 split
 ·rw [CI];omega
 ·omega
theorem Y7 (T:AE)(o:Order):(T.get o).out.length≤T.out.length+11:=by
 have hb:=T.H9 o.second
 unfold get
 split
 ·split
  ·omega
  ·have:=SG (T.box o.second).1 (AH.II (T.box o.second).1.w 2 (T.box o.second).2.1) o
   omega
 ·have:=SG T T.Ii o
  omega
theorem VL (T:AE)(o:Order):(T.FD o).out.length≤T.out.length+11:=by
 have hb:=T.P0 o
 unfold FD
 split
 ·omega
 ·unfold Rx
  have h:=(EU (T.Cv o).1.w (T.Cv o).1.own o.nth o.name o.Bj).length_le
  have h9:=(T.Cv o).1.KG
  refine Nat.le_trans (PF _ _ _ _) ?_
  split
  ·rw [CI];omega
  ·omega
theorem WC (T:AE)(o:Order):(T.E6 o).out.length≤T.out.length+2:=by
 unfold E6
 generalize (if (!decide (o.nth=1) || o.Bj)=true then [] else o.name)=nm
 have hs:=T.HJ nm
 split
 ·omega
 ·refine Nat.le_trans (Nat.le_of_eq (CI _ _)) ?_
  split
  ·show(T.A6 nm).1.out.length+1≤_;omega
  ·show(T.A6 nm).1.out.length+1≤_;omega
theorem OB (T:AE)(first:Bool)(i:Int)(v:Bool)(k:Int):(T.before first i v k).out.length=T.out.length+1:=by
 unfold before
 split
 ·rw [Fc];rfl
 ·exact Fc T k i
theorem Yy (T:AE)(o:Order):(T.set o).out.length≤T.out.length+1:=by
 unfold set
 split
 ·unfold Gy
  split
  ·rw [CI];exact Nat.le_refl _
  ·split
   ·rw [CI];exact Nat.le_refl _
   ·refine Nat.le_trans (Nat.le_of_eq (Cf _ _)) ?_
    split<;>exact Nat.le_refl _
 ·split
  ·rw [CI];exact Nat.le_refl _
  ·split
   ·rw [CI];exact Nat.le_refl _
   ·split
    ·exact Nat.le_of_eq (OB T _ _ _ _)
    ·exact Nat.le_of_eq (OB T _ _ _ _)
theorem Xx (T:AE)(d:Int):(T.walk d).out.length≤T.out.length+11:=by
 unfold walk
 split
 ·rw [CI];omega
 ·split
  ·rw [CI];omega
  ·refine Nat.le_trans (Jw _).2.2 ?_
   rw [Cf]
   show(T.out ++ [_]).length+1+9≤_
   simp
theorem Ug (T:AE)(o:Order):(T.act o).out.length≤T.out.length+11:=by
 unfold act
 split
 ·exact T.Xx _
 ·split
  ·exact Nat.le_trans (T.Jw).2.2 (by omega)
  ·split
   ·rw [(T.HY _ _).2.2];omega
   ·split
    ·rw [Cf];omega
    ·split
     ·rw [(T.Ob).2.1,L0];omega
     ·split
      ·exact Nat.le_trans (T.WC o) (by omega)
      ·split
       ·exact T.Y7 o
       ·split
        ·exact T.VL o
        ·exact Nat.le_trans (T.Yy o) (by omega)
theorem Wx.len {X:AH}{b:Int}{o:Order}(h:Wx X b o):(EC X b o).2.1.length≤11:=by rw [h.out];exact Ug ⟨X,b,[]⟩ o
end AE
end Go.Ing
/- A round of all fights: plain functions and laws. -/
namespace Go.Ing
open Go
theorem Cx (d:Int):-2≤d.tmod 3∧d.tmod 3≤2:=by
 have h1:=Int.tmod_lt_of_pos d (show(0:Int) < 3 by decide)
 have h2:=Int.tmod_lt_of_pos (-d) (show(0:Int) < 3 by decide)
 rw [Int.neg_tmod] at h2
 omega
namespace AE
def FM (w:AH)(b:Int):AE:=⟨w.Cw b { w.AL.at b with BH:=1 },b,[]⟩
def F1 (w:AH)(b:Int):AE:=((FM w b).kind 15).FB
def I3 (w:AH)(b:Int):AE:=(F1 w b).DV b { (F1 w b).w.AL.at b with room:=0,BH:=10 }
def Hw (w:AH)(b:Int):AE:=if decide (b < 2)=true then(F1 w b).DV b default else((I3 w b).kind 17).look
def L8 (draw b:Int):Int:=1+(draw.tmod 3+3+b).tmod 3
def CC (w:AH)(b B1 n:Int):AE:=(AE.BO ⟨w,b,[]⟩ { F0 14 with other:=B1,n:=n }).DV B1 { w.AL.at B1 with BH:=max 0 ((w.AL.at B1).BH - n) }
def EG (draw b:Int)(s:AH × List Event):AH × List Event:=
 if (!(s.1.AL.at b).here || decide ((s.1.AL.at b).B1=0))=true then s
 else if (!(s.1.AL.at ((s.1.AL.at b).B1 - 1)).here || !decide ((s.1.AL.at ((s.1.AL.at b).B1 - 1)).room=(s.1.AL.at b).room))=true then(s.1.Cw b { s.1.AL.at b with B1:=0 },s.2)
 else if decide (((CC s.1 b ((s.1.AL.at b).B1 - 1) (L8 draw b)).w.AL.at ((s.1.AL.at b).B1 - 1)).BH=0)=true then((Hw (CC s.1 b ((s.1.AL.at b).B1 - 1) (L8 draw b)).w ((s.1.AL.at b).B1 - 1)).w,(s.2++(CC s.1 b ((s.1.AL.at b).B1 - 1) (L8 draw b)).out)++(Hw (CC s.1 b ((s.1.AL.at b).B1 - 1) (L8 draw b)).w ((s.1.AL.at b).B1 - 1)).out)
 else((CC s.1 b ((s.1.AL.at b).B1 - 1) (L8 draw b)).w,s.2++(CC s.1 b ((s.1.AL.at b).B1 - 1) (L8 draw b)).out)
def DW (X:AH)(draw:Int):Nat→AH × List Event
 | 0=>(X,[])
 | k+1=>EG draw k (DW X draw k)
def CW (X:AH)(draw:Int):AH × List Event × Int:=if (!X.Bh)=true then(X,[],2) else((DW X draw 6).1,(DW X draw 6).2,0)
theorem H8 {X:AH}{draw k:Int}(h:0≤k):DW X draw (k+1).toNat=EG draw k (DW X draw k.toNat):=by
 obtain⟨m,rfl⟩:=Int.eq_ofNat_of_zero_le h
 rfl
theorem MC {draw b:Int}(h:0≤b):1≤L8 draw b∧L8 draw b≤3:=by
 unfold L8
 have:=Cx draw
 have h2:0≤draw.tmod 3+3+b:=by omega
 have h3:=Int.tmod_nonneg (a:=draw.tmod 3+3+b) 3 h2
 have h4:=Int.tmod_lt_of_pos (draw.tmod 3+3+b) (show(0:Int) < 3 by decide)
 omega
structure Yv (x:Aj):Prop where
 room:0≤x.room∧x.room < 6
 BH:0≤x.BH∧x.BH≤10
 B1:0≤x.B1∧x.B1≤6
 off:x.here=false→x.B1=0
 alive:x.here=decide (0 < x.BH)
theorem cR {x:Aj}(h:AH.Dk x=false):Yv x:=by
 simp only [AH.Dk,Bool.or_eq_false_iff,decide_eq_false_iff_not,Bool.and_eq_false_iff,Bool.not_eq_false',bne_eq_false_iff_eq] at h
 obtain⟨⟨⟨⟨⟨⟨⟨q1,q2⟩,q3⟩,q4⟩,q5⟩,q6⟩,q7⟩,q8⟩:=h
 refine⟨by omega,by omega,by omega,fun e=>?_,q8⟩
 rcases q7 with q | q
 ·rw [e] at q;cases q
 ·exact of_decide_eq_true q
theorem cr {x:Aj}(h:Yv x):AH.Dk x=false:=by
 have h1:=h.room;have h2:=h.BH;have h3:=h.B1
 simp only [AH.Dk,Bool.or_eq_false_iff,decide_eq_false_iff_not,Bool.and_eq_false_iff,Bool.not_eq_false',bne_eq_false_iff_eq]
 refine⟨⟨⟨⟨⟨⟨⟨by omega,by omega⟩,by omega⟩,by omega⟩,by omega⟩,by omega⟩,?_⟩,h.alive⟩
 cases hh:x.here with
 | true=>exact .inl rfl
 | false=>exact .inr (decide_eq_true (h.off hh))
theorem HI {X:AH}(h:X.Bh=true){b:Int}(h0:0≤b)(h6:b < 6):Yv (X.AL.at b):=cR (AH.FT h h0 h6)
theorem J0 {X:AH}(h:X.Bh=true){b:Int}(h0:0≤b)(h6:b < 6){x:Aj}(hx:Yv x)(hh:(X.AL.at b).here=true→x.here=true):(X.Cw b x).Bh=true:=
 AH.Iw h h0 h6 (cr hx) fun i i0 i9 e1 e2=>by
  rcases (AH.HU h i0 i9).Ca with ⟨a,_⟩ | ⟨_,_,a⟩ | ⟨a,_⟩
  ·omega
  ·rw [e2] at a;exact hh a
  ·omega
theorem WO (X:AH)(b:Int)(x y:Aj):(X.Cw b x).Cw b y=X.Cw b y:=by
 unfold AH.Cw
 show({ X with AL:=(X.AL.put b x).put b y }:AH)=_
 rw [Vector.Ej]
section
variable {w:AH} {b B1 n:Int} (hg:w.Bh=true) (hw:w.DL) (f0:0≤B1) (f6:B1 < 6) (hh:(w.AL.at B1).here=true)
include hg hw f0 f6 hh
theorem Kx:(FM (CC w b B1 n).w B1).Fit:=by
 have e:(CC w b B1 n).w.Cw B1 { (CC w b B1 n).w.AL.at B1 with BH:=1 }=w.Cw B1 { w.AL.at B1 with BH:=1 }:=by
  show(w.Cw B1 _).Cw B1 { (w.Cw B1 _).AL.at B1 with BH:=1 }=_
  rw [WO,AH.EK f0 f6]
 have k:=HI hg f0 f6
 refine⟨⟨f0,f6⟩,?_,?_,?_⟩
 ·show((CC w b B1 n).w.Cw B1 _).DL
  rw [e];exact Eh hw (hw.be B1)
 ·show((CC w b B1 n).w.Cw B1 _).Bh=true
  rw [e]
  exact J0 hg f0 f6 ⟨k.room,⟨show(0:Int)≤1 by decide,show(1:Int)≤10 by decide⟩,k.B1,k.off,by rw [show({ w.AL.at B1 with BH:=1 }:Aj).here=true from hh];rfl⟩ fun _=>hh
 ·show(((CC w b B1 n).w.Cw B1 _).AL.at B1).here=true
  rw [e,AH.EK f0 f6];exact hh
theorem R9 (hn:0 < (w.AL.at B1).BH - n)(h1:0≤n):(CC w b B1 n).w.Bh=true∧(CC w b B1 n).w.DL:=by
 have k:=HI hg f0 f6
 have hk:=k.BH
 refine⟨J0 hg f0 f6 ⟨k.room,⟨?_,?_⟩,k.B1,k.off,?_⟩ fun _=>hh,Eh hw (hw.be B1)⟩
 ·show 0≤max 0 ((w.AL.at B1).BH - n);omega
 ·show max 0 ((w.AL.at B1).BH - n)≤10;omega
 ·show(w.AL.at B1).here=decide (0 < max 0 ((w.AL.at B1).BH - n))
  rw [hh,decide_eq_true (by omega)]
end
theorem J3 (w:AH)(b:Int):(F1 w b).b=b∧(F1 w b).out=((FM w b).kind 15).out:=Qa ((FM w b).kind 15)
theorem Qy (w:AH)(b:Int):(I3 w b).b=b∧(I3 w b).out=((FM w b).kind 15).out∧(I3 w b).w=(F1 w b).w.Cw b { (F1 w b).w.AL.at b with room:=0,BH:=10 }:=by
 have h:=J3 w b
 unfold I3
 rw [(DD _ _ _).1,(DD _ _ _).2.1,(DD _ _ _).2.2]
 exact⟨h.1,h.2,rfl⟩
theorem Y5 (D:AH){b:Int}(hb:0≤b∧b < 6):({ D with AL:=(D.AL.put b { D.AL.at b with room:=0 }).put b { (D.AL.put b { D.AL.at b with room:=0 }).at b with BH:=10 } }:AH)=D.Cw b { D.AL.at b with room:=0,BH:=10 }:=by
 rw [Vector.CD hb.1 hb.2,Vector.Ej];rfl
theorem U9 {X F:AH}{b:Int}(h:F=((FM X b).kind 15).FB.w)(x:Aj):(F1 X b).DV b x=⟨F.Cw b x,b,((FM X b).kind 15).out⟩:=by
 subst h
 have e:=J3 X b
 have h1:=DD (F1 X b) b x
 cases hT:(F1 X b).DV b x with
 | mk w' b' o'=>
  rw [hT] at h1
  obtain⟨q1,q2,q3⟩:=h1
  simp only at q1 q2 q3
  rw [q1,q2,q3,e.1,e.2]
  rfl
theorem ZJ {X F:AH}{b:Int}(h:F=((FM X b).kind 15).FB.w):I3 X b=⟨F.Cw b { F.AL.at b with room:=0,BH:=10 },b,((FM X b).kind 15).out⟩:=by
 have h':(F1 X b).w=F:=h.symm
 unfold I3
 rw [h',U9 h]
theorem RV {w:AH}{b:Int}(h:(FM w b).Fit):DH (FM w b) (F1 w b)∧∀ j,0≤j→j < 9→¬ (((F1 w b).w.AO.at j).Ca=1∧((F1 w b).w.AO.at j).at_=b):=by
 have g1:DH (FM w b) ((FM w b).kind 15):=h.goes.Ee rfl rfl
 obtain⟨g2,k⟩:=QL g1.fit
 exact⟨g1.trans g2,k⟩
theorem Rw {w:AH}{b:Int}(h:(FM w b).Fit):(I3 w b).Fit:=by
 have g:=(RV h).1.fit
 have hb:0≤b∧b < 6:=h.b
 have e:=Qy w b
 have eb:=(J3 w b).1
 have gb:=g.b
 have gh:=g.here
 rw [eb] at gb gh
 have k:=HI g.gd hb.1 hb.2
 have gbr:=g.br
 have ggd:=g.gd
 obtain⟨e1,_,e3⟩:=e
 generalize hD:(F1 w b).w=D at *
 have hx:(D.Cw b { D.AL.at b with room:=0,BH:=10 }).Bh=true:=J0 ggd hb.1 hb.2 ⟨⟨Int.le_refl _,show(0:Int) < 6 by decide⟩,⟨show(0:Int)≤10 by decide,show(10:Int)≤10 by decide⟩,k.B1,k.off,gh⟩ fun _=>gh
 have hy:(D.Cw b { D.AL.at b with room:=0,BH:=10 }).DL:=Eh gbr (gbr.be b)
 have hz:((D.Cw b { D.AL.at b with room:=0,BH:=10 }).AL.at b).here=true:=by rw [AH.EK hb.1 hb.2];exact gh
 exact⟨by rw [e1];exact hb,by rw [e3];exact hy,by rw [e3];exact hx,by rw [e1,e3];exact hz⟩
theorem Pw {w:AH}{b:Int}(h:(FM w b).Fit):(Hw w b).w.Bh=true∧(Hw w b).w.DL∧(Hw w b).out.length≤12:=by
 have hb:0≤b∧b < 6:=h.b
 obtain⟨g,hk⟩:=RV h
 unfold Hw
 split
 ·rw [(DD _ _ _).2.1,(DD _ _ _).2.2]
  refine⟨AH.Iw (X:=(F1 w b).w) g.fit.gd hb.1 hb.2 (by decide) fun i i0 i9 e1 e2=>absurd ⟨e1,e2⟩ (hk i i0 i9),Eh (X:=(F1 w b).w) g.fit.br (by decide),?_⟩
  rw [(J3 w b).2,L0]
  exact(by decide:(0:Nat)+1≤12)
 ·have f:=Rw h
  have hl:=Jw ((I3 w b).kind 17)
  refine⟨by rw [hl.1];exact f.gd,by rw [hl.1];exact f.br,?_⟩
  have h2:=hl.2.2
  rw [L0,(Qy w b).2.1,L0] at h2
  exact Nat.le_trans h2 (by decide:(0:Nat)+1+1+9≤12)
theorem FZ {s:AH × List Event}{draw b:Int}(hg:s.1.Bh=true)(hw:s.1.DL)(h0:0≤b)(h6:b < 6):(EG draw b s).1.Bh=true∧(EG draw b s).1.DL∧(EG draw b s).2.length≤s.2.length+13:=by
 have kb:=HI hg h0 h6
 have hn:=MC (draw:=draw) h0
 unfold EG
 split
 ·exact⟨hg,hw,by omega⟩
 ·rename_i h1
  simp only [Bool.or_eq_true,Bool.not_eq_true',decide_eq_true_eq,not_or,Bool.not_eq_false] at h1
  have kf:=kb.B1
  split
  ·exact⟨J0 hg h0 h6 ⟨kb.room,kb.BH,⟨Int.le_refl _,show(0:Int)≤6 by decide⟩,fun _=>rfl,kb.alive⟩ fun h=>h,Eh hw (hw.be b),Nat.le_add_right _ _⟩
  ·rename_i h2
   simp only [Bool.or_eq_true,Bool.not_eq_true',decide_eq_false_iff_not,not_or,Bool.not_eq_false,Decidable.not_not] at h2
   have hf:=Kx (b:=b) (n:=L8 draw b) hg hw (B1:=(s.1.AL.at b).B1 - 1) (by omega) (by omega) h2.1
   have hso:(CC s.1 b ((s.1.AL.at b).B1 - 1) (L8 draw b)).out.length=1:=rfl
   split
   ·obtain⟨d1,d2,d3⟩:=Pw hf
    refine⟨d1,d2,?_⟩
    show((s.2++_)++_).length≤_
    rw [List.length_append,List.length_append,hso];omega
   ·rename_i h3
    have h3':¬ ((CC s.1 b ((s.1.AL.at b).B1 - 1) (L8 draw b)).w.AL.at ((s.1.AL.at b).B1 - 1)).BH=0:=fun e=>h3 (decide_eq_true e)
    have e:((CC s.1 b ((s.1.AL.at b).B1 - 1) (L8 draw b)).w.AL.at ((s.1.AL.at b).B1 - 1))={ s.1.AL.at ((s.1.AL.at b).B1 - 1) with BH:=max 0 ((s.1.AL.at ((s.1.AL.at b).B1 - 1)).BH - L8 draw b) }:=Vector.CD (by omega) (by omega)
    rw [e] at h3'
    have h3'':¬ max 0 ((s.1.AL.at ((s.1.AL.at b).B1 - 1)).BH - L8 draw b)=0:=h3'
    obtain⟨d1,d2⟩:=R9 (b:=b) (n:=L8 draw b) hg hw (B1:=(s.1.AL.at b).B1 - 1) (by omega) (by omega) h2.1 (by omega) (by omega)
    refine⟨d1,d2,?_⟩
    show(s.2++_).length≤_
    rw [List.length_append,hso];omega
end AE
end Go.Ing
/- What a round takes: plain laws. -/
namespace Go.Ing
open Go
namespace AE
def QA (v:Vector Int 6)(e:Event):Vector Int 6:=if decide (e.kind=14)=true then v.put e.other (v.at e.other+e.n) else v
def QY (v:Vector Bool 6)(e:Event):Vector Bool 6:=if decide (e.kind=15)=true then v.put e.CU true else v
def EF (l:List Event):Vector Int 6:=l.foldl QA (Vector.replicate 6 default)
def Fe (l:List Event):Vector Bool 6:=l.foldl QY (Vector.replicate 6 default)
theorem N6 (l:List Event)(e:Event):EF (l ++ [e])=QA (EF l) e:=by simp [EF]
theorem Og (l:List Event)(e:Event):Fe (l ++ [e])=QY (Fe l) e:=by simp [Fe]
def Quiet (q:List Event):Prop:=∀ e∈q,e.kind≠14∧e.kind≠15
theorem Oh:∀ {q:List Event} (v:Vector Int 6) (u:Vector Bool 6),Quiet q→q.foldl QA v=v∧q.foldl QY u=u
 | [],_,_,_=>⟨rfl,rfl⟩
 | e :: r,v,u,h=>by
  have he:=h e (List.mem_cons_self ..)
  have hr:Quiet r:=fun x hx=>h x (List.mem_cons_of_mem _ hx)
  rw [List.foldl_cons,List.foldl_cons,QA,if_neg (by simp [he.1]),QY,if_neg (by simp [he.2])]
  exact Oh v u hr
theorem SN {l q:List Event}(h:Quiet q):EF (l++q)=EF l∧Fe (l++q)=Fe l:=by
 unfold EF Fe
 rw [List.foldl_append,List.foldl_append]
 exact Oh _ _ h
theorem H5 (T:AE)(e:Event):∃ x:Event,(T.BO e).out=T.out ++ [x]∧x.kind=e.kind∧x.CU=T.b∧x.other=e.other∧x.n=e.n:=by
 obtain⟨a1,a2,_,a4,a5,_⟩:=AH.HP T.w (T.Dh e) 6
 have e2:(T.Dh e).kind=e.kind∧(T.Dh e).CU=T.b∧(T.Dh e).other=e.other∧(T.Dh e).n=e.n:=by
  unfold Dh
  split<;>exact⟨rfl,rfl,rfl,rfl⟩
 exact⟨_,rfl,a1.trans e2.1,a2.trans e2.2.1,a4.trans e2.2.2.1,a5.trans e2.2.2.2⟩
def M7 (T T':AE):Prop:=∃ q,T'.out=T.out++q∧∀ e∈q,e.kind=16
theorem M7.refl (T:AE):M7 T T:=⟨[],by simp,fun _ h=>by cases h⟩
theorem M7.tell {T T':AE}(h:M7 T T')(s:Ap):M7 T (T'.tell s):=by
 obtain⟨q,e,k⟩:=h
 obtain⟨x,e2,k2,_⟩:=H5 T' { F0 16 with text:=s }
 refine⟨q ++ [x],?_,fun y hy=>?_⟩
 ·show(T'.BO _).out=_
  rw [e2,e,List.append_assoc]
 ·rcases List.mem_append.1 hy with hy | hy
  ·exact k y hy
  ·have:y=x:=by simpa using hy
   rw [this];exact k2
theorem M7.look {T T':AE}(h:M7 T T'):M7 T T'.look:=by
 have hk:∀ {T'':AE},M7 T T''→∀ k:Nat,M7 T (T''.Fb k):=fun {T''} h' k=>by
  induction k with
  | zero=>exact h'
  | succ k ih=>
   unfold Fb
   split
   ·exact ih.tell _
   ·exact ih
 unfold AE.look
 split
 ·exact h.tell _
 ·refine hk ?_ 6
  have ha:M7 T T'.J6:=(h.tell _).tell _
  unfold D8
  split
  ·exact ha.tell _
  ·exact ha
/-! #### who is struck, who dies -/
def calm (b:Int)(x:Aj):Aj:={ x with B1:=if x.B1=b+1 then 0 else x.B1 }
theorem Xq {b:Int}{x:Aj}(h:x.B1=b+1):calm b x={ x with B1:=0 }:=by unfold calm;rw [if_pos h]
theorem Xu {b:Int}{x:Aj}(h:¬ x.B1=b+1):calm b x=x:=by unfold calm;rw [if_neg h]
theorem SF (T:AE)(hb:0≤T.b):∀ k:Nat,k≤6→∀ c:Int,0≤c→c < 6→(T.DU k).w.AL.at c=if c < (k:Int) then calm T.b (T.w.AL.at c) else T.w.AL.at c
 | 0,_,c,c0,_=>by rw [if_neg (by omega)];rfl
 | k+1,hk,c,c0,c6=>by
  have ih:=SF T hb k (by omega)
  have ihk:=ih k (by omega) (by omega)
  rw [if_neg (by omega)] at ihk
  have ihc:=ih c c0 c6
  unfold DU
  rw [ihk]
  by_cases e:(T.w.AL.at (k:Int)).B1=T.b+1
  ·rw [if_pos (decide_eq_true e)]
   show(((T.DU k).w.AL.put (k:Int) { (T.DU k).w.AL.at (k:Int) with B1:=0 }).at c)=_
   rw [HX _ _ _ _ (by omega) (by omega) c0]
   by_cases ec:c=(k:Int)
   ·subst ec
    rw [if_pos rfl,if_pos (by omega),ihk,Xq e]
   ·rw [if_neg ec,ihc]
    by_cases hl:c < (k:Int)
    ·rw [if_pos hl,if_pos (by omega)]
    ·rw [if_neg hl,if_neg (by omega)]
  ·rw [if_neg (by simpa using e),ihc]
   by_cases hl:c < (k:Int)
   ·rw [if_pos hl,if_pos (by omega)]
   ·rw [if_neg hl]
    by_cases ec:c=(k:Int)
    ·subst ec
     rw [if_pos (by omega),Xu e]
    ·rw [if_neg (by omega)]
theorem N9:∀(l:List Int) (T:AE),(T.Cd l).w.AL=T.w.AL
 | [],_=>rfl
 | i :: r,T=>(N9 r (T.Et i)).trans rfl
theorem YS (T:AE)(hb:0≤T.b∧T.b < 6){c:Int}(c0:0≤c)(c6:c < 6):T.FB.w.AL.at c=if c=T.b then { T.w.AL.at c with B1:=0 } else calm T.b (T.w.AL.at c):=by
 have hd:=N9 T.own T
 have hdb:=(Ix T.own T).1
 have hk:=SF (T.Cd T.own) (by rw [hdb];exact hb.1) 6 (Nat.le_refl _)
 rw [hd,hdb] at hk
 rw [Lx]
 generalize (T.Cd T.own).DU 6=D at *
 show(D.w.AL.put T.b { D.w.AL.at T.b with B1:=0 }).at c=_
 rw [HX _ _ _ _ hb.1 hb.2 c0]
 have hc:=hk c c0 c6
 rw [if_pos (by omega)] at hc
 by_cases e:c=T.b
 ·rw [if_pos e,if_pos e,← e,hc];rfl
 ·rw [if_neg e,if_neg e,hc]
structure cf (w w':AH)(f:Int):Prop where
 dJ:∀ c,0≤c→c < 6→c≠f→(w'.AL.at c).BH=(w.AL.at c).BH∧(w'.AL.at c).room=(w.AL.at c).room∧(w'.AL.at c).here=(w.AL.at c).here∧((w'.AL.at c).B1=(w.AL.at c).B1∨(w'.AL.at c).B1=0)∧(w'.AL.at c).B1≠f+1
 here:(w'.AL.at f).here=decide (2≤f)
 B1:(w'.AL.at f).B1=0
theorem Ue {w:AH}{f c:Int}(hf:0≤f∧f < 6)(c0:0≤c)(c6:c < 6):(F1 w f).w.AL.at c=if c=f then { (FM w f).w.AL.at c with B1:=0 } else calm f ((FM w f).w.AL.at c):=YS ((FM w f).kind 15) hf c0 c6
theorem XN {w:AH}{f c:Int}(hf:0≤f∧f < 6)(c0:0≤c)(c6:c < 6)(hn:c≠f):(F1 w f).w.AL.at c=calm f (w.AL.at c):=by
 have h0:(FM w f).w.AL.at c=w.AL.at c:=AH.Ew hf.1 hf.2 c0 hn _
 rw [Ue hf c0 c6,h0,if_neg hn]
theorem Yi (f:Int)(hf:0≤f)(x:Aj):(calm f x).BH=x.BH∧(calm f x).room=x.room∧(calm f x).here=x.here∧((calm f x).B1=x.B1∨(calm f x).B1=0)∧(calm f x).B1≠f+1:=by
 by_cases e:x.B1=f+1
 ·rw [Xq e]
  refine⟨rfl,rfl,rfl, .inr rfl,?_⟩
  show(0:Int)≠f+1
  omega
 ·rw [Xu e]
  exact⟨rfl,rfl,rfl, .inl rfl,e⟩
theorem Ud {w w1 w':AH}{f:Int}(hf:0≤f∧f < 6)(ho:∀ c,0≤c→c < 6→c≠f→w1.AL.at c=calm f (w.AL.at c))(he:∀ c,0≤c→c < 6→c≠f→w'.AL.at c=w1.AL.at c)(h1:(w'.AL.at f).here=decide (2≤f))(h2:(w'.AL.at f).B1=0):cf w w' f:=by
 refine⟨fun c c0 c6 hn=>?_,h1,h2⟩
 rw [he c c0 c6 hn,ho c c0 c6 hn]
 exact Yi f hf.1 _
theorem Vf {w:AH}{f:Int}(h:(FM w f).Fit):cf w (Hw w f).w f∧∃ x q,(Hw w f).out=x :: q∧x.kind=15∧x.CU=f∧Quiet q:=by
 have hf:0≤f∧f < 6:=h.b
 have ho:∀ c,0≤c→c < 6→c≠f→(F1 w f).w.AL.at c=calm f (w.AL.at c):=fun c c0 c6 hn=>XN hf c0 c6 hn
 obtain⟨x,e1,k1,k2,_⟩:=H5 (FM w f) (F0 15)
 have hout:((FM w f).kind 15).out = [x]:=e1
 have g:=(RV h).1.fit
 have gh:=g.here
 rw [(J3 w f).1] at gh
 have hme:=Ue (w:=w) hf hf.1 hf.2
 rw [if_pos rfl] at hme
 have hfoe:((F1 w f).w.AL.at f).B1=0:=by rw [hme]
 unfold Hw
 split
 ·rename_i c2
  have c2':=of_decide_eq_true c2
  rw [(DD _ _ _).2.1,(DD _ _ _).2.2,(J3 w f).2,hout]
  generalize (F1 w f).w=D at *
  refine⟨Ud (w1:=D) hf ho (fun c c0 _ hn=>AH.Ew hf.1 hf.2 c0 hn _) ?_ ?_,x,[],rfl,k1,k2,fun e he=>by cases he⟩
  ·show((D.Cw f default).AL.at f).here=_
   rw [AH.EK hf.1 hf.2,decide_eq_false (by omega)];rfl
  ·show((D.Cw f default).AL.at f).B1=_
   rw [AH.EK hf.1 hf.2];rfl
 ·rename_i c2
  have c2':¬ f < 2:=fun e=>c2 (decide_eq_true e)
  have hl:=Jw ((I3 w f).kind 17)
  have e2:=Qy w f
  obtain⟨y,e3,k3,_⟩:=H5 (I3 w f) (F0 17)
  obtain⟨q,e4,k4⟩:=(M7.refl ((I3 w f).kind 17)).look
  have e3':((I3 w f).kind 17).out = [x] ++ [y]:=by rw [show((I3 w f).kind 17).out=_ from e3,e2.2.1,hout]
  rw [hl.1,e4,e3',show((I3 w f).kind 17).w=(I3 w f).w from rfl,e2.2.2]
  generalize (F1 w f).w=D at *
  refine⟨Ud (w1:=D) hf ho (fun c c0 _ hn=>AH.Ew hf.1 hf.2 c0 hn _) ?_ ?_,x,y :: q,rfl,k1,k2,fun e he=>?_⟩
  ·rw [AH.EK hf.1 hf.2,decide_eq_true (by omega)];exact gh
  ·rw [AH.EK hf.1 hf.2];exact hfoe
  ·rcases List.mem_cons.1 he with he | he
   ·rw [he,k3];exact⟨by decide,by decide⟩
   ·rw [k4 e he];exact⟨by decide,by decide⟩
/-! #### the count of a round -/
def dv (e:Event):Prop:=(e.kind=14→1≤e.n∧e.n≤3∧0≤e.other∧e.other < 6)∧(e.kind=15→0≤e.CU∧e.CU < 6)
structure S7 (X:AH)(s:AH × List Event):Prop where
 ev:∀ e∈s.2,dv e
 un:∀ c,0≤c→c < 6→(Fe s.2).at c=false→(s.1.AL.at c).BH=(X.AL.at c).BH - (EF s.2).at c∧(s.1.AL.at c).room=(X.AL.at c).room∧(s.1.AL.at c).here=(X.AL.at c).here
 di:∀ c,0≤c→c < 6→(Fe s.2).at c=true→(X.AL.at c).BH≤(EF s.2).at c∧(s.1.AL.at c).here=decide (2≤c)∧(s.1.AL.at c).B1=0∧∀ a,0≤a→a < 6→(s.1.AL.at a).B1≠c+1
theorem XJ {α:Type}[Inhabited α](c:Int)(c0:0≤c)(c6:c < 6):(Vector.replicate 6 (default:α)).at c=default:=by
 have:c=0∨c=1∨c=2∨c=3∨c=4∨c=5:=by omega
 rcases this with rfl | rfl | rfl | rfl | rfl | rfl<;>rfl
theorem S7.start (X:AH):S7 X (X,[]):=by
 have hh:∀ c,0≤c→c < 6→(EF []).at c=0:=fun c c0 c6=>XJ c c0 c6
 have hd:∀ c,0≤c→c < 6→(Fe []).at c=false:=fun c c0 c6=>XJ c c0 c6
 refine⟨fun _ h=>(by cases h),fun c c0 c6 _=>⟨?_,rfl,rfl⟩,fun c c0 c6 h=>?_⟩
 ·show(X.AL.at c).BH=(X.AL.at c).BH - (EF []).at c
  rw [hh c c0 c6];omega
 ·have h':(Fe []).at c=true:=h
  rw [hd c c0 c6] at h';cases h'
theorem S7.next {X:AH}{s:AH × List Event}{draw b:Int}(h:S7 X s)(hg:s.1.Bh=true)(hw:s.1.DL)(h0:0≤b)(h6:b < 6):S7 X (EG draw b s):=by
 have kb:=HI hg h0 h6
 have hn:=MC (draw:=draw) h0
 unfold EG
 split
 ·exact h
 ·rename_i h1
  simp only [Bool.or_eq_true,Bool.not_eq_true',decide_eq_true_eq,not_or,Bool.not_eq_false] at h1
  have kf:=kb.B1
  split
  ·have hb:∀ c,0≤c→((s.1.Cw b { s.1.AL.at b with B1:=0 }).AL.at c).BH=(s.1.AL.at c).BH∧((s.1.Cw b { s.1.AL.at b with B1:=0 }).AL.at c).room=(s.1.AL.at c).room∧((s.1.Cw b { s.1.AL.at b with B1:=0 }).AL.at c).here=(s.1.AL.at c).here∧(((s.1.Cw b { s.1.AL.at b with B1:=0 }).AL.at c).B1=(s.1.AL.at c).B1∨((s.1.Cw b { s.1.AL.at b with B1:=0 }).AL.at c).B1=0):=fun c c0=>by
    by_cases e:c=b
    ·subst e;rw [AH.EK h0 h6];exact⟨rfl,rfl,rfl, .inr rfl⟩
    ·rw [AH.Ew h0 h6 c0 e];exact⟨rfl,rfl,rfl, .inl rfl⟩
   refine⟨h.ev,fun c c0 c6 hd=>?_,fun c c0 c6 hd=>?_⟩
   ·obtain⟨q1,q2,q3⟩:=h.un c c0 c6 hd
    obtain⟨r1,r2,r3,_⟩:=hb c c0
    exact⟨r1.trans q1,r2.trans q2,r3.trans q3⟩
   ·obtain⟨q1,q2,q3,q4⟩:=h.di c c0 c6 hd
    obtain⟨_,_,r3,r4⟩:=hb c c0
    refine⟨q1,r3.trans q2,?_,fun a a0 a6=>?_⟩
    ·rcases r4 with r4 | r4
     ·exact r4.trans q3
     ·exact r4
    ·have:=q4 a a0 a6
     rcases (hb a a0).2.2.2 with r | r
     ·rw [r];exact this
     ·rw [r];omega
  ·rename_i h2
   simp only [Bool.or_eq_true,Bool.not_eq_true',decide_eq_false_iff_not,not_or,Bool.not_eq_false,Decidable.not_not] at h2
   generalize hfo:(s.1.AL.at b).B1 - 1=f at *
   generalize L8 draw b=n at *
   have f0:0≤f:=by omega
   have f6:f < 6:=by omega
   have hf:=Kx (b:=b) (n:=n) hg hw (B1:=f) f0 f6 h2.1
   have kf2:=(HI hg f0 f6).BH
   obtain⟨x,ex,k1,k2,k3,k4⟩:=H5 ⟨s.1,b,[]⟩ { F0 14 with other:=f,n:=n }
   have hso:(CC s.1 b f n).out = [x]:=ex
   have hsw:(CC s.1 b f n).w=s.1.Cw f { s.1.AL.at f with BH:=max 0 ((s.1.AL.at f).BH - n) }:=rfl
   have k1':x.kind=14:=k1
   have k3':x.other=f:=k3
   have k4':x.n=n:=k4
   have hH:EF (s.2 ++ [x])=(EF s.2).put f ((EF s.2).at f+n):=by rw [N6,QA,if_pos (decide_eq_true k1'),k3',k4']
   have hD:Fe (s.2 ++ [x])=Fe s.2:=by rw [Og,QY,if_neg (by rw [k1'];decide)]
   have hnd:(Fe s.2).at f=false:=by
    cases hh:(Fe s.2).at f with
    | false=>rfl
    | true=>exact absurd (by omega:(s.1.AL.at b).B1=f+1) ((h.di f f0 f6 hh).2.2.2 b h0 h6)
   have hfe:=h.un f f0 f6 hnd
   have hxe:dv x:=⟨fun _=>by rw [k3',k4'];omega,fun e=>by rw [k1'] at e;cases e⟩
   have hev:∀ e∈s.2 ++ [x],dv e:=fun e he=>by
    rcases List.mem_append.1 he with he | he
    ·exact h.ev e he
    ·have:e=x:=by simpa using he
     rw [this];exact hxe
   have hwc:∀ c,0≤c→c≠f→(CC s.1 b f n).w.AL.at c=s.1.AL.at c:=fun c c0 hne=>by rw [hsw];exact AH.Ew f0 f6 c0 hne _
   have hwf:(CC s.1 b f n).w.AL.at f={ s.1.AL.at f with BH:=max 0 ((s.1.AL.at f).BH - n) }:=by rw [hsw];exact AH.EK f0 f6 _
   have hwa:∀ a,0≤a→((CC s.1 b f n).w.AL.at a).B1=(s.1.AL.at a).B1:=fun a a0=>by
    by_cases e:a=f
    ·rw [e,hwf]
    ·rw [hwc a a0 e]
   have hHc:∀ c,0≤c→c≠f→((EF s.2).put f ((EF s.2).at f+n)).at c=(EF s.2).at c:=fun c c0 hne=>Vector.EI f0 f6 c0 hne
   have hHf:((EF s.2).put f ((EF s.2).at f+n)).at f=(EF s.2).at f+n:=Vector.CD f0 f6
   split
   ·rename_i h3
    have h3':=of_decide_eq_true h3
    rw [hwf] at h3'
    have h3'':max 0 ((s.1.AL.at f).BH - n)=0:=h3'
    obtain⟨dd,y,q,e2,y1,y2,y3⟩:=Vf hf
    rw [e2,hso]
    generalize (Hw (CC s.1 b f n).w f).w=W at *
    have hA:EF (s.2 ++ [x]++y :: q)=(EF s.2).put f ((EF s.2).at f+n)∧Fe (s.2 ++ [x]++y :: q)=(Fe s.2).put f true:=by
     have hq:=SN (l:=s.2 ++ [x] ++ [y]) y3
     rw [show s.2 ++ [x]++y :: q=s.2 ++ [x] ++ [y]++q by simp,hq.1,hq.2,N6,Og,hH,hD,QA,if_neg (by rw [y1];decide),QY,if_pos (decide_eq_true y1),y2]
     exact⟨rfl,rfl⟩
    refine⟨fun e he=>?_,fun c c0 c6 hd=>?_,fun c c0 c6 hd=>?_⟩
    ·rcases List.mem_append.1 he with he | he
     ·exact hev e he
     ·rcases List.mem_cons.1 he with he | he
      ·rw [he];exact⟨fun e=>absurd (y1.symm.trans e) (by decide),fun _=>by rw [y2];exact⟨f0,f6⟩⟩
      ·exact⟨fun e'=>absurd e' (y3 e he).1,fun e'=>absurd e' (y3 e he).2⟩
    ·have hd':((Fe s.2).put f true).at c=false:=by rw [← hA.2];exact hd
     have hne:c≠f:=fun e=>by
      rw [e,Vector.CD f0 f6] at hd';cases hd'
     rw [Vector.EI f0 f6 c0 hne] at hd'
     obtain⟨q1,q2,q3⟩:=h.un c c0 c6 hd'
     obtain⟨r1,r2,r3,_⟩:=dd.dJ c c0 c6 hne
     rw [hwc c c0 hne] at r1 r2 r3
     show(W.AL.at c).BH=(X.AL.at c).BH - (EF (s.2 ++ [x]++y :: q)).at c∧_
     rw [hA.1,hHc c c0 hne]
     exact⟨r1.trans q1,r2.trans q2,r3.trans q3⟩
    ·have hd':((Fe s.2).put f true).at c=true:=by rw [← hA.2];exact hd
     show(X.AL.at c).BH≤(EF (s.2 ++ [x]++y :: q)).at c∧_
     rw [hA.1]
     by_cases hne:c=f
     ·subst hne
      rw [hHf]
      refine⟨by omega,dd.here,dd.B1,fun a a0 a6=>?_⟩
      by_cases ea:a=c
      ·rw [ea,dd.B1];omega
      ·exact(dd.dJ a a0 a6 ea).2.2.2.2
     ·rw [Vector.EI f0 f6 c0 hne] at hd'
      rw [hHc c c0 hne]
      obtain⟨q1,q2,q3,q4⟩:=h.di c c0 c6 hd'
      obtain⟨_,_,r3,r4,_⟩:=dd.dJ c c0 c6 hne
      rw [hwc c c0 hne] at r3 r4
      refine⟨q1,r3.trans q2,?_,fun a a0 a6=>?_⟩
      ·rcases r4 with r4 | r4
       ·exact r4.trans q3
       ·exact r4
      ·by_cases ea:a=f
       ·rw [ea,dd.B1];omega
       ·have:=q4 a a0 a6
        have r:=(dd.dJ a a0 a6 ea).2.2.2.1
        rw [hwc a a0 ea] at r
        rcases r with r | r
        ·rw [r];exact this
        ·rw [r];omega
   ·rename_i h3
    have h3':¬ ((CC s.1 b f n).w.AL.at f).BH=0:=fun e=>h3 (decide_eq_true e)
    rw [hwf] at h3'
    have h3'':¬ max 0 ((s.1.AL.at f).BH - n)=0:=h3'
    rw [hso]
    refine⟨hev,fun c c0 c6 hd=>?_,fun c c0 c6 hd=>?_⟩
    ·have hd':(Fe s.2).at c=false:=by rw [← hD];exact hd
     show((CC s.1 b f n).w.AL.at c).BH=(X.AL.at c).BH - (EF (s.2 ++ [x])).at c∧_
     rw [hH]
     by_cases hne:c=f
     ·subst hne
      rw [hHf,hwf]
      refine⟨?_,hfe.2.1,hfe.2.2⟩
      show max 0 ((s.1.AL.at c).BH - n)=_
      have:=hfe.1
      omega
     ·rw [hHc c c0 hne,hwc c c0 hne]
      exact h.un c c0 c6 hd'
    ·have hd':(Fe s.2).at c=true:=by rw [← hD];exact hd
     have hne:c≠f:=fun e=>by rw [e,hnd] at hd';cases hd'
     show(X.AL.at c).BH≤(EF (s.2 ++ [x])).at c∧_
     rw [hH,hHc c c0 hne]
     obtain⟨q1,q2,q3,q4⟩:=h.di c c0 c6 hd'
     refine⟨q1,by rw [hwc c c0 hne];exact q2,by rw [hwc c c0 hne];exact q3,fun a a0 a6=>by rw [hwa a a0];exact q4 a a0 a6⟩
theorem QQ {X:AH}{draw:Int}(hg:X.Bh=true)(hw:X.DL):∀ k:Nat,k≤6→S7 X (DW X draw k)∧(DW X draw k).1.Bh=true∧(DW X draw k).1.DL∧(DW X draw k).2.length≤13 * k
 | 0,_=>⟨.start X,hg,hw,Nat.le_refl _⟩
 | k+1,hk=>by
  obtain⟨h1,h2,h3,h4⟩:=QQ hg hw k (by omega)
  obtain⟨g1,g2,g3⟩:=FZ (draw:=draw) (b:=(k:Int)) h2 h3 (by omega) (by omega)
  exact⟨h1.next h2 h3 (by omega) (by omega),g1,g2,by show(EG draw k (DW X draw k)).2.length≤_;omega⟩
theorem Wb {X:AH}{draw:Int}(hw:X.DL)(h:(CW X draw).2.2=0):S7 X ((CW X draw).1,(CW X draw).2.1)∧(CW X draw).1.Bh=true∧(CW X draw).2.1.length≤78:=by
 unfold CW at h ⊢
 split at h
 ·cases h
 ·rename_i h1
  rw [if_neg h1]
  obtain⟨q1,q2,_,q4⟩:=QQ (draw:=draw) (by simpa using h1) hw 6 (Nat.le_refl _)
  generalize DW X draw 6=S at *
  exact⟨q1,q2,Nat.le_trans q4 (by decide)⟩
end AE
end Go.Ing
/- The document's side of what beings do: plain functions and laws. -/
namespace Go.Ing
open Go
namespace AE
/-! #### names of players -/
def low (c:UInt8):Bool:=decide ((c.toNat:Int) < 97) || decide (122 < (c.toNat:Int))
def Hu (s:Ap)(k:Nat):Bool:=(s.drop k).all fun c=>!low c
theorem Vj {s:Ap}{k:Int}(h0:0≤k)(h1:k < s.length):Hu s k.toNat=(!low (s.getD k.toNat 0) && Hu s (k+1).toNat):=by
 have hk:k.toNat < s.length:=by omega
 unfold Hu
 rw [List.drop_eq_getElem_cons hk,show(k+1).toNat=k.toNat+1 by omega,List.getD_eq_getElem?_getD,List.getElem?_eq_getElem hk]
 rfl
theorem XE (s:Ap):Hu s (s.length:Int).toNat=true:=by
 unfold Hu
 rw [show(s.length:Int).toNat=s.length by omega,List.drop_length];rfl
def W0:Ap:= [115,111,109,101,111,110,101]
def dY:Ap:= [121,111,117]
def FJ (s:Ap):Bool:=Hu s 0 && (decide (1≤(s.length:Int)) && decide ((s.length:Int)≤8) && !decide (s=W0) && !decide (s=dY))
/-! #### who enters -/
def IU (X:AH)(s:Ap)(k:Int):Bool:=(X.AL.at k).here && decide ((X.AL.at k).name=s)
def CH (X:AH):Nat→Int
 | 0=>-1
 | n+1=>if (!(X.AL.at ((5 - n:Nat):Int)).here && decide (2≤((5 - n:Nat):Int)))=true then((5 - n:Nat):Int) else CH X n
theorem OX {X:AH}{k:Int}(h0:0≤k)(h5:k≤5):CH X (5 - (k - 1)).toNat=if (!(X.AL.at k).here && decide (2≤k))=true then k else CH X (5 - k).toNat:=by
 have e:(5 - (k - 1)).toNat=(5 - k).toNat+1:=by omega
 rw [e,CH,show((5 - (5 - k).toNat:Nat):Int)=k by omega]
theorem YI {X:AH}{k:Int}(h2:2≤k)(h5:k≤5)(h:(!(X.AL.at k).here)=false):CH X (5 - (k - 1)).toNat=CH X (5 - k).toNat:=by
 rw [OX (by omega) h5,h];rfl
theorem WL {X:AH}{k:Int}(h2:2≤k)(h5:k≤5)(h:(!(X.AL.at k).here)=true):CH X (5 - (k - 1)).toNat=k:=by
 rw [OX (by omega) h5,h,decide_eq_true h2];rfl
theorem WK (X:AH):CH X 6=CH X 4:=by
 have h1:CH X 6=CH X 5:=by
  rw [CH,if_neg (by simp)]
 have h2:CH X 5=CH X 4:=by
  rw [CH,if_neg (by simp)]
 rw [h1,h2]
theorem MM (X:AH):∀ n:Nat,n≤6→CH X n=-1∨(2≤CH X n∧CH X n≤5)
 | 0,_=> .inl rfl
 | n+1,h=>by
  unfold CH
  split
  ·rename_i c
   rw [Bool.and_eq_true] at c
   have:=of_decide_eq_true c.2
   exact .inr ⟨this,by omega⟩
  ·exact MM X n (by omega)
def Hx (s:Ap):Aj:={ (default:Aj) with name:=s,here:=true,BH:=10 }
def GC (X:AH)(s:Ap)(b:Int):AE:=((⟨X.Cw b (Hx s),b,[]⟩:AE).kind 17).look
def BR (X:AH)(s:Ap):AH × Int × List Event × Int:=
 if (!X.Bh)=true then(X,0,[],2)
 else if (!FJ s)=true then(X,0,[],1)
 else if (!B8 6 (fun k=>!IU X s k) 6)=true then(X,0,[],1)
 else if decide (CH X 6 < 0)=true then(X,0,[],4)
 else((GC X s (CH X 6)).w,CH X 6,(GC X s (CH X 6)).out,0)
theorem P1 (X:AH)(s:Ap):(BR X s).2.2.1.length≤10:=by
 unfold BR
 split
 ·exact Nat.zero_le _
 ·split
  ·exact Nat.zero_le _
  ·split
   ·exact Nat.zero_le _
   ·split
    ·exact Nat.zero_le _
    ·exact(Jw _).2.2
theorem QW {X:AH}{s:Ap}{b:Int}(hg:X.Bh=true)(hw:X.DL)(hs:s.length≤140737488351232)(h0:0≤b)(h6:b < 6):Fit ⟨X.Cw b (Hx s),b,[]⟩:=
 ⟨⟨h0,h6⟩,Eh hw hs,J0 hg h0 h6 ⟨⟨Int.le_refl _,show(0:Int) < 6 by decide⟩,⟨show(0:Int)≤10 by decide,show(10:Int)≤10 by decide⟩,⟨Int.le_refl _,show(0:Int)≤6 by decide⟩,fun _=>rfl,rfl⟩ fun _=>rfl,by
  show((X.Cw b (Hx s)).AL.at b).here=true
  rw [AH.EK h0 h6];rfl⟩
end AE
end Go.Ing
/- A round, as the document says it: plain laws. -/
namespace Go.Ing
open Go
theorem Uf {α:Type}[Inhabited α]{n:Nat}{v u:Vector α n}(h:∀ i:Int,0≤i→i < n→v.at i=u.at i):v=u:=by
 apply Vector.ext
 intro i hi
 have:=h (i:Int) (by omega) (by omega)
 unfold Vector.at at this
 rw [List.getD_eq_getElem?_getD,List.getD_eq_getElem?_getD] at this
 simpa [hi] using this
namespace AE
def pre (o:List Event)(T:AE):AE:=⟨T.w,T.b,o++T.out⟩
theorem Qq (T:AE){i:Int}(h0:0≤i)(h9:i < 9)(c:decide ((((T.w.AO.put i { T.w.AO.at i with Ca:=0 }).put i { (T.w.AO.put i { T.w.AO.at i with Ca:=0 }).at i with at_:=(T.w.AL.at T.b).room }).at i).kind=2)=true):({ T.w with AO:=((T.w.AO.put i { T.w.AO.at i with Ca:=0 }).put i { (T.w.AO.put i { T.w.AO.at i with Ca:=0 }).at i with at_:=(T.w.AL.at T.b).room }).put i { ((T.w.AO.put i { T.w.AO.at i with Ca:=0 }).put i { (T.w.AO.put i { T.w.AO.at i with Ca:=0 }).at i with at_:=(T.w.AL.at T.b).room }).at i with on:=false } }:AH)=(T.Et i).w:=by
 rw [Vector.CD h0 h9,Vector.CD h0 h9] at c
 rw [Vector.CD h0 h9,Vector.Ej,Vector.CD h0 h9,Vector.Ej]
 unfold Et
 rw [if_pos (show decide ((T.w.AO.at i).kind=2)=true from c)];rfl
theorem Uj (T:AE){i:Int}(h0:0≤i)(h9:i < 9)(c:decide ((((T.w.AO.put i { T.w.AO.at i with Ca:=0 }).put i { (T.w.AO.put i { T.w.AO.at i with Ca:=0 }).at i with at_:=(T.w.AL.at T.b).room }).at i).kind=2)=false):({ T.w with AO:=(T.w.AO.put i { T.w.AO.at i with Ca:=0 }).put i { (T.w.AO.put i { T.w.AO.at i with Ca:=0 }).at i with at_:=(T.w.AL.at T.b).room } }:AH)=(T.Et i).w:=by
 rw [Vector.CD h0 h9,Vector.CD h0 h9] at c
 rw [Vector.CD h0 h9,Vector.Ej]
 unfold Et
 rw [if_neg (show ¬ decide ((T.w.AO.at i).kind=2)=true from by rw [show decide ((T.w.AO.at i).kind=2)=false from c];decide)];rfl
theorem QP {X:AH}(hw:X.DL)(draw:Int):(CW X draw).2.1.length≤78:=by
 by_cases h:(CW X draw).2.2=0
 ·exact(Wb hw h).2.2
 ·unfold CW at h ⊢
  split
  ·exact Nat.zero_le _
  ·rename_i h1
   rw [if_neg h1] at h
   exact absurd rfl h
end AE
end Go.Ing
/- What beings do, as the document says it: plain laws. -/
namespace Go.Ing
open Go
namespace AE
def skip (w:AH)(u:Ap)(i:Int):Bool:=!decide (u = []) && !decide (u=(w.AO.at i).name)
/-! #### what is taken -/
/-! #### what is set -/
/-! #### what is let go of -/
theorem Uw (T:AE)(o:Order):(T.Cv o).1.w=T.w∧(T.Cv o).1.b=T.b:=by
 unfold Cv
 split
 ·exact T.JY o.second
 ·split
  ·exact T.JC o.second
  ·exact⟨rfl,rfl⟩
theorem QI (T:AE)(o:Order):0≤(T.Cv o).2.1∧(T.Cv o).2.1 < 9:=by
 unfold Cv
 split
 ·exact T.Y4 o.second
 ·split
  ·have:=T.Lw o.second;omega
  ·exact⟨Int.le_refl 0,show(0:Int) < 9 by decide⟩
theorem Xi {T:AE}{o:Order}(hv:o.verb=8∨o.verb=9∨o.verb=10)(h:(T.Cv o).2.2=true):NI (T.Cv o).1 o.verb (T.Cv o).2.1:=by
 unfold NI
 rw [(T.Uw o).1]
 unfold Cv at h ⊢
 split at h
 ·rename_i h2
  rw [if_pos h2]
  obtain⟨a0,a9,hk,_⟩:=XH h
  have:=of_decide_eq_true h2
  exact .inr (.inr ⟨by omega,by omega,a0,a9,hk⟩)
 ·rename_i h2
  rw [if_neg h2]
  split at h
  ·rename_i h3
   rw [if_pos h3]
   obtain⟨a0,a6,_,hs⟩:=Ju h
   exact .inr (.inl ⟨of_decide_eq_true h3,a0,a6,(AH.HO (AH.Km hs).2.1).2.2⟩)
  ·rename_i h3
   rw [if_neg h3]
   refine .inl ?_
   rcases hv with e | e | e
   ·exact e
   ·exact absurd (decide_eq_true e) h2
   ·exact absurd (decide_eq_true e) h3
def K4 (T:AE)(o:Order):List Int:=BP T.w T.own o.nth o.name o.Bj
def Qx (T:AE)(o:Order):AE:=if decide (((T.K4 o).length:Int)=0)=true then T.tell O8 else T
theorem Z6 {T:AE}{o:Order}(h:decide (((T.K4 o).length:Int)=0)=true):T.Qx o=T.tell O8:=if_pos h
theorem aj {T:AE}{o:Order}(h:decide (((T.K4 o).length:Int)=0)=false):T.Qx o=T:=if_neg (by rw [h];decide)
theorem Zt (T:AE)(o:Order):(T.Qx o).w=T.w∧(T.Qx o).b=T.b∧(T.Qx o).out.length≤T.out.length+1:=by
 unfold Qx
 split
 ·exact⟨rfl,rfl,by rw [CI];exact Nat.le_refl _⟩
 ·exact⟨rfl,rfl,Nat.le_succ _⟩
def RR (T:AE)(to:Int)(o:Order)(k:Nat):AE:=(T.Qx o).Ek o.verb to ((T.K4 o).take k)
theorem Mu {v to:Int}:∀(l:List Int) (T:AE) (i:Int),T.Ek v to (l ++ [i])=(T.Ek v to l).Cu v to i
 | [],_,_=>rfl
 | _ :: r,_,i=>Mu r _ i
theorem Yq {l:List Int}{k:Int}(h0:0≤k)(h1:k < l.length):l.take (k+1).toNat=l.take k.toNat ++ [l.getD k.toNat 0]:=by
 obtain⟨m,rfl⟩:=Int.eq_ofNat_of_zero_le h0
 have hm:m < l.length:=by omega
 show l.take (m+1)=l.take m ++ [l.getD m 0]
 rw [List.take_add_one,List.getElem?_eq_getElem hm,List.getD_eq_getElem?_getD,List.getElem?_eq_getElem hm]
 rfl
theorem Ih {T:AE}{to:Int}{o:Order}{k:Int}(h0:0≤k)(h1:k < (T.K4 o).length):T.RR to o (k+1).toNat=(T.RR to o k.toNat).Cu o.verb to ((T.K4 o).getD k.toNat 0):=by
 unfold RR
 rw [Yq h0 h1,Mu]
theorem Xt {T:AE}{to:Int}{o:Order}:T.RR to o ((T.K4 o).length:Int).toNat=T.Rx to o:=by
 unfold RR
 rw [show((T.K4 o).length:Int).toNat=(T.K4 o).length by omega,List.take_length]
 rfl
theorem Ss {T:AE}{o:Order}:(∀ i∈T.K4 o,IY T.w T.b i)∧(T.K4 o).Nodup∧(T.K4 o).length≤9:=
 ⟨fun _ hi=>(FL (Dp hi)).Tw,List.Nodup.sublist (EU ..) (AH.QT ..),Nat.le_trans (EU ..).length_le (AE.KG T)⟩
theorem PA (v to:Int):∀(l:List Int) (T:AE),(T.Ek v to l).out.length≤T.out.length+l.length∧(T.Ek v to l).b=T.b
 | [],_=>⟨Nat.le_refl _,rfl⟩
 | i :: r,T=>by
  obtain⟨h1,h2⟩:=PA v to r (T.Cu v to i)
  have h3:=T.Ov v to i
  rw [Ek,List.length_cons]
  exact⟨by omega,h2.trans (T.Xj v to i)⟩
theorem W8 (T:AE)(to:Int)(o:Order)(k:Nat):(T.RR to o k).out.length≤T.out.length+10∧(T.RR to o k).b=T.b:=by
 have hs:=T.Zt o
 obtain⟨h1,h2⟩:=PA o.verb to ((T.K4 o).take k) (T.Qx o)
 have h3:=(Ss (T:=T) (o:=o)).2.2
 have h4:((T.K4 o).take k).length≤(T.K4 o).length:=(List.take_sublist ..).length_le
 unfold RR
 exact⟨by omega,h2.trans hs.2.1⟩
theorem NI.ew {T:AE}{v to:Int}(h:NI T v to)(hv:v=10):to < 6:=by
 rcases h with h | ⟨_,_,h,_⟩ | ⟨_,h,_⟩<;>omega
theorem Vu {T X:AE}{o:Order}{p:Bool}(hX:X=(T.Cv o).1)(hp:p=(T.Cv o).2.2)(h:(!p)=true):T.FD o=X:=by
 rw [hp] at h
 rw [hX]
 exact if_pos h
theorem TJ {T X:AE}{o:Order}{to:Int}{p:Bool}(hX:X=(T.Cv o).1)(ht:to=(T.Cv o).2.1)(hp:p=(T.Cv o).2.2)(h:(!p)=false):T.FD o=X.Rx to o∧0≤to∧to < 9∧(o.verb=8∨o.verb=9∨o.verb=10→NI X o.verb to):=by
 rw [hp] at h
 have h2:(T.Cv o).2.2=true:=by simpa using h
 rw [hX,ht]
 exact⟨if_neg (by rw [h];decide),(T.QI o).1,(T.QI o).2,fun hv=>Xi hv h2⟩
/-! #### what a being does -/
theorem GA {T:AE}{o:Order}(h:o.verb < 6):T.act o=T.walk o.verb:=by
 unfold act;rw [if_pos (decide_eq_true h)]
theorem NZ (X:AH)(b:Int)(o:Order):(EC X b o).2.1.length≤11:=by
 unfold EC
 split
 ·exact Nat.zero_le _
 ·split
  ·exact Nat.zero_le _
  ·split
   ·exact Nat.zero_le _
   ·have:=Ug (⟨X,b,[]⟩:AE) o
    exact Nat.le_trans this (Nat.le_refl 11)
end AE
end Go.Ing
/- Engine: the same rules, said shorter. -/
namespace Go.Ing
open Go
section
variable {F:List (Nat × Value)} {v0 v1 v2 v3 v4 v5 v6 v7 v8 v9 v10 v11:Value}
theorem Sub.t1 (k0:Nat)(h0:lk k0 F=some v0:=by rfl):Sub F [(k0,v0)]:= .cons h0 (.nil _)
theorem Sub.t2 (k0 k1:Nat)(h0:lk k0 F=some v0:=by rfl)(h1:lk k1 F=some v1:=by rfl):Sub F [(k0,v0),(k1,v1)]:= .cons h0 (.cons h1 (.nil _))
theorem Sub.t3 (k0 k1 k2:Nat)(h0:lk k0 F=some v0:=by rfl)(h1:lk k1 F=some v1:=by rfl)(h2:lk k2 F=some v2:=by rfl):Sub F [(k0,v0),(k1,v1),(k2,v2)]:= .cons h0 (.cons h1 (.cons h2 (.nil _)))
theorem Sub.t4 (k0 k1 k2 k3:Nat)(h0:lk k0 F=some v0:=by rfl)(h1:lk k1 F=some v1:=by rfl)(h2:lk k2 F=some v2:=by rfl)(h3:lk k3 F=some v3:=by rfl):Sub F [(k0,v0),(k1,v1),(k2,v2),(k3,v3)]:= .cons h0 (.cons h1 (.cons h2 (.cons h3 (.nil _))))
theorem Sub.t5 (k0 k1 k2 k3 k4:Nat)(h0:lk k0 F=some v0:=by rfl)(h1:lk k1 F=some v1:=by rfl)(h2:lk k2 F=some v2:=by rfl)(h3:lk k3 F=some v3:=by rfl)(h4:lk k4 F=some v4:=by rfl):Sub F [(k0,v0),(k1,v1),(k2,v2),(k3,v3),(k4,v4)]:= .cons h0 (.cons h1 (.cons h2 (.cons h3 (.cons h4 (.nil _)))))
theorem Sub.t6 (k0 k1 k2 k3 k4 k5:Nat)(h0:lk k0 F=some v0:=by rfl)(h1:lk k1 F=some v1:=by rfl)(h2:lk k2 F=some v2:=by rfl)(h3:lk k3 F=some v3:=by rfl)(h4:lk k4 F=some v4:=by rfl)(h5:lk k5 F=some v5:=by rfl):Sub F [(k0,v0),(k1,v1),(k2,v2),(k3,v3),(k4,v4),(k5,v5)]:= .cons h0 (.cons h1 (.cons h2 (.cons h3 (.cons h4 (.cons h5 (.nil _))))))
theorem Sub.t7 (k0 k1 k2 k3 k4 k5 k6:Nat)(h0:lk k0 F=some v0:=by rfl)(h1:lk k1 F=some v1:=by rfl)(h2:lk k2 F=some v2:=by rfl)(h3:lk k3 F=some v3:=by rfl)(h4:lk k4 F=some v4:=by rfl)(h5:lk k5 F=some v5:=by rfl)(h6:lk k6 F=some v6:=by rfl):Sub F [(k0,v0),(k1,v1),(k2,v2),(k3,v3),(k4,v4),(k5,v5),(k6,v6)]:= .cons h0 (.cons h1 (.cons h2 (.cons h3 (.cons h4 (.cons h5 (.cons h6 (.nil _)))))))
theorem Sub.t8 (k0 k1 k2 k3 k4 k5 k6 k7:Nat)(h0:lk k0 F=some v0:=by rfl)(h1:lk k1 F=some v1:=by rfl)(h2:lk k2 F=some v2:=by rfl)(h3:lk k3 F=some v3:=by rfl)(h4:lk k4 F=some v4:=by rfl)(h5:lk k5 F=some v5:=by rfl)(h6:lk k6 F=some v6:=by rfl)(h7:lk k7 F=some v7:=by rfl):Sub F [(k0,v0),(k1,v1),(k2,v2),(k3,v3),(k4,v4),(k5,v5),(k6,v6),(k7,v7)]:= .cons h0 (.cons h1 (.cons h2 (.cons h3 (.cons h4 (.cons h5 (.cons h6 (.cons h7 (.nil _))))))))
theorem Sub.t9 (k0 k1 k2 k3 k4 k5 k6 k7 k8:Nat)(h0:lk k0 F=some v0:=by rfl)(h1:lk k1 F=some v1:=by rfl)(h2:lk k2 F=some v2:=by rfl)(h3:lk k3 F=some v3:=by rfl)(h4:lk k4 F=some v4:=by rfl)(h5:lk k5 F=some v5:=by rfl)(h6:lk k6 F=some v6:=by rfl)(h7:lk k7 F=some v7:=by rfl)(h8:lk k8 F=some v8:=by rfl):Sub F [(k0,v0),(k1,v1),(k2,v2),(k3,v3),(k4,v4),(k5,v5),(k6,v6),(k7,v7),(k8,v8)]:= .cons h0 (.cons h1 (.cons h2 (.cons h3 (.cons h4 (.cons h5 (.cons h6 (.cons h7 (.cons h8 (.nil _)))))))))
theorem Sub.t10 (k0 k1 k2 k3 k4 k5 k6 k7 k8 k9:Nat)(h0:lk k0 F=some v0:=by rfl)(h1:lk k1 F=some v1:=by rfl)(h2:lk k2 F=some v2:=by rfl)(h3:lk k3 F=some v3:=by rfl)(h4:lk k4 F=some v4:=by rfl)(h5:lk k5 F=some v5:=by rfl)(h6:lk k6 F=some v6:=by rfl)(h7:lk k7 F=some v7:=by rfl)(h8:lk k8 F=some v8:=by rfl)(h9:lk k9 F=some v9:=by rfl):Sub F [(k0,v0),(k1,v1),(k2,v2),(k3,v3),(k4,v4),(k5,v5),(k6,v6),(k7,v7),(k8,v8),(k9,v9)]:= .cons h0 (.cons h1 (.cons h2 (.cons h3 (.cons h4 (.cons h5 (.cons h6 (.cons h7 (.cons h8 (.cons h9 (.nil _))))))))))
theorem Sub.t11 (k0 k1 k2 k3 k4 k5 k6 k7 k8 k9 k10:Nat)(h0:lk k0 F=some v0:=by rfl)(h1:lk k1 F=some v1:=by rfl)(h2:lk k2 F=some v2:=by rfl)(h3:lk k3 F=some v3:=by rfl)(h4:lk k4 F=some v4:=by rfl)(h5:lk k5 F=some v5:=by rfl)(h6:lk k6 F=some v6:=by rfl)(h7:lk k7 F=some v7:=by rfl)(h8:lk k8 F=some v8:=by rfl)(h9:lk k9 F=some v9:=by rfl)(h10:lk k10 F=some v10:=by rfl):Sub F [(k0,v0),(k1,v1),(k2,v2),(k3,v3),(k4,v4),(k5,v5),(k6,v6),(k7,v7),(k8,v8),(k9,v9),(k10,v10)]:= .cons h0 (.cons h1 (.cons h2 (.cons h3 (.cons h4 (.cons h5 (.cons h6 (.cons h7 (.cons h8 (.cons h9 (.cons h10 (.nil _)))))))))))
theorem Sub.t12 (k0 k1 k2 k3 k4 k5 k6 k7 k8 k9 k10 k11:Nat)(h0:lk k0 F=some v0:=by rfl)(h1:lk k1 F=some v1:=by rfl)(h2:lk k2 F=some v2:=by rfl)(h3:lk k3 F=some v3:=by rfl)(h4:lk k4 F=some v4:=by rfl)(h5:lk k5 F=some v5:=by rfl)(h6:lk k6 F=some v6:=by rfl)(h7:lk k7 F=some v7:=by rfl)(h8:lk k8 F=some v8:=by rfl)(h9:lk k9 F=some v9:=by rfl)(h10:lk k10 F=some v10:=by rfl)(h11:lk k11 F=some v11:=by rfl):Sub F [(k0,v0),(k1,v1),(k2,v2),(k3,v3),(k4,v4),(k5,v5),(k6,v6),(k7,v7),(k8,v8),(k9,v9),(k10,v10),(k11,v11)]:= .cons h0 (.cons h1 (.cons h2 (.cons h3 (.cons h4 (.cons h5 (.cons h6 (.cons h7 (.cons h8 (.cons h9 (.cons h10 (.cons h11 (.nil _))))))))))))
end
section
variable {P:Program} {n:Nat} {w0:World} {M:List Nat} {Q:Exit→Go.Act→World→Prop} {F F':List (Nat × Value)} {L L' A K:List Ab} {ops:Array Oper} {rest l:List Oper} {d id:Nat} {op:Op} {T:TypeId} {pos:String} {Cp:Array Edge} {v v':Value} {x y:Code}
theorem Gs (h:GL P n w0 M l.toArray (Exit.then (y.wp P Q) Q) l F L):G P n w0 M (.seq (.region id l.toArray false) y) Q F L:=Ao (AJ h)
theorem CG {z:Code}(h:GL P n w0 M l.toArray (Exit.then (y.wp P (Exit.then (z.wp P Q) Q)) (Exit.then (z.wp P Q) Q)) l F L):G P n w0 M (.seq (.seq (.region id l.toArray false) y) z) Q F L:=Ao (Ao (AJ h))
theorem Gn (hs:Sub F F')(h:G P n w0 M y Q F' L):GL P n w0 M ops (Exit.then (y.wp P Q) Q) [] F L:=AQ (AB hs (AA h))
theorem Gt (h:PS P n w0 M op T F L v L')(k:GL P n w0 M ops Q rest ((d,v) :: F) L')(hd:Nat.blt d n=true:=by rfl):GL P n w0 M ops Q (⟨some d,op,T,pos,Cp,none⟩ :: rest) F L:=KQ hd h k
theorem Gm {x:Operand}(h:ev F x=some v)(k:GL P n w0 M ops Q rest ((d,v) :: F) L)(hd:Nat.blt d n=true:=by rfl):GL P n w0 M ops Q (⟨some d, .move x,T,pos,Cp,none⟩ :: rest) F L:=KQ hd (AF h) k
theorem Ga {x:Operand}(h:ev F x=some v)(k:GL P n w0 M ops Q rest ((d,v) :: F) L)(hd:Nat.blt d n=true:=by rfl):GL P n w0 M ops Q (⟨some d, .assign x,T,pos,Cp,none⟩ :: rest) F L:=KQ hd (A0 h) k
theorem Bf {j:Nat}{z:Bool}(t:Nat)(hj:(ops[j]?).bind (·.dst)=some t)(hb:lk t F=some (.bool z))(h:z=true→PS P n w0 M op T F L v L)(k:GL P n w0 M ops Q rest ((d,cv z v) :: F) L)(hd:Nat.blt d n=true:=by rfl):GL P n w0 M ops Q (⟨some d,op,T,pos,Cp,some (j,true)⟩ :: rest) F L:=Zg hj hb hd h k
theorem Bg {j:Nat}{z:Bool}(t:Nat)(hj:(ops[j]?).bind (·.dst)=some t)(hb:lk t F=some (.bool z))(h:z=false→PS P n w0 M op T F L v L)(k:GL P n w0 M ops Q rest ((d,cv (!z) v) :: F) L)(hd:Nat.blt d n=true:=by rfl):GL P n w0 M ops Q (⟨some d,op,T,pos,Cp,some (j,false)⟩ :: rest) F L:=Zh hj hb hd h k
theorem Gc {c:Operand}{b:Bool}(ht:b=true→G P n w0 M x Q F L)(hf:b=false→G P n w0 M y Q F L)(hc:ev F c=some (.bool b):=by rfl):G P n w0 M (.cond c x y) Q F L:=OW hc ht hf
end
section
variable {P:Program} {n:Nat} {w0:World} {M:List Nat} {Q:Exit→Go.Act→World→Prop} {l:List Oper} {Rs:List Nat} {F:List (Nat × Value)}
variable {k i j d:Nat} {V A:List Nat} {D:List (Nat × (Nat × Value))} {L:List Ab} {op:Op} {T:TypeId} {pos:String} {Cp:Array Edge} {v v':Value}
theorem Pf (i:Nat)(ho:l[i]?=some ⟨some d,op,T,pos,Cp,none⟩)(h:PS P n w0 M op T (E2 D Cp.toList++F) L v L)(k':JE P n w0 M Q l Rs F k (i :: V) (i :: A) ((i,(d,v)) :: D) L)(hc:XV l V i Cp.toList=true:=by kernel_rfl)(hlk:S0 F d v:=by first | exact .inl rfl | exact .inr rfl):JE P n w0 M Q l Rs F (k+1) V A D L:=
 BX i ho rfl hc (MD (Is h)) k' hlk
theorem Ho {j:Nat}{y:Bool}(i t:Nat)(ho:l[i]?=some ⟨some d,op,T,pos,Cp,some (j,false)⟩)(hj:(l.toArray[j]?).bind (·.dst)=some t)(hb:lk t (E2 D Cp.toList++F)=some (.bool y))(h:y=false→PS P n w0 M op T (E2 D Cp.toList++F) L v L)(k':JE P n w0 M Q l Rs F k (i :: V) (i :: A) ((i,(d,cv (!y) v)) :: D) L)(hc:XV l V i Cp.toList=true:=by kernel_rfl)(hlk:S0 F d (cv (!y) v):=by first | exact .inl rfl | exact .inr rfl):JE P n w0 M Q l Rs F (k+1) V A D L:=
 BX i ho rfl hc (G9 (t:=t) hj hb (fun q=>Is (h q))) k' hlk
theorem Mk {j:Nat}{y:Bool}(i t:Nat)(ho:l[i]?=some ⟨some d,op,T,pos,Cp,some (j,true)⟩)(hj:(l.toArray[j]?).bind (·.dst)=some t)(hb:lk t (E2 D Cp.toList++F)=some (.bool y))(h:y=true→PS P n w0 M op T (E2 D Cp.toList++F) L v L)(k':JE P n w0 M Q l Rs F k (i :: V) (i :: A) ((i,(d,cv y v)) :: D) L)(hc:XV l V i Cp.toList=true:=by kernel_rfl)(hlk:S0 F d (cv y v):=by first | exact .inl rfl | exact .inr rfl):JE P n w0 M Q l Rs F (k+1) V A D L:=
 BX i ho rfl hc (Rp (t:=t) hj hb (fun q=>Is (h q))) k' hlk
theorem Pk (h:JN P n w0 M Q l Rs F i D L A)(hr:reaches Rs i j=true:=by kernel_rfl):JN P n w0 M Q l Rs F i D L (j :: A):=Vz hr h
theorem Po (ho:l[j]?=some ⟨some d,op,T,pos,Cp,none⟩)(h:PS P n w0 M op T (E2 D Cp.toList++F) L v' L)(hl:M8 j D=some (d,v))(e:v'=v)(k':JN P n w0 M Q l Rs F i D L A):JN P n w0 M Q l Rs F i D L (j :: A):=X0 ho (MD (Is h)) hl e k'
end
section
variable {P:Program} {n:Nat} {w0:World} {M:List Nat} {F:List (Nat × Value)} {L:List Ab}
theorem cF {x:Operand}{c:Bool}{v:Value}(h:ev F x=some (cv (!c) v))(q:c=false):ev F x=some v:=Bc h (by rw [q];rfl)
theorem Ai {T U f off b o:Nat}{x:Operand}(hf:FA P T f off)(hx:ev F x=some (.pointer (some ⟨b,o,none⟩))):PS P n w0 M (.fieldAddr T x f) U F L (.pointer (some ⟨b,o+off,none⟩)) L:=RY hf hx
theorem BV {T:TypeId}{x:Operand}{p:Addr}(hx:ev F x=some (.pointer (some p))):PS P n w0 M (.nilCheck x) T F L (.pointer (some p)) L:=Sj hx
end
theorem AU.ar {α:Type}{n:Nat}[Inhabited α]{e:α→List Value}{sz:Nat}(fe:Flat e sz){i:Int}(h:0≤i∧i < (n:Int)):AU (Bx (n:=n) e) e (i.toNat * sz) sz (fun v=>v.at i) (fun v y=>v.put i y):=AU.arr fe h.1 h.2
class Nz (a:Prop) (b:outParam Prop):Prop where
 h:a→b
theorem kz {a b:Prop}[i:Nz a b](h:a):b:=i.h h
section
variable {p:Prop} [Decidable p] {a b:Bool} {x y:Prop} {m n:Int}
instance (priority:=low):Nz p p:=⟨id⟩
instance:Nz (decide p=true) p:=⟨of_decide_eq_true⟩
instance (priority:=low):Nz (decide p=false) (¬ p):=⟨of_decide_eq_false⟩
instance:Nz (decide (m < n)=false) (n≤m):=⟨fun h=>Int.not_lt.1 (of_decide_eq_false h)⟩
instance:Nz (decide (m≤n)=false) (n < m):=⟨fun h=>Int.not_le.1 (of_decide_eq_false h)⟩
instance [i:Nz (a=false) x]:Nz ((!a)=true) x:=⟨fun h=>i.h (by simpa using h)⟩
instance [i:Nz (a=true) x]:Nz ((!a)=false) x:=⟨fun h=>i.h (by simpa using h)⟩
instance [i:Nz (a=true) x][j:Nz (b=true) y]:Nz ((a && b)=true) (x∧y):=⟨fun h=>⟨i.h (eh ▸ h).1,j.h (eh ▸ h).2⟩⟩
instance [i:Nz (a=false) x][j:Nz (b=false) y]:Nz ((a || b)=false) (x∧y):=⟨fun h=>⟨i.h (ek ▸ h).1,j.h (ek ▸ h).2⟩⟩
instance [i:Nz (a=true) x][j:Nz (b=true) y]:Nz ((a || b)=true) (x∨y):=⟨fun h=>(eu ▸ h:a=true∨b=true).imp i.h j.h⟩
instance [i:Nz (a=false) x][j:Nz (b=false) y]:Nz ((a && b)=false) (x∨y):=⟨fun h=>(ey ▸ h:a=false∨b=false).imp i.h j.h⟩
end
section
variable {F:List (Nat × Value)} {P:Program} {L L' K rs:List Ab} {r r' s:Ab} {x:Operand} {v:Value} {xs:List Operand} {vs:List Value}
theorem Kt.h:Kt (r :: L) r r' (r' :: L):= .head
theorem Kt.t (h:Kt L r r' L'):Kt (s :: L) r r' (s :: L'):= .tail h
theorem Ld.h:Ld (r :: L) r L:= .head
theorem Ld.t (h:Ld L r L'):Ld (s :: L) r (s :: L'):= .tail h
theorem Ax.n:Ax L [] L:= .nil
theorem Ax.c (h:Ld L r L')(hs:Ax L' rs K):Ax L (r :: rs) K:= .cons h hs
theorem NS.n:NS F [] []:= .nil
theorem NS.c (h:ev F x=some v)(hs:NS F xs vs):NS F (x :: xs) (v :: vs):= .cons h hs
theorem Rs.n:Rs P F L [] []:= .nil
end
section
variable {α:Type} {a b c d e f g h i j:α} {l:List α}
theorem _root_.List.Mem.m0:List.Mem a (a :: l):= .head _
theorem _root_.List.Mem.m1:List.Mem a (b :: a :: l):= .tail _ .m0
theorem _root_.List.Mem.m2:List.Mem a (b :: c :: a :: l):= .tail _ .m1
theorem _root_.List.Mem.m3:List.Mem a (b :: c :: d :: a :: l):= .tail _ .m2
theorem _root_.List.Mem.m4:List.Mem a (b :: c :: d :: e :: a :: l):= .tail _ .m3
theorem _root_.List.Mem.m5:List.Mem a (b :: c :: d :: e :: f :: a :: l):= .tail _ .m4
theorem _root_.List.Mem.m6:List.Mem a (b :: c :: d :: e :: f :: g :: a :: l):= .tail _ .m5
theorem _root_.List.Mem.m7:List.Mem a (b :: c :: d :: e :: f :: g :: h :: a :: l):= .tail _ .m6
end
end Go.Ing
/- A house's data, in Lean, and their parts. -/
namespace Go.Ing
open Go
structure A3 where
 state:Int
 Ay:Int
 Dw:AP
 Ec:BM
 out:Az
 told:Hd
instance:Inhabited A3:=⟨⟨0,0,default,⟨[],false,false,⟨none,0,0⟩⟩,⟨⟨none,0,0⟩,0,false,[],false⟩,⟨none,0,0⟩⟩⟩
def A3.enc (x:A3):List Value:=Aq x.state++Aq x.Ay++AP.enc x.Dw++BM.enc x.Ec++Az.enc x.out++Ef x.told
theorem A3.fl:Flat A3.enc 22:=⟨fun x=>by simp [A3.enc,BM.fl.len,Az.fl.len,AP.fl.len,PQ.len,Bu.len],fun x v hv=>by
 simp only [A3.enc,List.mem_append] at hv
 rcases hv with ((((h | h) | h) | h) | h) | h
 ·exact Bu.one _ v h
 ·exact Bu.one _ v h
 ·exact AP.fl.one _ v h
 ·exact BM.fl.one _ v h
 ·exact Az.fl.one _ v h
 ·exact PQ.one _ v h⟩
theorem A3.l0:AU A3.enc (Aq) 0 1 (fun x=>x.state) (fun x y=>{ x with state:=y }):=
 AU.Eg Bu (fun _=> []) (fun x=>Aq x.Ay++AP.enc x.Dw++BM.enc x.Ec++Az.enc x.out++Ef x.told) (fun _=>rfl) (fun x=>by simp [A3.enc]) (fun x y=>by simp [A3.enc])
theorem A3.l1:AU A3.enc (Aq) 1 1 (fun x=>x.Ay) (fun x y=>{ x with Ay:=y }):=
 AU.Eg Bu (fun x=>Aq x.state) (fun x=>AP.enc x.Dw++BM.enc x.Ec++Az.enc x.out++Ef x.told) (fun x=>by simp [Bu.len]) (fun x=>by simp [A3.enc]) (fun x y=>by simp [A3.enc])
theorem A3.l2:AU A3.enc (AP.enc) 2 10 (fun x=>x.Dw) (fun x y=>{ x with Dw:=y }):=
 AU.Eg AP.fl (fun x=>Aq x.state++Aq x.Ay) (fun x=>BM.enc x.Ec++Az.enc x.out++Ef x.told) (fun x=>by simp [Bu.len]) (fun x=>by simp [A3.enc]) (fun x y=>by simp [A3.enc])
theorem A3.l3:AU A3.enc (BM.enc) 12 4 (fun x=>x.Ec) (fun x y=>{ x with Ec:=y }):=
 AU.Eg BM.fl (fun x=>Aq x.state++Aq x.Ay++AP.enc x.Dw) (fun x=>Az.enc x.out++Ef x.told) (fun x=>by simp [AP.fl.len,Bu.len]) (fun x=>by simp [A3.enc]) (fun x y=>by simp [A3.enc])
theorem A3.l4:AU A3.enc (Az.enc) 16 5 (fun x=>x.out) (fun x y=>{ x with out:=y }):=
 AU.Eg Az.fl (fun x=>Aq x.state++Aq x.Ay++AP.enc x.Dw++BM.enc x.Ec) (fun x=>Ef x.told) (fun x=>by simp [BM.fl.len,AP.fl.len,Bu.len]) (fun x=>by simp [A3.enc]) (fun x y=>by simp [A3.enc])
theorem A3.l5:AU A3.enc (Ef) 21 1 (fun x=>x.told) (fun x y=>{ x with told:=y }):=
 AU.Eg PQ (fun x=>Aq x.state++Aq x.Ay++AP.enc x.Dw++BM.enc x.Ec++Az.enc x.out) (fun _=> []) (fun x=>by simp [BM.fl.len,Az.fl.len,AP.fl.len,Bu.len]) (fun x=>by simp [A3.enc]) (fun x y=>by simp [A3.enc])
structure AM where
 w:AH
 Au:R4 A3 4
 B7:Int
 last:Hd
def AM.enc (x:AM):List Value:=AH.enc x.w++Bx A3.enc x.Au++Aq x.B7++Ef x.last
theorem AM.fl:Flat AM.enc 255:=⟨fun x=>by simp [AM.enc,(HL A3.fl).len,AH.fl.len,PQ.len,Bu.len],fun x v hv=>by
 simp only [AM.enc,List.mem_append] at hv
 rcases hv with ((h | h) | h) | h
 ·exact AH.fl.one _ v h
 ·exact(HL A3.fl).one _ v h
 ·exact Bu.one _ v h
 ·exact PQ.one _ v h⟩
theorem AM.l0:AU AM.enc (AH.enc) 0 165 (fun x=>x.w) (fun x y=>{ x with w:=y }):=
 AU.Eg AH.fl (fun _=> []) (fun x=>Bx A3.enc x.Au++Aq x.B7++Ef x.last) (fun _=>rfl) (fun x=>by simp [AM.enc]) (fun x y=>by simp [AM.enc])
theorem AM.l1:AU AM.enc (Bx A3.enc) 165 88 (fun x=>x.Au) (fun x y=>{ x with Au:=y }):=
 AU.Eg (HL A3.fl) (fun x=>AH.enc x.w) (fun x=>Aq x.B7++Ef x.last) (fun x=>by simp [AH.fl.len]) (fun x=>by simp [AM.enc]) (fun x y=>by simp [AM.enc])
theorem AM.l2:AU AM.enc (Aq) 253 1 (fun x=>x.B7) (fun x y=>{ x with B7:=y }):=
 AU.Eg Bu (fun x=>AH.enc x.w++Bx A3.enc x.Au) (fun x=>Ef x.last) (fun x=>by simp [(HL A3.fl).len,AH.fl.len]) (fun x=>by simp [AM.enc]) (fun x y=>by simp [AM.enc])
theorem AM.l3:AU AM.enc (Ef) 254 1 (fun x=>x.last) (fun x y=>{ x with last:=y }):=
 AU.Eg PQ (fun x=>AH.enc x.w++Bx A3.enc x.Au++Aq x.B7) (fun _=> []) (fun x=>by simp [(HL A3.fl).len,AH.fl.len,Bu.len]) (fun x=>by simp [AM.enc]) (fun x y=>by simp [AM.enc])
end Go.Ing
/- What a house does: plain functions. -/
namespace Go.Ing
open Go
structure Aw where
 state:Int
 Ay:Int
 Dw:AP
 now:Ap
 C0:Bool
 ret:Bool
 queue:List Ap
 pg:Page.Pg
 wait:List Ap
 told:List Ap
instance:Inhabited Aw:=⟨⟨0,0,default,[],false,false,[],⟨0,false,[],false⟩,[],[]⟩⟩
structure AI where
 w:AH
 Au:Vector Aw 4
 B7:Int
 last:List Event
namespace Aw
def LM (s:Aw):Bool:=decide ((s.wait.length:Int)≤60) && decide ((s.pg.ring.length:Int)≤700) && decide (0≤s.pg.shown) && decide (s.pg.shown≤200)
def line (s:Aw)(u:Ap):Aw:=
 if (!s.LM)=true then s else if s.pg.cut=true then s
 else if decide (60≤(s.wait.length:Int))=true then { s with pg:={ s.pg with cut:=true } } else { s with wait:=s.wait ++ [u] }
def note (s:Aw)(u:Ap):Aw:=if (!s.pg.cut)=true then { s with told:=s.told ++ [u] } else s
def tell (s:Aw)(u:Ap):Aw:=(s.line u).note u
def send (s:Aw)(u:Ap):Aw:=if (!s.LM)=true then s else if s.pg.cut=true then s else { s with pg:=Page.put s.pg u }
def BZ (s:Aw):Aw:=
 if (!s.LM || decide (s.Dw.B3 < 0) || decide (200 < s.Dw.B3))=true then s
 else { s with pg:=(Page.BZ s.Dw.B3 s.wait s.pg).1,wait:=(Page.BZ s.Dw.B3 s.wait s.pg).2 }
def FP (s:Aw):Aw:={ s with pg:={ s.pg with shown:=0,B9:=false } }
def cy (s:Aw)(n:Int):Nat:=(max 0 (min n (s.pg.ring.length:Int))).toNat
def G6 (s:Aw)(n:Int):Aw:={ s with pg:={ s.pg with ring:=s.pg.ring.drop (s.cy n) } }
def out (s:Aw)(n:Int):Ap:=s.pg.ring.take (s.cy n)
def K8 (s:Aw):Bool:=
 !(decide (60 < (s.now.length:Int)) || decide (6 < (s.queue.length:Int)) || (s.C0 && decide (60 < (s.now.length:Int))) || (s.ret && (!decide (s.now = []) || s.C0))) && (s.queue ++ [s.now]).all Bi.F2
def typed (s:Aw)(u:Ap):Aw × Int:=
 if (!s.K8)=true then(s,0)
 else
  let x:=Bi.feed ⟨s.now,s.C0,s.ret,s.queue,0⟩ u
  ({ s with now:=x.now,C0:=x.C0,ret:=x.ret,queue:=x.queue },x.lost)
def bytes (s:Aw)(u:Ap):Aw × Ap:=({ s with Dw:=(s.Dw.Dg u).1 }.send (s.Dw.Dg u).2.2.1,(s.Dw.Dg u).2.1)
def offer (s:Aw)(opt:Int):Aw:=
 if decide ((s.Dw.DP opt).2.1 = [])=true then { s with Dw:=((s.Dw.DP opt).1.Ask opt).1 }.send ([]++((s.Dw.DP opt).1.Ask opt).2.1)
 else { s with Dw:=(s.Dw.DP opt).1 }.send ((s.Dw.DP opt).2.1 ++ [])
end Aw
namespace AI
def at_ (H:AI)(k:Int):Aw:=H.Au.at k
def set (H:AI)(k:Int)(s:Aw):AI:={ H with Au:=H.Au.put k s }
def tell (H:AI)(k:Int)(u:Ap):AI:=H.set k ((H.at_ k).tell u)
def CT (e:Event)(H:AI):Nat→AI
 | 0=>H
 | k+1=>if (!decide (((CT e H k).at_ k).state=2))=true then CT e H k else if (AH.tell e ((CT e H k).at_ k).Ay).2=true then(CT e H k).tell k (AH.tell e ((CT e H k).at_ k).Ay).1 else CT e H k
def Hg (H:AI)(l:List Event):AI:=l.foldl (fun X e=>CT e X 4) H
def Gx (H:AI)(l:List Event):AI:={ H with last:=H.last++l }.Hg l
def EA:Order:={ (default:Order) with verb:=20 }
def UJ (H:AI)(k:Int):AI:={ H with w:=(AE.EC H.w (H.at_ k).Ay EA).1 }
def leave (H:AI)(k:Int):AI:=
 (if (decide ((H.at_ k).state=2) && (H.w.AL.at (H.at_ k).Ay).here)=true then((H.UJ k).set k default).Gx (AE.EC H.w (H.at_ k).Ay EA).2.1 else H).set k default
def Ch (H:AI):Nat→AI × Bool
 | 0=>(H,false)
 | k+1=>
  if decide (((Ch H k).1.at_ k).state=0)=true then Ch H k
  else if (((Ch H k).1.at_ k).BZ).pg.cut=true then(((Ch H k).1.set k (((Ch H k).1.at_ k).BZ)).leave k,true)
  else((Ch H k).1.set k (((Ch H k).1.at_ k).BZ),(Ch H k).2)
def He (H:AI):Nat→AI
 | 0=>H
 | n+1=>if (!(H.Ch 4).2)=true then(H.Ch 4).1 else(H.Ch 4).1.He n
def BZ (H:AI):AI:=H.He 5
def Hq:Ap:= [87,104,111,32,97,114,101,32,121,111,117,63]
def Oi:Ap:= [78,111,116,32,115,111,32,102,97,115,116,46]
def ab:Ap:= [87,104,97,116,63]
def Qe:Ap:= [84,104,97,116,32,105,115,32,110,111,32,110,97,109,101,46]
def noRoom:Ap:= [84,104,101,114,101,32,105,115,32,110,111,32,114,111,111,109,46]
def Jg (H:AI)(k:Int):AI:=((H.set k ((({ (default:Aw) with state:=1,Ay:=-1 }).offer 3).offer 31)).tell k Hq).BZ
def named (H:AI)(k:Int)(u:Ap):AI:=
 if decide ((AE.BR H.w u).2.2.2=0)=true then({ H with w:=(AE.BR H.w u).1 }.set k { H.at_ k with state:=2,Ay:=(AE.BR H.w u).2.1 }).Gx (AE.BR H.w u).2.2.1
 else if decide ((AE.BR H.w u).2.2.2=4)=true then H.tell k noRoom
 else H.tell k Qe
def order (H:AI)(k:Int)(u:Ap):AI:=
 if (!decide ((Words.parse u).2=0))=true then H.tell k ab
 else if decide ((Words.parse u).1.verb=20)=true then H.leave k
 else { H with w:=(AE.EC H.w (H.at_ k).Ay (Words.parse u).1).1 }.Gx (AE.EC H.w (H.at_ k).Ay (Words.parse u).1).2.1
def EN (H:AI)(k:Int):AI:=
 if decide ((H.at_ k).state=0)=true then H
 else match (H.at_ k).queue with
  | []=>H
  | q :: r=>
   let H1:=H.set k { H.at_ k with queue:=r }.FP
   if (H.at_ k).pg.B9=true then H1
   else if decide ((H.at_ k).state=1)=true then H1.named k (Words.P7 32 (Words.Sv 32 q))
   else H1.order k q
def turns (H:AI):Nat→AI
 | 0=>H
 | k+1=>(turns H k).EN k
def Of (H:AI)(d:Int):AI:=
 let X:=H.turns 4
 ({ X with w:=(AE.CW X.w d).1 }.Gx (AE.CW X.w d).2.1).BZ
def EZ (H:AI):Nat→AI
 | 0=>H
 | k+1=>(EZ H k).set k { (EZ H k).at_ k with told:= [] }
def begun (H:AI):AI:={ H with B7:=H.B7+1,last:= [] }.EZ 4
def ok:Bm:=⟨0,[]⟩
def byte (H:AI)(k:Int)(u:Ap):AI:=
 let s1:=(H.at_ k).bytes u
 let s2:=s1.1.typed s1.2
 ((if decide (0 < s2.2)=true then(H.set k s2.1).tell k Oi else H.set k s2.1)).BZ
def Dv (X:AI)(a:Bz):AI × Bm:=
 if decide (a.kind=5)=true then(X.Of a.n,ok)
 else if (decide (a.kind < 1) || decide (5 < a.kind))=true then(X,⟨5,[]⟩)
 else if (decide (a.BL < 0) || decide (4≤a.BL))=true then(X,⟨2,[]⟩)
 else if (decide ((X.at_ a.BL).state=0) != decide (a.kind=1))=true then(X,⟨3,[]⟩)
 else if decide (a.kind=1)=true then(X.Jg a.BL,ok)
 else if decide (a.kind=2)=true then(X.byte a.BL a.bytes,ok)
 else if decide (a.kind=3)=true then((X.set a.BL ((X.at_ a.BL).G6 a.n)).BZ,⟨0,(X.at_ a.BL).out a.n⟩)
 else((X.leave a.BL).BZ,ok)
def act (H:AI)(a:Bz):AI × Bm:=if decide (400≤H.B7)=true then(H,⟨4,[]⟩) else H.begun.Dv a
def new:AI:=⟨AH.new,Vector.replicate 4 default,0,[]⟩
def run:AI→List Bz→AI × List Bm
 | H,[]=>(H,[])
 | H,a :: l=>((run (H.act a).1 l).1,(H.act a).2 :: (run (H.act a).1 l).2)
end AI
end Go.Ing
/- Engine: several slices together; a seat of a house. -/
namespace Go.Ing
open Go
def Ab.EB (l:List Ab):Ab where
 CP:=l.flatMap Ab.CP
 ok w:=(∀ r∈l,r.ok w)∧l.Pairwise fun r s=>∀ b:Nat,b∈r.CP→b ∉ s.CP
 loc w w' h hw:=⟨fun r hr=>r.loc w w' (fun b hb=>h b (List.mem_flatMap.2 ⟨r,hr,hb⟩)) (hw.1 r hr),hw.2⟩
section
variable {w0 w:World} {M:List Nat} {l L:List Ab}
theorem St.ZO (h:St w0 M w (Ab.EB l :: L)):St w0 M w (l++L):=by
 have hm:∀ r∈l,∀ b∈r.CP,b∈(Ab.EB l).CP:=fun r hr b hb=>List.mem_flatMap.2 ⟨r,hr,hb⟩
 have hf:=h.ok (Ab.EB l) (List.mem_cons_self ..)
 refine⟨h.os,h.tape,h.output,h.size,h.IT,fun r hr=>?_,fun r hr=>?_,List.pairwise_append.2 ⟨hf.2,(List.pairwise_cons.1 h.JI).2,fun r hr s hs b hb=>(List.pairwise_cons.1 h.JI).1 s hs b (hm r hr b hb)⟩⟩
 ·rcases List.mem_append.1 hr with hr | hr
  ·exact hf.1 r hr
  ·exact h.ok r (List.mem_cons_of_mem _ hr)
 ·rcases List.mem_append.1 hr with hr | hr
  ·exact fun b hb=>h.CP _ (List.mem_cons_self ..) b (hm r hr b hb)
  ·exact h.CP r (List.mem_cons_of_mem _ hr)
theorem St.ZT (h:St w0 M w (l++L)):St w0 M w (Ab.EB l :: L):=by
 have hd:=List.pairwise_append.1 h.JI
 refine⟨h.os,h.tape,h.output,h.size,h.IT,fun r hr=>?_,fun r hr=>?_,List.pairwise_cons.2 ⟨fun s hs b hb=>?_,hd.2.1⟩⟩
 ·rcases List.mem_cons.1 hr with rfl | hr
  ·exact⟨fun r hr=>h.ok r (List.mem_append_left _ hr),hd.1⟩
  ·exact h.ok r (List.mem_append_right _ hr)
 ·rcases List.mem_cons.1 hr with rfl | hr
  ·intro b hb
   obtain⟨r,hr,hb'⟩:=List.mem_flatMap.1 hb
   exact h.CP r (List.mem_append_left _ hr) b hb'
  ·exact h.CP r (List.mem_append_right _ hr)
 ·obtain⟨r,hr,hb'⟩:=List.mem_flatMap.1 hb
  exact hd.2.2 r hr s hs b hb'
end
structure BJ where
 queue:List Ap
 wait:List Ap
 told:List Ap
 deriving Inhabited
def Fg (T:Nat)(v:A3)(l:BJ):List Ab:= [Ab.own v.Ec.queue T 1 (l.queue.flatMap A8),Ab.own v.out.wait T 1 (l.wait.flatMap A8),Ab.own v.told T 1 (l.told.flatMap A8)]
def CR (T:Nat)(vs:Vector A3 4)(ls:Vector BJ 4):List Ab:=Fg T (vs.at 0) (ls.at 0)++(Fg T (vs.at 1) (ls.at 1)++(Fg T (vs.at 2) (ls.at 2)++Fg T (vs.at 3) (ls.at 3)))
def Gi (T:Nat)(k:Int)(vs:Vector A3 4)(ls:Vector BJ 4):List Ab:=
 if k=0 then Fg T (vs.at 1) (ls.at 1)++(Fg T (vs.at 2) (ls.at 2)++Fg T (vs.at 3) (ls.at 3))
 else if k=1 then Fg T (vs.at 0) (ls.at 0)++(Fg T (vs.at 2) (ls.at 2)++Fg T (vs.at 3) (ls.at 3))
 else if k=2 then Fg T (vs.at 0) (ls.at 0)++(Fg T (vs.at 1) (ls.at 1)++Fg T (vs.at 3) (ls.at 3))
 else Fg T (vs.at 0) (ls.at 0)++(Fg T (vs.at 1) (ls.at 1)++Fg T (vs.at 2) (ls.at 2))
theorem I1 {α:Type}(a b c:List α):(a++(b++c)).Perm (b++(a++c)):=by
 rw [← List.append_assoc,← List.append_assoc]
 exact List.perm_append_comm.append_right c
theorem four {k:Int}(h0:0≤k)(h1:k < 4):k=0∨k=1∨k=2∨k=3:=by omega
theorem QG (T:Nat){k:Int}(h0:0≤k)(h1:k < 4)(vs:Vector A3 4)(ls:Vector BJ 4):(CR T vs ls).Perm (Fg T (vs.at k) (ls.at k)++Gi T k vs ls):=by
 unfold CR Gi
 rcases four h0 h1 with e | e | e | e<;>subst e
 ·exact .refl _
 ·exact I1 _ _ _
 ·exact((I1 _ _ _).append_left _).trans (I1 _ _ _)
 ·exact(((List.perm_append_comm).append_left _).append_left _).trans (((I1 _ _ _).append_left _).trans (I1 _ _ _))
theorem VQ (T:Nat){k:Int}(h0:0≤k)(h1:k < 4)(vs:Vector A3 4)(ls:Vector BJ 4)(v:A3)(l:BJ):Gi T k (vs.put k v) (ls.put k l)=Gi T k vs ls:=by
 have hv:∀ i:Int,0≤i→i≠k→(vs.put k v).at i=vs.at i:=fun i hi hn=>Vector.EI h0 h1 hi hn
 have hl:∀ i:Int,0≤i→i≠k→(ls.put k l).at i=ls.at i:=fun i hi hn=>Vector.EI h0 h1 hi hn
 unfold Gi
 rcases four h0 h1 with e | e | e | e<;>subst e
 ·rw [if_pos rfl,if_pos rfl,hv 1 (by decide) (by decide),hv 2 (by decide) (by decide),hv 3 (by decide) (by decide),hl 1 (by decide) (by decide),hl 2 (by decide) (by decide),hl 3 (by decide) (by decide)]
 ·rw [if_neg (by decide),if_pos rfl,if_neg (by decide),if_pos rfl,hv 0 (by decide) (by decide),hv 2 (by decide) (by decide),hv 3 (by decide) (by decide),hl 0 (by decide) (by decide),hl 2 (by decide) (by decide),hl 3 (by decide) (by decide)]
 ·rw [if_neg (by decide),if_neg (by decide),if_pos rfl,if_neg (by decide),if_neg (by decide),if_pos rfl,hv 0 (by decide) (by decide),hv 1 (by decide) (by decide),hv 3 (by decide) (by decide),hl 0 (by decide) (by decide),hl 1 (by decide) (by decide),hl 3 (by decide) (by decide)]
 ·rw [if_neg (by decide),if_neg (by decide),if_neg (by decide),if_neg (by decide),if_neg (by decide),if_neg (by decide),hv 0 (by decide) (by decide),hv 1 (by decide) (by decide),hv 2 (by decide) (by decide),hl 0 (by decide) (by decide),hl 1 (by decide) (by decide),hl 2 (by decide) (by decide)]
def AM.BL (V:AM)(k:Int)(s:A3):AM:={ V with Au:=V.Au.put k s }
def Ji (V:AM)(k:Int)(s:A3):List Value:=(V.BL k s).enc
theorem AU.BL (V:AM){k:Int}(h0:0≤k)(h1:k < 4):AU (Ji V k) A3.enc (165+k.toNat * 22) 22 (fun s=>s) (fun _ y=>y):=by
 have hl:=AM.l1.comp (AU.arr (n:=4) A3.fl h0 h1)
 refine⟨fun x=>?_,hl.len,fun x=>hl.We _,fun x y=>?_,hl.one⟩
 ·have:=hl.get (V.BL k x)
  rw [show((V.BL k x).Au.at k)=x from Vector.CD h0 h1] at this
  exact this
 ·have:=hl.set (V.BL k x) y
  rw [show({ V.BL k x with Au:=(V.BL k x).Au.put k y }:AM)=V.BL k y from by unfold AM.BL;rw [Vector.Ej]] at this
  exact this
theorem Vector.RC {α:Type}[Inhabited α]{n:Nat}(v:Vector α n){k:Int}(h0:0≤k)(h1:k < n):v.put k (v.at k)=v:=by
 apply Uf
 intro i i0 i1
 by_cases e:i=k
 ·subst e;rw [Vector.CD h0 h1]
 ·rw [Vector.EI h0 h1 i0 e]
theorem AM.QX (V:AM){k:Int}(h0:0≤k)(h1:k < 4):V.BL k (V.Au.at k)=V:=by
 unfold AM.BL;rw [Vector.RC _ h0 h1]
def Cq (v:A3)(l:BJ):Aw:=⟨v.state,v.Ay,v.Dw,v.Ec.now,v.Ec.C0,v.Ec.ret,l.queue,Page.of v.out,l.wait,l.told⟩
def A5 (V:AM)(ls:Vector BJ 4)(ev:List Event):AI:=⟨V.w,Vector.ofFn fun i=>Cq (V.Au.at ((i:Nat):Int)) (ls.at ((i:Nat):Int)),V.B7,ev⟩
theorem Cr (V:AM)(ls:Vector BJ 4)(ev:List Event){k:Int}(h0:0≤k)(h1:k < 4):(A5 V ls ev).at_ k=Cq (V.Au.at k) (ls.at k):=by
 rcases four h0 h1 with e | e | e | e<;>subst e<;>rfl
theorem IZ (V:AM)(ls:Vector BJ 4)(ev:List Event){k:Int}(h0:0≤k)(h1:k < 4)(v:A3)(l:BJ):A5 (V.BL k v) (ls.put k l) ev=(A5 V ls ev).set k (Cq v l):=by
 unfold A5 AI.set AM.BL
 congr 1
 apply Uf
 intro i i0 i1
 have hof:∀(f:Fin 4→Aw),(Vector.ofFn f).at i=f ⟨i.toNat,by omega⟩:=fun f=>by
  rcases four i0 i1 with e | e | e | e<;>subst e<;>rfl
 rw [hof]
 have hi:((i.toNat:Nat):Int)=i:=by omega
 by_cases e:i=k
 ·subst e
  rw [Vector.CD h0 h1]
  show Cq ((V.Au.put i v).at ((i.toNat:Nat):Int)) ((ls.put i l).at ((i.toNat:Nat):Int))=_
  rw [hi,Vector.CD h0 h1,Vector.CD h0 h1]
 ·rw [Vector.EI h0 h1 i0 e,hof]
  show Cq ((V.Au.put k v).at ((i.toNat:Nat):Int)) ((ls.put k l).at ((i.toNat:Nat):Int))=Cq (V.Au.at ((i.toNat:Nat):Int)) (ls.at ((i.toNat:Nat):Int))
  rw [hi,Vector.EI h0 h1 i0 e,Vector.EI h0 h1 i0 e]
section
variable {P:Program} {n:Nat} {w0 w:World} {M:List Nat} {Q:Exit→Go.Act→World→Prop} {F:List (Nat × Value)} {L K:List Ab} {cd:Code} {b T TS:Nat} {V:AM} {ls:Vector BJ 4} {k:Int}
theorem St.bq (h0:0≤k)(h1:k < 4)(h:St w0 M w (Ab.box b T V.enc :: Ab.EB (CR TS V.Au ls) :: K)) :
  St w0 M w (Ab.own (V.Au.at k).Ec.queue TS 1 ((ls.at k).queue.flatMap A8) :: Ab.own (V.Au.at k).out.wait TS 1 ((ls.at k).wait.flatMap A8) :: Ab.own (V.Au.at k).told TS 1 ((ls.at k).told.flatMap A8) :: Ab.box b T (Ji V k (V.Au.at k)) :: Ab.EB (Gi TS k V.Au ls) :: K):=by
 have h2:St w0 M w (CR TS V.Au ls++(Ab.box b T V.enc :: K)):=(h.perm (List.Perm.swap ..)).ZO
 have h3:=h2.perm ((QG TS h0 h1 V.Au ls).append_right _)
 have h4:St w0 M w (Gi TS k V.Au ls++(Fg TS (V.Au.at k) (ls.at k)++(Ab.box b T V.enc :: K))):=by
  refine h3.perm ?_
  rw [List.append_assoc]
  exact I1 _ _ _
 have h5:=h4.ZT
 unfold Ji
 rw [V.QX h0 h1]
 refine h5.perm ?_
 exact(I1 [Ab.EB (Gi TS k V.Au ls)] (Fg TS (V.Au.at k) (ls.at k) ++ [Ab.box b T V.enc]) K).trans (.of_eq (by simp [Fg]))
theorem St.close' (h0:0≤k)(h1:k < 4){s:A3}{qs ws ts:List Ap}{q w' t:Hd}(hq:s.Ec.queue=q)(hw:s.out.wait=w')(ht:s.told=t)
  (h:St w0 M w (Ab.own q TS 1 (qs.flatMap A8) :: Ab.own w' TS 1 (ws.flatMap A8) :: Ab.own t TS 1 (ts.flatMap A8) :: Ab.box b T (Ji V k s) :: Ab.EB (Gi TS k V.Au ls) :: K)) :
  St w0 M w (Ab.box b T (V.BL k s).enc :: Ab.EB (CR TS (V.BL k s).Au (ls.put k ⟨qs,ws,ts⟩)) :: K):=by
 subst hq hw ht
 have e1:(V.BL k s).Au.at k=s:=Vector.CD h0 h1
 have e2:(ls.put k ⟨qs,ws,ts⟩).at k=⟨qs,ws,ts⟩:=Vector.CD h0 h1
 have hp:=QG TS h0 h1 (V.BL k s).Au (ls.put k ⟨qs,ws,ts⟩)
 rw [e1,e2,show Gi TS k (V.BL k s).Au (ls.put k ⟨qs,ws,ts⟩)=Gi TS k V.Au ls from VQ TS h0 h1 _ _ _ _] at hp
 have h2:St w0 M w (Ab.EB (Gi TS k V.Au ls) :: (Fg TS s ⟨qs,ws,ts⟩++(Ab.box b T (V.BL k s).enc :: K))):=
  h.perm ((I1 [Ab.EB (Gi TS k V.Au ls)] (Fg TS s ⟨qs,ws,ts⟩ ++ [Ab.box b T (V.BL k s).enc]) K).symm.trans (.of_eq (by simp [Fg]))|>.symm.symm)
 have h3:=h2.ZO
 have h4:St w0 M w ((Fg TS s ⟨qs,ws,ts⟩++Gi TS k V.Au ls)++(Ab.box b T (V.BL k s).enc :: K)):=h3.perm (by rw [List.append_assoc];exact I1 _ _ _)
 have h5:=(h4.perm (hp.symm.append_right _)).ZT
 exact h5.perm (List.Perm.swap ..)
theorem Ft (h0:0≤k)(h1:k < 4)(h:∀ s l,V.Au.at k=s→ls.at k=l→(s.Ec.queue.len=l.queue.length∧s.out.wait.len=l.wait.length∧s.told.len=l.told.length)→G P n w0 M cd Q F (Ab.own s.Ec.queue TS 1 (l.queue.flatMap A8) :: Ab.own s.out.wait TS 1 (l.wait.flatMap A8) :: Ab.own s.told TS 1 (l.told.flatMap A8) :: Ab.box b T (Ji V k s) :: Ab.EB (Gi TS k V.Au ls) :: K)) :
  G P n w0 M cd Q F (Ab.box b T V.enc :: Ab.EB (CR TS V.Au ls) :: K):=fun a w hF hS=>
 have hO:=hS.bq h0 h1
 h _ _ rfl rfl ⟨(Kn.own (.head _) w hO).La DX (by decide),(Kn.own (.tail _ (.head _)) w hO).La DX (by decide),(Kn.own (.tail _ (.tail _ (.head _))) w hO).La DX (by decide)⟩ a w hF hO
theorem HM (h0:0≤k)(h1:k < 4){s:A3}{qs ws ts:List Ap}{q w' t:Hd}(hq:s.Ec.queue=q)(hw:s.out.wait=w')(ht:s.told=t)(h:G P n w0 M cd Q F (Ab.box b T (V.BL k s).enc :: Ab.EB (CR TS (V.BL k s).Au (ls.put k ⟨qs,ws,ts⟩)) :: K)) :
  G P n w0 M cd Q F (Ab.own q TS 1 (qs.flatMap A8) :: Ab.own w' TS 1 (ws.flatMap A8) :: Ab.own t TS 1 (ts.flatMap A8) :: Ab.box b T (Ji V k s) :: Ab.EB (Gi TS k V.Au ls) :: K):=fun a w hF hS=>h a w hF (hS.close' h0 h1 hq hw ht)
theorem Si {x:Exit}(h0:0≤k)(h1:k < 4){s:A3}{qs ws ts:List Ap}{q w' t:Hd}(hq:s.Ec.queue=q)(hw:s.out.wait=w')(ht:s.told=t)(h:GQ n w0 M Q x F (Ab.box b T (V.BL k s).enc :: Ab.EB (CR TS (V.BL k s).Au (ls.put k ⟨qs,ws,ts⟩)) :: K)) :
  GQ n w0 M Q x F (Ab.own q TS 1 (qs.flatMap A8) :: Ab.own w' TS 1 (ws.flatMap A8) :: Ab.own t TS 1 (ts.flatMap A8) :: Ab.box b T (Ji V k s) :: Ab.EB (Gi TS k V.Au ls) :: K):=fun a w hF hS=>h a w hF (hS.close' h0 h1 hq hw ht)
end
theorem Em {V:AM}{ls:Vector BJ 4}{ev:List Event}{k:Int}(h0:0≤k)(h1:k < 4){s v:A3}{l l':BJ}(hs:V.Au.at k=s)(hl:ls.at k=l){f:Aw→Aw}(e:Cq v l'=f (Cq s l)):A5 (V.BL k v) (ls.put k l') ev=(A5 V ls ev).set k (f ((A5 V ls ev).at_ k)):=by
 rw [IZ V ls ev h0 h1,Cr V ls ev h0 h1,hs,hl,e]
theorem JA {v:A3}{l:BJ}(h:v.out.wait.len=l.wait.length):(Cq v l).LM=Page.Bh v.out:=by
 unfold Aw.LM Page.Bh
 rw [h];rfl
end Go.Ing
/- A house: plain laws for the walks. -/
namespace Go.Ing
open Go
theorem XC {v:A3}{l:BJ}{u:Ap}(hw:v.out.wait.len=l.wait.length)(h:Page.Bh v.out=false):(Cq v l).line u=Cq v l:=if_pos (by rw [JA hw,h];rfl)
theorem Xk {v:A3}{l:BJ}{u:Ap}(hw:v.out.wait.len=l.wait.length)(h:Page.Bh v.out=true)(c:v.out.cut=true):(Cq v l).line u=Cq v l:=(if_neg (by rw [JA hw,h];decide)).trans (if_pos c)
theorem WU {v:A3}{l:BJ}{u:Ap}(hw:v.out.wait.len=l.wait.length)(h:Page.Bh v.out=true)(c:v.out.cut=false)(n:60≤l.wait.length):(Cq v l).line u=Cq { v with out:=⟨v.out.wait,v.out.shown,v.out.B9,v.out.ring,true⟩ } l:=
 (if_neg (by rw [JA hw,h];decide)).trans ((if_neg (by show ¬ v.out.cut=true;rw [c];decide)).trans (if_pos (decide_eq_true (show(60:Int)≤(l.wait.length:Int) by omega))))
theorem Vx {v:A3}{l:BJ}{u:Ap}(hw:v.out.wait.len=l.wait.length)(h:Page.Bh v.out=true)(c:v.out.cut=false)(n:l.wait.length < 60)(w:Hd):(Cq v l).line u=Cq { v with out:=⟨w,v.out.shown,v.out.B9,v.out.ring,v.out.cut⟩ } ⟨l.queue,l.wait ++ [u],l.told⟩:=
 (if_neg (by rw [JA hw,h];decide)).trans ((if_neg (by show ¬ v.out.cut=true;rw [c];decide)).trans (if_neg (by rw [decide_eq_true_eq];show ¬ (60:Int)≤(l.wait.length:Int);omega)))
theorem aI {v:A3}{l:BJ}{u:Ap}(h:(!v.out.cut)=true)(t:Hd):(Cq v l).note u=Cq { v with told:=t } ⟨l.queue,l.wait,l.told ++ [u]⟩:=if_pos h
theorem aV {v:A3}{l:BJ}{u:Ap}(h:(!v.out.cut)=false):(Cq v l).note u=Cq v l:=if_neg (by show ¬ (!v.out.cut)=true;rw [h];decide)
theorem AI.Cm (H:AI){k j:Int}(h0:0≤k)(h1:k < 4)(j0:0≤j)(s:Aw):(H.set k s).at_ j=if j=k then s else H.at_ j:=by
 unfold AI.set AI.at_
 by_cases e:j=k
 ·subst e;rw [if_pos rfl];exact Vector.CD h0 h1
 ·rw [if_neg e];exact Vector.EI h0 h1 j0 e
theorem CI (s:Aw)(u:Ap):(s.tell u).told.length≤s.told.length+1:=by
 have h:(s.line u).told=s.told:=by
  unfold Aw.line;split
  ·rfl
  ·split
   ·rfl
   ·split<;>rfl
 unfold Aw.tell Aw.note
 split
 ·show((s.line u).told ++ [u]).length≤_
  rw [h,List.length_append];exact Nat.le_refl _
 ·rw [h];exact Nat.le_succ _
theorem K9 {V V':AM}{ls ls':Vector BJ 4}{ev ev':List Event}{k:Int}{u:Ap}(h0:0≤k)(h1:k < 4)(e:A5 V' ls' ev'=(A5 V ls ev).tell k u){j:Int}(j0:0≤j)(j1:j < 4) :
  (ls'.at j).told.length≤(ls.at j).told.length+1∧(j≠k→(ls'.at j).told=(ls.at j).told):=by
 have h:=congrArg (fun H=>(AI.at_ H j).told) e
 simp only [AI.tell] at h
 rw [Cr _ _ _ j0 j1,AI.Cm _ h0 h1 j0] at h
 have h':(ls'.at j).told=(if j=k then((A5 V ls ev).at_ k).tell u else(A5 V ls ev).at_ j).told:=h
 by_cases c:j=k
 ·subst c
  rw [if_pos rfl,Cr _ _ _ j0 j1] at h'
  exact⟨by rw [h'];exact CI _ _,fun hn=>absurd rfl hn⟩
 ·rw [if_neg c,Cr _ _ _ j0 j1] at h'
  exact⟨by rw [h'];exact Nat.le_succ _,fun _=>h'⟩
theorem Kv {V:AM}{ls:Vector BJ 4}{ev:List Event}{e:Event}{X:AI}{i:Int}(h0:0≤i)(h1:i < 4)(h:A5 V ls ev=AI.CT e X i.toNat):AI.CT e X (i+1).toNat=if (!decide ((V.Au.at i).state=2))=true then A5 V ls ev else if (AH.tell e (V.Au.at i).Ay).2=true then(A5 V ls ev).tell i (AH.tell e (V.Au.at i).Ay).1 else A5 V ls ev:=by
 obtain⟨m,rfl⟩:=Int.eq_ofNat_of_zero_le h0
 have ha:=Cr V ls ev h0 h1
 rw [show((m:Int)+1).toNat=m+1 by omega,AI.CT]
 rw [show((m:Int)).toNat=m by omega] at h
 rw [← h,ha]
 rfl
theorem Tv {H:AI}{es:List Event}{k:Int}(h0:0≤k)(h1:k < es.length):H.Hg (es.take (k+1).toNat)=AI.CT (es.getD k.toNat default) (H.Hg (es.take k.toNat)) 4:=by
 obtain⟨m,rfl⟩:=Int.eq_ofNat_of_zero_le h0
 have hm:m < es.length:=by omega
 show H.Hg (es.take (m+1))=AI.CT (es.getD m default) (H.Hg (es.take m)) 4
 unfold AI.Hg
 rw [List.take_add_one,List.getElem?_eq_getElem hm,List.foldl_append,List.getD_eq_getElem?_getD,List.getElem?_eq_getElem hm]
 rfl
def Wc (ls:Vector BJ 4)(n:Nat):Prop:=∀ j:Int,0≤j→j < 4→(ls.at j).told.length≤n
theorem YH {H:AI}{ev es:List Event}(h:H.last=ev):AI.Gx H es=({ H with last:=ev++es }:AI).Hg es:=by subst h;rfl
end Go.Ing
/- What is said in a land of short names is short: plain laws. -/
namespace Go.Ing
open Go
namespace AH
structure LK (w:AH):Prop where
 th:∀ i,(w.AO.at i).name.length≤100
 be:∀ i,(w.AL.at i).name.length≤100
 ro:∀ i,(w.BQ.at i).name.length≤100
theorem LK.HA {w:AH}(h:w.LK):w.DL:=⟨fun i=>Nat.le_trans (h.th i) (by decide),fun i=>Nat.le_trans (h.be i) (by decide),fun i=>Nat.le_trans (h.ro i) (by decide)⟩
theorem Xg {X:AH}(h:X.LK){i:Int}{t:Al}(ht:t.name.length≤100):(X.Gp i t).LK:=⟨fun j=>by
 rcases Vector.Ni X.AO i j t with e | e
 ·show((X.AO.put i t).at j).name.length≤_;rw [e];exact ht
 ·show((X.AO.put i t).at j).name.length≤_;rw [e];exact h.th j,h.be,h.ro⟩
theorem Ig {X:AH}(h:X.LK){i:Int}{t:Aj}(ht:t.name.length≤100):(X.Cw i t).LK:=⟨h.th,fun j=>by
 rcases Vector.Ni X.AL i j t with e | e
 ·show((X.AL.put i t).at j).name.length≤_;rw [e];exact ht
 ·show((X.AL.put i t).at j).name.length≤_;rw [e];exact h.be j,h.ro⟩
theorem XT {X:AH}(h:X.LK){r d:Int}{v:Bool}:(X.NB r d v).LK:=⟨h.th,h.be,fun j=>by
 rcases Vector.Ni X.BQ r j { X.BQ.at r with shut:=(X.BQ.at r).shut.put d v } with e | e
 ·show((X.BQ.put r _).at j).name.length≤_;rw [e];exact h.ro r
 ·show((X.BQ.put r _).at j).name.length≤_;rw [e];exact h.ro j⟩
end AH
namespace AE
structure C1 (T:AE):Prop where
 Ff:T.w.LK
 out:∀ e∈T.out,AH.Small e
theorem MV {w:AH}(hw:w.LK):∀(l:List Int) (s:Ap),(H0 w s l).length≤s.length+l.length * 102
 | [],s=>by simp [H0]
 | i :: r,s=>by
  have hn:=hw.th i
  unfold H0
  split
  ·have:=MV hw r (s ++ [32]++(w.AO.at i).name ++ [42])
   simp only [List.length_append,List.length_cons,List.length_nil] at this ⊢
   omega
  ·have:=MV hw r (s ++ [32]++(w.AO.at i).name)
   simp only [List.length_append,List.length_cons,List.length_nil] at this ⊢
   omega
theorem Mr:(default:Aj).name.length≤100:=by decide
section
variable {T:AE}
theorem C1.BO (h:C1 T){e:Event}(h1:e.Bs.length≤1000000)(h2:e.text.length≤1000000)(h3:e.EO.length≤1000000)(h4:-9223372036854775808≤e.n)(h5:e.n≤9223372036854775807):C1 (T.BO e):=by
 refine⟨h.Ff,fun x hx=>?_⟩
 rcases List.mem_append.1 (show x∈T.out ++ [T.w.G0 (T.Dh e) 6] from hx) with hx | hx
 ·exact h.out x hx
 ·have hx':x=T.w.G0 (T.Dh e) 6:=by simpa using hx
  subst hx'
  obtain⟨a1,a2,a3,a4,a5,a6,a7,a8,a9⟩:=AH.HP T.w (T.Dh e) 6
  have e2:(T.Dh e).n=e.n∧(T.Dh e).Hq=T.me.name∧(T.Dh e).EO.length≤1000000∧(T.Dh e).Bs=e.Bs∧(T.Dh e).text=e.text:=by
   unfold Dh
   split
   ·exact⟨rfl,rfl,Nat.le_trans (h.Ff.be _) (by decide),rfl,rfl⟩
   ·exact⟨rfl,rfl,h3,rfl,rfl⟩
  obtain⟨b4,b5,b6,b7,b8⟩:=e2
  refine⟨?_,?_,?_,?_,?_,?_⟩
  ·rw [a6,b5];exact Nat.le_trans (h.Ff.be T.b) (by decide)
  ·rw [a7];exact Nat.le_trans b6 (by decide)
  ·rw [a8,b7];exact Nat.le_trans h1 (by decide)
  ·rw [a9,b8];exact Nat.le_trans h2 (by decide)
  ·rw [a5,b4];exact h4
  ·rw [a5,b4];exact h5
theorem C1.tell (h:C1 T){s:Ap}(hs:s.length≤1000000):C1 (T.tell s):=h.BO (Nat.zero_le _) hs (Nat.zero_le _) (show(-9223372036854775808:Int)≤0 by decide) (show(0:Int)≤9223372036854775807 by decide)
theorem C1.kind (h:C1 T)(k:Int):C1 (T.kind k):=h.BO (Nat.zero_le _) (Nat.zero_le _) (Nat.zero_le _) (show(-9223372036854775808:Int)≤0 by decide) (show(0:Int)≤9223372036854775807 by decide)
theorem C1.Bs (h:C1 T)(k i:Int):C1 (T.Bs k i):=h.BO (Nat.le_trans (h.Ff.th i) (by decide)) (Nat.zero_le _) (Nat.zero_le _) (show(-9223372036854775808:Int)≤0 by decide) (show(0:Int)≤9223372036854775807 by decide)
theorem C1.land (h:C1 T){w':AH}(ht:w'.LK):C1 { T with w:=w' }:=⟨ht,h.out⟩
theorem C1.DA (h:C1 T){i:Int}{t:Al}(ht:t.name=(T.w.AO.at i).name):C1 (T.DA i t):=h.land (w':=T.w.Gp i t) (AH.Xg h.Ff (by rw [ht];exact h.Ff.th i))
theorem C1.place (h:C1 T)(i Ca at_:Int):C1 (T.place i Ca at_):=h.DA rfl
theorem C1.Ck (h:C1 T)(k f:Int):C1 (T.Ck k f):=h.land (w':=T.w.Cw k { T.w.AL.at k with B1:=f }) (AH.Ig h.Ff (h.Ff.be k))
theorem C1.DV (h:C1 T)(k:Int){x:Aj}(hx:x.name.length≤100):C1 (T.DV k x):=h.land (w':=T.w.Cw k x) (AH.Ig h.Ff hx)
theorem C1.C9 (h:C1 T)(r d:Int)(v:Bool):C1 (T.C9 r d v):=h.land (w':=T.w.NB r d v) (AH.XT h.Ff)
theorem C1.Fw (h:C1 T)(r:Int):C1 (T.Fw r):=h.land (w':=T.w.Cw T.b { T.me with room:=r,B1:=0 }) (AH.Ig h.Ff (h.Ff.be T.b))
theorem C1.list (h:C1 T){s:Ap}(hs:s.length≤100){l:List Int}(hl:l.length≤9):C1 (T.list s l):=by
 refine h.tell ?_
 have:=MV h.Ff l s
 unfold Sd
 split<;>simp only [List.length_append,List.length_cons,List.length_nil]<;>omega
theorem C1.look (h:C1 T):C1 T.look:=by
 have hk:∀ {T':AE},C1 T'→∀ k:Nat,C1 (T'.Fb k):=fun {T'} h' k=>by
  induction k with
  | zero=>exact h'
  | succ k ih=>
   unfold Fb
   split
   ·exact ih.tell (by
     have:=ih.Ff.be k
     have e:(T'.Fb k).w=T'.w:=(KP T' k).1
     rw [e] at this
     simp only [List.length_append,List.length_cons,List.length_nil];omega)
   ·exact ih
 unfold AE.look
 split
 ·exact h.tell (by show([73,116,32,105,115,32,100,97,114,107,46]:Ap).length≤_;decide)
 ·refine hk ?_ 6
  have ha:C1 T.J6:=(h.tell (by
   have:=h.Ff.ro T.me.room
   simp only [List.length_append,List.length_cons,List.length_nil];omega)).tell (by
   have:=MN (T.w.BQ.at T.me.room) 6
   omega)
  unfold D8
  split
  ·exact ha.list (by decide) (AH.II ..)
  ·exact ha
theorem C1.walk (h:C1 T)(d:Int):C1 (T.walk d):=by
 unfold AE.walk
 split
 ·exact h.tell (by decide)
 ·split
  ·exact h.tell (by decide)
  ·have i1:C1 (T.BO { F0 1 with dir:=d }):=h.BO (Nat.zero_le _) (Nat.zero_le _) (Nat.zero_le _) (show(-9223372036854775808:Int)≤0 by decide) (show(0:Int)≤9223372036854775807 by decide)
   exact((i1.Fw _).BO (e:={ F0 2 with dir:=AH.opposite d }) (Nat.zero_le _) (Nat.zero_le _) (Nat.zero_le _) (show(-9223372036854775808:Int)≤0 by decide) (show(0:Int)≤9223372036854775807 by decide)).look
theorem C1.box (h:C1 T)(u:Ap):C1 (T.box u).1:=by
 unfold AE.box
 split
 ·exact h.tell (by decide)
 ·split
  ·exact h.tell (by decide)
  ·exact h
theorem C1.A6 (h:C1 T)(u:Ap):C1 (T.A6 u).1:=by
 unfold AE.A6
 split
 ·split
  ·exact h
  ·exact h.tell (by decide)
 ·exact h.tell (by decide)
theorem C1.DG (l:List Int):∀ {T':AE},C1 T'→C1 (T'.DG l):=by
 induction l with
 | nil=>exact fun h=>h
 | cons i r ih=>exact fun {T'} h=>ih ((h.place i 1 T'.b).Bs 3 i)
theorem C1.KW (h:C1 T)(l:List Int)(o:Order):C1 (T.KW l o):=by
 unfold AE.KW
 refine C1.DG _ ?_
 split
 ·exact h.tell (by decide)
 ·exact h
theorem C1.get (h:C1 T)(o:Order):C1 (T.get o):=by
 unfold AE.get
 split
 ·split
  ·exact h.box _
  ·exact(h.box _).KW _ _
 ·exact h.KW _ _
theorem C1.Cu (h:C1 T)(v to i:Int):C1 (T.Cu v to i):=by
 unfold AE.Cu
 split
 ·exact h.tell (by decide)
 ·split
  ·exact(h.place _ _ _).Bs _ _
  ·split
   ·exact(h.place i 1 to).BO (e:={ F0 6 with other:=to,Bs:=(T.w.AO.at i).name }) (Nat.le_trans (h.Ff.th i) (by decide)) (Nat.zero_le _) (Nat.zero_le _) (show(-9223372036854775808:Int)≤0 by decide) (show(0:Int)≤9223372036854775807 by decide)
   ·split
    ·exact h.tell (by decide)
    ·exact(h.place i 2 to).BO (e:={ F0 5 with Bs:=(T.w.AO.at i).name,text:=(T.w.AO.at to).name }) (Nat.le_trans (h.Ff.th i) (by decide)) (Nat.le_trans (h.Ff.th to) (by decide)) (Nat.zero_le _) (show(-9223372036854775808:Int)≤0 by decide) (show(0:Int)≤9223372036854775807 by decide)
theorem C1.Ek {v to:Int}(l:List Int):∀ {T':AE},C1 T'→C1 (T'.Ek v to l):=by
 induction l with
 | nil=>exact fun h=>h
 | cons i r ih=>exact fun h=>ih (h.Cu v to i)
theorem C1.FD (h:C1 T)(o:Order):C1 (T.FD o):=by
 have ht:C1 (T.Cv o).1:=by
  unfold Cv
  split
  ·exact h.box _
  ·split
   ·exact h.A6 _
   ·exact h
 unfold AE.FD
 split
 ·exact ht
 ·unfold Rx
  refine C1.Ek _ ?_
  split
  ·exact ht.tell (by decide)
  ·exact ht
theorem C1.E6 (h:C1 T)(o:Order):C1 (T.E6 o):=by
 unfold AE.E6
 generalize (if (!decide (o.nth=1) || o.Bj)=true then [] else o.name)=nm
 have hs:=h.A6 nm
 split
 ·exact hs
 ·refine C1.tell ?_ (by decide)
  split
  ·exact(hs.Ck _ _).Ck _ _
  ·exact hs.Ck _ _
theorem C1.before (h:C1 T)(first:Bool)(i:Int)(v:Bool)(k:Int):C1 (T.before first i v k):=by
 unfold AE.before
 split
 ·exact(C1.DA h (i:=i) (t:={ T.w.AO.at i with on:=v }) rfl).Bs _ _
 ·exact(h.Bs k i).DA rfl
theorem C1.Gy (h:C1 T)(d:Int)(on:Bool)(k:Int):C1 (T.Gy d on k):=by
 unfold AE.Gy
 split
 ·exact h.tell (by decide)
 ·split
  ·exact h.tell (by decide)
  ·refine C1.BO ?_ (by show([100,111,111,114]:Ap).length≤1000000;decide) (Nat.zero_le _) (Nat.zero_le _) (show(-9223372036854775808:Int)≤0 by decide) (show(0:Int)≤9223372036854775807 by decide)
   split
   ·exact(h.C9 _ _ _).C9 _ _ _
   ·exact h.C9 _ _ _
theorem C1.set (h:C1 T)(o:Order):C1 (T.set o):=by
 unfold AE.set
 split
 ·exact h.Gy _ _ _
 ·split
  ·exact h.tell (by decide)
  ·split
   ·exact h.tell (by decide)
   ·split
    ·exact h.before _ _ _ _
    ·exact h.before _ _ _ _
theorem C1.Cd (l:List Int):∀ {T':AE},C1 T'→C1 (T'.Cd l):=by
 induction l with
 | nil=>exact fun h=>h
 | cons i r ih=>exact fun {T'} h=>ih (C1.DA h (i:=i) rfl)
theorem C1.DU (h:C1 T):∀ k:Nat,C1 (T.DU k)
 | 0=>h
 | k+1=>by
  unfold AE.DU
  split
  ·exact(C1.DU h k).Ck _ _
  ·exact C1.DU h k
theorem C1.FB (h:C1 T):C1 T.FB:=by
 rw [Lx]
 exact((C1.Cd _ h).DU 6).Ck _ _
theorem C1.GH (h:C1 T):C1 T.GH:=by
 have hf:=C1.FB (h.kind 18)
 unfold AE.GH
 generalize (T.kind 18).FB=F at *
 exact hf.DV T.b (x:=default) Mr
theorem C1.act (h:C1 T){o:Order}(hx:o.text.length≤1000000):C1 (T.act o):=by
 unfold AE.act
 split
 ·exact h.walk _
 ·split
  ·exact h.look
  ·split
   ·exact h.list (by decide) (AH.II ..)
   ·split
    ·exact h.BO (e:={ F0 7 with text:=o.text }) (Nat.zero_le _) hx (Nat.zero_le _) (show(-9223372036854775808:Int)≤0 by decide) (show(0:Int)≤9223372036854775807 by decide)
    ·split
     ·exact h.GH
     ·split
      ·exact h.E6 _
      ·split
       ·exact h.get _
       ·split
        ·exact h.FD _
        ·exact h.set _
end
theorem KE {X:AH}{b:Int}{o:Order}(hw:X.LK)(hx:o.text.length≤1000000):(EC X b o).1.LK∧∀ e∈(EC X b o).2.1,AH.Small e:=by
 unfold EC
 split
 ·exact⟨hw,fun e h=>by cases h⟩
 ·split
  ·exact⟨hw,fun e h=>by cases h⟩
  ·split
   ·exact⟨hw,fun e h=>by cases h⟩
   ·have:=C1.act (T:=⟨X,b,[]⟩) ⟨hw,fun e h=>by cases h⟩ hx
    exact⟨this.Ff,this.out⟩
theorem JH {X:AH}{s:Ap}(hw:X.LK):(BR X s).1.LK∧∀ e∈(BR X s).2.2.1,AH.Small e:=by
 unfold BR
 split
 ·exact⟨hw,fun e h=>by cases h⟩
 ·split
  ·exact⟨hw,fun e h=>by cases h⟩
  ·rename_i h1
   split
   ·exact⟨hw,fun e h=>by cases h⟩
   ·split
    ·exact⟨hw,fun e h=>by cases h⟩
    ·have hn:s.length≤8:=by
      have h2:FJ s=true:=by simpa using h1
      simp only [FJ,Bool.and_eq_true,decide_eq_true_eq] at h2
      omega
     have h0:C1 ⟨X.Cw (CH X 6) (Hx s),CH X 6,[]⟩:=⟨AH.Ig hw (by show s.length≤100;omega),fun e h=>by cases h⟩
     have:=(h0.kind 17).look
     exact⟨this.Ff,this.out⟩
theorem UD {w:AH}{b B1 n:Int}(hw:w.LK)(h0:1≤n)(h1:n≤3):C1 (CC w b B1 n):=by
 have hs:C1 ⟨w,b,[]⟩:=⟨hw,fun e h=>by cases h⟩
 unfold CC
 exact(hs.BO (e:={ F0 14 with other:=B1,n:=n }) (Nat.zero_le _) (Nat.zero_le _) (Nat.zero_le _) (show -9223372036854775808≤n by omega) (show n≤9223372036854775807 by omega)).DV _ (hw.be B1)
theorem C1.dV {T:AE}(h:C1 T)(b:Int):C1 (T.DV b { T.w.AL.at b with room:=0,BH:=10 }):=h.DV b (h.Ff.be b)
theorem Xf {w:AH}{b:Int}(hw:w.LK):C1 (Hw w b):=by
 have h0:C1 (FM w b):=⟨AH.Ig hw (hw.be b),fun e h=>by cases h⟩
 have h1:C1 (F1 w b):=by unfold F1;exact(h0.kind 15).FB
 unfold Hw
 split
 ·generalize F1 w b=F at *
  exact h1.DV b (x:=default) Mr
 ·have h2:C1 (I3 w b):=by unfold I3;exact h1.dV b
  exact(h2.kind 17).look
theorem TI {draw b:Int}(hb:0≤b){s:AH × List Event}(h:s.1.LK∧∀ e∈s.2,AH.Small e):(EG draw b s).1.LK∧∀ e∈(EG draw b s).2,AH.Small e:=by
 have hh:=MC (draw:=draw) hb
 unfold EG
 split
 ·exact h
 ·split
  ·exact⟨AH.Ig h.1 (h.1.be b),h.2⟩
  ·have hk:=UD (b:=b) (B1:=(s.1.AL.at b).B1 - 1) h.1 hh.1 hh.2
   split
   ·have hd:=Xf (b:=(s.1.AL.at b).B1 - 1) hk.Ff
    refine⟨hd.Ff,fun e he=>?_⟩
    rcases List.mem_append.1 he with he | he
    ·rcases List.mem_append.1 he with he | he
     ·exact h.2 e he
     ·exact hk.out e he
    ·exact hd.out e he
   ·refine⟨hk.Ff,fun e he=>?_⟩
    rcases List.mem_append.1 he with he | he
    ·exact h.2 e he
    ·exact hk.out e he
theorem Ou {X:AH}{draw:Int}(hw:X.LK):∀ k:Nat,(DW X draw k).1.LK∧∀ e∈(DW X draw k).2,AH.Small e
 | 0=>⟨hw,fun e h=>by cases h⟩
 | k+1=>TI (by omega) (Ou hw k)
theorem Kw {X:AH}{draw:Int}(hw:X.LK):(CW X draw).1.LK∧∀ e∈(CW X draw).2.1,AH.Small e:=by
 unfold CW
 split
 ·exact⟨hw,fun e h=>by cases h⟩
 ·have h:=Ou (draw:=draw) hw 6
  generalize DW X draw 6=r at *
  exact h
end AE
end Go.Ing
/- What a house keeps: plain laws. -/
namespace Go.Ing
open Go
namespace AI
def aQ (q:List Ap):Prop:=q.length≤6∧∀ s∈q,s.length≤60
structure Fit (H:AI)(n m:Nat):Prop where
 Ff:H.w.LK
 told:∀ k:Int,0≤k→k < 4→(H.at_ k).told.length≤n
 last:H.last.length≤m
 Ay:∀ k:Int,0≤k→k < 4→(H.at_ k).state=2→0≤(H.at_ k).Ay∧(H.at_ k).Ay < 6
 wait:∀ k:Int,0≤k→k < 4→∀ s∈(H.at_ k).wait,s.length≤70368744000000
 queue:∀ k:Int,0≤k→k < 4→aQ (H.at_ k).queue
variable {H:AI} {n m:Nat}
theorem Fit.mono (h:H.Fit n m){n' m':Nat}(hn:n≤n')(hm:m≤m'):H.Fit n' m':=⟨h.Ff,fun k a b=>Nat.le_trans (h.told k a b) hn,Nat.le_trans h.last hm,h.Ay,h.wait,h.queue⟩
theorem Fit.set (h:H.Fit n m){k:Int}(h0:0≤k)(h1:k < 4){s:Aw}(ht:s.told.length≤n)(hb:s.state=2→0≤s.Ay∧s.Ay < 6)(hw:∀ u∈s.wait,u.length≤70368744000000)(hq:aQ s.queue):(H.set k s).Fit n m:=by
 have e:∀ j:Int,0≤j→(H.set k s).at_ j=if j=k then s else H.at_ j:=fun j j0=>AI.Cm H h0 h1 j0 s
 refine⟨h.Ff,fun j a b=>?_,h.last,fun j a b=>?_,fun j a b=>?_,fun j a b=>?_⟩<;>rw [e j a]<;>split
 ·exact ht
 ·exact h.told j a b
 ·exact hb
 ·exact h.Ay j a b
 ·exact hw
 ·exact h.wait j a b
 ·exact hq
 ·exact h.queue j a b
theorem Fit.land (h:H.Fit n m){w:AH}(hw:w.LK):({ H with w:=w }:AI).Fit n m:=⟨hw,h.told,h.last,h.Ay,h.wait,h.queue⟩
theorem QU (s:Aw)(u:Ap):(s.line u).wait=s.wait∨(s.line u).wait=s.wait ++ [u]:=by
 unfold Aw.line
 split
 ·exact .inl rfl
 ·split
  ·exact .inl rfl
  ·split
   ·exact .inl rfl
   ·exact .inr rfl
theorem WM (s:Aw)(u:Ap):(s.line u).state=s.state∧(s.line u).Ay=s.Ay∧(s.line u).queue=s.queue∧(s.line u).told=s.told:=by
 unfold Aw.line
 split
 ·exact⟨rfl,rfl,rfl,rfl⟩
 ·split
  ·exact⟨rfl,rfl,rfl,rfl⟩
  ·split<;>exact⟨rfl,rfl,rfl,rfl⟩
theorem Ez (s:Aw)(u:Ap):(s.tell u).state=s.state∧(s.tell u).Ay=s.Ay∧(s.tell u).queue=s.queue∧(s.tell u).wait=(s.line u).wait:=by
 obtain⟨a,b,c,_⟩:=WM s u
 unfold Aw.tell Aw.note
 split
 ·exact⟨a,b,c,rfl⟩
 ·exact⟨a,b,c,rfl⟩
theorem Fit.tell (h:H.Fit n m){k:Int}(h0:0≤k)(h1:k < 4){u:Ap}(hu:u.length≤70368744000000):(H.tell k u).Fit (n+1) m:=by
 obtain⟨a,b,c,d⟩:=Ez (H.at_ k) u
 refine(h.mono (Nat.le_succ n) (Nat.le_refl m)).set h0 h1 (Nat.le_trans (CI _ _) (Nat.succ_le_succ (h.told k h0 h1))) (by rw [a,b];exact h.Ay k h0 h1) (fun s hs=>?_) (by rw [c];exact h.queue k h0 h1)
 rw [d] at hs
 rcases QU (H.at_ k) u with e | e<;>rw [e] at hs
 ·exact h.wait k h0 h1 s hs
 ·rcases List.mem_append.1 hs with hs | hs
  ·exact h.wait k h0 h1 s hs
  ·rw [List.mem_singleton.1 hs];exact hu
theorem Yu {e:Event}(he:AH.Small e)(b:Int):(AH.tell e b).1.length≤70368744000000:=by
 unfold AH.tell
 split
 ·exact Nat.zero_le _
 ·split
  ·exact Nat.zero_le _
  ·refine Nat.le_trans (AH.OI he (AH.QV he b) (AH.Ns he b) _ _) ?_
   have:=AH.Ox e b
   omega
theorem UQ {k j:Int}(h0:0≤k)(h1:k < 4)(j0:0≤j)(hn:j≠k)(u:Ap):(H.tell k u).at_ j=H.at_ j:=by
 unfold AI.tell
 rw [AI.Cm H h0 h1 j0,if_neg hn]
theorem LB (e:Event)(H:AI):∀ k:Nat,k≤4→∀ j:Int,(k:Int)≤j→j < 4→(CT e H k).at_ j=H.at_ j
 | 0,_,_,_,_=>rfl
 | k+1,hk,j,h0,h1=>by
  have ih:=LB e H k (by omega) j (by omega) h1
  unfold CT
  split
  ·exact ih
  ·split
   ·rw [UQ (by omega) (by omega) (by omega) (by omega)];exact ih
   ·exact ih
theorem Od {e:Event}(he:AH.Small e)(h:H.Fit n m):∀ k:Nat,k≤4→(CT e H k).Fit (n+1) m
 | 0,_=>h.mono (Nat.le_succ n) (Nat.le_refl m)
 | k+1,hk=>by
  have ih:=Od he h k (by omega)
  unfold CT
  split
  ·exact ih
  ·split
   ·have hr:=LB e H k (by omega) k (Int.le_refl _) (by omega)
    obtain⟨a,b,c,d⟩:=Ez ((CT e H k).at_ k) (AH.tell e ((CT e H k).at_ k).Ay).1
    unfold AI.tell
    refine ih.set (by omega) (by omega) ?_ (by rw [a,b];exact ih.Ay k (by omega) (by omega)) (fun s hs=>?_) (by rw [c];exact ih.queue k (by omega) (by omega))
    ·refine Nat.le_trans (CI _ _) ?_
     rw [hr];exact Nat.succ_le_succ (h.told k (by omega) (by omega))
    ·rw [d] at hs
     rcases QU ((CT e H k).at_ k) (AH.tell e ((CT e H k).at_ k).Ay).1 with q | q<;>rw [q] at hs
     ·exact ih.wait k (by omega) (by omega) s hs
     ·rcases List.mem_append.1 hs with hs | hs
      ·exact ih.wait k (by omega) (by omega) s hs
      ·rw [List.mem_singleton.1 hs];exact Yu he _
   ·exact ih
theorem QN:∀(es:List Event) {H:AI} {n:Nat},(∀ e∈es,AH.Small e)→H.Fit n m→(H.Hg es).Fit (n+es.length) m
 | [],_,_,_,h=>h
 | e :: r,H,n,he,h=>by
  have h1:=Od (he e (List.mem_cons_self ..)) h 4 (Nat.le_refl 4)
  have h2:=QN r (fun x hx=>he x (List.mem_cons_of_mem _ hx)) h1
  rw [List.length_cons,show n+(r.length+1)=n+1+r.length by omega]
  exact h2
theorem Fit.Gx (h:H.Fit n m){es:List Event}(he:∀ e∈es,AH.Small e):(H.Gx es).Fit (n+es.length) (m+es.length):=by
 refine QN (m:=m+es.length) es he ?_
 exact⟨h.Ff,h.told,by show(H.last++es).length≤_;rw [List.length_append];exact Nat.add_le_add_right h.last _,h.Ay,h.wait,h.queue⟩
theorem Fit.free (h:H.Fit n m){k:Int}(h0:0≤k)(h1:k < 4):(H.set k default).Fit n m:=
 h.set h0 h1 (Nat.zero_le _) (fun e=>absurd (show(0:Int)=2 from e) (by decide)) (fun u hu=>by cases hu) ⟨Nat.zero_le _,fun u hu=>by cases hu⟩
theorem MR:EA.text.length≤1000000:=Nat.zero_le _
theorem Fit.leave (h:H.Fit n m){k:Int}(h0:0≤k)(h1:k < 4):(H.leave k).Fit (n+11) (m+11):=by
 unfold AI.leave
 refine Fit.free ?_ h0 h1
 split
 ·have hd:=AE.KE (b:=(H.at_ k).Ay) (o:=EA) h.Ff MR
  have hl:=AE.NZ H.w (H.at_ k).Ay EA
  exact(((h.land hd.1).free h0 h1).Gx hd.2).mono (Nat.add_le_add_left hl n) (Nat.add_le_add_left hl m)
 ·exact h.mono (Nat.le_add_right ..) (Nat.le_add_right ..)
theorem Rv (ht:Int):∀(l:List Ap) (x:Page.Pg),∀ s∈(Page.BZ ht l x).2,s∈l
 | [],_,s,h=>h
 | q :: r,x,s,h=>by
  unfold Page.BZ at h
  split at h
  ·exact h
  ·split at h
   ·exact h
   ·exact List.mem_cons_of_mem _ (Rv ht r _ s h)
theorem GK (s:Aw):s.BZ.told=s.told∧s.BZ.state=s.state∧s.BZ.Ay=s.Ay∧s.BZ.queue=s.queue∧∀ u∈s.BZ.wait,u∈s.wait:=by
 unfold Aw.BZ
 split
 ·exact⟨rfl,rfl,rfl,rfl,fun _ h=>h⟩
 ·exact⟨rfl,rfl,rfl,rfl,Rv _ _ _⟩
theorem Fit.XQ (h:H.Fit n m){k:Int}(h0:0≤k)(h1:k < 4):(H.set k (H.at_ k).BZ).Fit n m:=by
 obtain⟨a,b,c,d,e⟩:=GK (H.at_ k)
 exact h.set h0 h1 (by rw [a];exact h.told k h0 h1) (by rw [b,c];exact h.Ay k h0 h1) (fun u hu=>h.wait k h0 h1 u (e u hu)) (by rw [d];exact h.queue k h0 h1)
theorem MW (h:H.Fit n m):∀ k:Nat,k≤4→(H.Ch k).1.Fit (n+11 * k) (m+11 * k)
 | 0,_=>h
 | k+1,hk=>by
  have ih:=MW h k (by omega)
  unfold Ch
  split
  ·exact ih.mono (by omega) (by omega)
  ·split
   ·exact((ih.XQ (by omega) (by omega)).leave (by omega) (by omega)).mono (by omega) (by omega)
   ·exact(ih.XQ (by omega) (by omega)).mono (by omega) (by omega)
theorem Py:∀(r:Nat) {H:AI} {n m:Nat},H.Fit n m→(H.He r).Fit (n+44 * r) (m+44 * r)
 | 0,_,_,_,h=>h
 | r+1,H,n,m,h=>by
  have h1:=MW h 4 (Nat.le_refl 4)
  unfold He
  split
  ·exact h1.mono (by omega) (by omega)
  ·exact(Py r h1).mono (by omega) (by omega)
theorem Fit.BZ (h:H.Fit n m):H.BZ.Fit (n+220) (m+220):=Py 5 h
end AI
end Go.Ing
/- A house: plain laws for the walks, on. -/
namespace Go.Ing
open Go
theorem Ie {V:AM}{ls:Vector BJ 4}{ev:List Event}{k:Int}(h0:0≤k)(h1:k < 4):A5 (V.BL k default) (ls.put k ⟨[],[],[]⟩) ev=(A5 V ls ev).set k default:=IZ V ls ev h0 h1 _ _
theorem Om {V:AM}{ls:Vector BJ 4}{ev:List Event}{w:AH}:A5 { V with w:=w } ls ev={ A5 V ls ev with w:=w }:=rfl
theorem Qq {V V4:AM}{ls ls4:Vector BJ 4}{ev ev4:List Event}{k:Int}(h0:0≤k)(h1:k < 4)(c:(decide ((V.Au.at k).state=2) && (V.w.AL.at (V.Au.at k).Ay).here)=true)
  (e:A5 V4 ls4 ev4=(A5 (AM.BL { V with w:=(AE.EC V.w (V.Au.at k).Ay AI.EA).1 } k default) (ls.put k ⟨[],[],[]⟩) ev).Gx (AE.EC V.w (V.Au.at k).Ay AI.EA).2.1) :
  A5 (V4.BL k default) (ls4.put k ⟨[],[],[]⟩) ev4=(A5 V ls ev).leave k:=by
 rw [Ie h0 h1,e,Ie h0 h1,Om]
 have ha:=Cr V ls ev h0 h1
 unfold AI.leave AI.UJ
 rw [ha]
 rw [if_pos (show(decide ((Cq (V.Au.at k) (ls.at k)).state=2) && ((A5 V ls ev).w.AL.at (Cq (V.Au.at k) (ls.at k)).Ay).here)=true from c)]
 rfl
theorem Uj {V:AM}{ls:Vector BJ 4}{ev:List Event}{k:Int}(h0:0≤k)(h1:k < 4)(c:(decide ((V.Au.at k).state=2) && (V.w.AL.at (V.Au.at k).Ay).here)=false) :
  A5 (V.BL k default) (ls.put k ⟨[],[],[]⟩) ev=(A5 V ls ev).leave k:=by
 rw [Ie h0 h1]
 have ha:=Cr V ls ev h0 h1
 unfold AI.leave
 rw [ha]
 rw [if_neg (show ¬ (decide ((Cq (V.Au.at k) (ls.at k)).state=2) && ((A5 V ls ev).w.AL.at (Cq (V.Au.at k) (ls.at k)).Ay).here)=true by rw [show(decide ((Cq (V.Au.at k) (ls.at k)).state=2) && ((A5 V ls ev).w.AL.at (Cq (V.Au.at k) (ls.at k)).Ay).here)=false from c];decide)]
theorem GX {V:AM}{ls:Vector BJ 4}{ev:List Event}{n m:Nat}(h:(A5 V ls ev).Fit n m):Wc ls n:=fun j j0 j1=>by
 have:=h.told j j0 j1
 rw [Cr V ls ev j0 j1] at this
 exact this
theorem Vv {V:AM}{ls:Vector BJ 4}{ev:List Event}{n m:Nat}(h:(A5 V ls ev).Fit n m){k:Int}(h0:0≤k)(h1:k < 4):(V.Au.at k).state≠2∨(0≤(V.Au.at k).Ay∧(V.Au.at k).Ay < 6):=by
 have:=h.Ay k h0 h1
 rw [Cr V ls ev h0 h1] at this
 by_cases c:(V.Au.at k).state=2
 ·exact .inr (this c)
 ·exact .inl c
theorem St.or {w0 w:World}{M:List Nat}{L:List Ab}{T TS:Nat}{h f g:Hd}{xs qs zs:List Ap}(ho:bC T h xs TS f qs TS g zs)(hS:St w0 M w (Ab.own g TS 1 (zs.flatMap A8) :: Ab.own f TS 1 (qs.flatMap A8) :: L)):St w0 M w (Ab.own h TS 1 (xs.flatMap A8) :: L):=by
 rcases ho with ⟨_,rfl,rfl,_,_⟩ | ⟨_,rfl,rfl⟩
 ·exact hS.sub (List.sublist_cons_self ..)
 ·exact hS.sub (List.Sublist.cons_cons _ (List.sublist_cons_self ..))
theorem cQ {n:Nat}{w0:World}{M:List Nat}{Q:Exit→Go.Act→World→Prop}{F:List (Nat × Value)}{L:List Ab}{x:Exit}{T TS:Nat}{h f g:Hd}{xs qs zs:List Ap}(ho:bC T h xs TS f qs TS g zs)(k:GQ n w0 M Q x F (Ab.own h TS 1 (xs.flatMap A8) :: L)):GQ n w0 M Q x F (Ab.own g TS 1 (zs.flatMap A8) :: Ab.own f TS 1 (qs.flatMap A8) :: L):=fun a w hF hS=>k a w hF (St.or ho hS)
theorem Lp {v:A3}{l:BJ}(hw:v.out.wait.len=l.wait.length)(h:(!Page.Bh v.out || decide (v.Dw.B3 < 0) || decide (200 < v.Dw.B3))=true):Cq v l=(Cq v l).BZ:=
 (if_pos (show(!(Cq v l).LM || decide (v.Dw.B3 < 0) || decide (200 < v.Dw.B3))=true by rw [JA hw];exact h)).symm
theorem YR {v:A3}{l:BJ}(hw:v.out.wait.len=l.wait.length)(h:(!Page.Bh v.out || decide (v.Dw.B3 < 0) || decide (200 < v.Dw.B3))=false)(w:Hd) :
  Cq { v with out:=⟨w,(Page.BZ v.Dw.B3 l.wait (Page.of v.out)).1.shown,(Page.BZ v.Dw.B3 l.wait (Page.of v.out)).1.B9,(Page.BZ v.Dw.B3 l.wait (Page.of v.out)).1.ring,(Page.BZ v.Dw.B3 l.wait (Page.of v.out)).1.cut⟩ } ⟨l.queue,(Page.BZ v.Dw.B3 l.wait (Page.of v.out)).2,l.told⟩=(Cq v l).BZ:=
 ((if_neg (show ¬ (!(Cq v l).LM || decide (v.Dw.B3 < 0) || decide (200 < v.Dw.B3))=true by rw [JA hw,h];decide)).trans rfl).symm
theorem Ky {V:AM}{ls:Vector BJ 4}{ev:List Event}{c:Bool}{H:AI}{i:Int}(h0:0≤i)(h1:i < 4)(h:(A5 V ls ev,c)=H.Ch i.toNat) :
  H.Ch (i+1).toNat=if decide ((V.Au.at i).state=0)=true then(A5 V ls ev,c) else if (((A5 V ls ev).at_ i).BZ).pg.cut=true then(((A5 V ls ev).set i ((A5 V ls ev).at_ i).BZ).leave i,true) else((A5 V ls ev).set i ((A5 V ls ev).at_ i).BZ,c):=by
 obtain⟨m,rfl⟩:=Int.eq_ofNat_of_zero_le h0
 have ha:=Cr V ls ev h0 h1
 rw [show((m:Int)+1).toNat=m+1 by omega,AI.Ch]
 rw [show((m:Int)).toNat=m by omega] at h
 rw [← h]
 rw [show decide (((A5 V ls ev).at_ (m:Int)).state=0)=decide ((V.Au.at (m:Int)).state=0) by rw [ha];rfl]
theorem VC {V V':AM}{ls ls':Vector BJ 4}{ev ev':List Event}{i:Int}(h0:0≤i)(h1:i < 4){s:Aw}(e:A5 V' ls' ev'=(A5 V ls ev).set i s):(V'.Au.at i).out.cut=s.pg.cut:=by
 have h:=congrArg (fun H=>(AI.at_ H i).pg.cut) e
 rw [Cr V' ls' ev' h0 h1,AI.Cm _ h0 h1 h0,if_pos rfl] at h
 exact h
theorem Nv {X:AI}{k:Int}(h0:0≤k)(h1:k < 5):X.He (5 - k).toNat=if (!(X.Ch 4).2)=true then(X.Ch 4).1 else(X.Ch 4).1.He (5 - (k+1)).toNat:=by
 rw [show(5 - k).toNat=(5 - (k+1)).toNat+1 by omega,AI.He]
theorem QZ {H:AI}{n m:Nat}(h:H.Fit n m){V:AM}{ls:Vector BJ 4}{ev:List Event}{c:Bool}{i:Int}(h0:0≤i)(h1:i≤4)(e:(A5 V ls ev,c)=H.Ch i.toNat):(A5 V ls ev).Fit (n+44) (m+44):=by
 have:=AI.MW h i.toNat (by omega)
 rw [← e] at this
 exact this.mono (by omega) (by omega)
theorem XP {V:AM}{ls:Vector BJ 4}{ev:List Event}{n m:Nat}(h:(A5 V ls ev).Fit n m){k:Int}(h0:0≤k)(h1:k < 4):∀ s∈(ls.at k).wait,s.length≤70368744000000:=by
 have:=h.wait k h0 h1
 rw [Cr V ls ev h0 h1] at this
 exact this
end Go.Ing
/- A house: who comes, and what is typed: plain laws for the walks. -/
namespace Go.Ing
open Go
namespace Words
def OM (N:Nat)(o:Order):Prop:=o.name.length≤N∧o.second.length≤N∧o.text.length≤N
theorem FW (N:Nat):OM N default:=⟨Nat.zero_le _,Nat.zero_le _,Nat.zero_le _⟩
theorem Xe (u p:Ap):(NA u p).1.length≤u.length:=by
 unfold NA
 split
 ·exact Nat.le_refl _
 ·show(List.drop _ u).length≤_
  rw [List.length_drop];omega
theorem Xa (u:Ap):(EM u).2.1.length≤u.length:=by
 unfold EM
 split
 ·exact Nat.zero_le _
 ·split
  ·exact Xe u _
  ·split
   ·split
    ·exact Nat.zero_le _
    ·exact Nat.le_refl _
   ·unfold Pc
    have:=(NX 46 u).2
    split
    ·split
     ·exact Nat.zero_le _
     ·exact this
    ·exact Nat.zero_le _
theorem Wt {N:Nat}{o:Order}{j:Ap × Bool}{W:List Ap}{m:Nat}(h:OM N o)(hw:(W.getD 0 []).length≤N):OM N (Q1 o j W m).1:=by
 unfold Q1
 split
 ·exact h
 ·split
  ·exact FW N
  ·exact⟨h.1,hw,h.2.2⟩
theorem aW {N:Nat}{o:Order}{j:Ap × Bool}{W:List Ap}{m:Nat}(h:OM N o)(hw:∀ i,(W.getD i []).length≤N):OM N (S2 o j W m).1:=by
 unfold S2
 split
 ·split
  ·exact FW N
  ·refine Wt h ?_
   have:=hw 1
   rw [List.getD_eq_getElem?_getD,List.getElem?_drop,← List.getD_eq_getElem?_getD]
   exact this
 ·exact Wt h (hw 0)
theorem XR {N:Nat}{v:Int}{W:List Ap}{m:Nat}(hw:∀ i,(W.getD i []).length≤N):OM N (Qr v W m).1:=by
 unfold Qr
 split
 ·exact FW N
 ·refine aW ⟨Nat.le_trans (Xa _) (hw 0),Nat.zero_le _,Nat.zero_le _⟩ (fun i=>?_)
  rw [List.getD_eq_getElem?_getD,List.getElem?_drop,← List.getD_eq_getElem?_getD]
  exact hw (1+i)
theorem So (i:Nat):(AH.Ge.getD i []).length≤20:=by
 rw [List.getD_eq_getElem?_getD]
 cases h:AH.Ge[i]? with
 | none=>exact Nat.zero_le _
 | some w=>
  have hm:w∈AH.Ge:=List.mem_of_getElem? h
  have:∀ w∈AH.Ge,w.length≤20:=by decide
  exact this w hm
theorem Ja (s:Ap):OM (s.length+20) (parse s).1:=by
 have hw:∀ i,(((words s).drop 1).getD i []).length≤s.length+20:=fun i=>Nat.le_trans (Mo s i 1) (by omega)
 unfold parse
 split
 ·exact FW _
 ·split
  ·exact FW _
  ·unfold XD
   split
   ·split
    ·exact FW _
    ·refine⟨Nat.zero_le _,Nat.zero_le _,?_⟩
     show(said s).length≤_
     unfold said
     have h1:=L3 32 (Sv 32 (cut 32 (P7 32 s)).2.1)
     have h2:=Qj 32 (cut 32 (P7 32 s)).2.1
     have h3:=(NX 32 (P7 32 s)).2
     have h4:=L3 32 s
     omega
   ·split
    ·split
     ·exact FW _
     ·exact⟨Nat.zero_le _,Nat.zero_le _,Nat.zero_le _⟩
    ·split
     ·exact FW _
     ·split
      ·split
       ·exact⟨Nat.le_trans (So _) (by omega),Nat.zero_le _,Nat.zero_le _⟩
       ·exact XR hw
      ·exact XR hw
end Words
theorem VJ {V:AM}{ls:Vector BJ 4}{ev:List Event}{n m:Nat}(h:(A5 V ls ev).Fit n m){k:Int}(h0:0≤k)(h1:k < 4):AI.aQ (ls.at k).queue:=by
 have:=h.queue k h0 h1
 rw [Cr V ls ev h0 h1] at this
 exact this
theorem AI.LV (H:AI){k:Int}(h0:0≤k)(h1:k < 4):H.set k (H.at_ k)=H:=by
 unfold AI.set AI.at_
 rw [Vector.RC _ h0 h1]
theorem SM {X:AH}{s:Ap}(h:(AE.BR X s).2.2.2=0):0≤(AE.BR X s).2.1∧(AE.BR X s).2.1 < 6:=by
 have hf:=AE.MM X 6 (Nat.le_refl 6)
 unfold AE.BR at h ⊢
 split
 ·exact⟨Int.le_refl 0,show(0:Int) < 6 by decide⟩
 ·split
  ·exact⟨Int.le_refl 0,show(0:Int) < 6 by decide⟩
  ·split
   ·exact⟨Int.le_refl 0,show(0:Int) < 6 by decide⟩
   ·split
    ·rename_i h1 h2 h3 h4
     rw [if_neg h1,if_neg h2,if_neg h3,if_pos h4] at h
     exact absurd h (show ¬ (4:Int)=0 by decide)
    ·rename_i h4
     show 0≤AE.CH X 6∧AE.CH X 6 < 6
     rw [decide_eq_true_eq] at h4
     omega
namespace AI
variable {H:AI} {n m:Nat}
theorem Fit.enters (h:H.Fit n m){k:Int}(h0:0≤k)(h1:k < 4){u:Ap}(c:(AE.BR H.w u).2.2.2=0):(({ H with w:=(AE.BR H.w u).1 }:AI).set k { H.at_ k with state:=2,Ay:=(AE.BR H.w u).2.1 }).Fit n m:=by
 have hs:=AE.JH (s:=u) h.Ff
 exact(h.land hs.1).set h0 h1 (h.told k h0 h1) (fun _=>SM c) (h.wait k h0 h1) (h.queue k h0 h1)
theorem Fit.named (h:H.Fit n m){k:Int}(h0:0≤k)(h1:k < 4)(u:Ap):(H.named k u).Fit (n+11) (m+11):=by
 unfold AI.named
 split
 ·rename_i c
  have hs:=AE.JH (s:=u) h.Ff
  have hl:=AE.P1 H.w u
  exact((h.enters h0 h1 (of_decide_eq_true c)).Gx hs.2).mono (by omega) (by omega)
 ·split
  ·exact(h.tell h0 h1 (show noRoom.length≤_ by decide)).mono (by omega) (by omega)
  ·exact(h.tell h0 h1 (show Qe.length≤_ by decide)).mono (by omega) (by omega)
theorem Fit.order (h:H.Fit n m){k:Int}(h0:0≤k)(h1:k < 4){u:Ap}(hu:u.length≤1000):(H.order k u).Fit (n+11) (m+11):=by
 unfold AI.order
 split
 ·exact(h.tell h0 h1 (show ab.length≤_ by decide)).mono (by omega) (by omega)
 ·split
  ·exact h.leave h0 h1
  ·have hp:=Words.Ja u
   have hd:=AE.KE (b:=(H.at_ k).Ay) (o:=(Words.parse u).1) h.Ff (by have:=hp.2.2;omega)
   have hl:=AE.NZ H.w (H.at_ k).Ay (Words.parse u).1
   exact((h.land hd.1).Gx hd.2).mono (by omega) (by omega)
theorem Fit.FP (h:H.Fit n m){k:Int}(h0:0≤k)(h1:k < 4){q:Ap}{r:List Ap}(e:(H.at_ k).queue=q :: r):(H.set k { H.at_ k with queue:=r }.FP).Fit n m:=
 h.set h0 h1 (h.told k h0 h1) (h.Ay k h0 h1) (h.wait k h0 h1) (by
  have hq:=h.queue k h0 h1
  rw [e] at hq
  exact⟨Nat.le_of_succ_le hq.1,fun u hu=>hq.2 u (List.mem_cons_of_mem _ hu)⟩)
theorem Fit.EN (h:H.Fit n m){k:Int}(h0:0≤k)(h1:k < 4):(H.EN k).Fit (n+11) (m+11):=by
 unfold AI.EN
 split
 ·exact h.mono (by omega) (by omega)
 ·split
  ·exact h.mono (by omega) (by omega)
  ·rename_i q r e
   have ht:=h.FP h0 h1 e
   have hq:=(h.queue k h0 h1).2 q (by rw [e];exact List.mem_cons_self ..)
   simp only []
   split
   ·exact ht.mono (by omega) (by omega)
   ·split
    ·exact ht.named h0 h1 _
    ·exact ht.order h0 h1 (by omega)
theorem KC (h:H.Fit n m):∀ k:Nat,k≤4→(H.turns k).Fit (n+11 * k) (m+11 * k)
 | 0,_=>h
 | k+1,hk=>by
  have ih:=KC h k (by omega)
  unfold AI.turns
  exact(ih.EN (by omega) (by omega)).mono (by omega) (by omega)
end AI
theorem Yg {V V3 V4:AM}{ls ls3 ls4:Vector BJ 4}{ev ev4:List Event}{k:Int}{u:Ap}(c:decide ((AE.BR V.w u).2.2.2=0)=true)
  (e3:A5 V3 ls3 ev=({ A5 V ls ev with w:=(AE.BR V.w u).1 }:AI).set k { (A5 V ls ev).at_ k with state:=2,Ay:=(AE.BR V.w u).2.1 })
  (e:A5 V4 ls4 ev4=(A5 V3 ls3 ev).Gx (AE.BR V.w u).2.2.1):A5 V4 ls4 ev4=(A5 V ls ev).named k u:=by
 rw [e,e3]
 exact(if_pos c).symm
theorem ZB {V V4:AM}{ls ls4:Vector BJ 4}{ev ev4:List Event}{k:Int}{u:Ap}(c:decide ((AE.BR V.w u).2.2.2=0)=false)(c2:decide ((AE.BR V.w u).2.2.2=4)=true)
  (e:A5 V4 ls4 ev4=(A5 V ls ev).tell k AI.noRoom):A5 V4 ls4 ev4=(A5 V ls ev).named k u:=e.trans ((if_neg (by show ¬ decide ((AE.BR V.w u).2.2.2=0)=true;rw [c];decide)).trans (if_pos c2)).symm
theorem ZA {V V4:AM}{ls ls4:Vector BJ 4}{ev ev4:List Event}{k:Int}{u:Ap}(c:decide ((AE.BR V.w u).2.2.2=0)=false)(c2:decide ((AE.BR V.w u).2.2.2=4)=false)
  (e:A5 V4 ls4 ev4=(A5 V ls ev).tell k AI.Qe):A5 V4 ls4 ev4=(A5 V ls ev).named k u:=e.trans ((if_neg (by show ¬ decide ((AE.BR V.w u).2.2.2=0)=true;rw [c];decide)).trans (if_neg (by show ¬ decide ((AE.BR V.w u).2.2.2=4)=true;rw [c2];decide))).symm
theorem UU {V V4:AM}{ls ls4:Vector BJ 4}{ev ev4:List Event}{k:Int}{u:Ap}(h0:0≤k)(h1:k < 4)(c:(!decide ((Words.parse u).2=0))=false)(c2:decide ((Words.parse u).1.verb=20)=false)
  (e:A5 V4 ls4 ev4=(A5 { V with w:=(AE.EC V.w (V.Au.at k).Ay (Words.parse u).1).1 } ls ev).Gx (AE.EC V.w (V.Au.at k).Ay (Words.parse u).1).2.1):A5 V4 ls4 ev4=(A5 V ls ev).order k u:=by
 rw [e,Om]
 have ha:=Cr V ls ev h0 h1
 unfold AI.order
 rw [if_neg (by rw [c];decide),if_neg (by rw [c2];decide),ha]
 rfl
theorem VI {V:AM}{ls:Vector BJ 4}{ev:List Event}{k:Int}(h0:0≤k)(h1:k < 4)(c:decide ((V.Au.at k).state=0)=true):A5 V ls ev=(A5 V ls ev).EN k:=by
 have ha:=Cr V ls ev h0 h1
 exact(if_pos (show decide (((A5 V ls ev).at_ k).state=0)=true by rw [ha];exact c)).symm
theorem V9 {V:AM}{ls:Vector BJ 4}{ev:List Event}{k:Int}(h0:0≤k)(h1:k < 4){sv:A3}{sl:BJ}(hs:V.Au.at k=sv)(hl:ls.at k=sl)(hq:sl.queue = [])(c:decide ((V.Au.at k).state=0)=false) :
  A5 (V.BL k sv) (ls.put k ⟨sl.queue,sl.wait,sl.told⟩) ev=(A5 V ls ev).EN k:=by
 have ha:=Cr V ls ev h0 h1
 rw [Em h0 h1 hs hl (f:=fun x=>x) rfl,AI.LV _ h0 h1]
 unfold AI.EN
 rw [if_neg (show ¬ decide (((A5 V ls ev).at_ k).state=0)=true by rw [ha];show ¬ decide ((V.Au.at k).state=0)=true;rw [c];decide)]
 have e:((A5 V ls ev).at_ k).queue = []:=by rw [ha,hl];exact hq
 split
 ·rfl
 ·rename_i q r e2;rw [e] at e2;cases e2
theorem Df {V:AM}{ls:Vector BJ 4}{ev:List Event}{k:Int}(h0:0≤k)(h1:k < 4){sv:A3}{sl:BJ}(hs:V.Au.at k=sv)(hl:ls.at k=sl){q:Ap}{r:List Ap}(hq:sl.queue=q :: r)(c:decide ((V.Au.at k).state=0)=false)(h':Hd) :
  A5 (V.BL k { sv with Ec:=⟨sv.Ec.now,sv.Ec.C0,sv.Ec.ret,h'⟩,out:=⟨sv.out.wait,0,false,sv.out.ring,sv.out.cut⟩ }) (ls.put k ⟨r,sl.wait,sl.told⟩) ev=(A5 V ls ev).set k { (A5 V ls ev).at_ k with queue:=r }.FP∧((A5 V ls ev).at_ k).queue=q :: r ∧
  (A5 V ls ev).EN k=if sv.out.B9=true then(A5 V ls ev).set k { (A5 V ls ev).at_ k with queue:=r }.FP else if decide (sv.state=1)=true then((A5 V ls ev).set k { (A5 V ls ev).at_ k with queue:=r }.FP).named k (Words.P7 32 (Words.Sv 32 q)) else((A5 V ls ev).set k { (A5 V ls ev).at_ k with queue:=r }.FP).order k q:=by
 have ha:=Cr V ls ev h0 h1
 have e:((A5 V ls ev).at_ k).queue=q :: r:=by rw [ha,hl];exact hq
 refine⟨Em h0 h1 hs hl (f:=fun x=>{ x with queue:=r }.FP) rfl,e,?_⟩
 unfold AI.EN
 rw [if_neg (show ¬ decide (((A5 V ls ev).at_ k).state=0)=true by rw [ha];show ¬ decide ((V.Au.at k).state=0)=true;rw [c];decide)]
 split
 ·rename_i e2;rw [e] at e2;cases e2
 ·rename_i q' r' e2
  rw [e] at e2
  obtain⟨rfl,rfl⟩:=List.cons.inj e2
  have e3:((A5 V ls ev).at_ k).pg.B9=sv.out.B9:=by rw [ha,hs];rfl
  have e4:((A5 V ls ev).at_ k).state=sv.state:=by rw [ha,hs];rfl
  simp only [e3,e4]
theorem UE {H:AI}{i:Int}(h0:0≤i):H.turns (i+1).toNat=(H.turns i.toNat).EN i:=by
 obtain⟨m,rfl⟩:=Int.eq_ofNat_of_zero_le h0
 rfl
end Go.Ing
/- A house: who comes, bytes that come: plain laws for the walks. -/
namespace Go.Ing
open Go
def YX:Hd:=⟨none,0,0⟩
def ER (t:AP)(g:Page.Pg):A3:=⟨1,-1,t,⟨[],false,false,YX⟩,⟨YX,g.shown,g.B9,g.ring,g.cut⟩,YX⟩
def YY:BJ:=⟨[],[],[]⟩
theorem Sl {v:A3}{l:BJ}{u:Ap}(hw:v.out.wait.len=l.wait.length):(Cq v l).send u=Cq { v with out:=⟨v.out.wait,(Page.send v.out u).1.shown,(Page.send v.out u).1.B9,(Page.send v.out u).1.ring,(Page.send v.out u).1.cut⟩ } l:=by
 unfold Aw.send Page.send
 rw [JA hw]
 cases h:Page.Bh v.out with
 | false=>rfl
 | true=>
  have e:(Cq v l).pg.cut=v.out.cut:=rfl
  cases hc:v.out.cut with
  | true=>rw [e,hc];show Cq v l=Cq { v with out:=⟨v.out.wait,v.out.shown,v.out.B9,v.out.ring,v.out.cut⟩ } l;rfl
  | false=>rw [e,hc];rfl
def IK (t:AP)(opt:Int):AP:=if decide ((t.DP opt).2.1 = [])=true then((t.DP opt).1.Ask opt).1 else(t.DP opt).1
def MX (t:AP)(opt:Int):Ap:=if decide ((t.DP opt).2.1 = [])=true then(t.DP opt).2.1++((t.DP opt).1.Ask opt).2.1 else(t.DP opt).2.1 ++ []
def Kl (t:AP)(g:Page.Pg)(opt:Int):Page.Pg:=(Page.send ⟨YX,g.shown,g.B9,g.ring,g.cut⟩ (MX t opt)).1
theorem M0 (t:AP)(g:Page.Pg)(opt:Int):(Cq (ER t g) YY).offer opt=Cq (ER (IK t opt) (Kl t g opt)) YY:=by
 have h:=Sl (v:=ER (IK t opt) g) (l:=YY) (u:=MX t opt) rfl
 unfold Aw.offer
 have e:(Cq (ER t g) YY).Dw=t:=rfl
 rw [e]
 by_cases c:decide ((t.DP opt).2.1 = [])=true
 ·rw [if_pos c]
  have e1:IK t opt=((t.DP opt).1.Ask opt).1:=if_pos c
  have e2:MX t opt = []++((t.DP opt).1.Ask opt).2.1:=(if_pos c).trans (by rw [of_decide_eq_true c])
  rw [← e1,← e2]
  exact h
 ·rw [if_neg c]
  have e1:IK t opt=(t.DP opt).1:=if_neg c
  have e2:MX t opt=(t.DP opt).2.1 ++ []:=if_neg c
  rw [← e1,← e2]
  exact h
def Du (j:Int):Int:=(((Vector.replicate 2 (default:Int)).put 0 3).put 1 31).at j
def Es:Nat→AP × Page.Pg
 | 0=>(default,⟨0,false,[],false⟩)
 | j+1=>(IK (Es j).1 (Du j),Kl (Es j).1 (Es j).2 (Du j))
theorem HF {j:Int}(h0:0≤j):Es (j+1).toNat=(IK (Es j.toNat).1 (Du j),Kl (Es j.toNat).1 (Es j.toNat).2 (Du j)):=by
 obtain⟨m,rfl⟩:=Int.eq_ofNat_of_zero_le h0
 rfl
theorem Oq:Cq (ER (Es 2).1 (Es 2).2) YY=(({ (default:Aw) with state:=1,Ay:=-1 }).offer 3).offer 31:=by
 have h0:({ (default:Aw) with state:=1,Ay:=-1 }:Aw)=Cq (ER (Es 0).1 (Es 0).2) YY:=rfl
 rw [h0,M0,M0]
 rfl
theorem Fa (t:AP)(opt:Int):(t.DP opt).2.1.length≤3:=by
 unfold AP.DP
 split
 ·exact Nat.zero_le _
 ·split
  ·exact Nat.zero_le _
  ·split
   ·exact Nat.zero_le _
   ·exact Nat.le_refl 3
theorem H7 (t:AP)(opt:Int):(t.Ask opt).2.1.length≤3:=by
 unfold AP.Ask
 split
 ·exact Nat.zero_le _
 ·split
  ·exact Nat.zero_le _
  ·split
   ·exact Nat.zero_le _
   ·exact Nat.le_refl 3
theorem AI.Fit.comes {H:AI}{n m:Nat}(h:H.Fit n m){k:Int}(h0:0≤k)(h1:k < 4)(t:AP)(g:Page.Pg):(H.set k (Cq (ER t g) YY)).Fit n m:=
 h.set h0 h1 (Nat.zero_le _) (fun e=>absurd (show(1:Int)=2 from e) (by decide)) (fun u hu=>by cases hu) ⟨Nat.zero_le _,fun u hu=>by cases hu⟩
theorem AI.Fit.Jg {H:AI}{n m:Nat}(h:H.Fit n m){k:Int}(h0:0≤k)(h1:k < 4):(H.Jg k).Fit (n+221) (m+220):=by
 unfold AI.Jg
 rw [← Oq]
 exact((h.comes h0 h1 _ _).tell h0 h1 (show AI.Hq.length≤_ by decide)).BZ.mono (by omega) (by omega)
end Go.Ing
/- A house: an act: plain laws for the walks. -/
namespace Go.Ing
open Go
theorem QR {v:A3}{l:BJ}(h:v.Ec.queue.len=l.queue.length):(Cq v l).K8=Bi.Bh v.Ec l.queue:=by
 unfold Aw.K8 Bi.Bh Bi.I7
 rw [h];rfl
theorem Vs {v:A3}{l:BJ}{u:Ap}(h:v.Ec.queue.len=l.queue.length)(c:Bi.Bh v.Ec l.queue=false):(Cq v l).typed u=(Cq v l,0):=if_pos (by rw [QR h,c];rfl)
theorem W6 {v:A3}{l:BJ}{u:Ap}(h:v.Ec.queue.len=l.queue.length)(c:Bi.Bh v.Ec l.queue=true)(q:Hd) :
  (Cq v l).typed u=(Cq { v with Ec:=⟨(Bi.feed (Bi.start v.Ec l.queue) u).now,(Bi.feed (Bi.start v.Ec l.queue) u).C0,(Bi.feed (Bi.start v.Ec l.queue) u).ret,q⟩ } ⟨(Bi.feed (Bi.start v.Ec l.queue) u).queue,l.wait,l.told⟩,(Bi.feed (Bi.start v.Ec l.queue) u).lost):=
 (if_neg (by rw [QR h,c];decide)).trans rfl
theorem SK (s:Aw)(u:Ap):(s.typed u).1.told=s.told∧(s.typed u).1.state=s.state∧(s.typed u).1.Ay=s.Ay∧(s.typed u).1.wait=s.wait∧(AI.aQ s.queue→AI.aQ (s.typed u).1.queue):=by
 unfold Aw.typed
 split
 ·exact⟨rfl,rfl,rfl,rfl,fun h=>h⟩
 ·rename_i c
  refine⟨rfl,rfl,rfl,rfl,fun _=>?_⟩
  have hg:Bi.Bh ⟨s.now,s.C0,s.ret,⟨none,s.queue.length,0⟩⟩ s.queue=true:=by
   have:s.K8=true:=by simpa using c
   exact this
  have ho:=Bi.U5 u ((Bi.Hl (l:=⟨s.now,s.C0,s.ret,⟨none,s.queue.length,0⟩⟩) rfl).1 hg)
  exact⟨ho.len,fun q hq=>((Bi.GG q).1 (ho.queue q hq)).1⟩
theorem OD (s:Aw)(u:Ap):(s.send u).told=s.told∧(s.send u).state=s.state∧(s.send u).Ay=s.Ay∧(s.send u).wait=s.wait∧(s.send u).queue=s.queue:=by
 unfold Aw.send
 split
 ·exact⟨rfl,rfl,rfl,rfl,rfl⟩
 ·split<;>exact⟨rfl,rfl,rfl,rfl,rfl⟩
def C7 (s:Aw)(u:Ap):Aw × Int:=(s.bytes u).1.typed (s.bytes u).2
theorem EJ (s:Aw)(u:Ap):(C7 s u).1.told=s.told∧(C7 s u).1.state=s.state∧(C7 s u).1.Ay=s.Ay∧(C7 s u).1.wait=s.wait∧(AI.aQ s.queue→AI.aQ (C7 s u).1.queue):=by
 have h1:=SK (s.bytes u).1 (s.bytes u).2
 have h2:=OD { s with Dw:=(s.Dw.Dg u).1 } (s.Dw.Dg u).2.2.1
 obtain⟨a,b,c,d,e⟩:=h1
 obtain⟨a',b',c',d',e'⟩:=h2
 exact⟨a.trans a',b.trans b',c.trans c',d.trans d',fun hq=>e (by rw [show(s.bytes u).1.queue=s.queue from e'];exact hq)⟩
theorem Io (H:AI)(k:Int)(u:Ap):H.byte k u=(if decide (0 < (C7 (H.at_ k) u).2)=true then(H.set k (C7 (H.at_ k) u).1).tell k AI.Oi else H.set k (C7 (H.at_ k) u).1).BZ:=rfl
def heard (v:A3)(u:Ap):A3:={ v with Dw:=(v.Dw.Dg u).1,out:=⟨v.out.wait,(Page.send v.out (v.Dw.Dg u).2.2.1).1.shown,(Page.send v.out (v.Dw.Dg u).2.2.1).1.B9,(Page.send v.out (v.Dw.Dg u).2.2.1).1.ring,(Page.send v.out (v.Dw.Dg u).2.2.1).1.cut⟩ }
theorem QE {v:A3}{l:BJ}{u:Ap}(hw:v.out.wait.len=l.wait.length):(Cq v l).bytes u=(Cq (heard v u) l,(v.Dw.Dg u).2.1):=by
 unfold Aw.bytes
 exact congrArg (fun x=>(x,_)) (Sl (v:={ v with Dw:=(v.Dw.Dg u).1 }) (l:=l) (u:=(v.Dw.Dg u).2.2.1) hw)
theorem Hn {v:A3}{l:BJ}{u:Ap}(hw:v.out.wait.len=l.wait.length)(h:v.Ec.queue.len=l.queue.length)(c:Bi.Bh v.Ec l.queue=false):C7 (Cq v l) u=(Cq (heard v u) l,0):=by
 unfold C7
 rw [QE hw]
 exact Vs (v:=heard v u) h c
theorem Iq {v:A3}{l:BJ}{u:Ap}(hw:v.out.wait.len=l.wait.length)(h:v.Ec.queue.len=l.queue.length)(c:Bi.Bh v.Ec l.queue=true)(q:Hd) :
  C7 (Cq v l) u=(Cq { heard v u with Ec:=⟨(Bi.feed (Bi.start v.Ec l.queue) (v.Dw.Dg u).2.1).now,(Bi.feed (Bi.start v.Ec l.queue) (v.Dw.Dg u).2.1).C0,(Bi.feed (Bi.start v.Ec l.queue) (v.Dw.Dg u).2.1).ret,q⟩ } ⟨(Bi.feed (Bi.start v.Ec l.queue) (v.Dw.Dg u).2.1).queue,l.wait,l.told⟩,(Bi.feed (Bi.start v.Ec l.queue) (v.Dw.Dg u).2.1).lost):=by
 unfold C7
 rw [QE hw]
 exact W6 (v:=heard v u) h c q
namespace AI
variable {H:AI} {n m:Nat}
theorem RI {i:Int}(h0:0≤i):H.EZ (i+1).toNat=(H.EZ i.toNat).set i { (H.EZ i.toNat).at_ i with told:= [] }:=by
 obtain⟨k,rfl⟩:=Int.eq_ofNat_of_zero_le h0
 rfl
theorem HG:∀ k:Nat,(H.EZ k).w=H.w∧(H.EZ k).last=H.last∧(H.EZ k).B7=H.B7
 | 0=>⟨rfl,rfl,rfl⟩
 | k+1=>HG k
theorem OC:∀ k:Nat,k≤4→∀ j:Int,0≤j→j < 4→(H.EZ k).at_ j=if j < k then { H.at_ j with told:= [] } else H.at_ j
 | 0,_,j,j0,_=>by rw [if_neg (by omega)];rfl
 | k+1,hk,j,j0,j1=>by
  have ih:=OC k (by omega)
  show(((H.EZ k).set k _).at_ j)=_
  rw [Cm _ (by omega) (by omega) j0]
  by_cases c:j=(k:Int)
  ·subst c
   rw [if_pos rfl,if_pos (by omega),ih _ j0 j1,if_neg (by omega)]
  ·rw [if_neg c,ih j j0 j1]
   by_cases c2:j < (k:Int)
   ·rw [if_pos c2,if_pos (by omega)]
   ·rw [if_neg c2,if_neg (by omega)]
theorem Hh {j:Int}(j0:0≤j)(j1:j < 4):H.begun.at_ j={ H.at_ j with told:= [] }:=by
 have:=OC (H:={ H with B7:=H.B7+1,last:= [] }) 4 (Nat.le_refl 4) j j0 j1
 rw [if_pos (by omega)] at this
 exact this
theorem Fit.begun (h:H.Fit n m):H.begun.Fit 0 0:=by
 have hs:=HG (H:={ H with B7:=H.B7+1,last:= [] }) 4
 refine⟨by show(EZ _ 4).w.LK;rw [hs.1];exact h.Ff,fun j a b=>?_,by show(EZ _ 4).last.length≤0;rw [hs.2.1];exact Nat.le_refl 0,fun j a b=>?_,fun j a b=>?_,fun j a b=>?_⟩<;>rw [Hh a b]
 ·exact Nat.le_refl 0
 ·exact h.Ay j a b
 ·exact h.wait j a b
 ·exact h.queue j a b
theorem Fit.typed (h:H.Fit n m){k:Int}(h0:0≤k)(h1:k < 4)(u:Ap):(H.set k (C7 (H.at_ k) u).1).Fit n m:=by
 obtain⟨a,b,c,d,e⟩:=EJ (H.at_ k) u
 exact h.set h0 h1 (by rw [a];exact h.told k h0 h1) (by rw [b,c];exact h.Ay k h0 h1) (by rw [d];exact h.wait k h0 h1) (e (h.queue k h0 h1))
theorem Fit.G6 (h:H.Fit n m){k:Int}(h0:0≤k)(h1:k < 4)(z:Int):(H.set k ((H.at_ k).G6 z)).Fit n m:=
 h.set h0 h1 (h.told k h0 h1) (h.Ay k h0 h1) (h.wait k h0 h1) (h.queue k h0 h1)
theorem Fit.Of (h:H.Fit n m)(d:Int):(H.Of d).Fit (n+400) (m+400):=by
 have h1:=KC h 4 (Nat.le_refl 4)
 have hr:=AE.Kw (draw:=d) h1.Ff
 have hl:=AE.QP h1.Ff.HA d
 exact(((h1.land hr.1).Gx hr.2).BZ).mono (by omega) (by omega)
theorem Fit.byte (h:H.Fit 0 0){k:Int}(h0:0≤k)(h1:k < 4)(u:Ap):(H.byte k u).Fit 1000 1000:=by
 rw [Io]
 refine(Fit.BZ (n:=1) (m:=0) ?_).mono (by omega) (by omega)
 split
 ·exact(h.typed h0 h1 _).tell h0 h1 (show Oi.length≤_ by decide)
 ·exact(h.typed h0 h1 _).mono (by omega) (by omega)
theorem I2 (P:AI→Prop)(h0:P H)(hp:∀ d,P (H.Of d))(hc:∀ k,0≤k→k < 4→P (H.Jg k))(hb:∀ k u,0≤k→k < 4→P (H.byte k u))(ht:∀ k z,0≤k→k < 4→P ((H.set k ((H.at_ k).G6 z)).BZ))(hl:∀ k,0≤k→k < 4→P (H.leave k).BZ)(a:Bz):P (H.Dv a).1:=by
 unfold AI.Dv
 split
 ·dsimp only;exact hp a.n
 ·split
  ·dsimp only;exact h0
  ·split
   ·dsimp only;exact h0
   ·rename_i c
    have hs:0≤a.BL∧a.BL < 4:=by simp only [Bool.or_eq_true,decide_eq_true_eq] at c;omega
    split
    ·dsimp only;exact h0
    ·split
     ·dsimp only;exact hc _ hs.1 hs.2
     ·split
      ·dsimp only;exact hb _ _ hs.1 hs.2
      ·split
       ·dsimp only;exact ht _ _ hs.1 hs.2
       ·dsimp only;exact hl _ hs.1 hs.2
theorem Fit.Dv (h:H.Fit 0 0)(a:Bz):(H.Dv a).1.Fit 1000 1000:=
 I2 (fun X=>X.Fit 1000 1000) (h.mono (by omega) (by omega)) (fun d=>(h.Of d).mono (by omega) (by omega)) (fun k h0 h1=>(h.Jg h0 h1).mono (by omega) (by omega)) (fun k u h0 h1=>h.byte h0 h1 u)
  (fun k z h0 h1=>((h.G6 h0 h1 z).BZ).mono (by omega) (by omega)) (fun k h0 h1=>((h.leave h0 h1).BZ).mono (by omega) (by omega)) a
theorem Fit.act (h:H.Fit n m)(a:Bz):(H.act a).1.Fit (n+1000) (m+1000):=by
 unfold AI.act
 split
 ·exact h.mono (by omega) (by omega)
 ·exact(h.begun.Dv a).mono (by omega) (by omega)
theorem GA {H:AI}(c:decide (400≤H.B7)=false)(a:Bz):H.act a=H.begun.Dv a:=if_neg (by rw [c];decide)
end AI
theorem Gb (V:AM)(ls:Vector BJ 4)(ev:List Event){k:Int}(h0:0≤k)(h1:k < 4):decide (((A5 V ls ev).at_ k).state=0)=decide ((V.Au.at k).state=0):=by rw [Cr V ls ev h0 h1];rfl
theorem FH {V:AM}{ls:Vector BJ 4}{ev:List Event}{k:Int}(h0:0≤k)(h1:k < 4){sv v:A3}{sl l:BJ}(hs:V.Au.at k=sv)(hl:ls.at k=sl){u:Ap}{z:Int}(e:C7 (Cq sv sl) u=(Cq v l,z)) :
  A5 (V.BL k v) (ls.put k l) ev=(A5 V ls ev).set k (C7 ((A5 V ls ev).at_ k) u).1∧(C7 ((A5 V ls ev).at_ k) u).2=z:=by
 have ha:C7 ((A5 V ls ev).at_ k) u=(Cq v l,z):=by rw [Cr V ls ev h0 h1,hs,hl];exact e
 rw [IZ V ls ev h0 h1,ha]
 exact⟨rfl,rfl⟩
theorem Iy {V V2:AM}{ls ls2:Vector BJ 4}{ev:List Event}{k:Int}(h0:0≤k)(h1:k < 4){u:Ap}{z:Int}(e:A5 V2 ls2 ev=(A5 V ls ev).set k (C7 ((A5 V ls ev).at_ k) u).1∧(C7 ((A5 V ls ev).at_ k) u).2=z)(hF:(A5 V ls ev).Fit 0 0):(A5 V2 ls2 ev).Fit 0 0:=by
 rw [e.1];exact hF.typed h0 h1 u
theorem Lg {V V2 V3 V4:AM}{ls ls2 ls3 ls4:Vector BJ 4}{ev ev3 ev4:List Event}{k:Int}(_:0≤k)(_:k < 4){u:Ap}{z:Int}(e:A5 V2 ls2 ev=(A5 V ls ev).set k (C7 ((A5 V ls ev).at_ k) u).1∧(C7 ((A5 V ls ev).at_ k) u).2=z)
  (e3:(decide (0 < z)=true∧A5 V3 ls3 ev3=(A5 V2 ls2 ev).tell k AI.Oi)∨(decide (0 < z)=false∧A5 V3 ls3 ev3=A5 V2 ls2 ev)) (e4:A5 V4 ls4 ev4=(A5 V3 ls3 ev3).BZ):A5 V4 ls4 ev4=(A5 V ls ev).byte k u:=by
 rw [e4,Io,e.2]
 rcases e3 with ⟨c,e3⟩ | ⟨c,e3⟩
 ·rw [e3,if_pos c,e.1]
 ·rw [e3,if_neg (by rw [c];decide),e.1]
theorem Wq (V:AM)(ls:Vector BJ 4)(ev:List Event){k:Int}(h0:0≤k)(h1:k < 4){sv:A3}(hs:V.Au.at k=sv)(n:Int):sv.out.ring.take (max 0 (min n (sv.out.ring.length:Int))).toNat=((A5 V ls ev).at_ k).out n:=by
 rw [Cr V ls ev h0 h1,hs];rfl
theorem Vt (t:AP)(u:Ap):(t.Dg u).2.1.length≤u.length:=by
 unfold AP.Dg
 split
 ·exact Nat.zero_le _
 ·exact(AP.YD u t).1
end Go.Ing
/- A house, from outside: plain laws for the walks. -/
namespace Go.Ing
open Go
namespace AI
def Co (H:AI)(i:Int):Int × Int:=if decide ((H.at_ i).state=2)=true then(2,(H.at_ i).Ay) else((H.at_ i).state,-1)
theorem SU:∀(l:List Bz) (H:AI) (a:Bz),run H (l ++ [a])=(((run H l).1.act a).1,(run H l).2 ++ [((run H l).1.act a).2])
 | [],_,_=>rfl
 | b :: r,H,a=>by
  have ih:=SU r (H.act b).1 a
  show((run (H.act b).1 (r ++ [a])).1,(H.act b).2 :: (run (H.act b).1 (r ++ [a])).2)=_
  rw [ih];rfl
theorem Xz {H:AI}{xs:List Bz}{k:Int}(h0:0≤k)(h1:k < xs.length):run H (xs.take (k+1).toNat)=(((run H (xs.take k.toNat)).1.act (xs.getD k.toNat default)).1,(run H (xs.take k.toNat)).2 ++ [((run H (xs.take k.toNat)).1.act (xs.getD k.toNat default)).2]):=by
 obtain⟨m,rfl⟩:=Int.eq_ofNat_of_zero_le h0
 have hm:m < xs.length:=by omega
 show run H (xs.take (m+1))=(((run H (xs.take m)).1.act (xs.getD m default)).1,(run H (xs.take m)).2 ++ [((run H (xs.take m)).1.act (xs.getD m default)).2])
 rw [List.take_add_one,List.getElem?_eq_getElem hm,List.getD_eq_getElem?_getD,List.getElem?_eq_getElem hm]
 exact SU _ _ _
def Fits (H:AI):Prop:=∃ n m,H.Fit n m
theorem Fits.act {H:AI}(h:H.Fits)(a:Bz):(H.act a).1.Fits:=by
 obtain⟨n,m,h⟩:=h
 exact⟨_,_,h.act a⟩
theorem Fits.run:∀(l:List Bz) {H:AI},H.Fits→(run H l).1.Fits
 | [],_,h=>h
 | a :: r,_,h=>Fits.run r (h.act a)
theorem Un:AH.new.LK:=by
 refine⟨fun i=>?_,fun i=>?_,fun i=>?_⟩
 ·rcases Vector.N7 AH.new.AO i with e | ⟨j,j0,j1,e⟩
  ·rw [e];exact Nat.zero_le _
  ·rw [e]
   have:j=0∨j=1∨j=2∨j=3∨j=4∨j=5∨j=6∨j=7∨j=8:=by omega
   rcases this with h | h | h | h | h | h | h | h | h<;>subst h<;>decide
 ·rcases Vector.N7 AH.new.AL i with e | ⟨j,j0,j1,e⟩
  ·rw [e];exact Nat.zero_le _
  ·rw [e]
   have:j=0∨j=1∨j=2∨j=3∨j=4∨j=5:=by omega
   rcases this with h | h | h | h | h | h<;>subst h<;>decide
 ·rcases Vector.N7 AH.new.BQ i with e | ⟨j,j0,j1,e⟩
  ·rw [e];exact Nat.zero_le _
  ·rw [e]
   have:j=0∨j=1∨j=2∨j=3∨j=4∨j=5:=by omega
   rcases this with h | h | h | h | h | h<;>subst h<;>decide
theorem Ma {k:Int}(h0:0≤k)(h1:k < 4):AI.new.at_ k=default:=by
 rcases four h0 h1 with e | e | e | e<;>subst e<;>rfl
theorem Yt:AI.new.Fit 0 0:=by
 refine⟨Un,fun k a b=>?_,Nat.le_refl 0,fun k a b=>?_,fun k a b=>?_,fun k a b=>?_⟩<;>rw [Ma a b]
 ·exact Nat.le_refl 0
 ·exact fun e=>absurd (show(0:Int)=2 from e) (by decide)
 ·exact fun u hu=>by cases hu
 ·exact⟨Nat.zero_le _,fun u hu=>by cases hu⟩
end AI
theorem St.Yw {w0 w:World}{M:List Nat}{L l:List Ab}(h:St w0 M w L)(hl:∀ r∈l,r.CP = []∧r.ok w):St w0 M w (Ab.EB l :: L):=by
 have hf:(Ab.EB l).CP = []:=by
  show l.flatMap Ab.CP = []
  rw [List.flatMap_eq_nil_iff]
  exact fun r hr=>(hl r hr).1
 refine⟨h.os,h.tape,h.output,h.size,h.IT,fun r hr=>?_,fun r hr=>?_,List.pairwise_cons.2 ⟨fun s hs b hb=>?_,h.JI⟩⟩
 ·rcases List.mem_cons.1 hr with rfl | hr
  ·refine⟨fun r hr=>(hl r hr).2,?_⟩
   refine List.Pairwise.imp_of_mem (R:=fun _ _=>True) (fun {a b} ha hb _ x hx=>?_) (List.pairwise_of_forall (fun _ _=>trivial))
   rw [(hl a ha).1] at hx;cases hx
  ·exact h.ok r hr
 ·rcases List.mem_cons.1 hr with rfl | hr
  ·rw [hf];exact fun b hb=>by cases hb
  ·exact h.CP r hr
 ·rw [hf] at hb;cases hb
def NT:Vector A3 4:=Vector.replicate 4 default
def NQ:Vector BJ 4:=Vector.replicate 4 ⟨[],[],[]⟩
theorem YA (T:Nat)(w:World):∀ r∈CR T NT NQ,r.CP = []∧r.ok w:=by
 have hs:∀ r∈Fg T default ⟨[],[],[]⟩,r.CP = []∧r.ok w:=fun r hr=>by
  unfold Fg at hr
  simp only [List.mem_cons,List.mem_nil_iff,or_false] at hr
  rcases hr with rfl | rfl | rfl<;>exact⟨rfl, .inl ⟨rfl,rfl⟩⟩
 intro r hr
 have e:CR T NT NQ=Fg T default ⟨[],[],[]⟩++(Fg T default ⟨[],[],[]⟩++(Fg T default ⟨[],[],[]⟩++Fg T default ⟨[],[],[]⟩)):=rfl
 rw [e] at hr
 simp only [List.mem_append] at hr
 rcases hr with h | h | h | h<;>exact hs r h
def CQ (v:A3):Int × Int:=if decide (v.state=2)=true then(2,v.Ay) else(v.state,-1)
theorem HD (V:AM)(ls:Vector BJ 4)(ev:List Event){i:Int}(h0:0≤i)(h1:i < 4):CQ (V.Au.at i)=(A5 V ls ev).Co i:=by
 unfold AI.Co
 rw [Cr V ls ev h0 h1]
 rfl
end Go.Ing
/- Engine: calls of closures that read what they are handed; slices that are only read, beside boxes. -/
namespace Go.Ing
open Go
section
variable {P:Program} {n:Nat} {w0:World} {M:List Nat} {Q:Exit→Go.Act→World→Prop} {F:List (Nat × Value)} {L:List Ab} {ops:Array Oper} {rest:List Oper}
def dk (w:World)(M:List Nat)(h:Hd)(T sz:Nat)(cs:List Value):Prop:=Rd w h T sz cs∧(cs≠ []→∀ b o,h.a=some ⟨b,o,none⟩→b ∉ M)
theorem Kn.Ym {h:Hd}{T sz:Nat}{cs:List Value}(hr:dk w0 M h T sz cs):Kn w0 M L h T sz cs:=fun w hS=>by
 by_cases hc:cs = []
 ·subst hc;exact⟨hr.1.1,fun h=>absurd rfl h⟩
 ·exact hS.eo hr.1 (hr.2 hc)
end
theorem Rd.pull {w0 w:World}{L A K:List Ab}{h:Hd}{T sz:Nat}{cs:List Value}(hr:Rd w0 h T sz cs)(hS:St w0 [] w L)(hp:Ax L A K):dk w (Cg A) h T sz cs:=
 ⟨hS.rd hr,fun hne b o e=>by
  obtain⟨b',o',C,fz,h1,h2,_⟩:=hr.2 hne
  rw [e] at h1
  injection h1 with h1
  injection h1 with h1
  subst h1
  exact OL h2 (by simp) hS hp⟩
instance:Inhabited AM:=⟨⟨default,Vector.replicate 4 default,0,⟨none,0,0⟩⟩⟩
end Go.Ing
/- Engine: the texts in a slice of acts that came in, and how much they can take. -/
namespace Go.Ing
open Go Go.RowKit Go.ChangeShapes Go.WideShapes Go.ChangeAt
section
variable {H:Type} {enc:TypeId × Value→H} {P:Program} {w:World}
theorem M6 {e:TypeId}{d:DataW H}:∀ {l:List (DataW H)},d∈l→∀ n∈d.weights P e,n∈DataW.weightsAll P e l
 | [],h,_,_=>by cases h
 | x :: r,h,n,hn=>by
  simp only [DataW.weightsAll]
  rcases List.mem_cons.1 h with rfl | h
  ·exact List.mem_append_left _ hn
  ·exact List.mem_append_right _ (M6 h n hn)
theorem Tu {t E TS:TypeId}{fs:Array Field}{h:Hd}{d:DataW H}{p:List MemPlace}{T0:Nat}{xs:List Bz}(hT:P.underlying t=some (.slice E))(hE:P.underlying E=some (.struct fs))(hf:(fs[3]?).map (fun f=>(f.type,f.offset))=some (TS,3))(hS:P.underlying TS=some .string)(zE:P.cellsOf E=4)(zS:P.cellsOf TS=1)
  (hd:DataW.Trod enc P w 0 (fun _=>true) true t h.val d p) (hr:Rd w h T0 4 (xs.flatMap Bz.enc)) (hw:∀ n∈d.weights P t,n≤reachBytes):∀ a∈xs,a.bytes.length≤140737488351232:=by
 have hlen:h.len=xs.length:=hr.La Bz.fl (by decide)
 intro a ha
 obtain⟨i,hi,rfl⟩:=List.getElem_of_mem ha
 have hb:∃ b o,h.a=some ⟨b,o,none⟩:=by
  have hne:xs.flatMap Bz.enc≠ []:=fun e=>by
   have:=congrArg List.length e
   rw [C4 Bz.fl.len] at this
   simp only [List.length_nil] at this
   omega
  obtain⟨b,o,_,_,e,_⟩:=hr.2 hne
  exact⟨b,o,e⟩
 obtain⟨b,o,hb⟩:=hb
 obtain⟨fuel,hfu⟩:=hd
 have hv:h.val = .slice (some ⟨b,o,none⟩) h.len h.cap:=by rw [← hb];rfl
 have hcs:h.val.cells.toList = [.slice (some ⟨b,o,none⟩) h.len h.cap]:=by rw [hv];rfl
 rw [hcs] at hfu
 rcases DataW.trod_slice hT hfu with ⟨h3,_⟩ | ⟨a',len,cap,elems,rest,m,_,h3,h4,_,hlc,_,h5,hel,_⟩
 ·simp at h3
 ·simp at h3
  obtain⟨rfl,rfl,rfl⟩:=h3
  have hd':d = .slice (elems.map (·.1)) (rest.map (·.1)):=congrArg Prod.fst h4
  have h6:=hel i (by omega)
  have hi':i < elems.length:=by omega
  rw [List.getElem?_eq_getElem hi',Option.bind_eq_some_iff] at h6
  obtain⟨c,h7,h9⟩:=h6
  obtain⟨ys,q,_,hx,hl,hlen',hfl⟩:=DataW.trod_struct hE h9
  cases hf3:fs[3]? with
  | none=>rw [hf3] at hf;cases hf
  | some f=>
   rw [hf3] at hf
   simp at hf
   obtain⟨rfl,hoff⟩:=hf
   have h1:=hfl 3 f hf3
   have h3s:3 < fs.size:=by
    rcases Nat.lt_or_ge 3 fs.size with h' | h'
    ·exact h'
    ·rw [Array.getElem?_eq_none h'] at hf3;cases hf3
   have h2:ys[3]?=some (ys[3]'(by omega)):=List.getElem?_eq_getElem (by omega)
   rw [h2,zS,hoff] at h1
   obtain⟨s,e1,e2,_⟩:=DataW.trod_string hS h1
   have hc:=World.cells?_some h7
   rw [zE] at hc
   have h10:=hc.2.2 3 (by omega)
   have h11:c[3]?=some (.string s):=by
    have:=congrArg (fun l=>l[0]?) e1
    simp only [List.getElem?_take,List.getElem?_drop] at this
    simpa using this
   obtain⟨b',o',C,fz,k1,k2,k3,k4⟩:=Oa Bz.fl Bz.l3 hr hi (by decide)
   have k1':(some ⟨b,o,none⟩:Option Addr)=some ⟨b',o',none⟩:=hb.symm.trans k1
   injection k1' with k1'
   injection k1' with kb ko
   subst kb;subst ko
   rw [EY,EY] at h10
   unfold World.cell? at h10
   simp only [k2] at h10
   have k5:C[o+i * 4+3]?=some (BU xs[i].bytes):=by
    have:=congrArg (fun l=>l[0]?) k4
    simp only [List.getElem?_take,List.getElem?_drop] at this
    simpa [A8] using this
   have k6:BU xs[i].bytes = .string s:=by
    rw [h11] at h10
    have:C[o+i * 4+3]?=some (Value.string s):=by simpa using h10
    rw [k5] at this
    injection this
   have k7:s.data.toList=xs[i].bytes:=by
    simp [BU] at k6
    rw [← k6]
   have hmem:xs[i].bytes.length∈d.weights P t:=by
    rw [hd']
    simp only [DataW.weights,hT]
    refine List.mem_cons_of_mem _ (List.mem_append_left _ (M6 (d:=elems[i].1) (List.mem_map.2 ⟨elems[i],List.getElem_mem _,rfl⟩) _ ?_))
    have hx':elems[i].1 = .agg (ys.map (·.1)):=congrArg Prod.fst hx
    rw [hx']
    simp only [DataW.weights,hE]
    refine DataW.weights_mem_each (j:=3) (t:=f.type) (d:=(ys[3]'(by omega)).1) ?_ ?_ _ ?_
    ·rw [List.getElem?_map];simp [hf3]
    ·rw [List.getElem?_map,h2];rfl
    ·rw [e2,k7];simp [DataW.weights]
   exact hw _ hmem
end
end Go.Ing
/- What every turn keeps: a principle. -/
namespace Go.Ing
open Go
namespace AE
inductive S8 (w:AH):Ap→Prop
 | word {s:Ap}:s∈ [Mn,XL,Ti,KR,O8,O5,cP,Zf,Z5,RD]→S8 w s
 | room (r:Int):S8 w ([84,104,101,32]++(w.BQ.at r).name ++ [46])
 | ways (r:Room):S8 w (Ij r 6)
 | list {s:Ap} (l:List Int):s∈ [[72,101,114,101,32,105,115],[89,111,117,32,104,97,118,101]]→S8 w (Sd w s l ++ [46])
 | seen (k:Int):S8 w ((w.AL.at k).name ++ [32,105,115,32,104,101,114,101,46])
inductive Shape (x:Ap)(w:AH):Event→Prop
 | bI {s:Ap}:S8 w s→Shape x w { F0 16 with text:=s }
 | said:Shape x w { F0 7 with text:=x }
 | kind {k:Int}:k=15∨k=17→Shape x w (F0 k)
 | dir {k d:Int}:k=1∨k=2→Shape x w { F0 k with dir:=d }
 | Bs {k i:Int}:k=3∨k=4∨(8≤k∧k≤13)→Shape x w { F0 k with Bs:=(w.AO.at i).name }
 | Gy {k:Int}:k=8∨k=9→Shape x w { F0 k with Bs:=P9 }
 | cb {i to:Int}:Shape x w { F0 6 with other:=to,Bs:=(w.AO.at i).name }
 | Wz {i to:Int}:Shape x w { F0 5 with Bs:=(w.AO.at i).name,text:=(w.AO.at to).name }
 | CC {B1 n:Int}:1≤n→n≤3→Shape x w { F0 14 with other:=B1,n:=n }
def ev (w:AH)(b:Int)(e:Event):Event:=w.G0 (Dh ⟨w,b,[]⟩ e) 6
theorem OP (T:AE)(e:Event):(T.BO e).out=T.out ++ [ev T.w T.b e]:=rfl
structure Rel (x:Ap)(q:Prop)(b:Int)(R:AH→List Event→AH→Prop):Prop where
 refl:∀ w,R w [] w
 trans:∀ {X l Y m Z},R X l Y→R Y m Z→R X (l++m) Z
 bA:∀ {w e},Shape x w e→R w [ev w b e] w
 Bs:∀ {w:AH} {i:Int} {t:Al},t.name=(w.AO.at i).name→t.kind=(w.AO.at i).kind→R w [] (w.Gp i t)
 B1:∀ {w:AH} {k f:Int},R w [] (w.Cw k { w.AL.at k with B1:=f })
 shut:∀ {w:AH} {r d:Int} {v:Bool},R w [] (w.NB r d v)
 Fw:∀ {w:AH} {d r:Int},R w [ev w b { F0 1 with dir:=d }] (w.Cw b { w.AL.at b with room:=r,B1:=0 })
 GH:q→∀ {w},R w [ev w b (F0 18)] w
 gone:∀ {X l w},R X l w→(∃ e∈l,(e.kind=18∨(e.kind=15∧b < 2))∧e.CU=b)→R X l (w.Cw b default)
structure On (R:AH→List Event→AH→Prop)(X:AH)(b:Int)(T:AE):Prop where
 b:T.b=b
 r:R X T.out T.w
theorem OF (T:AE)(i j Ca at_:Int):((T.place i Ca at_).w.AO.at j).name=(T.w.AO.at j).name:=by
 show((T.w.AO.put i { T.w.AO.at i with Ca:=Ca,at_:=at_ }).at j).name=_
 unfold Vector.put Vector.at
 rw [List.getD_eq_getElem?_getD,List.getD_eq_getElem?_getD,List.getD_eq_getElem?_getD]
 simp only [Vector.toList_setIfInBounds]
 rw [List.getElem?_set]
 split
 ·rename_i h1
  split
  ·rw [h1];rfl
  ·rename_i h2
   rw [← h1,List.getElem?_eq_none (by omega)]
 ·rfl
theorem Fv (w:AH)(b:Int)(e:Event):(ev w b e).kind=e.kind∧(ev w b e).CU=b:=by
 obtain⟨a1,a2,_⟩:=AH.HP w (Dh ⟨w,b,[]⟩ e) 6
 refine⟨a1.trans ?_,a2.trans ?_⟩
 ·unfold Dh;split<;>rfl
 ·unfold Dh;split<;>rfl
section
variable {x:Ap} {q:Prop} {b:Int} {R:AH→List Event→AH→Prop} (K:Rel x q b R) {X:AH} {T:AE}
include K
theorem On.start (X:AH):On R X b ⟨X,b,[]⟩:=⟨rfl,K.refl X⟩
theorem On.land (h:On R X b T){w':AH}(hr:R T.w [] w'):On R X b { T with w:=w' }:=⟨h.b,by have:=K.trans h.r hr;rwa [List.append_nil] at this⟩
theorem On.BO (h:On R X b T){e:Event}(he:Shape x T.w e):On R X b (T.BO e):=⟨h.b,by rw [OP,h.b];exact K.trans h.r (K.bA he)⟩
theorem On.tell (h:On R X b T){s:Ap}(hs:S8 T.w s):On R X b (T.tell s):=h.BO K (.bI hs)
theorem On.kind (h:On R X b T){k:Int}(hk:k=15∨k=17):On R X b (T.kind k):=h.BO K (.kind hk)
theorem On.dK (h:On R X b T){k:Int}(i:Int)(hk:k=3∨k=4∨(8≤k∧k≤13)):On R X b (T.Bs k i):=h.BO K (.Bs hk)
theorem On.DA (h:On R X b T){i:Int}{t:Al}(hn:t.name=(T.w.AO.at i).name)(hk:t.kind=(T.w.AO.at i).kind):On R X b (T.DA i t):=h.land K (w':=T.w.Gp i t) (K.Bs hn hk)
theorem On.place (h:On R X b T)(i Ca at_:Int):On R X b (T.place i Ca at_):=h.DA K rfl rfl
theorem On.Ck (h:On R X b T)(k f:Int):On R X b (T.Ck k f):=h.land K (w':=T.w.Cw k { T.w.AL.at k with B1:=f }) K.B1
theorem On.C9 (h:On R X b T)(r d:Int)(v:Bool):On R X b (T.C9 r d v):=h.land K (w':=T.w.NB r d v) K.shut
theorem On.list (h:On R X b T){s:Ap}(hs:s∈ [[72,101,114,101,32,105,115],[89,111,117,32,104,97,118,101]])(l:List Int):On R X b (T.list s l):=h.tell K (.list l hs)
theorem On.look (h:On R X b T):On R X b T.look:=by
 have hk:∀ {T':AE},On R X b T'→∀ k:Nat,On R X b (T'.Fb k):=fun {T'} h' k=>by
  induction k with
  | zero=>exact h'
  | succ k ih=>
   unfold Fb
   split
   ·refine ih.tell K ?_
    rw [(KP T' k).1]
    exact .seen k
   ·exact ih
 unfold AE.look
 split
 ·exact h.tell K (.word (by simp))
 ·refine hk ?_ 6
  have ha:On R X b T.J6:=(h.tell K (.room _)).tell K (.ways _)
  unfold D8
  split
  ·exact ha.list K (by simp) _
  ·exact ha
theorem On.walk (h:On R X b T)(d:Int):On R X b (T.walk d):=by
 unfold AE.walk
 split
 ·exact h.tell K (.word (by simp))
 ·split
  ·exact h.tell K (.word (by simp))
  ·have i1:On R X b ((T.BO { F0 1 with dir:=d }).Fw ((T.w.BQ.at T.me.room).CM.at d - 1)):=⟨h.b,by
    have:=K.trans h.r (K.Fw (w:=T.w) (d:=d) (r:=(T.w.BQ.at T.me.room).CM.at d - 1))
    rw [← h.b] at this
    exact this⟩
   exact(i1.BO K (.dir (.inr rfl))).look K
theorem On.box (h:On R X b T)(u:Ap):On R X b (T.box u).1:=by
 unfold AE.box
 split
 ·exact h.tell K (.word (by simp))
 ·split
  ·exact h.tell K (.word (by simp))
  ·exact h
theorem On.A6 (h:On R X b T)(u:Ap):On R X b (T.A6 u).1:=by
 unfold AE.A6
 split
 ·split
  ·exact h
  ·exact h.tell K (.word (by simp))
 ·exact h.tell K (.word (by simp))
theorem On.DG (l:List Int):∀ {T':AE},On R X b T'→On R X b (T'.DG l):=by
 induction l with
 | nil=>exact fun h=>h
 | cons i r ih=>exact fun {T'} h=>ih ((h.place K i 1 T'.b).dK K i (.inl rfl))
theorem On.KW (h:On R X b T)(l:List Int)(o:Order):On R X b (T.KW l o):=by
 unfold AE.KW
 refine On.DG K _ ?_
 split
 ·exact h.tell K (.word (by simp))
 ·exact h
theorem On.get (h:On R X b T)(o:Order):On R X b (T.get o):=by
 unfold AE.get
 split
 ·split
  ·exact h.box K _
  ·exact(h.box K _).KW K _ _
 ·exact h.KW K _ _
theorem On.Cu (h:On R X b T)(v to i:Int):On R X b (T.Cu v to i):=by
 unfold AE.Cu
 split
 ·exact h.tell K (.word (by simp))
 ·split
  ·exact(h.place K _ _ _).dK K _ (.inr (.inl rfl))
  ·split
   ·refine(h.place K i 1 to).BO K ?_
    rw [← OF T i i 1 to]
    exact .cb
   ·split
    ·exact h.tell K (.word (by simp))
    ·refine(h.place K i 2 to).BO K ?_
     rw [← OF T i i 2 to,← OF T i to 2 to]
     exact .Wz
theorem On.Ek {v to:Int}(l:List Int):∀ {T':AE},On R X b T'→On R X b (T'.Ek v to l):=by
 induction l with
 | nil=>exact fun h=>h
 | cons i r ih=>exact fun h=>ih (h.Cu K v to i)
theorem On.FD (h:On R X b T)(o:Order):On R X b (T.FD o):=by
 have ht:On R X b (T.Cv o).1:=by
  unfold Cv
  split
  ·exact h.box K _
  ·split
   ·exact h.A6 K _
   ·exact h
 unfold AE.FD
 split
 ·exact ht
 ·unfold Rx
  refine On.Ek K _ ?_
  split
  ·exact ht.tell K (.word (by simp))
  ·exact ht
theorem On.E6 (h:On R X b T)(o:Order):On R X b (T.E6 o):=by
 unfold AE.E6
 generalize (if (!decide (o.nth=1) || o.Bj)=true then [] else o.name)=nm
 have hs:=h.A6 K nm
 split
 ·exact hs
 ·refine On.tell K ?_ (.word (by simp))
  split
  ·exact(hs.Ck K _ _).Ck K _ _
  ·exact hs.Ck K _ _
theorem On.before (h:On R X b T)(first:Bool)(i:Int)(v:Bool){k:Int}(hk:k=3∨k=4∨(8≤k∧k≤13)):On R X b (T.before first i v k):=by
 unfold AE.before
 split
 ·exact(On.DA K h (i:=i) (t:={ T.w.AO.at i with on:=v }) rfl rfl).dK K _ hk
 ·exact(h.dK K i hk).DA K rfl rfl
theorem On.Gy (h:On R X b T)(d:Int)(on:Bool){k:Int}(hk:k=8∨k=9):On R X b (T.Gy d on k):=by
 unfold AE.Gy
 split
 ·exact h.tell K (.word (by simp))
 ·split
  ·exact h.tell K (.word (by simp))
  ·refine On.BO K ?_ (.Gy hk)
   split
   ·exact(h.C9 K _ _ _).C9 K _ _ _
   ·exact h.C9 K _ _ _
theorem On.set (h:On R X b T){o:Order}(h0:12≤o.verb)(h1:o.verb≤17):On R X b (T.set o):=by
 unfold AE.set
 split
 ·rename_i c
  rw [Bool.and_eq_true] at c
  have h3:=of_decide_eq_true c.2
  have:o.verb=12∨o.verb=13:=by
   unfold setKind at h3
   split at h3
   ·omega
   ·split at h3
    ·omega
    ·rename_i c1 c2
     simp only [Bool.or_eq_true,decide_eq_true_eq,not_or] at c1 c2
     omega
  exact h.Gy K _ _ (by unfold PO;omega)
 ·split
  ·exact h.tell K (.word (by simp))
  ·split
   ·exact h.tell K (.word (by simp))
   ·split
    ·exact h.before K _ _ _ (by unfold PO;omega)
    ·exact h.before K _ _ _ (by unfold PO;omega)
theorem On.Cd (l:List Int):∀ {T':AE},On R X b T'→On R X b (T'.Cd l):=by
 induction l with
 | nil=>exact fun h=>h
 | cons i r ih=>exact fun {T'} h=>ih (On.DA K h (i:=i) rfl rfl)
theorem On.DU (h:On R X b T):∀ k:Nat,On R X b (T.DU k)
 | 0=>h
 | k+1=>by
  unfold AE.DU
  split
  ·exact(On.DU h k).Ck K _ _
  ·exact On.DU h k
theorem On.FB (h:On R X b T):On R X b T.FB:=by
 rw [Lx]
 exact((On.Cd K _ h).DU K 6).Ck K _ _
theorem On.GH (h:On R X b T)(hq:q):On R X b T.GH:=by
 have h18:On R X b (T.kind 18):=⟨h.b,by show R X (T.BO (F0 18)).out _;rw [OP,h.b];exact K.trans h.r (K.GH hq)⟩
 have hf:=On.FB K h18
 have hb:=T.Ob
 refine⟨hb.1.trans h.b,?_⟩
 rw [hb.2.1,hb.2.2]
 have h2:=hf.r
 rw [(Qa (T.kind 18)).2] at h2
 have:=K.gone h2 ⟨ev T.w T.b (F0 18),by show _∈T.out ++ [_];exact List.mem_append_right _ (List.mem_cons_self ..), .inl (Fv ..).1,(Fv ..).2.trans h.b⟩
 rw [← h.b] at this
 exact this
theorem On.act (h:On R X b T){o:Order}(hx:o.text=x)(hq:o.verb=20→q)(h0:0≤o.verb)(h20:o.verb≤20):On R X b (T.act o):=by
 unfold AE.act
 split
 ·exact h.walk K _
 ·split
  ·exact h.look K
  ·split
   ·exact h.list K (by simp) _
   ·split
    ·refine h.BO K ?_;rw [hx];exact .said
    ·split
     ·rename_i c;exact h.GH K (hq (of_decide_eq_true c))
     ·split
      ·exact h.E6 K _
      ·split
       ·exact h.get K _
       ·split
        ·exact h.FD K _
        ·rename_i c1 c2 c3 c4 c5 c6 c7 c8
         simp only [Bool.or_eq_true,decide_eq_true_eq,not_or] at c1 c2 c3 c4 c5 c6 c7 c8
         exact h.set K (by omega) (by omega)
theorem Jz {o:Order}(hx:o.text=x)(hq:o.verb=20→q):R X (EC X b o).2.1 (EC X b o).1:=by
 unfold EC
 split
 ·exact K.refl X
 ·split
  ·exact K.refl X
  ·split
   ·exact K.refl X
   ·rename_i c
    simp only [Bool.or_eq_true,decide_eq_true_eq,not_or] at c
    exact((On.start K X).act K hx hq (by omega) (by omega)).r
end
end AE
end Go.Ing
/- What every round of fights keeps, and every coming in: a principle. -/
namespace Go.Ing
open Go
namespace AE
structure YC (R:AH→List Event→AH→Prop):Prop where
 all:∀ b,0≤b→b < 6→Rel [] False b R
 cA:∀ {w:AH} {k h:Int},R w [] (w.Cw k { w.AL.at k with BH:=h })
 dX:∀ {X l w} {b:Int},2≤b→R X l w→(∃ e∈l,e.kind=15∧e.CU=b)→R X l (w.Cw b { w.AL.at b with room:=0,BH:=10 })
section
variable {R:AH→List Event→AH→Prop} (K:YC R)
include K
theorem UM {X:AH}:R X [] X:=(K.all 0 (Int.le_refl _) (by decide)).refl X
theorem rel_trans {X Y Z:AH}{l m:List Event}(h:R X l Y)(k:R Y m Z):R X (l++m) Z:=(K.all 0 (Int.le_refl _) (by decide)).trans h k
theorem TF {w:AH}{b B1 n:Int}(b0:0≤b)(b6:b < 6)(h1:1≤n)(h3:n≤3):R w (CC w b B1 n).out (CC w b B1 n).w:=by
 have a:=(On.start (K.all b b0 b6) w).BO (K.all b b0 b6) (e:={ F0 14 with other:=B1,n:=n }) (.CC h1 h3)
 have:=rel_trans K a.r (K.cA (k:=B1) (h:=max 0 ((w.AL.at B1).BH - n)))
 rw [List.append_nil] at this
 exact this
theorem YV {w:AH}{b:Int}(b0:0≤b)(b6:b < 6):R w (Hw w b).out (Hw w b).w:=by
 have KB:=K.all b b0 b6
 have h0:On R w b (FM w b):=⟨rfl,K.cA⟩
 have h1:=On.FB KB (h0.kind KB (k:=15) (.inl rfl))
 have e1:((FM w b).kind 15).FB=F1 w b:=rfl
 have hm:∃ e∈(F1 w b).out,e.kind=15∧e.CU=b:=by
  rw [(J3 w b).2]
  exact⟨ev (FM w b).w b (F0 15),List.mem_append_right _ (List.mem_cons_self ..),(Fv ..).1,(Fv ..).2⟩
 rw [e1] at h1
 clear e1
 unfold Hw
 split
 ·rename_i c
  have c2:=of_decide_eq_true c
  rw [(DD _ _ _).2.1,(DD _ _ _).2.2]
  obtain⟨e,he,hk,ha⟩:=hm
  exact KB.gone h1.r ⟨e,he, .inr ⟨hk,c2⟩,ha⟩
 ·rename_i c
  have h2:On R w b (I3 w b):=by
   obtain⟨d1,d2,d3⟩:=Qy w b
   refine⟨d1,?_⟩
   rw [d3,d2,← (J3 w b).2]
   have hb2:2≤b:=Int.not_lt.1 fun e=>c (decide_eq_true e)
   exact K.dX (b:=b) hb2 h1.r hm
  exact((h2.kind KB (k:=17) (.inr rfl)).look KB).r
theorem TM {X:AH}{s:AH × List Event}{draw b:Int}(b0:0≤b)(b6:b < 6)(hg:s.1.Bh=true)(h:R X s.2 s.1):R X (EG draw b s).2 (EG draw b s).1:=by
 have hh:=MC (draw:=draw) b0
 have kb:=(HI hg b0 b6).B1
 unfold EG
 split
 ·exact h
 ·rename_i c0
  simp only [Bool.or_eq_true,Bool.not_eq_true',decide_eq_true_eq,not_or,Bool.not_eq_false] at c0
  split
  ·have:=rel_trans K h ((K.all b b0 b6).B1 (k:=b) (f:=0))
   rw [List.append_nil] at this
   exact this
  ·have hk:=TF K (w:=s.1) (b:=b) (B1:=(s.1.AL.at b).B1 - 1) b0 b6 hh.1 hh.2
   split
   ·exact rel_trans K (rel_trans K h hk) (YV K (by omega) (by omega))
   ·exact rel_trans K h hk
theorem Kq {X:AH}{draw:Int}(hg:X.Bh=true)(hw:X.DL):∀ k:Nat,k≤6→R X (DW X draw k).2 (DW X draw k).1∧(DW X draw k).1.Bh=true∧(DW X draw k).1.DL
 | 0,_=>⟨UM K,hg,hw⟩
 | k+1,hk=>by
  obtain⟨a,b,c⟩:=Kq hg hw k (by omega)
  have:=FZ (draw:=draw) (b:=k) b c (by omega) (by omega)
  exact⟨TM K (by omega) (by omega) b a,this.1,this.2.1⟩
theorem KJ {X:AH}{draw:Int}(hw:X.DL):R X (CW X draw).2.1 (CW X draw).1:=by
 unfold CW
 split
 ·exact UM K
 ·rename_i c
  have h:=(Kq K (draw:=draw) (show X.Bh=true by simpa using c) hw 6 (Nat.le_refl 6)).1
  generalize DW X draw 6=r at *
  exact h
theorem Sm {X:AH}{s:Ap}{b:Int}(b0:0≤b)(b6:b < 6):R (X.Cw b (Hx s)) (GC X s b).out (GC X s b).w:=by
 have KB:=K.all b b0 b6
 have h:On R (X.Cw b (Hx s)) b ((⟨X.Cw b (Hx s),b,[]⟩:AE).kind 17):=(On.start KB (X.Cw b (Hx s))).kind KB (k:=17) (.inr rfl)
 exact(h.look KB).r
omit K in
theorem Mq (X:AH)(s:Ap):((BR X s).2.2.2≠0∧(BR X s).1=X∧(BR X s).2.2.1 = [])∨(BR X s=((GC X s (CH X 6)).w,CH X 6,(GC X s (CH X 6)).out,0)∧2≤CH X 6∧CH X 6≤5∧FJ s=true∧X.Bh=true∧∀ k,0≤k→k < 6→IU X s k=false):=by
 have bad:∀ z:Int,z≠0→BR X s=(X,0,[],z)→(BR X s).2.2.2≠0∧(BR X s).1=X∧(BR X s).2.2.1 = []:=fun z hz e=>by rw [e];exact⟨hz,rfl,rfl⟩
 cases c1:X.Bh with
 | false=>exact .inl (bad 2 (by decide) (if_pos (by rw [c1];rfl)))
 | true=>
  have e1:BR X s=if (!FJ s)=true then(X,0,[],1) else if (!B8 6 (fun k=>!IU X s k) 6)=true then(X,0,[],1) else if decide (CH X 6 < 0)=true then(X,0,[],4) else((GC X s (CH X 6)).w,CH X 6,(GC X s (CH X 6)).out,0):=if_neg (by rw [c1];decide)
  cases c2:FJ s with
  | false=>exact .inl (bad 1 (by decide) (e1.trans (if_pos (by rw [c2];rfl))))
  | true=>
   have e2:=e1.trans (if_neg (by rw [c2];decide))
   cases c3:B8 6 (fun k=>!IU X s k) 6 with
   | false=>exact .inl (bad 1 (by decide) (e2.trans (if_pos (by rw [c3];rfl))))
   | true=>
    have e3:=e2.trans (if_neg (by rw [c3];decide))
    cases c4:decide (CH X 6 < 0) with
    | true=>exact .inl (bad 4 (by decide) (e3.trans (if_pos c4)))
    | false=>
     have e4:=e3.trans (if_neg (by rw [c4];decide))
     have hf:2≤CH X 6∧CH X 6≤5:=by
      rcases MM X 6 (Nat.le_refl 6) with e | e
      ·exact absurd (show CH X 6 < 0 by omega) (of_decide_eq_false c4)
      ·exact e
     refine .inr ⟨e4,hf.1,hf.2,rfl,rfl,fun k k0 k6=>?_⟩
     have:=(De 6).1 c3 k (by omega) k6
     simpa using this
end
end AE
end Go.Ing
/- What happens within an act of a house, in small steps. -/
namespace Go.Ing
open Go
namespace Aw
def CT (s:Aw)(e:Event):Aw:=if (AH.tell e s.Ay).2=true then s.tell (AH.tell e s.Ay).1 else s
def En (s:Aw)(es:List Event):Aw:=if s.state=2 then es.foldl CT s else s
end Aw
theorem lt_next {j:Int}{k:Nat}(c:¬ j=(k:Int)):(j < ((k+1:Nat):Int))=(j < (k:Int)):=propext ⟨fun _=>by omega,fun _=>by omega⟩
namespace AI
theorem Kh (e:Event)(H:AI):∀ k:Nat,k≤4→∀ j:Int,0≤j→j < 4→(CT e H k).at_ j=if j < k∧(H.at_ j).state=2 then(H.at_ j).CT e else H.at_ j
 | 0,_,j,h0,_=>by rw [if_neg (by omega)];rfl
 | k+1,hk,j,h0,h1=>by
  have ih:=Kh e H k (by omega) j h0 h1
  have ihk:=LB e H k (by omega) k (Int.le_refl _) (by omega)
  by_cases c:j=(k:Int)
  ·subst c
   unfold CT
   rw [ihk]
   split
   ·rename_i c1
    rw [if_neg (by simp at c1;exact fun h=>c1 h.2)];exact ihk
   ·rename_i c1
    have hr:(if (k:Int) < ((k+1:Nat):Int)∧(H.at_ k).state=2 then(H.at_ k).CT e else H.at_ k)=if (AH.tell e (H.at_ k).Ay).2=true then(H.at_ k).tell (AH.tell e (H.at_ k).Ay).1 else H.at_ k:=if_pos ⟨by omega,by simpa using c1⟩
    rw [hr]
    by_cases c2:(AH.tell e (H.at_ k).Ay).2=true
    ·rw [if_pos c2,if_pos c2]
     unfold AI.tell
     rw [AI.Cm _ (by omega) (by omega) h0,if_pos rfl,ihk]
    ·rw [if_neg c2,if_neg c2];exact ihk
  ·have e2:(CT e H (k+1)).at_ j=(CT e H k).at_ j:=by
    rw [CT.eq_2]
    split
    ·rfl
    ·split
     ·exact UQ (by omega) (by omega) h0 c _
     ·rfl
   rw [e2,ih];simp only [lt_next c]
theorem OV (e:Event)(H:AI):∀ k:Nat,(CT e H k).w=H.w∧(CT e H k).last=H.last∧(CT e H k).B7=H.B7
 | 0=>⟨rfl,rfl,rfl⟩
 | k+1=>by
  have ih:=OV e H k
  rw [CT.eq_2]
  split
  ·exact ih
  ·split
   ·exact ih
   ·exact ih
theorem Up (s:Aw)(e:Event):(s.CT e).state=s.state∧(s.CT e).Ay=s.Ay:=by
 unfold Aw.CT
 split
 ·exact⟨(Ez _ _).1,(Ez _ _).2.1⟩
 ·exact⟨rfl,rfl⟩
theorem Sr {j:Int}(j0:0≤j)(j1:j < 4):∀(es:List Event) (H:AI),(H.Hg es).at_ j=(H.at_ j).En es
 | [],H=>by show H.at_ j=_;unfold Aw.En;split<;>rfl
 | e :: r,H=>by
  have ih:=Sr j0 j1 r (CT e H 4)
  show((CT e H 4).Hg r).at_ j=_
  have h1:=Kh e H 4 (Nat.le_refl 4) j j0 j1
  rw [ih,h1]
  by_cases c:(H.at_ j).state=2
  ·rw [if_pos ⟨by omega,c⟩]
   unfold Aw.En
   rw [if_pos c,if_pos (by rw [(Up _ e).1];exact c)]
   rfl
  ·rw [if_neg (fun h=>c h.2)]
   unfold Aw.En
   rw [if_neg c,if_neg c]
theorem OY:∀(es:List Event) (H:AI),(H.Hg es).w=H.w∧(H.Hg es).last=H.last∧(H.Hg es).B7=H.B7
 | [],H=>⟨rfl,rfl,rfl⟩
 | e :: r,H=>by
  have ih:=OY r (CT e H 4)
  have h1:=OV e H 4
  exact⟨ih.1.trans h1.1,ih.2.1.trans h1.2.1,ih.2.2.trans h1.2.2⟩
theorem U0 (H:AI)(es:List Event){j:Int}(j0:0≤j)(j1:j < 4):(H.Gx es).at_ j=(H.at_ j).En es:=Sr j0 j1 es _
theorem WB (H:AI)(es:List Event):(H.Gx es).w=H.w∧(H.Gx es).last=H.last++es∧(H.Gx es).B7=H.B7:=OY es _
def Wu:List Ap:= [Hq,Oi,ab,Qe,noRoom]
inductive DH (U:Ap→Prop)(H:AI):Int→AH→Aw→List Event→Prop
 | left {k:Int}:(H.at_ k).state=2→(H.w.AL.at (H.at_ k).Ay).here=true→DH U H k (AE.EC H.w (H.at_ k).Ay EA).1 default (AE.EC H.w (H.at_ k).Ay EA).2.1
 | MB {k:Int} {u:Ap}:(H.at_ k).state=1→(AE.BR H.w u).2.2.2=0→DH U H k (AE.BR H.w u).1 { H.at_ k with state:=2,Ay:=(AE.BR H.w u).2.1 } (AE.BR H.w u).2.2.1
 | aR {k:Int} {q:Ap}:U q→(H.at_ k).state≠0→(H.at_ k).state≠1→(Words.parse q).1.verb≠20→DH U H k (AE.EC H.w (H.at_ k).Ay (Words.parse q).1).1 (H.at_ k) (AE.EC H.w (H.at_ k).Ay (Words.parse q).1).2.1
 | round {d:Int}:DH U H 0 (AE.CW H.w d).1 (H.at_ 0) (AE.CW H.w d).2.1
def Hb (H:AI)(k:Int)(w:AH)(s:Aw)(es:List Event):AI:=({ H with w:=w }.set k s).Gx es
inductive Step (U:Ap→Prop)(H:AI):AI→Prop
 | told {k:Int} {u:Ap}:0≤k→k < 4→(H.at_ k).state≠0→u∈Wu→Step U H (H.tell k u)
 | BZ {k:Int}:0≤k→k < 4→(H.at_ k).state≠0→Step U H (H.set k (H.at_ k).BZ)
 | goes {k:Int} {w:AH} {s:Aw} {es:List Event}:0≤k→k < 4→DH U H k w s es→Step U H (H.Hb k w s es)
 | free {k:Int}:0≤k→k < 4→¬ ((H.at_ k).state=2∧(H.w.AL.at (H.at_ k).Ay).here=true)→Step U H (H.set k default)
inductive Steps (U:Ap→Prop)(H:AI):AI→Prop
 | refl:Steps U H H
 | tail {X Y:AI}:Steps U H X→Step U X Y→Steps U H Y
section
variable {U:Ap→Prop} {H X Y:AI}
theorem Step.one (h:Step U H X):Steps U H X:= .tail .refl h
theorem Steps.trans (h:Steps U H X)(k:Steps U X Y):Steps U H Y:=by
 induction k with
 | refl=>exact h
 | tail _ s ih=>exact ih.tail s
theorem Steps.JO {P:AI→Prop}(hs:∀ {H X:AI},P H→Step U H X→P X)(h:P H)(k:Steps U H X):P X:=by
 induction k with
 | refl=>exact h
 | tail _ s ih=>exact hs ih s
theorem GS (H:AI){k:Int}(h0:0≤k)(h1:k < 4)(w:AH)(s:Aw)(es:List Event){j:Int}(j0:0≤j)(j1:j < 4):(H.Hb k w s es).at_ j=(if j=k then s else H.at_ j).En es:=by
 unfold Hb
 rw [U0 _ _ j0 j1,Cm _ h0 h1 j0]
 rfl
theorem J8 (H:AI)(k:Int)(w:AH)(s:Aw)(es:List Event):(H.Hb k w s es).w=w∧(H.Hb k w s es).last=H.last++es∧(H.Hb k w s es).B7=H.B7:=WB _ es
theorem Nd (es:List Event):(default:Aw).En es=default:=if_neg (show ¬ (0:Int)=2 by decide)
theorem Gr (H:AI){k:Int}(h0:0≤k)(h1:k < 4):Steps U H (H.leave k):=by
 unfold AI.leave
 split
 ·rename_i c
  rw [Bool.and_eq_true,decide_eq_true_eq] at c
  have s:Step U H (H.Hb k (AE.EC H.w (H.at_ k).Ay EA).1 default (AE.EC H.w (H.at_ k).Ay EA).2.1):= .goes h0 h1 (.left c.1 c.2)
  have e:(((H.UJ k).set k default).Gx (AE.EC H.w (H.at_ k).Ay EA).2.1).set k default=H.Hb k (AE.EC H.w (H.at_ k).Ay EA).1 default (AE.EC H.w (H.at_ k).Ay EA).2.1:=by
   show(H.Hb k _ default _).set k default=_
   have:=GS H h0 h1 (AE.EC H.w (H.at_ k).Ay EA).1 default (AE.EC H.w (H.at_ k).Ay EA).2.1 h0 h1
   rw [if_pos rfl,Nd] at this
   have h2:=LV (H.Hb k (AE.EC H.w (H.at_ k).Ay EA).1 default (AE.EC H.w (H.at_ k).Ay EA).2.1) h0 h1
   rw [this] at h2
   exact h2
  rw [e]
  exact s.one
 ·rename_i c
  exact(Step.free h0 h1 (fun h=>c (by rw [Bool.and_eq_true,decide_eq_true_eq];exact h))).one
theorem Hy (H:AI):∀ k:Nat,k≤4→Steps U H (H.Ch k).1
 | 0,_=> .refl
 | k+1,hk=>by
  have ih:=Hy H k (by omega)
  unfold Ch
  split
  ·exact ih
  ·rename_i c
   have s:Step U (H.Ch k).1 ((H.Ch k).1.set k (((H.Ch k).1.at_ k).BZ)):= .BZ (by omega) (by omega) (by simpa using c)
   split
   ·exact(ih.tail s).trans (Gr _ (by omega) (by omega))
   ·exact ih.tail s
theorem Mx:∀(n:Nat) (H:AI),Steps U H (H.He n)
 | 0,_=> .refl
 | n+1,H=>by
  unfold He
  split
  ·exact Hy H 4 (Nat.le_refl 4)
  ·exact(Hy H 4 (Nat.le_refl 4)).trans (Mx n _)
theorem OS (H:AI):Steps U H H.BZ:=Mx 5 H
theorem Rq (H:AI){k:Int}(h0:0≤k)(h1:k < 4)(hs:(H.at_ k).state=1)(u:Ap):Steps U H (H.named k u):=by
 unfold AI.named
 split
 ·rename_i c
  exact(Step.goes h0 h1 (.MB hs (of_decide_eq_true c))).one
 ·have hn:(H.at_ k).state≠0:=by omega
  split
  ·exact(Step.told h0 h1 hn (by simp [Wu])).one
  ·exact(Step.told h0 h1 hn (by simp [Wu])).one
theorem Rk (H:AI){k:Int}(h0:0≤k)(h1:k < 4)(hs:(H.at_ k).state≠0)(h2:(H.at_ k).state≠1){u:Ap}(hu:U u):Steps U H (H.order k u):=by
 unfold AI.order
 split
 ·exact(Step.told h0 h1 hs (by simp [Wu])).one
 ·split
  ·exact Gr H h0 h1
  ·rename_i c
   have:=(Step.goes (H:=H) h0 h1 (.aR hu hs h2 (fun e=>c (decide_eq_true e)))).one
   unfold Hb at this
   rw [show({ H with w:=(AE.EC H.w (H.at_ k).Ay (Words.parse u).1).1 }:AI).set k (H.at_ k)={ H with w:=(AE.EC H.w (H.at_ k).Ay (Words.parse u).1).1 } from LV { H with w:=(AE.EC H.w (H.at_ k).Ay (Words.parse u).1).1 } h0 h1] at this
   exact this
theorem Jq (H:AI)(d:Int):Steps U H ({ H with w:=(AE.CW H.w d).1 }.Gx (AE.CW H.w d).2.1):=by
 have:=(Step.goes (U:=U) (H:=H) (Int.le_refl 0) (by decide) (.round (d:=d))).one
 unfold Hb at this
 rw [show({ H with w:=(AE.CW H.w d).1 }:AI).set 0 (H.at_ 0)={ H with w:=(AE.CW H.w d).1 } from LV { H with w:=(AE.CW H.w d).1 } (Int.le_refl 0) (by decide)] at this
 exact this
def next (H:AI)(k:Int)(r:List Ap):AI:=H.set k { H.at_ k with queue:=r }.FP
theorem Nq (H:AI){k:Int}(h0:0≤k)(h1:k < 4)(hU:∀ q∈(H.at_ k).queue,U q):(((H.at_ k).state=0∨(H.at_ k).queue = [])∧H.EN k=H)∨∃ q r,(H.at_ k).state≠0∧(H.at_ k).queue=q :: r∧Steps U (H.next k r) (H.EN k):=by
 unfold AI.EN
 split
 ·rename_i c;exact .inl ⟨.inl (of_decide_eq_true c),rfl⟩
 ·rename_i c
  have c':(H.at_ k).state≠0:=fun e=>c (decide_eq_true e)
  split
  ·rename_i e;exact .inl ⟨.inr e,rfl⟩
  ·rename_i q r e
   refine .inr ⟨q,r,c',e,?_⟩
   have ha:(H.next k r).at_ k={ H.at_ k with queue:=r }.FP:=by unfold next;rw [Cm _ h0 h1 h0,if_pos rfl]
   have hst:((H.next k r).at_ k).state=(H.at_ k).state:=by rw [ha];rfl
   show Steps U (H.next k r) (if (H.at_ k).pg.B9=true then H.next k r else if decide ((H.at_ k).state=1)=true then(H.next k r).named k (Words.P7 32 (Words.Sv 32 q)) else(H.next k r).order k q)
   split
   ·exact .refl
   ·split
    ·rename_i c2
     exact Rq _ h0 h1 (by rw [hst];exact of_decide_eq_true c2) _
    ·rename_i c2
     exact Rk _ h0 h1 (by rw [hst];exact c') (by rw [hst];exact fun e=>c2 (decide_eq_true e)) (hU q (by rw [e];exact List.mem_cons_self ..))
end
end AI
end Go.Ing
/- What a seat is behind every act: plain laws. -/
namespace Go.Ing
open Go
namespace Page
theorem P4 (ht:Int):∀(l:List Ap) (x:Pg),BZ ht (BZ ht l x).2 (BZ ht l x).1=BZ ht l x
 | [],x=>rfl
 | s :: r,x=>by
  by_cases c1:(x.B9 || x.cut)=true
  ·have e:BZ ht (s :: r) x=(x,s :: r):=by rw [BZ,if_pos c1]
   rw [e];exact e
  ·by_cases c2:(decide (0 < ht) && decide (ht≤x.shown))=true
   ·have e:BZ ht (s :: r) x=(put { x with B9:=true } U3,s :: r):=by rw [BZ,if_neg c1,if_pos c2]
    rw [e]
    have ha:(put { x with B9:=true } U3).B9=true:=by
     unfold put;split
     ·rfl
     ·split<;>rfl
    rw [BZ,if_pos (by rw [ha];rfl)]
   ·have e:BZ ht (s :: r) x=BZ ht r (put { x with shown:=min (x.shown+1) 200 } (escape s ++ [13,10])):=by rw [BZ,if_neg c1,if_neg c2]
    rw [e]
    exact P4 ht r _
theorem OO (ht:Int):∀(l:List Ap) (x:Pg),x.ring.length≤700→0≤x.shown→x.shown≤200→(BZ ht l x).1.ring.length≤700∧0≤(BZ ht l x).1.shown∧(BZ ht l x).1.shown≤200
 | [],x,h1,h2,h3=>⟨h1,h2,h3⟩
 | s :: r,x,h1,h2,h3=>by
  unfold BZ
  split
  ·exact⟨h1,h2,h3⟩
  ·split
   ·refine⟨Ln h1,?_,?_⟩<;>rw [HQ]
    ·exact h2
    ·exact h3
   ·refine OO ht r _ (Ln h1) ?_ ?_<;>rw [HQ]
    ·show 0≤min (x.shown+1) 200;omega
    ·show min (x.shown+1) 200≤200;omega
end Page
namespace Aw
structure Ok (s:Aw):Prop where
 st:0≤s.state∧s.state≤2
 n:s.wait.length≤60
 ring:s.pg.ring.length≤700
 s0:0≤s.pg.shown
 s1:s.pg.shown≤200
 ln:Bi.Ok ⟨s.now,s.C0,s.ret,s.queue,0⟩
theorem Ws (s:Aw):s.LM=true↔s.wait.length≤60∧s.pg.ring.length≤700∧0≤s.pg.shown∧s.pg.shown≤200:=by
 simp only [LM,Bool.and_eq_true,decide_eq_true_eq];omega
theorem aM (s:Aw):s.K8=true↔Bi.Ok ⟨s.now,s.C0,s.ret,s.queue,0⟩:=
 Bi.Hl (l:=⟨s.now,s.C0,s.ret,⟨none,s.queue.length,0⟩⟩) (qs:=s.queue) rfl
variable {s:Aw}
theorem Ok.LM (h:s.Ok):s.LM=true:=(Ws s).2 ⟨h.n,h.ring,h.s0,h.s1⟩
theorem Ok.K8 (h:s.Ok):s.K8=true:=(aM s).2 h.ln
theorem DN:(default:Aw).Ok:=⟨⟨Int.le_refl 0,by decide⟩,Nat.zero_le _,Nat.zero_le _,Int.le_refl 0,by decide,(⟨Bi.MS,(fun s hs=>by cases hs),Nat.zero_le _,(fun h=>by cases h)⟩:Bi.Ok ⟨[],false,false,[],0⟩)⟩
theorem Ok.line (h:s.Ok)(u:Ap):(s.line u).Ok:=by
 unfold Aw.line
 split
 ·exact h
 ·split
  ·exact h
  ·split
   ·exact⟨h.st,h.n,h.ring,h.s0,h.s1,h.ln⟩
   ·rename_i c
    refine⟨h.st,?_,h.ring,h.s0,h.s1,h.ln⟩
    have hn:=h.n
    have c':¬ (60:Int)≤s.wait.length:=fun e=>c (decide_eq_true e)
    show(s.wait ++ [u]).length≤60
    rw [List.length_append,List.length_singleton];omega
theorem Ok.tell (h:s.Ok)(u:Ap):(s.tell u).Ok:=by
 have:=h.line u
 unfold Aw.tell Aw.note
 split
 ·exact⟨this.st,this.n,this.ring,this.s0,this.s1,this.ln⟩
 ·exact this
theorem Ok.BZ (h:s.Ok):s.BZ.Ok:=by
 unfold Aw.BZ
 split
 ·exact h
 ·have hk:=Page.OO s.Dw.B3 s.wait s.pg h.ring h.s0 h.s1
  exact⟨h.st,Nat.le_trans (Page.ZE _ _ _) h.n,hk.1,hk.2.1,hk.2.2,h.ln⟩
theorem Ok.send (h:s.Ok)(u:Ap):(s.send u).Ok:=by
 unfold Aw.send
 split
 ·exact h
 ·split
  ·exact h
  ·exact⟨h.st,h.n,Page.Ln h.ring,by show 0≤(Page.put s.pg u).shown;rw [Page.HQ];exact h.s0,by show(Page.put s.pg u).shown≤200;rw [Page.HQ];exact h.s1,h.ln⟩
theorem Ok.Dw (h:s.Ok)(t:AP):({ s with Dw:=t }:Aw).Ok:=⟨h.st,h.n,h.ring,h.s0,h.s1,h.ln⟩
theorem Ok.offer (h:s.Ok)(opt:Int):(s.offer opt).Ok:=by
 unfold Aw.offer
 split
 ·exact(h.Dw _).send _
 ·exact(h.Dw _).send _
theorem Ok.G6 (h:s.Ok)(n:Int):(s.G6 n).Ok:=⟨h.st,h.n,by show(s.pg.ring.drop _).length≤700;rw [List.length_drop];have:=h.ring;omega,h.s0,h.s1,h.ln⟩
theorem Ok.next (h:s.Ok){q:Ap}{r:List Ap}(e:s.queue=q :: r):({ s with queue:=r }:Aw).FP.Ok:=
 ⟨h.st,h.n,h.ring,Int.le_refl 0,show(0:Int)≤200 by decide,⟨h.ln.now,fun x hx=>h.ln.queue x (by show x∈s.queue;rw [e];exact List.mem_cons_of_mem _ hx),by
  have:=h.ln.len
  have h2:s.queue.length≤6:=this
  rw [e,List.length_cons] at h2
  show r.length≤6;omega,h.ln.ret⟩⟩
theorem Ok.typed (h:s.Ok)(u:Ap):(C7 s u).1.Ok:=by
 have h1:(s.bytes u).1.Ok:=(h.Dw _).send _
 unfold C7 Aw.typed
 split
 ·exact h1
 ·have ho:=Bi.U5 (s.bytes u).2 h1.ln
  exact⟨h1.st,h1.n,h1.ring,h1.s0,h1.s1,⟨ho.now,ho.queue,ho.len,ho.ret⟩⟩
theorem Ok.MB (h:s.Ok)(b:Int):({ s with state:=2,Ay:=b }:Aw).Ok:=⟨⟨show(0:Int)≤2 by decide,show(2:Int)≤2 by decide⟩,h.n,h.ring,h.s0,h.s1,h.ln⟩
theorem Ok.CT (h:s.Ok)(e:Event):(s.CT e).Ok:=by
 unfold Aw.CT;split
 ·exact h.tell _
 ·exact h
theorem Uo:∀(es:List Event) {s:Aw},s.Ok→(es.foldl Aw.CT s).Ok
 | [],_,h=>h
 | e :: r,_,h=>Uo r (h.CT e)
theorem Ok.En (h:s.Ok)(es:List Event):(s.En es).Ok:=by
 unfold Aw.En
 split
 ·exact Uo es h
 ·exact h
theorem Ok.heard (h:s.Ok):({ s with told:= [] }:Aw).Ok:=⟨h.st,h.n,h.ring,h.s0,h.s1,h.ln⟩
theorem El (s:Aw)(es:List Event):(s.En es).state=s.state∧(s.En es).Ay=s.Ay:=by
 unfold Aw.En
 split
 ·induction es generalizing s with
  | nil=>exact⟨rfl,rfl⟩
  | cons e r ih=>
   rename_i c
   have h1:=AI.Up s e
   have:=ih (s.CT e) (by rw [h1.1];exact c)
   exact⟨this.1.trans h1.1,this.2.trans h1.2⟩
 ·exact⟨rfl,rfl⟩
structure Still (s:Aw):Prop where
 fl:s.BZ=s
 cut:s.pg.cut=false
theorem Pv (s:Aw)(h:s.wait.length≤60∧s.pg.ring.length≤700∧0≤s.pg.shown∧s.pg.shown≤200)(c:(decide (s.Dw.B3 < 0) || decide (200 < s.Dw.B3))=false):s.BZ={ s with pg:=(Page.BZ s.Dw.B3 s.wait s.pg).1,wait:=(Page.BZ s.Dw.B3 s.wait s.pg).2 }:=by
 unfold Aw.BZ
 rw [if_neg]
 rw [(Ws s).2 h]
 simpa using c
theorem Lp (s:Aw)(c:(decide (s.Dw.B3 < 0) || decide (200 < s.Dw.B3))=true):s.BZ=s:=by
 unfold Aw.BZ
 rw [if_pos]
 rw [Bool.or_assoc,c,Bool.or_true]
theorem Ok.idem (h:s.Ok):s.BZ.BZ=s.BZ:=by
 cases c:(decide (s.Dw.B3 < 0) || decide (200 < s.Dw.B3)) with
 | true=>rw [Lp s c,Lp s c]
 | false=>
  have e:=Pv s ⟨h.n,h.ring,h.s0,h.s1⟩ c
  have hk:=h.BZ
  rw [e] at hk ⊢
  rw [Pv _ ⟨hk.n,hk.ring,hk.s0,hk.s1⟩ c]
  have:=Page.P4 s.Dw.B3 s.wait s.pg
  dsimp only
  rw [this]
end Aw
namespace AI
def HT (H:AI):Prop:=∀ k,0≤k→k < 4→(H.at_ k).Ok
section
variable {U:Ap→Prop} {H X:AI}
theorem HT.set (h:H.HT){k:Int}(h0:0≤k)(h1:k < 4){s:Aw}(hs:s.Ok):(H.set k s).HT:=fun j j0 j1=>by
 rw [Cm _ h0 h1 j0];split
 ·exact hs
 ·exact h j j0 j1
theorem HT.step (h:H.HT)(s:Step U H X):X.HT:=by
 cases s with
 | told h0 h1 _ _=>exact h.set h0 h1 ((h _ h0 h1).tell _)
 | BZ h0 h1 _=>exact h.set h0 h1 (h _ h0 h1).BZ
 | free h0 h1 _=>exact h.set h0 h1 Aw.DN
 | goes h0 h1 g=>
  intro j j0 j1
  rw [GS H h0 h1 _ _ _ j0 j1]
  refine Aw.Ok.En ?_ _
  split
  ·cases g with
   | left _ _=>exact Aw.DN
   | MB _ _=>exact(h _ h0 h1).MB _
   | aR _ _ _ _=>exact h _ h0 h1
   | round=>exact h _ (Int.le_refl 0) (by decide)
  ·exact h j j0 j1
theorem HT.steps (h:H.HT)(s:Steps U H X):X.HT:=Steps.JO (P:=HT) (fun h s=>h.step s) h s
/-! #### nobody is cut off behind all that flows -/
def busy (H:AI)(k:Int):Nat:=if (H.at_ k).state=0 then 0 else 1
def Nl (H:AI):Nat:=H.busy 0+H.busy 1+H.busy 2+H.busy 3
theorem Y1 {H X:AI}(h:∀ j,0≤j→j < 4→(H.at_ j).state=0→(X.at_ j).state=0):X.Nl≤H.Nl∧∀ k,0≤k→k < 4→(H.at_ k).state≠0→(X.at_ k).state=0→X.Nl < H.Nl:=by
 have hb:∀ j,0≤j→j < 4→X.busy j≤H.busy j∧H.busy j≤1∧((H.at_ j).state≠0→(X.at_ j).state=0→X.busy j < H.busy j):=fun j j0 j1=>by
  have:=h j j0 j1
  unfold busy
  refine⟨?_,?_,?_⟩
  ·split
   ·exact Nat.zero_le _
   ·rename_i c
    rw [if_neg (fun e=>c (this e))];exact Nat.le_refl _
  ·split<;>omega
  ·intro a b
   rw [if_pos b,if_neg a];decide
 have b0:=hb 0 (by decide) (by decide);have b1:=hb 1 (by decide) (by decide);have b2:=hb 2 (by decide) (by decide);have b3:=hb 3 (by decide) (by decide)
 unfold Nl
 refine⟨by omega,fun k k0 k1 a b=>?_⟩
 rcases four k0 k1 with e | e | e | e<;>subst e
 ·have:=b0.2.2 a b;omega
 ·have:=b1.2.2 a b;omega
 ·have:=b2.2.2 a b;omega
 ·have:=b3.2.2 a b;omega
theorem Rt (H:AI){k:Int}(h0:0≤k)(h1:k < 4){j:Int}(j0:0≤j)(j1:j < 4):(H.leave k).at_ j=if j=k then default else(H.at_ j).En (if decide ((H.at_ k).state=2) && (H.w.AL.at (H.at_ k).Ay).here then(AE.EC H.w (H.at_ k).Ay EA).2.1 else []):=by
 unfold AI.leave
 rw [Cm _ h0 h1 j0]
 split
 ·rfl
 ·rename_i c
  split
  ·rw [U0 _ _ j0 j1,Cm _ h0 h1 j0,if_neg c]
   rfl
  ·unfold Aw.En;split<;>rfl
theorem Kp (H:AI):∀ k:Nat,k≤4→∀ j,0≤j→j < 4→(H.at_ j).state=0→((H.Ch k).1.at_ j).state=0
 | 0,_,_,_,_,h=>h
 | k+1,hk,j,j0,j1,h=>by
  have ih:=Kp H k (by omega) j j0 j1 h
  have hf:(((H.Ch k).1.set k (((H.Ch k).1.at_ k).BZ)).at_ j).state=0:=by
   rw [Cm _ (by omega) (by omega) j0]
   split
   ·rename_i e;subst e;rw [(GK _).2.1];exact ih
   ·exact ih
  unfold Ch
  split
  ·exact ih
  ·split
   ·show(AI.at_ (AI.leave _ _) j).state=0
    rw [Rt _ (by omega) (by omega) j0 j1]
    split
    ·rfl
    ·rw [(Aw.El _ _).1];exact hf
   ·exact hf
theorem P8 (H:AI):∀ k:Nat,k≤4→(H.Ch k).2=true→∃ j,0≤j∧j < 4∧(H.at_ j).state≠0∧((H.Ch k).1.at_ j).state=0
 | 0,_,h=>by cases h
 | k+1,hk,h=>by
  have ih:=P8 H k (by omega)
  have hn:(((H.Ch k).1.at_ k).state≠0)→(H.at_ k).state≠0:=fun c e=>c (Kp H k (by omega) k (by omega) (by omega) e)
  unfold Ch at h ⊢
  split at h
  ·rename_i c
   rw [if_pos c];exact ih h
  ·rename_i c
   have c':((H.Ch k).1.at_ k).state≠0:=by simpa using c
   rw [if_neg c]
   split at h
   ·rename_i c2
    rw [if_pos c2]
    refine⟨k,by omega,by omega,hn c',?_⟩
    show(AI.at_ (AI.leave _ _) k).state=0
    rw [Rt _ (by omega) (by omega) (by omega) (by omega),if_pos rfl];rfl
   ·rename_i c2
    rw [if_neg c2]
    obtain⟨j,j0,j1,a,b⟩:=ih h
    refine⟨j,j0,j1,a,?_⟩
    show(AI.at_ (AI.set _ _ _) j).state=0
    rw [Cm _ (by omega) (by omega) j0]
    split
    ·rename_i e;subst e;exact absurd b c'
    ·exact b
theorem PI (H:AI):∀ k:Nat,k≤4→(H.Ch k).2=false→(H.Ch k).1.w=H.w∧(H.Ch k).1.last=H.last∧(H.Ch k).1.B7=H.B7∧∀ j,0≤j→j < 4→(H.Ch k).1.at_ j=(if j < k∧(H.at_ j).state≠0 then(H.at_ j).BZ else H.at_ j)∧(j < k→(H.at_ j).state≠0→(H.at_ j).BZ.pg.cut=false)
 | 0,_,_=>⟨rfl,rfl,rfl,fun j j0 _=>⟨by rw [if_neg (by omega)];rfl,fun h=>by omega⟩⟩
 | k+1,hk,h=>by
  have ih:=PI H k (by omega)
  unfold Ch at h ⊢
  split at h
  ·rename_i c
   rw [if_pos c]
   obtain⟨a1,a2,a3,a4⟩:=ih h
   have hk0:=(a4 k (by omega) (by omega)).1
   rw [if_neg (by omega)] at hk0
   rw [hk0] at c
   have c':(H.at_ k).state=0:=of_decide_eq_true c
   refine⟨a1,a2,a3,fun j j0 j1=>⟨?_,fun hj hs=>?_⟩⟩
   ·rw [(a4 j j0 j1).1]
    by_cases e:j=(k:Int)
    ·subst e;rw [if_neg (fun h=>h.2 c'),if_neg (fun h=>h.2 c')]
    ·simp only [lt_next e]
   ·by_cases e:j=(k:Int)
    ·subst e;exact absurd c' hs
    ·exact(a4 j j0 j1).2 (by omega) hs
  ·rename_i c
   split at h
   ·cases h
   ·rename_i c2
    rw [if_neg c,if_neg c2]
    obtain⟨a1,a2,a3,a4⟩:=ih h
    have hk0:=(a4 k (by omega) (by omega)).1
    rw [if_neg (by omega)] at hk0
    rw [hk0] at c c2
    have c':(H.at_ k).state≠0:=by simpa using c
    refine⟨a1,a2,a3,fun j j0 j1=>⟨?_,fun hj hs=>?_⟩⟩
    ·show(AI.at_ (AI.set _ _ _) j)=_
     rw [Cm _ (by omega) (by omega) j0]
     by_cases e:j=(k:Int)
     ·subst e;rw [if_pos rfl,if_pos ⟨by omega,c'⟩,hk0]
     ·rw [if_neg e,(a4 j j0 j1).1];simp only [lt_next e]
    ·by_cases e:j=(k:Int)
     ·subst e;simpa using c2
     ·exact(a4 j j0 j1).2 (by omega) hs
theorem My:∀(n:Nat) (H:AI),H.HT→H.Nl < n→∀ j,0≤j→j < 4→((H.He n).at_ j).state≠0→((H.He n).at_ j).Still
 | 0,_,_,h,_,_,_,_=>absurd h (Nat.not_lt_zero _)
 | n+1,H,hk,hb,j,j0,j1,hs=>by
  unfold He at hs ⊢
  split at hs
  ·rename_i c
   rw [if_pos c]
   obtain⟨_,_,_,a⟩:=PI H 4 (Nat.le_refl 4) (by simpa using c)
   have a:=a j j0 j1
   by_cases e:(H.at_ j).state=0
   ·rw [a.1,if_neg (fun h=>h.2 e)] at hs;exact absurd e hs
   ·rw [a.1,if_pos ⟨by omega,e⟩]
    exact⟨(hk j j0 j1).idem,a.2 (by omega) e⟩
  ·rename_i c
   rw [if_neg c]
   obtain⟨i,i0,i1,a,b⟩:=P8 H 4 (Nat.le_refl 4) (by simpa using c)
   have hl:=(Y1 (Kp H 4 (Nat.le_refl 4))).2 i i0 i1 a b
   exact My n _ (hk.steps (U:=fun _=>True) (Hy H 4 (Nat.le_refl 4))) (by omega) j j0 j1 hs
theorem TK (h:H.HT){j:Int}(j0:0≤j)(j1:j < 4)(hs:(H.BZ.at_ j).state≠0):(H.BZ.at_ j).Still:=
 My 5 H h (by
  have hb:∀ j,H.busy j≤1:=fun j=>by unfold busy;split<;>omega
  have:=hb 0;have:=hb 1;have:=hb 2;have:=hb 3
  unfold Nl;omega) j j0 j1 hs
end
end AI
end Go.Ing
/- Acts that are played: plain laws. -/
namespace Go.Ing
open Go
namespace AP
def G5 (t:AP):Nat:=if t.at_=2 then 2 else if t.at_=1 then 1 else 0
theorem VG (t:AP)(b:UInt8):(t.step b).2.2.length+(t.step b).1.G5≤1+t.G5:=by
 unfold step;dsimp only
 split
 ·rename_i c;have c':=of_decide_eq_true c
  have hp:t.G5=0:=by unfold G5;rw [if_neg (by omega),if_neg (by omega)]
  split
  ·exact Nat.le_add_right 1 _
  ·show 0+t.G5≤1+t.G5;omega
 ·split
  ·rename_i c;have c':=of_decide_eq_true c
   have hp:t.G5=1:=by unfold G5;rw [if_neg (by omega),if_pos c']
   rw [hp]
   split
   ·exact Nat.zero_le _
   ·split
    ·exact Nat.zero_le _
    ·split
     ·exact Nat.le_refl 2
     ·exact Nat.zero_le _
  ·split
   ·rename_i c;have c':=of_decide_eq_true c
    have hp:t.G5=2:=by unfold G5;rw [if_pos c']
    rw [hp]
    exact IH _ _ _
   ·split
    ·rename_i c;have c':=of_decide_eq_true c
     split
     ·exact Nat.zero_le _
     ·show 0+(t.collect b).G5≤_
      have:(t.collect b).at_=t.at_:=by unfold collect;split<;>rfl
      unfold G5;rw [this];rw [if_neg (by omega),if_neg (by omega)];omega
    ·split
     ·rename_i c;have c':=of_decide_eq_true c
      split
      ·show 0+(collect { t with at_:=3 } b).G5≤_
       have:(collect { t with at_:=3 } b).at_=3:=by unfold collect;split<;>rfl
       unfold G5;rw [this];rw [if_neg (by decide),if_neg (by decide)];omega
      ·split
       ·show 0+G5 { t.measure with at_:=0,sub:= [] }≤_;exact Nat.zero_le _
       ·exact Nat.zero_le _
     ·show 0+t.G5≤_;omega
theorem MG:∀(s:Ap) (t:AP),(t.feed s).2.2.length≤s.length+t.G5
 | [],t=>Nat.zero_le _
 | b :: s,t=>by
  have h1:=VG t b
  have h2:=MG s (t.step b).1
  show((t.step b).2.2++((t.step b).1.feed s).2.2).length≤s.length+1+t.G5
  rw [List.length_append];omega
theorem UK (t:AP):t.G5≤2:=by unfold G5;split;exact Nat.le_refl 2;split<;>decide
theorem Jf.yb {X t:AP}{u x y:Ap}{k:Int}(h:Jf X u k t x y):y.length≤u.length+2:=by
 have h1:=MG u X
 have h2:=UK X
 rw [h.e3,List.length_append] at h1
 omega
theorem Vn (t:AP)(u:Ap):(t.Dg u).2.2.1.length≤u.length+2:=by
 unfold Dg
 split
 ·exact Nat.zero_le _
 ·have h1:=MG u t
  have h2:=UK t
  show(t.feed u).2.2.length≤_
  omega
end AP
namespace AI
section
variable {H:AI}
theorem HT.tell (h:H.HT){k:Int}(h0:0≤k)(h1:k < 4)(u:Ap):(H.tell k u).HT:=h.set h0 h1 ((h k h0 h1).tell u)
theorem HT.BZ (h:H.HT):H.BZ.HT:=h.steps (U:=fun _=>True) (OS H)
theorem HT.EN (h:H.HT){k:Int}(h0:0≤k)(h1:k < 4):(H.EN k).HT:=by
 rcases Nq (U:=fun _=>True) H h0 h1 (fun _ _=>trivial) with ⟨_,e⟩ | ⟨q,r,_,e,s⟩
 ·rw [e];exact h
 ·exact HT.steps (h.set h0 h1 ((h k h0 h1).next e)) s
theorem HT.turns (h:H.HT):∀ k:Nat,k≤4→(H.turns k).HT
 | 0,_=>h
 | k+1,hk=>(HT.turns h k (by omega)).EN (by omega) (by omega)
theorem HT.begun (h:H.HT):H.begun.HT:=fun k h0 h1=>by rw [Hh h0 h1];exact(h k h0 h1).heard
theorem HT.Dv (h:H.HT)(a:Bz):(H.Dv a).1.HT:=
 I2 (fun X=>X.HT) h (fun d=>((h.turns 4 (Nat.le_refl 4)).steps (U:=fun _=>True) (Jq _ d)).BZ)
  (fun k h0 h1=>((h.set h0 h1 (((show({ (default:Aw) with state:=1,Ay:=-1 }:Aw).Ok from⟨⟨show(0:Int)≤1 by decide,show(1:Int)≤2 by decide⟩,Aw.DN.n,Aw.DN.ring,Aw.DN.s0,Aw.DN.s1,Aw.DN.ln⟩).offer 3).offer 31)).tell h0 h1 Hq).BZ)
  (fun k u h0 h1=>by
   rw [Io]
   refine HT.BZ ?_
   have hs:=h.set h0 h1 ((h k h0 h1).typed u)
   split
   ·exact hs.tell h0 h1 Oi
   ·exact hs)
  (fun k z h0 h1=>(h.set h0 h1 ((h k h0 h1).G6 z)).BZ) (fun k h0 h1=>(h.steps (U:=fun _=>True) (Gr H h0 h1)).BZ) a
theorem HT.act (h:H.HT)(a:Bz):(H.act a).1.HT:=by
 unfold AI.act
 split
 ·exact h
 ·exact h.begun.Dv a
end
structure Live (H:AI):Prop where
 fit:H.Fit 1000 1000
 B7:0≤H.B7
 NY:H.HT
theorem Live.fits {H:AI}(h:H.Live):H.Fits:=⟨_,_,h.fit⟩
theorem UO:AI.new.HT:=fun k h0 h1=>by rw [Ma h0 h1];exact Aw.DN
theorem LZ:AI.new.Live:=⟨Yt.mono (by decide) (by decide),Int.le_refl 0,UO⟩
section
variable {H X:AI}
theorem Nk (e:Event)(H:AI):∀ k:Nat,(CT e H k).B7=H.B7
 | 0=>rfl
 | k+1=>by
  have ih:=Nk e H k
  rw [CT.eq_2]
  split
  ·exact ih
  ·split<;>exact ih
theorem Ny:∀(es:List Event) (H:AI),(H.Hg es).B7=H.B7
 | [],_=>rfl
 | e :: r,H=>(Ny r _).trans (Nk e H 4)
theorem KI (H:AI)(es:List Event):(H.Gx es).B7=H.B7:=Ny es _
theorem Kj (H:AI)(k:Int):(H.leave k).B7=H.B7:=by
 unfold AI.leave
 split
 ·exact KI _ _
 ·rfl
theorem K2 (H:AI):∀ k:Nat,(H.Ch k).1.B7=H.B7
 | 0=>rfl
 | k+1=>by
  have ih:=K2 H k
  unfold Ch
  split
  ·exact ih
  ·split
   ·exact(Kj _ _).trans ih
   ·exact ih
theorem OJ:∀(n:Nat) (H:AI),(H.He n).B7=H.B7
 | 0,_=>rfl
 | n+1,H=>by
  unfold He
  split
  ·exact K2 H 4
  ·exact(OJ n _).trans (K2 H 4)
theorem Ib (H:AI):H.BZ.B7=H.B7:=OJ 5 H
theorem TN (H:AI)(k:Int):(H.EN k).B7=H.B7:=by
 unfold AI.EN
 split
 ·rfl
 ·split
  ·rfl
  ·dsimp only
   split
   ·rfl
   ·split
    ·unfold AI.named
     split
     ·exact KI _ _
     ·split<;>rfl
    ·unfold AI.order
     split
     ·rfl
     ·split
      ·exact Kj _ _
      ·exact KI _ _
theorem N1 (H:AI):∀ k:Nat,(H.turns k).B7=H.B7
 | 0=>rfl
 | k+1=>(TN _ _).trans (N1 H k)
theorem VE (X:AI)(a:Bz):(X.Dv a).1.B7=X.B7:=
 I2 (fun Y=>Y.B7=X.B7) rfl (fun d=>(Ib _).trans ((KI _ _).trans (N1 X 4))) (fun k _ _=>Ib _) (fun k u _ _=>by rw [Io,Ib];split<;>rfl) (fun k z _ _=>Ib _) (fun k _ _=>(Ib _).trans (Kj _ _)) a
theorem TD (H:AI):H.begun.B7=H.B7+1:=(HG (H:={ H with B7:=H.B7+1,last:= [] }) 4).2.2
theorem Sb (H:AI)(a:Bz):(H.act a).1.B7=if 400≤H.B7 then H.B7 else H.B7+1:=by
 unfold AI.act
 by_cases c:400≤H.B7
 ·rw [if_pos (decide_eq_true c),if_pos c]
 ·rw [if_neg (fun e=>c (of_decide_eq_true e)),if_neg c]
  exact(VE _ _).trans (TD H)
theorem Live.act (h:H.Live)(a:Bz):(H.act a).1.Live:=⟨by
 unfold AI.act
 split
 ·exact h.fit
 ·exact(h.fit.begun).Dv a,by rw [Sb];have:=h.B7;split<;>omega,h.NY.act a⟩
theorem Live.run:∀(l:List Bz) {H:AI},H.Live→(H.run l).1.Live
 | [],_,h=>h
 | a :: r,_,h=>Live.run r (h.act a)
theorem SI:∀(l:List Bz) {H:AI},H.B7+l.length≤400→(H.run l).1.B7=H.B7+l.length
 | [],H,_=>by show H.B7=_;simp
 | a :: r,H,h=>by
  rw [List.length_cons] at h
  have h1:(H.act a).1.B7=H.B7+1:=by rw [Sb,if_neg (by omega)]
  have:=SI r (H:=(H.act a).1) (by rw [h1];omega)
  show((H.act a).1.run r).1.B7=_
  rw [this,h1,List.length_cons];omega
end
theorem SL {xs:List Bz}{k:Int}(h0:0≤k)(h1:k < xs.length)(H:AI):(H.run (xs.take (k+1).toNat)).1=((H.run (xs.take k.toNat)).1.act (xs.getD k.toNat default)).1:=by rw [Xz h0 h1]
/-! #### does a house answer at all? -/
def Pu:Bz:=⟨1,2,0,[]⟩
def type2:Bz:=⟨2,2,0,[97,110,110,13,10]⟩
def UC:Bz:=⟨5,0,0,[]⟩
theorem eU:AI.new.Live:=LZ
theorem eZ:(AI.new.act Pu).1.Live:=eU.act _
theorem eW:((AI.new.act Pu).1.act type2).1.Live:=eZ.act _
def dI:AI:=(((AI.new.act Pu).1.act type2).1.act UC).1
theorem XI:dI.Live:=eW.act _
theorem dM:(AI.new.act Pu).2.code=0:=by kernel_rfl
theorem eE:(((AI.new.act Pu).1.act type2).1.act UC).2.code=0:=by kernel_rfl
theorem eA:dI.Co 2=(2,2):=by kernel_rfl
theorem dW:decide (2 < ((dI.at_ 2).told.length:Int))=true:=by kernel_rfl
theorem Live.told {V:AM}{ls:Vector BJ 4}{ev:List Event}(h:(A5 V ls ev).Live){k:Int}(h0:0≤k)(h1:k < 4):(ls.at k).told.length≤1000000:=by
 have:=h.fit.told k h0 h1
 rw [Cr _ _ _ h0 h1] at this
 exact Nat.le_trans this (by decide)
theorem Live.wait {V:AM}{ls:Vector BJ 4}{ev:List Event}(h:(A5 V ls ev).Live){k:Int}(h0:0≤k)(h1:k < 4):(ls.at k).wait.length≤1000000:=by
 have:=(h.NY k h0 h1).n
 rw [Cr _ _ _ h0 h1] at this
 exact Nat.le_trans this (by decide)
theorem Live.queue {V:AM}{ls:Vector BJ 4}{ev:List Event}(h:(A5 V ls ev).Live){k:Int}(h0:0≤k)(h1:k < 4):(ls.at k).queue.length≤1000000:=by
 have:=(h.NY k h0 h1).ln.len
 rw [Cr _ _ _ h0 h1] at this
 exact Nat.le_trans this (by decide)
theorem Live.last {V:AM}{ls:Vector BJ 4}{ev:List Event}(h:(A5 V ls ev).Live):ev.length≤1000000:=Nat.le_trans h.fit.last (by decide)
/-! #### do two houses stand alike? -/
def Zz (s t:Aw):Bool:=decide (s.wait=t.wait) && decide (s.pg.shown=t.pg.shown) && (s.pg.B9 == t.pg.B9) && decide (s.pg.ring=t.pg.ring) && (s.pg.cut == t.pg.cut)
def ax (s t:Aw):Bool:=decide (s.now=t.now) && (s.C0 == t.C0) && (s.ret == t.ret) && decide (s.queue=t.queue)
def sameAt (H K:AI)(k:Int):Bool:=!(!decide ((H.Co k).1=(K.Co k).1) || !decide ((H.Co k).2=(K.Co k).2) || !Zz (H.at_ k) (K.at_ k) || !ax (H.at_ k) (K.at_ k))
def same (H K:AI):Bool:=B8 4 (sameAt H K) 4 && decide (H.w=K.w)
end AI
end Go.Ing
/- What beings do keeps: things, people, and who is far. -/
namespace Go.Ing
open Go
theorem EP {α β:Type}[Inhabited α]{n:Nat}(f:α→β)(v:Vector α n){k:Int}{x:α}(hx:f x=f (v.at k))(i:Int):f ((v.put k x).at i)=f (v.at i):=by
 unfold Vector.put Vector.at at *
 rw [List.getD_eq_getElem?_getD] at hx ⊢
 rw [List.getD_eq_getElem?_getD]
 simp only [Vector.toList_setIfInBounds]
 rw [List.getElem?_set]
 split
 ·rename_i h1
  split
  ·rw [← h1,← hx];rfl
  ·rename_i h2
   rw [← h1,List.getElem?_eq_none (by omega)]
 ·rfl
namespace AE
/-! #### things stay what they are -/
def Zn (X:AH)(_:List Event)(Y:AH):Prop:=∀ i,(Y.AO.at i).name=(X.AO.at i).name∧(Y.AO.at i).kind=(X.AO.at i).kind
theorem aF (x:Ap)(q:Prop)(b:Int):Rel x q b Zn where
 refl _:=fun _=>⟨rfl,rfl⟩
 trans h k:=fun i=>⟨(k i).1.trans (h i).1,(k i).2.trans (h i).2⟩
 bA _:=fun _=>⟨rfl,rfl⟩
 Bs {w i t} hn hk:=fun j=>⟨EP Al.name w.AO hn j,EP Al.kind w.AO hk j⟩
 B1:=fun _=>⟨rfl,rfl⟩
 shut:=fun _=>⟨rfl,rfl⟩
 Fw:=fun _=>⟨rfl,rfl⟩
 GH _:=fun _=>⟨rfl,rfl⟩
 gone h _:=h
theorem ZC:YC Zn:=⟨fun b _ _=>aF [] False b,fun _=>⟨rfl,rfl⟩,fun _ h _=>h⟩
/-! #### who is there -/
def Td (l:List Event)(c:Int):Prop:=∃ e∈l,e.kind=18∧e.CU=c
def Zm (X:AH)(l:List Event)(Y:AH):Prop:=∀ c,0≤c→c < 6→((Y.AL.at c).here=true→(X.AL.at c).here=true∧(Y.AL.at c).name=(X.AL.at c).name)∧(2≤c→¬ Td l c→(Y.AL.at c).here=(X.AL.at c).here)
theorem Gk {X Y:AH}{l:List Event}(h:∀ c,(Y.AL.at c).here=(X.AL.at c).here∧(Y.AL.at c).name=(X.AL.at c).name):Zm X l Y:=fun c _ _=>⟨fun e=>⟨by rw [← (h c).1];exact e,(h c).2⟩,fun _ _=>(h c).1⟩
theorem VH {X Y Z:AH}{l m:List Event}(h:Zm X l Y)(k:Zm Y m Z):Zm X (l++m) Z:=fun c c0 c6=>⟨fun e=>by
  obtain⟨a,b⟩:=(k c c0 c6).1 e
  obtain⟨d,f⟩:=(h c c0 c6).1 a
  exact⟨d,b.trans f⟩,fun c2 hn=>((k c c0 c6).2 c2 fun⟨e,he,h1⟩=>hn ⟨e,List.mem_append_right _ he,h1⟩).trans ((h c c0 c6).2 c2 fun⟨e,he,h1⟩=>hn ⟨e,List.mem_append_left _ he,h1⟩)⟩
theorem YJ (x:Ap)(q:Prop){b:Int}(b0:0≤b)(b6:b < 6):Rel x q b Zm where
 refl _:=Gk fun _=>⟨rfl,rfl⟩
 trans:=VH
 bA _:=Gk fun _=>⟨rfl,rfl⟩
 Bs _ _:=Gk fun _=>⟨rfl,rfl⟩
 B1 {w k f}:=Gk fun c=>⟨EP Aj.here w.AL (k:=k) (x:={ w.AL.at k with B1:=f }) rfl c,EP Aj.name w.AL (k:=k) (x:={ w.AL.at k with B1:=f }) rfl c⟩
 shut:=Gk fun _=>⟨rfl,rfl⟩
 Fw {w d r}:=Gk fun c=>⟨EP Aj.here w.AL (k:=b) (x:={ w.AL.at b with room:=r,B1:=0 }) rfl c,EP Aj.name w.AL (k:=b) (x:={ w.AL.at b with room:=r,B1:=0 }) rfl c⟩
 GH _ {w}:=Gk fun _=>⟨rfl,rfl⟩
 gone {X l w} h hg:=fun c c0 c6=>by
  by_cases e:c=b
  ·subst e
   rw [AH.EK c0 c6]
   refine⟨fun e=>(by cases e),fun c2 hn=>?_⟩
   obtain⟨e,he,hk,ha⟩:=hg
   rcases hk with hk | ⟨_,hk⟩
   ·exact absurd ⟨e,he,hk,ha⟩ hn
   ·omega
  ·rw [AH.Ew b0 b6 c0 e];exact h c c0 c6
theorem bt:YC Zm:=⟨fun b b0 b6=>YJ [] False b0 b6,fun {w k h}=>Gk fun c=>⟨EP Aj.here w.AL (k:=k) (x:={ w.AL.at k with BH:=h }) rfl c,EP Aj.name w.AL (k:=k) (x:={ w.AL.at k with BH:=h }) rfl c⟩,
 fun {X l w b} _ h _=>fun c c0 c6=>by
  have e1:=EP Aj.here w.AL (k:=b) (x:={ w.AL.at b with room:=0,BH:=10 }) rfl c
  have e2:=EP Aj.name w.AL (k:=b) (x:={ w.AL.at b with room:=0,BH:=10 }) rfl c
  have:=h c c0 c6
  rw [← e1,← e2] at this
  exact this⟩
def Still (_:AH)(l:List Event)(_:AH):Prop:=∀ e∈l,e.kind≠18
theorem TH {x:Ap}{w:AH}{e:Event}(h:Shape x w e):e.kind≠18:=by
 cases h with
 | bI _=>show(16:Int)≠18;decide
 | said=>show(7:Int)≠18;decide
 | @kind k h=>show k≠18;omega
 | @dir k d h=>show k≠18;omega
 | @Bs k i h=>show k≠18;omega
 | @Gy k h=>show k≠18;omega
 | cb=>show(6:Int)≠18;decide
 | Wz=>show(5:Int)≠18;decide
 | CC _ _=>show(14:Int)≠18;decide
theorem RL (x:Ap)(b:Int):Rel x False b Still where
 refl _:=fun _ h=>by cases h
 trans h k:=fun e he=>(List.mem_append.1 he).elim (h e) (k e)
 bA {w e} h:=fun y hy=>by rw [List.mem_singleton.1 hy,(Fv w b e).1];exact TH h
 Bs _ _:=fun _ h=>by cases h
 B1:=fun _ h=>by cases h
 shut:=fun _ h=>by cases h
 Fw {w d r}:=fun y hy=>by rw [List.mem_singleton.1 hy,(Fv w b _).1];show(1:Int)≠18;decide
 GH h:=h.elim
 gone h _:=h
theorem RT:YC Still:=⟨fun b _ _=>RL [] b,fun _ h=>(by cases h),fun _ h _=>h⟩
def By (b:Int)(_:AH)(l:List Event)(_:AH):Prop:=∀ e∈l,e.CU=b
theorem bG (x:Ap)(q:Prop)(b:Int):Rel x q b (By b) where
 refl _:=fun _ h=>by cases h
 trans h k:=fun e he=>(List.mem_append.1 he).elim (h e) (k e)
 bA {w e} _:=fun y hy=>by rw [List.mem_singleton.1 hy,(Fv w b e).2]
 Bs _ _:=fun _ h=>by cases h
 B1:=fun _ h=>by cases h
 shut:=fun _ h=>by cases h
 Fw {w d r}:=fun y hy=>by rw [List.mem_singleton.1 hy,(Fv w b _).2]
 GH _ {w}:=fun y hy=>by rw [List.mem_singleton.1 hy,(Fv w b _).2]
 gone h _:=h
/-! #### who stays in a room -/
def UI (l:List Event)(c:Int):Prop:=∃ e∈l,e.CU=c∧(e.kind=1∨e.kind=15∨e.kind=17∨e.kind=18)
def WX (c:Int)(X:AH)(l:List Event)(Y:AH):Prop:=UI l c∨((Y.AL.at c).room=(X.AL.at c).room∧∀ e∈l,e.CU≠c→e.GZ.at c≠0→e.room=(X.AL.at c).room)
theorem UI.left {l m:List Event}{c:Int}(h:UI l c):UI (l++m) c:=by obtain⟨e,he,h1⟩:=h;exact⟨e,List.mem_append_left _ he,h1⟩
theorem UI.right {l m:List Event}{c:Int}(h:UI m c):UI (l++m) c:=by obtain⟨e,he,h1⟩:=h;exact⟨e,List.mem_append_right _ he,h1⟩
theorem Ps {c:Int}{X Y Z:AH}{l m:List Event}(h:WX c X l Y)(k:WX c Y m Z):WX c X (l++m) Z:=by
 rcases h with h | ⟨h1,h2⟩
 ·exact .inl h.left
 ·rcases k with k | ⟨k1,k2⟩
  ·exact .inl k.right
  ·exact .inr ⟨k1.trans h1,fun e he ha hb=>(List.mem_append.1 he).elim (fun he=>h2 e he ha hb) (fun he=>(k2 e he ha hb).trans h1)⟩
theorem Ir {c:Int}{X Y:AH}(h:∀ c,(Y.AL.at c).room=(X.AL.at c).room):WX c X [] Y:= .inr ⟨h c,fun _ h=>by cases h⟩
theorem Tk {w:AH}{b c:Int}{e:Event}(c0:0≤c)(c6:c < 6)(hn:(ev w b e).CU≠c)(hb:(ev w b e).GZ.at c≠0):(ev w b e).room=(w.AL.at c).room:=by
 obtain⟨_,a2,a3,_⟩:=AH.HP w (Dh ⟨w,b,[]⟩ e) 6
 unfold ev at hn hb ⊢
 rw [AH.Uv w _ 6 (Nat.le_refl _) c c0 c6] at hb
 rw [a2] at hn
 rw [a3]
 exact(AH.Ph hb (Ne.symm hn)).2.symm
theorem Wh {c:Int}(c0:0≤c)(c6:c < 6)(x:Ap)(q:Prop){b:Int}(b0:0≤b)(b6:b < 6):Rel x q b (WX c) where
 refl _:=Ir fun _=>rfl
 trans:=Ps
 bA {w e} _:= .inr ⟨rfl,fun y hy hn hb=>by rw [List.mem_singleton.1 hy] at hn hb ⊢;exact Tk c0 c6 hn hb⟩
 Bs _ _:=Ir fun _=>rfl
 B1 {w k f}:=Ir fun c=>EP Aj.room w.AL (k:=k) (x:={ w.AL.at k with B1:=f }) rfl c
 shut:=Ir fun _=>rfl
 Fw {w d r}:=by
  by_cases e:c=b
  ·subst e
   exact .inl ⟨_,List.mem_cons_self ..,(Fv w c _).2, .inl (Fv w c _).1⟩
  ·exact .inr ⟨by rw [AH.Ew b0 b6 c0 e],fun y hy hn hb=>by rw [List.mem_singleton.1 hy] at hn hb ⊢;exact Tk c0 c6 hn hb⟩
 GH _ {w}:= .inr ⟨rfl,fun y hy hn hb=>by rw [List.mem_singleton.1 hy] at hn hb ⊢;exact Tk c0 c6 hn hb⟩
 gone {X l w} h hg:=by
  by_cases e:c=b
  ·subst e
   obtain⟨y,hy,hk,ha⟩:=hg
   exact .inl ⟨y,hy,ha,by rcases hk with hk | ⟨hk,_⟩<;>omega⟩
  ·rcases h with h | ⟨h1,h2⟩
   ·exact .inl h
   ·exact .inr ⟨by rw [AH.Ew b0 b6 c0 e];exact h1,h2⟩
theorem ZW {c:Int}(c0:0≤c)(c6:c < 6):YC (WX c):=⟨fun b b0 b6=>Wh c0 c6 [] False b0 b6,fun {w k h}=>Ir fun c=>EP Aj.room w.AL (k:=k) (x:={ w.AL.at k with BH:=h }) rfl c,
 fun {X l w b} b2 h hg=>by
  obtain⟨y,hy,hk,ha⟩:=hg
  by_cases e:c=b
  ·subst e;exact .inl ⟨y,hy,ha, .inr (.inl hk)⟩
  ·rcases h with h | ⟨h1,h2⟩
   ·exact .inl h
   ·refine .inr ⟨?_,h2⟩
    show((w.AL.put b _).at c).room=_
    rcases Vector.Ni w.AL b c { w.AL.at b with room:=0,BH:=10 } with q | q
    ·by_cases b6:b < 6
     ·rw [Vector.EI (by omega) b6 c0 e];exact h1
     ·have:(w.AL.put b { w.AL.at b with room:=0,BH:=10 }).at c=w.AL.at c:=by
       unfold Vector.put Vector.at
       rw [List.getD_eq_getElem?_getD,List.getD_eq_getElem?_getD]
       simp only [Vector.toList_setIfInBounds]
       rw [List.getElem?_set,if_neg (by omega),List.getD_eq_getElem?_getD]
      rw [this];exact h1
    ·rw [q];exact h1⟩
end AE
end Go.Ing
/- What a house keeps through every act: people and pages. -/
namespace Go.Ing
open Go
namespace AE
theorem Wk (X:AH)(s:Ap)(b:Int):(GC X s b).w=X.Cw b (Hx s):=(Jw _).1
theorem Mg (X:AH):∀ n:Nat,n≤6→2≤CH X n→(X.AL.at (CH X n)).here=false
 | 0,_,h=>by have:CH X 0=-1:=rfl;omega
 | n+1,hn,h=>by
  unfold CH at h ⊢
  split
  ·rename_i c
   rw [Bool.and_eq_true] at c
   simpa using c.1
  ·rename_i c
   rw [if_neg c] at h
   exact Mg X n (by omega) h
theorem aK {X:AH}{b:Int}{o:Order}(hg:X.Bh=true)(b0:0≤b)(b6:b < 6)(hh:(X.AL.at b).here=true)(h0:0≤o.verb)(h1:o.verb≤20):(EC X b o)=((AE.act ⟨X,b,[]⟩ o).w,(AE.act ⟨X,b,[]⟩ o).out,0):=by
 unfold EC
 rw [if_neg (by rw [hg];decide),if_neg (by rw [decide_eq_false (by omega:¬ b < 0),decide_eq_false (by omega:¬ 6≤b),hh];decide),if_neg (by rw [decide_eq_false (by omega:¬ o.verb < 0),decide_eq_false (by omega:¬ 20 < o.verb)];decide)]
theorem UT {X:AH}{b:Int}{o:Order}(hg:X.Bh=true)(hw:X.DL):(EC X b o).1.Bh=true:=by
 by_cases h:(EC X b o).2.2=0
 ·exact(keeps hw h).1
 ·have:(EC X b o).1=X:=by
   unfold EC at h ⊢
   split
   ·rfl
   ·split
    ·rfl
    ·split
     ·rfl
     ·rename_i c1 c2 c3
      rw [if_neg c1,if_neg c2,if_neg c3] at h
      exact absurd rfl h
  rw [this];exact hg
theorem Zs {X:AH}{b:Int}(hg:X.Bh=true)(b0:0≤b)(b6:b < 6)(hh:(X.AL.at b).here=true):((EC X b AI.EA).1.AL.at b).here=false:=by
 rw [aK hg b0 b6 hh (by decide) (by decide)]
 have e:AE.act ⟨X,b,[]⟩ AI.EA=AE.GH ⟨X,b,[]⟩:=rfl
 rw [e]
 have hf:=Ob ⟨X,b,[]⟩
 show((AE.GH ⟨X,b,[]⟩).w.AL.at b).here=false
 rw [hf.2.2]
 show(((((⟨X,b,[]⟩:AE).kind 18).FB.w.AL).put b default).at b).here=false
 rw [Vector.CD b0 b6];rfl
theorem Rz {X:AH}{d:Int}(hg:X.Bh=true)(hw:X.DL):(CW X d).1.Bh=true:=by
 unfold CW
 rw [if_neg (by rw [hg];decide)]
 have h:=(Kq ZC (draw:=d) hg hw 6 (Nat.le_refl 6)).2.1
 generalize DW X d 6=r at *
 exact h
end AE
namespace AI
structure TE (U:Ap→Prop)(P:AI→Prop):Prop where
 lines:∀ {H k},P H→0≤k→k < 4→∀ q∈(H.at_ k).queue,U q
 begun:∀ {H},P H→P H.begun
 step:∀ {H X},P H→Step U H X→P X
 next:∀ {H k q r},P H→0≤k→k < 4→(H.at_ k).state≠0→(H.at_ k).queue=q :: r→P (H.next k r)
 Jg:∀ {H k},P H→0≤k→k < 4→(H.at_ k).state=0→P (H.set k ((({ (default:Aw) with state:=1,Ay:=-1 }:Aw).offer 3).offer 31))
 byte:∀ {H k u},P H→0≤k→k < 4→(H.at_ k).state≠0→P (H.set k (C7 (H.at_ k) u).1)
 G6:∀ {H k n},P H→0≤k→k < 4→(H.at_ k).state≠0→P (H.set k ((H.at_ k).G6 n))
theorem FY (s:Aw)(o:Int):(s.offer o).state=s.state:=by
 unfold Aw.offer;split<;>exact(OD _ _).2.1
structure OH (U:Ap→Prop)(Z:AI)(P:AI→Prop):Prop where
 lines:∀ {H k},P H→0≤k→k < 4→∀ q∈(H.at_ k).queue,U q
 step:∀ {H X},P H→Step U H X→P X
 next:∀ {H k q r},P H→0≤k→k < 4→(H.at_ k).state≠0→(H.at_ k).queue=q :: r→P (H.next k r)
 Jg:∀ {k},0≤k→k < 4→(Z.at_ k).state=0→P (Z.set k ((({ (default:Aw) with state:=1,Ay:=-1 }:Aw).offer 3).offer 31))
 byte:∀ {k u},0≤k→k < 4→(Z.at_ k).state≠0→P (Z.set k (C7 (Z.at_ k) u).1)
 G6:∀ {k n},0≤k→k < 4→(Z.at_ k).state≠0→P (Z.set k ((Z.at_ k).G6 n))
section
variable {U:Ap→Prop} {P:AI→Prop} {H X Z:AI} (K:OH U Z P)
include K
theorem OH.steps (h:P H)(s:Steps U H X):P X:=Steps.JO (fun h s=>K.step h s) h s
theorem OH.EN (h:P H){k:Int}(h0:0≤k)(h1:k < 4):P (H.EN k):=by
 rcases Nq (U:=U) H h0 h1 (K.lines h h0 h1) with ⟨_,e⟩ | ⟨q,r,hs,e,s⟩
 ·rw [e];exact h
 ·exact K.steps (K.next h h0 h1 hs e) s
theorem OH.turns (h:P H):∀ k:Nat,k≤4→P (H.turns k)
 | 0,_=>h
 | k+1,hk=>K.EN (OH.turns h k (by omega)) (by omega) (by omega)
theorem OH.BZ (h:P H):P H.BZ:=K.steps h (OS H)
theorem OH.told (h:P H){k:Int}(h0:0≤k)(h1:k < 4)(hs:(H.at_ k).state≠0){u:Ap}(hu:u∈Wu):P (H.tell k u):=K.step h (.told h0 h1 hs hu)
theorem OH.Dv (h:P Z)(a:Bz):P (Z.Dv a).1:=by
 unfold AI.Dv
 split
 ·have hp:=K.BZ (K.steps (K.turns h 4 (Nat.le_refl 4)) (Jq (Z.turns 4) a.n))
  dsimp only
  unfold AI.Of
  exact hp
 ·split
  ·exact h
  ·split
   ·exact h
   ·rename_i c
    have hs:0≤a.BL∧a.BL < 4:=by simp only [Bool.or_eq_true,decide_eq_true_eq] at c;omega
    split
    ·exact h
    ·rename_i c2
     have c2':decide ((Z.at_ a.BL).state=0)=decide (a.kind=1):=by simpa using c2
     split
     ·rename_i c3
      have hz:(Z.at_ a.BL).state=0:=of_decide_eq_true (c2'.trans c3)
      have h1:=K.Jg hs.1 hs.2 hz
      have h2:=K.BZ (K.told (u:=Hq) h1 hs.1 hs.2 (by
       rw [Cm _ hs.1 hs.2 hs.1,if_pos rfl,FY,FY]
       exact(by decide:(1:Int)≠0)) (List.mem_cons_self ..))
      dsimp only
      unfold AI.Jg
      exact h2
     ·rename_i c3
      have hz:(Z.at_ a.BL).state≠0:=fun e=>c3 (by rw [← c2'];exact decide_eq_true e)
      split
      ·have h1:=K.byte hs.1 hs.2 hz (u:=a.bytes)
       have h2:=K.BZ h1
       have h3:=K.BZ (K.told (u:=Oi) h1 hs.1 hs.2 (by rw [Cm _ hs.1 hs.2 hs.1,if_pos rfl,(EJ _ _).2.1];exact hz) (List.mem_cons_of_mem _ (List.mem_cons_self ..)))
       dsimp only
       rw [Io]
       split
       ·exact h3
       ·exact h2
      ·split
       ·have h1:=K.BZ (K.G6 (n:=a.n) hs.1 hs.2 hz)
        dsimp only
        exact h1
       ·have h1:=K.BZ (K.steps h (Gr Z hs.1 hs.2))
        dsimp only
        exact h1
end
section
variable {U:Ap→Prop} {P:AI→Prop} (K:TE U P) {H X:AI}
include K
theorem TE.Dv (h:P X)(a:Bz):P (X.Dv a).1:=OH.Dv ⟨K.lines,K.step,K.next,K.Jg h,K.byte h,K.G6 h⟩ h a
theorem TE.act (h:P H)(a:Bz):P (H.act a).1:=by
 unfold AI.act
 split
 ·exact h
 ·exact K.Dv (K.begun h) a
theorem TE.run:∀(l:List Bz) {H:AI},P H→P (H.run l).1
 | [],_,h=>h
 | a :: r,_,h=>TE.run r (K.act h a)
end
structure Home (H:AI):Prop where
 gd:H.w.Bh=true
 Ff:H.w.LK
 NY:H.HT
 me:∀ k,0≤k→k < 4→(H.at_ k).state=2→2≤(H.at_ k).Ay∧(H.at_ k).Ay≤5∧(H.w.AL.at (H.at_ k).Ay).here=true
 one:∀ j k,0≤j→j < 4→0≤k→k < 4→(H.at_ j).state=2→(H.at_ k).state=2→(H.at_ j).Ay=(H.at_ k).Ay→j=k
 all:∀ b,2≤b→b≤5→(H.w.AL.at b).here=true→∃ k,0≤k∧k < 4∧(H.at_ k).state=2∧(H.at_ k).Ay=b
 named:∀ b,2≤b→b≤5→(H.w.AL.at b).here=true→AE.FJ (H.w.AL.at b).name=true
 diff:∀ b c,2≤b→b≤5→0≤c→c≤5→(H.w.AL.at b).here=true→(H.w.AL.at c).here=true→(H.w.AL.at c).name=(H.w.AL.at b).name→c=b
section
variable {H X:AI}
theorem Home.of (h:H.Home)(hw:X.w=H.w)(hs:∀ j,0≤j→j < 4→(X.at_ j).state=(H.at_ j).state∧(X.at_ j).Ay=(H.at_ j).Ay)(ho:X.HT):X.Home:=
 ⟨by rw [hw];exact h.gd,by rw [hw];exact h.Ff,ho,fun k k0 k1 e=>by
  obtain⟨a,b⟩:=hs k k0 k1
  rw [hw,b];exact h.me k k0 k1 (a ▸ e),fun j k j0 j1 k0 k1 e1 e2 e3=>by
  obtain⟨a,b⟩:=hs k k0 k1
  obtain⟨c,d⟩:=hs j j0 j1
  exact h.one j k j0 j1 k0 k1 (c ▸ e1) (a ▸ e2) (by rw [← d,← b];exact e3),fun b b0 b1 e=>by
  rw [hw] at e
  obtain⟨k,k0,k1,e1,e2⟩:=h.all b b0 b1 e
  obtain⟨c,d⟩:=hs k k0 k1
  exact⟨k,k0,k1,c.trans e1,d.trans e2⟩,by rw [hw];exact h.named,by rw [hw];exact h.diff⟩
theorem Home.put (h:H.Home){k:Int}(k0:0≤k)(k1:k < 4)(hn:(H.at_ k).state≠2){s:Aw}(hs:s.state≠2)(ho:s.Ok):(H.set k s).Home:=by
 have e:∀ j,0≤j→(H.set k s).at_ j=if j=k then s else H.at_ j:=fun j j0=>Cm H k0 k1 j0 s
 refine⟨h.gd,h.Ff,h.NY.set k0 k1 ho,fun j j0 j1=>?_,fun i j i0 i1 j0 j1=>?_,fun b b0 b1 hb=>?_,h.named,h.diff⟩
 ·rw [e j j0];split
  ·exact fun q=>absurd q hs
  ·exact h.me j j0 j1
 ·rw [e i i0,e j j0];split
  ·exact fun q=>absurd q hs
  ·split
   ·exact fun _ q=>absurd q hs
   ·exact h.one i j i0 i1 j0 j1
 ·obtain⟨j,j0,j1,e1,e2⟩:=h.all b b0 b1 hb
  refine⟨j,j0,j1,?_⟩
  rw [e j j0,if_neg (fun q=>by subst q;exact hn e1)]
  exact⟨e1,e2⟩
theorem Home.land (h:H.Home){k:Int}(k0:0≤k)(k1:k < 4){w:AH}{es:List Event}(hg:w.Bh=true)(hw:w.LK)(hr:AE.Zm H.w es w)(hn:AE.Still H.w es w):(H.Hb k w (H.at_ k) es).Home:=by
 have hat:∀ j,0≤j→j < 4→((H.Hb k w (H.at_ k) es).at_ j).state=(H.at_ j).state∧((H.Hb k w (H.at_ k) es).at_ j).Ay=(H.at_ j).Ay:=fun j j0 j1=>by
  rw [GS H k0 k1 _ _ _ j0 j1]
  have e:(if j=k then H.at_ k else H.at_ j)=H.at_ j:=by
   split
   ·rename_i q;rw [q]
   ·rfl
  rw [e];exact Aw.El _ _
 have hok:(H.Hb k w (H.at_ k) es).HT:=fun j j0 j1=>by
  rw [GS H k0 k1 _ _ _ j0 j1]
  exact Aw.Ok.En (by split;exact h.NY k k0 k1;exact h.NY j j0 j1) es
 have hkeep:=J8 H k w (H.at_ k) es
 have hgone:∀ c,¬ AE.Td es c:=fun c ⟨e,he,h1,_⟩=>hn e he h1
 refine Home.of (H:={ H with w:=w }) ⟨hg,hw,h.NY,fun j j0 j1 e=>?_,h.one,fun b b0 b1 e=>h.all b b0 b1 ((hr b (by omega) (by omega)).1 e).1,fun b b0 b1 e=>?_,fun b c b0 b1 c0 c1 e1 e2 e3=>?_⟩ hkeep.1 hat hok
 ·obtain⟨a,b,c⟩:=h.me j j0 j1 e
  exact⟨a,b,((hr _ (by omega) (by omega)).2 a (hgone _)).trans c⟩
 ·obtain⟨p,q⟩:=(hr b (by omega) (by omega)).1 e
  show AE.FJ (w.AL.at b).name=true
  rw [q];exact h.named b b0 b1 p
 ·obtain⟨p,q⟩:=(hr b (by omega) (by omega)).1 e1
  obtain⟨p',q'⟩:=(hr c (by omega) (by omega)).1 e2
  exact h.diff b c b0 b1 c0 c1 p p' (by rw [← q,← q'];exact e3)
theorem Home.left (h:H.Home){k:Int}(k0:0≤k)(k1:k < 4)(hs:(H.at_ k).state=2):(H.Hb k (AE.EC H.w (H.at_ k).Ay EA).1 default (AE.EC H.w (H.at_ k).Ay EA).2.1).Home:=by
 obtain⟨b2,b5,hh⟩:=h.me k k0 k1 hs
 have hr:AE.Zm H.w (AE.EC H.w (H.at_ k).Ay EA).2.1 (AE.EC H.w (H.at_ k).Ay EA).1:=AE.Jz (AE.YJ [] True (by omega) (by omega)) rfl (fun _=>trivial)
 have hb:AE.By (H.at_ k).Ay H.w (AE.EC H.w (H.at_ k).Ay EA).2.1 (AE.EC H.w (H.at_ k).Ay EA).1:=AE.Jz (AE.bG [] True _) rfl (fun _=>trivial)
 have hq:=AE.Zs h.gd (show 0≤(H.at_ k).Ay by omega) (by omega) hh
 have hg:=AE.UT (b:=(H.at_ k).Ay) (o:=EA) h.gd h.Ff.HA
 have hw:=(AE.KE (b:=(H.at_ k).Ay) (o:=EA) h.Ff MR).1
 generalize hd:AE.EC H.w (H.at_ k).Ay EA=D at *
 have hkeep:=J8 H k D.1 default D.2.1
 have hat:=fun j j0 j1=>GS H k0 k1 D.1 default D.2.1 (j:=j) j0 j1
 have st:∀ j,0≤j→j < 4→((H.Hb k D.1 default D.2.1).at_ j).state=2→j≠k∧(H.at_ j).state=2∧((H.Hb k D.1 default D.2.1).at_ j).Ay=(H.at_ j).Ay:=fun j j0 j1 e=>by
  rw [hat j j0 j1] at e ⊢
  rw [(Aw.El _ _).1] at e
  rw [(Aw.El _ _).2]
  by_cases q:j=k
  ·rw [if_pos q] at e;exact absurd (show(0:Int)=2 from e) (by decide)
  ·rw [if_neg q] at e ⊢;exact⟨q,e,rfl⟩
 refine⟨by rw [hkeep.1];exact hg,by rw [hkeep.1];exact hw,fun j j0 j1=>?_,fun j j0 j1 e=>?_,fun i j i0 i1 j0 j1 e1 e2 e3=>?_,fun b b0 b1 e=>?_,fun b b0 b1 e=>?_,fun b c b0 b1 c0 c1 e1 e2 e3=>?_⟩
 ·rw [hat j j0 j1]
  exact Aw.Ok.En (by split;exact Aw.DN;exact h.NY j j0 j1) _
 ·obtain⟨q,e1,e2⟩:=st j j0 j1 e
  obtain⟨a,b,c⟩:=h.me j j0 j1 e1
  rw [hkeep.1,e2]
  refine⟨a,b,((hr _ (by omega) (by omega)).2 a fun⟨y,hy,_,ha⟩=>?_).trans c⟩
  exact q (h.one j k j0 j1 k0 k1 e1 hs (ha.symm.trans (hb y hy)))
 ·obtain⟨_,a1,a2⟩:=st i i0 i1 e1
  obtain⟨_,c1,c2⟩:=st j j0 j1 e2
  exact h.one i j i0 i1 j0 j1 a1 c1 (by rw [← a2,← c2];exact e3)
 ·rw [hkeep.1] at e
  obtain⟨p,_⟩:=(hr b (by omega) (by omega)).1 e
  obtain⟨j,j0,j1,a1,a2⟩:=h.all b b0 b1 p
  have hjk:j≠k:=fun q=>by subst q;rw [a2,e] at hq;cases hq
  refine⟨j,j0,j1,?_⟩
  rw [hat j j0 j1,(Aw.El _ _).1,(Aw.El _ _).2,if_neg hjk]
  exact⟨a1,a2⟩
 ·rw [hkeep.1] at e ⊢
  obtain⟨p,q⟩:=(hr b (by omega) (by omega)).1 e
  rw [q];exact h.named b b0 b1 p
 ·rw [hkeep.1] at e1 e2 e3
  obtain⟨p,q⟩:=(hr b (by omega) (by omega)).1 e1
  obtain⟨p',q'⟩:=(hr c (by omega) (by omega)).1 e2
  exact h.diff b c b0 b1 c0 c1 p p' (by rw [← q,← q'];exact e3)
theorem Home.MB (h:H.Home){k:Int}{u:Ap}(k0:0≤k)(k1:k < 4)(hs:(H.at_ k).state=1)(he:(AE.BR H.w u).2.2.2=0):(H.Hb k (AE.BR H.w u).1 { H.at_ k with state:=2,Ay:=(AE.BR H.w u).2.1 } (AE.BR H.w u).2.2.1).Home:=by
 rcases AE.Mq H.w u with ⟨hn,_⟩ | ⟨e,f2,f5,hn,_,ht⟩
 ·exact absurd he hn
 have hw:=(AE.JH (s:=u) h.Ff).1
 have hf:=AE.Mg H.w 6 (Nat.le_refl 6) f2
 have hlen:u.length≤8:=by
  have h2:=hn
  simp only [AE.FJ,Bool.and_eq_true,decide_eq_true_eq] at h2
  omega
 have hfit:=AE.QW (b:=AE.CH H.w 6) h.gd h.Ff.HA (s:=u) (by omega) (by omega) (by omega)
 have hwe:=AE.Wk H.w u (AE.CH H.w 6)
 rw [e] at hw ⊢
 generalize AE.CH H.w 6=f at *
 generalize (AE.GC H.w u f).out=es
 generalize (AE.GC H.w u f).w=w at *
 show(H.Hb k w { H.at_ k with state:=2,Ay:=f } es).Home
 have hw2:w.LK:=hw
 have hg:w.Bh=true:=by rw [hwe];exact hfit.gd
 have bf:w.AL.at f=AE.Hx u:=by rw [hwe];exact AH.EK (by omega) (by omega) _
 have bn:∀ c,0≤c→c≠f→w.AL.at c=H.w.AL.at c:=fun c c0 hc=>by rw [hwe];exact AH.Ew (by omega) (by omega) c0 hc _
 have hkeep:=J8 H k w { H.at_ k with state:=2,Ay:=f } es
 have hat:∀ j,0≤j→j < 4→((H.Hb k w { H.at_ k with state:=2,Ay:=f } es).at_ j).state=(if j=k then 2 else(H.at_ j).state)∧((H.Hb k w { H.at_ k with state:=2,Ay:=f } es).at_ j).Ay=(if j=k then f else(H.at_ j).Ay):=fun j j0 j1=>by
  rw [GS H k0 k1 _ _ _ j0 j1,(Aw.El _ _).1,(Aw.El _ _).2]
  split<;>exact⟨rfl,rfl⟩
 have out:∀ j,0≤j→j < 4→(H.at_ j).state=2→(H.at_ j).Ay≠f:=fun j j0 j1 e q=>by
  have:=(h.me j j0 j1 e).2.2
  rw [q,hf] at this;cases this
 refine⟨by rw [hkeep.1];exact hg,by rw [hkeep.1];exact hw2,fun j j0 j1=>?_,fun j j0 j1=>?_,fun i j i0 i1 j0 j1=>?_,fun b b0 b1 e=>?_,fun b b0 b1 e=>?_,fun b c b0 b1 c0 c1 e1 e2 e3=>?_⟩
 ·rw [GS H k0 k1 _ _ _ j0 j1]
  exact Aw.Ok.En (by split;exact(h.NY k k0 k1).MB f;exact h.NY j j0 j1) _
 ·rw [(hat j j0 j1).1,(hat j j0 j1).2,hkeep.1]
  split
  ·intro _;rw [bf];exact⟨by omega,by omega,rfl⟩
  ·intro e
   obtain⟨a,b,c⟩:=h.me j j0 j1 e
   exact⟨a,b,by rw [bn _ (by omega) (out j j0 j1 e)];exact c⟩
 ·rw [(hat i i0 i1).1,(hat i i0 i1).2,(hat j j0 j1).1,(hat j j0 j1).2]
  split
  ·rename_i q1
   split
   ·rename_i q2;intro _ _ _;rw [q1,q2]
   ·intro _ e q;exact absurd q.symm (out j j0 j1 e)
  ·split
   ·intro e _ q;exact absurd q (out i i0 i1 e)
   ·exact h.one i j i0 i1 j0 j1
 ·rw [hkeep.1] at e
  by_cases q:b=f
  ·exact⟨k,k0,k1,by rw [(hat k k0 k1).1,if_pos rfl],by rw [(hat k k0 k1).2,if_pos rfl,q]⟩
  ·rw [bn b (by omega) q] at e
   obtain⟨j,j0,j1,a1,a2⟩:=h.all b b0 b1 e
   have hjk:j≠k:=fun q=>by subst q;omega
   exact⟨j,j0,j1,by rw [(hat j j0 j1).1,if_neg hjk];exact a1,by rw [(hat j j0 j1).2,if_neg hjk];exact a2⟩
 ·rw [hkeep.1] at e ⊢
  by_cases q:b=f
  ·rw [q,bf];exact hn
  ·rw [bn b (by omega) q] at e ⊢;exact h.named b b0 b1 e
 ·rw [hkeep.1] at e1 e2 e3
  have hfree:∀ c,0≤c→c≤5→(H.w.AL.at c).here=true→(H.w.AL.at c).name≠u:=fun c c0 c1 hc q=>by
   have:=ht c c0 (by omega)
   unfold AE.IU at this
   rw [hc,q] at this
   simp at this
  by_cases q1:b=f
  ·by_cases q2:c=f
   ·rw [q1,q2]
   ·rw [bn c (by omega) q2] at e2 e3
    rw [q1,bf] at e3
    exact absurd e3 (hfree c c0 c1 e2)
  ·rw [bn b (by omega) q1] at e1 e3
   by_cases q2:c=f
   ·rw [q2,bf] at e3
    exact absurd e3.symm (hfree b (by omega) b1 e1)
   ·rw [bn c (by omega) q2] at e2 e3
    exact h.diff b c b0 b1 c0 c1 e1 e2 e3
theorem SE (q:Ap)(hq:q.length≤1000):(Words.parse q).1.text.length≤1000000:=by
 have:=(Words.Ja q).2.2
 omega
theorem Home.step (h:H.Home)(hu:True){U:Ap→Prop}(hU:∀ q,U q→q.length≤1000)(s:Step U H X):X.Home:=by
 cases s with
 | @told k u h0 h1 hs _=>
  refine h.of rfl (fun j j0 j1=>?_) (h.NY.step (U:=U) (.told h0 h1 hs ‹_›))
  unfold AI.tell
  rw [Cm _ h0 h1 j0]
  split
  ·rename_i q;subst q;exact⟨(Ez _ _).1,(Ez _ _).2.1⟩
  ·exact⟨rfl,rfl⟩
 | @BZ k h0 h1 hs=>
  refine h.of rfl (fun j j0 j1=>?_) (h.NY.step (U:=U) (.BZ h0 h1 hs))
  rw [Cm _ h0 h1 j0]
  split
  ·rename_i q;subst q;exact⟨(GK _).2.1,(GK _).2.2.1⟩
  ·exact⟨rfl,rfl⟩
 | @free k h0 h1 hn=>exact h.put h0 h1 (fun e=>hn ⟨e,(h.me k h0 h1 e).2.2⟩) (show(0:Int)≠2 by decide) Aw.DN
 | @goes k w s es h0 h1 g=>
  cases g with
  | left hs _=>exact h.left h0 h1 hs
  | MB hs he=>exact h.MB h0 h1 hs he
  | aR hq hn0 hn1 hv=>
   have hst:=(h.NY k h0 h1).st
   obtain⟨b2,b5,hh⟩:=h.me k h0 h1 (by omega)
   exact h.land h0 h1 (AE.UT h.gd h.Ff.HA) (AE.KE h.Ff (SE _ (hU _ hq))).1 (AE.Jz (AE.YJ _ False (by omega) (by omega)) rfl (fun e=>hv e)) (AE.Jz (AE.RL _ _) rfl (fun e=>hv e))
  | round=>exact h.land h0 h1 (AE.Rz h.gd h.Ff.HA) (AE.Kw h.Ff).1 (AE.KJ AE.bt h.Ff.HA) (AE.KJ AE.RT h.Ff.HA)
end
end AI
end Go.Ing
/- An act that is refused, and acts behind the last: plain laws. -/
namespace Go.Ing
open Go
theorem Y2 {α:Type}(a b c:α) : [a,b,c].Perm [c,b,a]:=List.reverse_perm [c,b,a]
namespace AI
theorem Kz (H:AI):H.begun.w=H.w∧H.begun.last = []∧H.begun.B7=H.B7+1:=HG (H:={ H with B7:=H.B7+1,last:= [] }) 4
def zero:Bz:=⟨0,0,0,[]⟩
end AI
end Go.Ing
/- Behind each act: people and pages. -/
namespace Go.Ing
open Go
namespace Aw
theorem Still.heard {s:Aw}(h:s.Still):({ s with told:= [] }:Aw).Still:=by
 refine⟨?_,h.cut⟩
 have e:({ s with told:= [] }:Aw).BZ={ s.BZ with told:= [] }:=by
  unfold Aw.BZ
  by_cases c:(!s.LM || decide (s.Dw.B3 < 0) || decide (200 < s.Dw.B3))=true
  ·rw [if_pos c,if_pos (show(!({ s with told:= [] }:Aw).LM || decide (({ s with told:= [] }:Aw).Dw.B3 < 0) || decide (200 < ({ s with told:= [] }:Aw).Dw.B3))=true from c)]
  ·rw [if_neg c,if_neg (show ¬ (!({ s with told:= [] }:Aw).LM || decide (({ s with told:= [] }:Aw).Dw.B3 < 0) || decide (200 < ({ s with told:= [] }:Aw).Dw.B3))=true from c)]
 rw [e,h.fl]
end Aw
namespace AI
theorem Home.B7:TE (fun q=>q.length≤1000) Home where
 lines {H k} h h0 h1 q hq:=by
  have:=((Bi.GG q).1 ((h.NY k h0 h1).ln.queue q hq)).1
  omega
 begun {H} h:=h.of (Kz H).1 (fun j j0 j1=>by rw [Hh j0 j1];exact⟨rfl,rfl⟩) h.NY.begun
 step h s:=h.step trivial (fun _ h=>h) s
 next {H k q r} h h0 h1 _ e:=h.of rfl (fun j j0 j1=>by
  unfold AI.next;rw [Cm _ h0 h1 j0];split
  ·rename_i q;subst q;exact⟨rfl,rfl⟩
  ·exact⟨rfl,rfl⟩) (h.NY.set h0 h1 ((h.NY k h0 h1).next e))
 Jg {H k} h h0 h1 hz:=h.put h0 h1 (by rw [hz];decide) (by rw [FY,FY];exact(by decide:(1:Int)≠2)) (((show({ (default:Aw) with state:=1,Ay:=-1 }:Aw).Ok from⟨⟨show(0:Int)≤1 by decide,show(1:Int)≤2 by decide⟩,Aw.DN.n,Aw.DN.ring,Aw.DN.s0,Aw.DN.s1,Aw.DN.ln⟩).offer 3).offer 31)
 byte {H k u} h h0 h1 _:=h.of rfl (fun j j0 j1=>by
  rw [Cm _ h0 h1 j0];split
  ·rename_i q;subst q;exact⟨(EJ _ _).2.1,(EJ _ _).2.2.1⟩
  ·exact⟨rfl,rfl⟩) (h.NY.set h0 h1 ((h.NY k h0 h1).typed u))
 G6 {H k n} h h0 h1 _:=h.of rfl (fun j j0 j1=>by
  rw [Cm _ h0 h1 j0];split
  ·rename_i q;subst q;exact⟨rfl,rfl⟩
  ·exact⟨rfl,rfl⟩) (h.NY.set h0 h1 ((h.NY k h0 h1).G6 n))
def Zero (H:AI):Prop:=∀ k,0≤k→k < 4→(H.at_ k).state=0→H.at_ k=default
theorem Zero.set {H:AI}(h:H.Zero){k:Int}(h0:0≤k)(h1:k < 4){s:Aw}(hs:s.state=0→s=default):(H.set k s).Zero:=fun j j0 j1=>by
 rw [Cm _ h0 h1 j0];split
 ·exact hs
 ·exact h j j0 j1
theorem Zero.B7:TE (fun _=>True) Zero where
 lines _ _ _ _ _:=trivial
 begun {H} h:=fun k h0 h1=>by
  rw [Hh h0 h1]
  intro e
  rw [h k h0 h1 e];rfl
 step {H X} h s:=by
  cases s with
  | told h0 h1 hs _=>exact h.set h0 h1 (fun e=>absurd ((Ez _ _).1.symm.trans e) hs)
  | BZ h0 h1 hs=>exact h.set h0 h1 (fun e=>absurd ((GK _).2.1.symm.trans e) hs)
  | free h0 h1 _=>exact h.set h0 h1 (fun _=>rfl)
  | @goes k w s es h0 h1 g=>
   have hs:s.state=0→s=default:=by
    cases g with
    | left _ _=>exact fun _=>rfl
    | MB _ _=>exact fun e=>absurd (show(2:Int)=0 from e) (by decide)
    | aR _ hn _ _=>exact fun e=>absurd e hn
    | round=>exact h 0 (Int.le_refl 0) (by decide)
   intro j j0 j1
   rw [GS H h0 h1 _ _ _ j0 j1]
   intro e
   rw [(Aw.El _ _).1] at e
   have e2:(if j=k then s else H.at_ j)=default:=by
    split at e
    ·rename_i q;rw [if_pos q];exact hs e
    ·rename_i q;rw [if_neg q];exact h j j0 j1 e
   rw [e2];exact Nd es
 next {H k q r} h h0 h1 hs _:=h.set h0 h1 (fun e=>absurd e hs)
 Jg {H k} h h0 h1 _:=h.set h0 h1 (fun e=>by rw [FY,FY] at e;exact absurd (show(1:Int)=0 from e) (by decide))
 byte {H k u} h h0 h1 hs:=h.set h0 h1 (fun e=>absurd ((EJ _ _).2.1.symm.trans e) hs)
 G6 {H k n} h h0 h1 hs:=h.set h0 h1 (fun e=>absurd e hs)
def Calm (H:AI):Prop:=∀ k,0≤k→k < 4→(H.at_ k).state≠0→(H.at_ k).Still
theorem TW (X:AI)(h:X.HT)(a:Bz):(X.Dv a).1=X∨∃ Y:AI,Y.HT∧(X.Dv a).1=Y.BZ:=
 I2 (fun Z=>Z=X∨∃ Y:AI,Y.HT∧Z=Y.BZ) (.inl rfl) (fun d=> .inr ⟨_,(h.turns 4 (Nat.le_refl 4)).steps (U:=fun _=>True) (Jq _ d),rfl⟩)
  (fun k h0 h1=> .inr ⟨_,(h.set h0 h1 (((show({ (default:Aw) with state:=1,Ay:=-1 }:Aw).Ok from⟨⟨show(0:Int)≤1 by decide,show(1:Int)≤2 by decide⟩,Aw.DN.n,Aw.DN.ring,Aw.DN.s0,Aw.DN.s1,Aw.DN.ln⟩).offer 3).offer 31)).tell h0 h1 Hq,rfl⟩)
  (fun k u h0 h1=> .inr ⟨_,by
   have hs:=h.set h0 h1 ((h k h0 h1).typed u)
   exact(show(if decide (0 < (C7 (X.at_ k) u).2)=true then(X.set k (C7 (X.at_ k) u).1).tell k Oi else X.set k (C7 (X.at_ k) u).1).HT by
    split
    ·exact hs.tell h0 h1 Oi
    ·exact hs),Io X k u⟩)
  (fun k z h0 h1=> .inr ⟨_,h.set h0 h1 ((h k h0 h1).G6 z),rfl⟩) (fun k h0 h1=> .inr ⟨_,h.steps (U:=fun _=>True) (Gr X h0 h1),rfl⟩) a
theorem Calm.act {H:AI}(h:H.Calm)(ho:H.HT)(a:Bz):(H.act a).1.Calm:=by
 unfold AI.act
 split
 ·exact h
 ·rcases TW H.begun ho.begun a with e | ⟨Y,hy,e⟩
  ·rw [e]
   intro k h0 h1
   rw [Hh h0 h1]
   exact fun hs=>(h k h0 h1 hs).heard
  ·rw [e]
   exact fun k h0 h1 hs=>TK hy h0 h1 hs
theorem Xo:AI.new.Home:=by
 have hb:∀ b:Int,2≤b→b≤5→(AI.new.w.AL.at b).here=true→False:=fun b b0 b1=>by
  have:b=2∨b=3∨b=4∨b=5:=by omega
  rcases this with e | e | e | e<;>subst e<;>decide
 have hs:∀ k,0≤k→k < 4→(AI.new.at_ k).state=2→False:=fun k h0 h1 e=>by
  rw [Ma h0 h1] at e
  exact absurd (show(0:Int)=2 from e) (by decide)
 exact⟨AH.Xm,Un,UO,fun k h0 h1 e=>(hs k h0 h1 e).elim,fun j k j0 j1 k0 k1 e=>(hs j j0 j1 e).elim,fun b b0 b1 e=>(hb b b0 b1 e).elim,fun b b0 b1 e=>(hb b b0 b1 e).elim,fun b c b0 b1 c0 c1 e=>(hb b b0 b1 e).elim⟩
theorem W5:AI.new.Zero:=fun k h0 h1 _=>Ma h0 h1
theorem Ww:AI.new.Calm:=fun k h0 h1 e=>absurd (by rw [Ma h0 h1];rfl) e
structure Ip (H:AI):Prop where
 home:H.Home
 zero:H.Zero
 calm:H.Calm
 live:H.Live
theorem Wp:AI.new.Ip:=⟨Xo,W5,Ww,LZ⟩
theorem Ip.act {H:AI}(h:H.Ip)(a:Bz):(H.act a).1.Ip:=⟨Home.B7.act h.home a,Zero.B7.act h.zero a,h.calm.act h.home.NY a,h.live.act a⟩
theorem Ip.run:∀(l:List Bz) {H:AI},H.Ip→(H.run l).1.Ip
 | [],_,h=>h
 | a :: r,_,h=>Ip.run r (h.act a)
theorem Ip.cut {H:AI}(h:H.Ip){k:Int}(h0:0≤k)(h1:k < 4):(H.at_ k).pg.cut=false:=by
 by_cases e:(H.at_ k).state=0
 ·rw [h.zero k h0 h1 e];rfl
 ·exact(h.calm k h0 h1 e).cut
end AI
section
variable {V:AM} {ls:Vector BJ 4} {ev:List Event} {k:Int}
variable (hF:(A5 V ls ev).Ip)
include hF
end
end Go.Ing
/- A pulse is one line of each seat: plain laws. -/
namespace Go.Ing
open Go
namespace AI
structure Pt (P:Aw→Prop):Prop where
 tell:∀ {s} (u:Ap),P s→P (s.tell u)
 BZ:∀ {s},P s→P s.BZ
 free:P default
 MB:∀ {s} (b:Int),s.state=1→P s→P { s with state:=2,Ay:=b }
section
variable {U:Ap→Prop} {P:Aw→Prop} (K:Pt P) {H X:AI}
include K
theorem Pt.fold:∀(es:List Event) {s:Aw},P s→P (es.foldl Aw.CT s)
 | [],_,h=>h
 | e :: r,s,h=>by
  refine Pt.fold r ?_
  unfold Aw.CT
  split
  ·exact K.tell _ h
  ·exact h
theorem Pt.En {s:Aw}(h:P s)(es:List Event):P (s.En es):=by
 unfold Aw.En
 split
 ·exact K.fold es h
 ·exact h
theorem Pt.step {j:Int}(j0:0≤j)(j1:j < 4)(h:P (H.at_ j))(s:Step U H X):P (X.at_ j):=by
 cases s with
 | told h0 h1 _ _=>
  unfold AI.tell
  rw [Cm _ h0 h1 j0];split
  ·rename_i q;subst q;exact K.tell _ h
  ·exact h
 | BZ h0 h1 _=>
  rw [Cm _ h0 h1 j0];split
  ·rename_i q;subst q;exact K.BZ h
  ·exact h
 | free h0 h1 _=>
  rw [Cm _ h0 h1 j0];split
  ·exact K.free
  ·exact h
 | @goes k w s es h0 h1 g=>
  rw [GS H h0 h1 _ _ _ j0 j1]
  refine K.En ?_ es
  split
  ·rename_i q
   subst q
   cases g with
   | left _ _=>exact K.free
   | MB hs _=>exact K.MB _ hs h
   | aR _ _ _ _=>exact h
   | round=>exact h
  ·exact h
theorem Pt.steps {j:Int}(j0:0≤j)(j1:j < 4)(h:P (H.at_ j))(s:Steps U H X):P (X.at_ j):=Steps.JO (P:=fun H=>P (H.at_ j)) (fun h s=>K.step j0 j1 h s) h s
end
theorem Yp {H:AI}{k:Int}(h0:0≤k)(h1:k < 4)(r:List Ap){j:Int}(j0:0≤j):(H.next k r).at_ j=if j=k then { H.at_ k with queue:=r }.FP else H.at_ j:=by
 unfold AI.next;rw [Cm _ h0 h1 j0]
end AI
def YW (a:Bz)(V:AM)(ls:Vector BJ 4)(W:Vector Int 4):Prop:=∀ j:Int,0≤j→j < 4→0≤W.at j∧W.at j≤1000000∧((V.Au.at j).state=0→(ls.at j).queue.length=0)∧((V.Au.at j).state≠0→(a.kind=5→((ls.at j).queue.length:Int)=max 0 (W.at j - 1))∧(a.kind≠5→W.at j≤((ls.at j).queue.length:Int)))
section
variable {a:Bz} {V:AM} {ls:Vector BJ 4} {W U:Vector Int 4} {j:Int} {n:Nat} (h:YW a V ls W) (j0:0≤j) (j1:j < 4) (hU:U.at j=W.at j) (hn:n=(ls.at j).queue.length)
include h j0 j1 hU hn
end
end Go.Ing
/- Whoever stays in a room perceives nothing of another one: plain laws. -/
namespace Go.Ing
open Go
namespace AE
theorem Xw {X Y:AH}{l:List Event}{c:Int}(h:WX c X l Y)(hr:(Y.AL.at c).room=(X.AL.at c).room)(hd:∀ e∈l,e.CU=c→e.kind≠1∧e.kind≠15∧e.kind≠17)(hg:¬ Td l c){e:Event}(he:e∈l)(ha:e.CU≠c)(hb:e.GZ.at c≠0):e.room=(Y.AL.at c).room:=by
 rcases h with ⟨y,hy,h1,h2⟩ | ⟨_,h2⟩
 ·obtain⟨d1,d2,d3⟩:=hd y hy h1
  rcases h2 with k | k | k | k
  ·exact absurd k d1
  ·exact absurd k d2
  ·exact absurd k d3
  ·exact absurd ⟨y,hy,k,h1⟩ hg
 ·rw [hr];exact h2 e he ha hb
end AE
namespace AI
structure Kc (i b:Int)(W:AH)(H:AI):Prop where
 home:H.Home
 stay:(H.at_ i).state=0∨((H.at_ i).state=2∧(H.at_ i).Ay=b∧AE.WX b W H.last H.w∧¬ AE.Td H.last b)
section
variable {i b:Int} {W:AH} {H X:AI}
theorem Kc.same (h:Kc i b W H)(hh:X.Home)(hw:X.w=H.w)(hl:X.last=H.last)(hs:(X.at_ i).state=0∨((X.at_ i).state=(H.at_ i).state∧(X.at_ i).Ay=(H.at_ i).Ay)):Kc i b W X:=by
 refine⟨hh,?_⟩
 rcases hs with hs | ⟨h1,h2⟩
 ·exact .inl hs
 ·rw [h1,h2,hw,hl];exact h.stay
theorem Kc.step (i0:0≤i)(i1:i < 4)(h:Kc i b W H)(s:Step (fun q=>q.length≤1000) H X):Kc i b W X:=by
 have hh:=Home.B7.step h.home s
 cases s with
 | @told k u h0 h1 _ _=>
  refine h.same hh rfl rfl (.inr ?_)
  unfold AI.tell
  rw [Cm _ h0 h1 i0];split
  ·rename_i q;subst q;exact⟨(Ez _ _).1,(Ez _ _).2.1⟩
  ·exact⟨rfl,rfl⟩
 | @BZ k h0 h1 _=>
  refine h.same hh rfl rfl (.inr ?_)
  rw [Cm _ h0 h1 i0];split
  ·rename_i q;subst q;exact⟨(GK _).2.1,(GK _).2.2.1⟩
  ·exact⟨rfl,rfl⟩
 | @free k h0 h1 _=>
  by_cases q:i=k
  ·exact h.same hh rfl rfl (.inl (by rw [Cm _ h0 h1 i0,if_pos q];rfl))
  ·exact h.same hh rfl rfl (.inr (by rw [Cm _ h0 h1 i0,if_neg q];exact⟨rfl,rfl⟩))
 | @goes k w s es h0 h1 g=>
  refine⟨hh,?_⟩
  have hkeep:=J8 H k w s es
  rw [GS H h0 h1 _ _ _ i0 i1,(Aw.El _ _).1,(Aw.El _ _).2,hkeep.1,hkeep.2.1]
  rcases h.stay with hz | ⟨e2,eb,hf,hg⟩
  ·split
   ·rename_i q
    subst q
    cases g with
    | left _ _=>exact .inl rfl
    | MB hs _=>omega
    | aR _ hn _ _=>exact absurd hz hn
    | round=>exact .inl hz
   ·exact .inl hz
  ·obtain⟨b2,b5,bh⟩:=h.home.me i i0 i1 e2
   rw [eb] at b2 b5 bh
   have go:AE.WX b H.w es w→¬ AE.Td es b→AE.WX b W (H.last++es) w∧¬ AE.Td (H.last++es) b:=fun a c=>⟨AE.Ps hf a,fun⟨y,hy,hk⟩=>(List.mem_append.1 hy).elim (fun hy=>hg ⟨y,hy,hk⟩) (fun hy=>c ⟨y,hy,hk⟩)⟩
   have bb:0≤b∧b < 6:=by omega
   cases g with
   | left hs _=>
    split
    ·exact .inl rfl
    ·rename_i q
     obtain⟨m2,m5,_⟩:=h.home.me k h0 h1 hs
     refine .inr ⟨e2,eb,go (AE.Jz (AE.Wh bb.1 bb.2 [] True (by omega) (by omega)) rfl (fun _=>trivial)) fun⟨y,hy,_,ha⟩=>q ?_⟩
     have:=AE.Jz (X:=H.w) (o:=EA) (AE.bG [] True (H.at_ k).Ay) rfl (fun _=>trivial) y hy
     exact h.home.one i k i0 i1 h0 h1 e2 hs (by rw [eb,← ha,this])
   | @MB _ u hs he=>
    have q:i≠k:=fun q=>by subst q;omega
    rw [if_neg q]
    refine .inr ⟨e2,eb,?_⟩
    rcases AE.Mq H.w u with ⟨hn,_⟩ | ⟨e,f2,f5,_⟩
    ·exact absurd he hn
    have hfo:=AE.Mg H.w 6 (Nat.le_refl 6) f2
    have e1:(AE.BR H.w u).2.2.1=(AE.GC H.w u (AE.CH H.w 6)).out:=by rw [e]
    have e3:(AE.BR H.w u).1=(AE.GC H.w u (AE.CH H.w 6)).w:=by rw [e]
    clear e he
    generalize AE.CH H.w 6=f at *
    have hbf:b≠f:=fun z=>by rw [z,hfo] at bh;cases bh
    have hfar:=AE.Sm (AE.ZW bb.1 bb.2) (X:=H.w) (s:=u) (b:=f) (by omega) (by omega)
    have hst:=AE.Sm AE.RT (X:=H.w) (s:=u) (b:=f) (by omega) (by omega)
    refine go ?_ fun⟨y,hy,hk,_⟩=>hst y (by rw [← e1];exact hy) hk
    rw [e1,e3]
    unfold AE.WX at hfar ⊢
    rw [show((H.w.Cw f (AE.Hx u)).AL.at b)=H.w.AL.at b from AH.Ew (by omega) (by omega) bb.1 hbf _] at hfar
    exact hfar
   | aR hq hn0 hn1 hv=>
    have hst:=(h.home.NY k h0 h1).st
    obtain⟨m2,m5,_⟩:=h.home.me k h0 h1 (by omega)
    have e1:(if i=k then H.at_ k else H.at_ i)=H.at_ i:=by
     split
     ·rename_i z;rw [z]
     ·rfl
    rw [e1]
    exact .inr ⟨e2,eb,go (AE.Jz (AE.Wh bb.1 bb.2 _ False (by omega) (by omega)) rfl (fun e=>hv e)) fun⟨y,hy,hk,_⟩=>AE.Jz (AE.RL _ _) rfl (fun e=>hv e) y hy hk⟩
   | round=>
    have e1:(if i=0 then H.at_ 0 else H.at_ i)=H.at_ i:=by
     split
     ·rename_i z;rw [z]
     ·rfl
    rw [e1]
    exact .inr ⟨e2,eb,go (AE.KJ (AE.ZW bb.1 bb.2) h.home.Ff.HA) fun⟨y,hy,hk,_⟩=>AE.KJ AE.RT h.home.Ff.HA y hy hk⟩
theorem Kc.from (i0:0≤i)(i1:i < 4){Z:AI}(h:Kc i b W Z)(h2:(Z.at_ i).state=2):OH (fun q=>q.length≤1000) Z (Kc i b W) where
 lines h h0 h1:=Home.B7.lines h.home h0 h1
 step h s:=h.step i0 i1 s
 next {H k q r} h h0 h1 hs e:=h.same (Home.B7.next h.home h0 h1 hs e) rfl rfl (.inr (by
  rw [Yp h0 h1 r i0];split
  ·rename_i q;subst q;exact⟨rfl,rfl⟩
  ·exact⟨rfl,rfl⟩))
 Jg {k} h0 h1 hz:=h.same (Home.B7.Jg h.home h0 h1 hz) rfl rfl (.inr (by
  rw [Cm _ h0 h1 i0,if_neg (fun q=>by subst q;omega)];exact⟨rfl,rfl⟩))
 byte {k u} h0 h1 hs:=h.same (Home.B7.byte h.home h0 h1 hs) rfl rfl (.inr (by
  rw [Cm _ h0 h1 i0];split
  ·rename_i q;subst q;exact⟨(EJ _ _).2.1,(EJ _ _).2.2.1⟩
  ·exact⟨rfl,rfl⟩))
 G6 {k n} h0 h1 hs:=h.same (Home.B7.G6 h.home h0 h1 hs) rfl rfl (.inr (by
  rw [Cm _ h0 h1 i0];split
  ·rename_i q;subst q;exact⟨rfl,rfl⟩
  ·exact⟨rfl,rfl⟩))
theorem Yx {H:AI}(h:H.Ip)(c:H.B7 < 400)(a:Bz)(i0:0≤i)(i1:i < 4)(h2:(H.at_ i).state=2)(hb:(H.at_ i).Ay=b)(h3:((H.act a).1.at_ i).state=2):AE.WX b H.w (H.act a).1.last (H.act a).1.w∧¬ AE.Td (H.act a).1.last b:=by
 rw [GA (decide_eq_false (by omega)) a] at h3 ⊢
 have hs:Kc i b H.w H.begun:=⟨Home.B7.begun h.home, .inr (by
  rw [Hh i0 i1,(Kz H).1,(Kz H).2.1]
  exact⟨h2,hb,AE.Ir fun _=>rfl,fun⟨_,hy,_⟩=>by cases hy⟩)⟩
 have:=OH.Dv (hs.from i0 i1 (by rw [Hh i0 i1];exact h2)) hs a
 rcases this.stay with z | ⟨_,_,q⟩
 ·omega
 ·exact q
def QB (H:AI)(j:Int):Int:=if 0≤(H.Co j).2 then(H.w.AL.at (H.Co j).2).room else -1
theorem MQ {H:AI}{j:Int}(h:H.Ip)(j0:0≤j)(j1:j < 4)(hb:0≤(H.Co j).2):(H.at_ j).state=2∧(H.at_ j).Ay=(H.Co j).2∧(H.Co j).2 < 6:=by
 unfold Co at hb ⊢
 split at hb
 ·rename_i c
  rw [if_pos c]
  have:=h.home.me j j0 j1 (of_decide_eq_true c)
  exact⟨of_decide_eq_true c,rfl,show(H.at_ j).Ay < 6 by omega⟩
 ·exact absurd (show(0:Int)≤-1 from hb) (by decide)
end
end AI
def G7 (l:List Event)(b:Int):Bool:=l.any fun e=>decide (e.CU=b) && (decide (e.kind=15) || decide (e.kind=1) || decide (e.kind=17))
theorem QH {l:List Event}{z k:Int}(h0:0≤k)(h1:k < l.length):G7 (l.drop k.toNat) z=(decide ((l.getD k.toNat default).CU=z) && (decide ((l.getD k.toNat default).kind=15) || decide ((l.getD k.toNat default).kind=1) || decide ((l.getD k.toNat default).kind=17)) || G7 (l.drop (k+1).toNat) z):=by
 have hk:k.toNat < l.length:=by omega
 rw [List.drop_eq_getElem_cons hk,show(k+1).toNat=k.toNat+1 by omega,List.getD_eq_getElem?_getD,List.getElem?_eq_getElem hk]
 rfl
theorem aC {l:List Event}{z k:Int}(h0:0≤k)(h1:k < l.length)(h:G7 l z=G7 (l.drop k.toNat) z)(c:(decide ((l.getD k.toNat default).CU=z) && (decide ((l.getD k.toNat default).kind=15) || decide ((l.getD k.toNat default).kind=1) || decide ((l.getD k.toNat default).kind=17)))=true):G7 l z=true:=by
 rw [h,QH h0 h1,c];rfl
theorem aa {l:List Event}{z k:Int}(h0:0≤k)(h1:k < l.length)(h:G7 l z=G7 (l.drop k.toNat) z)(c:(decide ((l.getD k.toNat default).CU=z) && (decide ((l.getD k.toNat default).kind=15) || decide ((l.getD k.toNat default).kind=1) || decide ((l.getD k.toNat default).kind=17)))=false):G7 l z=G7 (l.drop (k+1).toNat) z:=by
 rw [h,QH h0 h1,c];rfl
def Kb (V:AM)(j:Int):Int:=if 0≤(CQ (V.Au.at j)).2 then(V.w.AL.at (CQ (V.Au.at j)).2).room else -1
def Wm (V:AM)(ev:List Event)(T R:Vector Int 4):Prop:=∀ j:Int,0≤j→j < 4→(CQ (V.Au.at j)).2 < 6∧(0≤(CQ (V.Au.at j)).2→T.at j=(CQ (V.Au.at j)).2→R.at j=Kb V j→∀ e∈ev,e.room≠Kb V j→e.CU≠(CQ (V.Au.at j)).2→e.GZ.at (CQ (V.Au.at j)).2≠0→G7 ev (CQ (V.Au.at j)).2=true)
theorem Z4 {H:AI}(h:H.Ip)(c:H.B7 < 400){a:Bz}{V:AM}{ls:Vector BJ 4}{ev:List Event}(e:A5 V ls ev=(H.act a).1){T R:Vector Int 4}(hT:∀ j:Int,0≤j→j < 4→T.at j=(H.Co j).2∧(0≤T.at j→R.at j=H.QB j)):Wm V ev T R:=fun j j0 j1=>by
 have hst:=HD V ls ev j0 j1
 have hF:=h.act a
 rw [← e] at hF
 rw [hst]
 have hlt:((A5 V ls ev).Co j).2 < 6:=by
  by_cases q:0≤((A5 V ls ev).Co j).2
  ·exact(AI.MQ hF j0 j1 q).2.2
  ·omega
 refine⟨hlt,fun hb ht hr y hy h1 h2 h3=>?_⟩
 obtain⟨s1,s2,_⟩:=AI.MQ hF j0 j1 hb
 obtain⟨t1,t2⟩:=hT j j0 j1
 have hb0:0≤(H.Co j).2:=by rw [← t1,ht];exact hb
 obtain⟨p1,p2,_⟩:=AI.MQ h j0 j1 hb0
 have hbe:(H.at_ j).Ay=((A5 V ls ev).Co j).2:=by rw [p2,← t1,ht]
 have hf:=AI.Yx h c a j0 j1 p1 hbe (by rw [← e];exact s1)
 rw [← e] at hf
 cases hd:G7 ev ((A5 V ls ev).Co j).2 with
 | true=>rfl
 | false=>
  exfalso
  have hrm:Kb V j=(V.w.AL.at ((A5 V ls ev).Co j).2).room:=by unfold Kb;rw [hst,if_pos hb]
  have hr0:R.at j=(H.w.AL.at ((A5 V ls ev).Co j).2).room:=by
   rw [t2 (by rw [ht];exact hb)]
   unfold AI.QB
   rw [if_pos hb0,← p2,hbe]
  refine h1 ?_
  rw [hrm]
  refine AE.Xw (Y:=V.w) hf.1 ?_ (fun z hz ha=>?_) hf.2 hy h2 h3
  ·show(V.w.AL.at _).room=_
   rw [← hrm,← hr,hr0]
  ·unfold G7 at hd
   rw [List.any_eq_false] at hd
   have:=hd z hz
   simp [ha] at this
   omega
def LQ (f:Int→Int)(W U:Vector Int 4)(k:Int):Prop:=∀ j:Int,0≤j→j < 4→U.at j=if j < k then f j else W.at j
theorem LQ.start (f:Int→Int)(W:Vector Int 4):LQ f W W 0:=fun j j0 _=>by rw [if_neg (by omega)]
theorem LQ.next {f:Int→Int}{W U:Vector Int 4}{k:Int}(h:LQ f W U k)(k0:0≤k)(k1:k < 4){n:Int}(hn:n=f k):LQ f W (U.put k n) (k+1):=fun j j0 j1=>by
 rw [HX _ _ _ _ k0 k1 j0]
 split
 ·rename_i q;subst q;rw [if_pos (by omega)];exact hn
 ·rename_i q
  rw [h j j0 j1]
  by_cases c:j < k
  ·rw [if_pos c,if_pos (by omega)]
  ·rw [if_neg c,if_neg (by omega)]
theorem LQ.at {f:Int→Int}{W U:Vector Int 4}{k:Int}(h:LQ f W U k)(k0:0≤k)(k1:k < 4):U.at k=W.at k:=by rw [h k k0 k1,if_neg (by omega)]
theorem X3 {V:AM}{ls:Vector BJ 4}{ev:List Event}{T0 R0 T R:Vector Int 4}(hT:LQ (fun j=>(CQ (V.Au.at j)).2) T0 T 4)(hR:LQ (Kb V) R0 R 4):∀ j:Int,0≤j→j < 4→T.at j=((A5 V ls ev).Co j).2∧(0≤T.at j→R.at j=(A5 V ls ev).QB j):=fun j j0 j1=>by
 rw [hT j j0 j1,hR j j0 j1,if_pos j1,if_pos j1]
 refine⟨by dsimp only;rw [HD V ls ev j0 j1],fun _=>?_⟩
 unfold Kb AI.QB
 rw [HD V ls ev j0 j1]
 rfl
theorem ZL {T:Vector Int 4}{l:List Bz}(hT:∀ j:Int,0≤j→j < 4→T.at j=-1):∀ j:Int,0≤j→j < 4→T.at j=((AI.new.run (l.take (0:Int).toNat)).1.Co j).2∧(0≤T.at j→(Vector.replicate 4 (default:Int)).at j=AI.QB (AI.new.run (l.take (0:Int).toNat)).1 j):=fun j j0 j1=>by
 refine⟨?_,fun h=>by rw [hT j j0 j1] at h;exact absurd h (by decide)⟩
 rw [hT j j0 j1]
 show(-1:Int)=(AI.new.Co j).2
 unfold AI.Co
 rw [AI.Ma j0 j1]
 rcases four j0 j1 with e | e | e | e<;>subst e<;>rfl
theorem Wv {V:AM}{ev:List Event}{T R T1 R1:Vector Int 4}{k rm:Int}(k0:0≤k)(k1:k < 4)(hO:Wm V ev T R)(hrm:rm=Kb V k)(hT:T1.at k=T.at k)(hR:R1.at k=R.at k)(h3:(decide (0≤(CQ (V.Au.at k)).2) && decide (T1.at k=(CQ (V.Au.at k)).2) && decide (R1.at k=rm))=true)
  {e:Event} (he:e∈ev) (hc:(!decide (e.room=rm) && !decide (e.CU=(CQ (V.Au.at k)).2) && !decide (e.GZ.at (CQ (V.Au.at k)).2=0))=true):(!G7 ev (CQ (V.Au.at k)).2)=false:=by
 simp only [Bool.and_eq_true,Bool.not_eq_true',decide_eq_true_eq,decide_eq_false_iff_not] at h3 hc
 obtain⟨⟨a1,a2⟩,a3⟩:=h3
 obtain⟨⟨c1,c2⟩,c3⟩:=hc
 rw [(hO k k0 k1).2 a1 (hT.symm.trans a2) (hR.symm.trans (a3.trans hrm)) e he (by rw [← hrm];exact c1) c2 c3]
 rfl
end Go.Ing

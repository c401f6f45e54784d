/- What the functions that the law of this seat reaches compute, and the plain laws of it. No condition. -/
import Derived.Test.YtoidpggbbfncpaaGreatDoorTopTranscriptEc3
import Derived.Test.YtoidpggbbfncpaaGreatDoorTopTranscriptRa1
import Derived.Test.YtoidpggbbfncpaaGreatDoorTopTranscriptRb1
import Derived.Lib.IndexMore
import Derived.Shelf.Strings.Cut
import Derived.Shelf.Vars
set_option linter.unusedSimpArgs false
set_option linter.unusedVariables false
/- Who is far perceives nothing: plain laws. -/
namespace Go.Ing
open Go
namespace AH
theorem Hq (w:AH)(e:Event):∀ n:Nat,(w.Gj e n).kind=e.kind∧(w.Gj e n).DW=e.DW∧(w.Gj e n).room=e.room∧(w.Gj e n).other=e.other∧(w.Gj e n).n=e.n∧(w.Gj e n).G9=e.G9∧(w.Gj e n).ED=e.ED∧(w.Gj e n).BM=e.BM∧(w.Gj e n).text=e.text
 | 0=>⟨rfl,rfl,rfl,rfl,rfl,rfl,rfl,rfl,rfl⟩
 | k+1=>Hq w e k
end AH
namespace AE
section
variable {b c rc:Int} {S:Int→Prop} {T:AE}
section
variable (c0:0≤c) (c6:c < 6) (hn:c≠b)
include c0 c6 hn
end
end
end AE
end Go.Ing
/- What others are told is not empty: plain laws. -/
namespace Go.Ing
open Go
namespace AH
end AH
theorem RT {α:Type}{d:α}{xs:List α}{i:Nat}(h:i < xs.length):xs.getD i d∈xs:=by
 rw [List.getD_eq_getElem?_getD,List.getElem?_eq_getElem h]
 exact List.getElem_mem h
namespace AE
theorem No:∀(l:List Int) (T:AE),(T.DR l).out.length=T.out.length+l.length
 | [],T=>rfl
 | i :: r,T=>by rw [DR,No r,F2];show T.out.length+1+r.length=_;rw [List.length_cons];omega
theorem Oy (v to:Int):∀(l:List Int) (T:AE),(T.Ez v to l).out.length≤T.out.length+l.length
 | [],T=>Nat.le_refl _
 | i :: r,T=>by
  have h1:=Oy v to r (T.Cz v to i)
  have h2:=T.PL v to i
  rw [Ez,List.length_cons];omega
theorem Tk (T:AE){l:List Int}(hl:l.length≤9)(o:Order):(T.LM l o).out.length≤T.out.length+10:=by
 have h:=(El T.w l o.nth o.name o.Bq).length_le
 unfold LM
 rw [No]
 split
 ·rw [CM];omega
 ·omega
theorem bj (T:AE)(o:Order):(T.get o).out.length≤T.out.length+11:=by
 have hb:=T.Iq o.second
 unfold get
 split
 ·split
  ·omega
  ·have:=Tk (T.box o.second).1 (AH.Iw (T.box o.second).1.w 2 (T.box o.second).2.1) o
   omega
 ·have:=Tk T T.JS o
  omega
theorem Yc (T:AE)(o:Order):(T.FV o).out.length≤T.out.length+11:=by
 have hb:=T.RG o
 unfold FV
 split
 ·omega
 ·unfold TB
  have h:=(El (T.C0 o).1.w (T.C0 o).1.own o.nth o.name o.Bq).length_le
  have h9:=(T.C0 o).1.K6
  refine Nat.le_trans (Oy _ _ _ _) ?_
  split
  ·rw [CM];omega
  ·omega
theorem Xu (T:AE)(o:Order):(T.FK o).out.length≤T.out.length+2:=by
 unfold FK
 generalize (if (!decide (o.nth=1) || o.Bq)=true then [] else o.name)=nm
 have hs:=T.Hj nm
 split
 ·omega
 ·refine Nat.le_trans (Nat.le_of_eq (CM _ _)) ?_
  split
  ·show(T.A9 nm).1.out.length+1≤_;omega
  ·show(T.A9 nm).1.out.length+1≤_;omega
theorem Oh (T:AE)(first:Bool)(i:Int)(v:Bool)(k:Int):(T.before first i v k).out.length=T.out.length+1:=by
 unfold before
 split
 ·rw [F2];rfl
 ·exact F2 T k i
theorem cg (T:AE)(o:Order):(T.set o).out.length≤T.out.length+1:=by
 unfold set
 split
 ·unfold Gv
  split
  ·rw [CM];exact Nat.le_refl _
  ·split
   ·rw [CM];exact Nat.le_refl _
   ·refine Nat.le_trans (Nat.le_of_eq (Cn _ _)) ?_
    split<;>exact Nat.le_refl _
 ·split
  ·rw [CM];exact Nat.le_refl _
  ·split
   ·rw [CM];exact Nat.le_refl _
   ·split
    ·exact Nat.le_of_eq (Oh T _ _ _ _)
    ·exact Nat.le_of_eq (Oh T _ _ _ _)
theorem Yp (T:AE)(d:Int):(T.walk d).out.length≤T.out.length+11:=by
 unfold walk
 split
 ·rw [CM];omega
 ·split
  ·rw [CM];omega
  ·refine Nat.le_trans (KR _).2.2 ?_
   rw [Cn]
   show(T.out ++ [_]).length+1+9≤_
   simp
theorem WT (T:AE)(o:Order):(T.act o).out.length≤T.out.length+11:=by
 unfold act
 split
 ·exact T.Yp _
 ·split
  ·exact Nat.le_trans (T.KR).2.2 (by omega)
  ·split
   ·rw [(T.H2 _ _).2.2];omega
   ·split
    ·rw [Cn];omega
    ·split
     ·rw [(T.PV).2.1,Mv];omega
     ·split
      ·exact Nat.le_trans (T.Xu o) (by omega)
      ·split
       ·exact T.bj o
       ·split
        ·exact T.Yc o
        ·exact Nat.le_trans (T.cg o) (by omega)
theorem Y3.len {X:AH}{b:Int}{o:Order}(h:Y3 X b o):(EJ X b o).2.1.length≤11:=by rw [h.out];exact WT ⟨X,b,[]⟩ o
end AE
end Go.Ing
/- A round of all fights: plain functions and laws. -/
namespace Go.Ing
open Go
theorem C2 (d:Int):-2≤d.tmod 3∧d.tmod 3≤2:=by
 have h1:=Int.tmod_lt_of_pos d (show(0:Int) < 3 by decide)
 have h2:=Int.tmod_lt_of_pos (-d) (show(0:Int) < 3 by decide)
 rw [Int.neg_tmod] at h2
 omega
namespace AE
def Fh (w:AH)(b:Int):AE:=⟨w.C1 b { w.AO.at b with BP:=1 },b,[]⟩
def GZ (w:AH)(b:Int):AE:=((Fh w b).kind 15).FQ
def Je (w:AH)(b:Int):AE:=(GZ w b).Dg b { (GZ w b).w.AO.at b with room:=0,BP:=10 }
def IT (w:AH)(b:Int):AE:=if decide (b < 2)=true then(GZ w b).Dg b default else((Je w b).kind 17).look
def hit (draw b:Int):Int:=1+(draw.tmod 3+3+b).tmod 3
def CE (w:AH)(b B7 n:Int):AE:=(AE.BV ⟨w,b,[]⟩ { GF 14 with other:=B7,n:=n }).Dg B7 { w.AO.at B7 with BP:=max 0 ((w.AO.at B7).BP - n) }
def Eb (draw b:Int)(s:AH × List Event):AH × List Event:=
 if (!(s.1.AO.at b).here || decide ((s.1.AO.at b).B7=0))=true then s
 else if (!(s.1.AO.at ((s.1.AO.at b).B7 - 1)).here || !decide ((s.1.AO.at ((s.1.AO.at b).B7 - 1)).room=(s.1.AO.at b).room))=true then(s.1.C1 b { s.1.AO.at b with B7:=0 },s.2)
 else if decide (((CE s.1 b ((s.1.AO.at b).B7 - 1) (hit draw b)).w.AO.at ((s.1.AO.at b).B7 - 1)).BP=0)=true then((IT (CE s.1 b ((s.1.AO.at b).B7 - 1) (hit draw b)).w ((s.1.AO.at b).B7 - 1)).w,(s.2++(CE s.1 b ((s.1.AO.at b).B7 - 1) (hit draw b)).out)++(IT (CE s.1 b ((s.1.AO.at b).B7 - 1) (hit draw b)).w ((s.1.AO.at b).B7 - 1)).out)
 else((CE s.1 b ((s.1.AO.at b).B7 - 1) (hit draw b)).w,s.2++(CE s.1 b ((s.1.AO.at b).B7 - 1) (hit draw b)).out)
def Dp (X:AH)(draw:Int):Nat→AH × List Event
 | 0=>(X,[])
 | k+1=>Eb draw k (Dp X draw k)
def CU (X:AH)(draw:Int):AH × List Event × Int:=if (!X.Bk)=true then(X,[],2) else((Dp X draw 6).1,(Dp X draw 6).2,0)
theorem Ie {X:AH}{draw k:Int}(h:0≤k):Dp X draw (k+1).toNat=Eb draw k (Dp X draw k.toNat):=by
 obtain⟨m,rfl⟩:=Int.eq_ofNat_of_zero_le h
 rfl
theorem Ma {draw b:Int}(h:0≤b):1≤hit draw b∧hit draw b≤3:=by
 unfold hit
 have:=C2 draw
 have h2:0≤draw.tmod 3+3+b:=by omega
 have h3:=Int.tmod_nonneg (a:=draw.tmod 3+3+b) 3 h2
 have h4:=Int.tmod_lt_of_pos (draw.tmod 3+3+b) (show(0:Int) < 3 by decide)
 omega
structure bd (x:Am):Prop where
 room:0≤x.room∧x.room < 6
 BP:0≤x.BP∧x.BP≤10
 B7:0≤x.B7∧x.B7≤6
 off:x.here=false→x.B7=0
 alive:x.here=decide (0 < x.BP)
theorem iM {x:Am}(h:AH.Dw x=false):bd x:=by
 simp only [AH.Dw,Bool.or_eq_false_iff,decide_eq_false_iff_not,Bool.and_eq_false_iff,Bool.not_eq_false',bne_eq_false_iff_eq] at h
 obtain⟨⟨⟨⟨⟨⟨⟨q1,q2⟩,q3⟩,q4⟩,q5⟩,q6⟩,q7⟩,q8⟩:=h
 refine⟨by omega,by omega,by omega,fun e=>?_,q8⟩
 rcases q7 with q | q
 ·rw [e] at q;cases q
 ·exact of_decide_eq_true q
theorem gK {x:Am}(h:bd x):AH.Dw x=false:=by
 have h1:=h.room;have h2:=h.BP;have h3:=h.B7
 simp only [AH.Dw,Bool.or_eq_false_iff,decide_eq_false_iff_not,Bool.and_eq_false_iff,Bool.not_eq_false',bne_eq_false_iff_eq]
 refine⟨⟨⟨⟨⟨⟨⟨by omega,by omega⟩,by omega⟩,by omega⟩,by omega⟩,by omega⟩,?_⟩,h.alive⟩
 cases hh:x.here with
 | true=>exact .inl rfl
 | false=>exact .inr (decide_eq_true (h.off hh))
theorem Hk {X:AH}(h:X.Bk=true){b:Int}(h0:0≤b)(h6:b < 6):bd (X.AO.at b):=iM (AH.Fq h h0 h6)
theorem Ks {X:AH}(h:X.Bk=true){b:Int}(h0:0≤b)(h6:b < 6){x:Am}(hx:bd x)(hh:(X.AO.at b).here=true→x.here=true):(X.C1 b x).Bk=true:=
 AH.JB h h0 h6 (gK hx) fun i i0 i9 e1 e2=>by
  rcases (AH.IE h i0 i9).Cg with ⟨a,_⟩ | ⟨_,_,a⟩ | ⟨a,_⟩
  ·omega
  ·rw [e2] at a;exact hh a
  ·omega
theorem YW (X:AH)(b:Int)(x y:Am):(X.C1 b x).C1 b y=X.C1 b y:=by
 unfold AH.C1
 show({ X with AO:=(X.AO.put b x).put b y }:AH)=_
 rw [Vector.EO]
section
variable {w:AH} {b B7 n:Int} (hg:w.Bk=true) (hw:w.DV) (f0:0≤B7) (f6:B7 < 6) (hh:(w.AO.at B7).here=true)
include hg hw f0 f6 hh
theorem L0:(Fh (CE w b B7 n).w B7).Fit:=by
 have e:(CE w b B7 n).w.C1 B7 { (CE w b B7 n).w.AO.at B7 with BP:=1 }=w.C1 B7 { w.AO.at B7 with BP:=1 }:=by
  show(w.C1 B7 _).C1 B7 { (w.C1 B7 _).AO.at B7 with BP:=1 }=_
  rw [YW,AH.Ec f0 f6]
 have k:=Hk hg f0 f6
 refine⟨⟨f0,f6⟩,?_,?_,?_⟩
 ·show((CE w b B7 n).w.C1 B7 _).DV
  rw [e];exact E0 hw (hw.be B7)
 ·show((CE w b B7 n).w.C1 B7 _).Bk=true
  rw [e]
  exact Ks hg f0 f6 ⟨k.room,⟨show(0:Int)≤1 by decide,show(1:Int)≤10 by decide⟩,k.B7,k.off,by rw [show({ w.AO.at B7 with BP:=1 }:Am).here=true from hh];rfl⟩ fun _=>hh
 ·show(((CE w b B7 n).w.C1 B7 _).AO.at B7).here=true
  rw [e,AH.Ec f0 f6];exact hh
theorem UH (hn:0 < (w.AO.at B7).BP - n)(h1:0≤n):(CE w b B7 n).w.Bk=true∧(CE w b B7 n).w.DV:=by
 have k:=Hk hg f0 f6
 have hk:=k.BP
 refine⟨Ks hg f0 f6 ⟨k.room,⟨?_,?_⟩,k.B7,k.off,?_⟩ fun _=>hh,E0 hw (hw.be B7)⟩
 ·show 0≤max 0 ((w.AO.at B7).BP - n);omega
 ·show max 0 ((w.AO.at B7).BP - n)≤10;omega
 ·show(w.AO.at B7).here=decide (0 < max 0 ((w.AO.at B7).BP - n))
  rw [hh,decide_eq_true (by omega)]
end
theorem Kd (w:AH)(b:Int):(GZ w b).b=b∧(GZ w b).out=((Fh w b).kind 15).out:=Rt ((Fh w b).kind 15)
theorem SF (w:AH)(b:Int):(Je w b).b=b∧(Je w b).out=((Fh w b).kind 15).out∧(Je w b).w=(GZ w b).w.C1 b { (GZ w b).w.AO.at b with room:=0,BP:=10 }:=by
 have h:=Kd w b
 unfold Je
 rw [(DL _ _ _).1,(DL _ _ _).2.1,(DL _ _ _).2.2]
 exact⟨h.1,h.2,rfl⟩
theorem cA (D:AH){b:Int}(hb:0≤b∧b < 6):({ D with AO:=(D.AO.put b { D.AO.at b with room:=0 }).put b { (D.AO.put b { D.AO.at b with room:=0 }).at b with BP:=10 } }:AH)=D.C1 b { D.AO.at b with room:=0,BP:=10 }:=by
 rw [Vector.CA hb.1 hb.2,Vector.EO];rfl
theorem Wm {X F:AH}{b:Int}(h:F=((Fh X b).kind 15).FQ.w)(x:Am):(GZ X b).Dg b x=⟨F.C1 b x,b,((Fh X b).kind 15).out⟩:=by
 subst h
 have e:=Kd X b
 have h1:=DL (GZ X b) b x
 cases hT:(GZ X b).Dg b x with
 | mk w' b' o'=>
  rw [hT] at h1
  obtain⟨q1,q2,q3⟩:=h1
  simp only at q1 q2 q3
  rw [q1,q2,q3,e.1,e.2]
  rfl
theorem bo {X F:AH}{b:Int}(h:F=((Fh X b).kind 15).FQ.w):Je X b=⟨F.C1 b { F.AO.at b with room:=0,BP:=10 },b,((Fh X b).kind 15).out⟩:=by
 have h':(GZ X b).w=F:=h.symm
 unfold Je
 rw [h',Wm h]
theorem SX {w:AH}{b:Int}(h:(Fh w b).Fit):DN (Fh w b) (GZ w b)∧∀ j,0≤j→j < 9→¬ (((GZ w b).w.AP.at j).Cg=1∧((GZ w b).w.AP.at j).at_=b):=by
 have g1:DN (Fh w b) ((Fh w b).kind 15):=h.goes.Ew rfl rfl
 obtain⟨g2,k⟩:=Q9 g1.fit
 exact⟨g1.trans g2,k⟩
theorem Tq {w:AH}{b:Int}(h:(Fh w b).Fit):(Je w b).Fit:=by
 have g:=(SX h).1.fit
 have hb:0≤b∧b < 6:=h.b
 have e:=SF w b
 have eb:=(Kd w b).1
 have gb:=g.b
 have gh:=g.here
 rw [eb] at gb gh
 have k:=Hk g.gd hb.1 hb.2
 have gbr:=g.br
 have ggd:=g.gd
 obtain⟨e1,_,e3⟩:=e
 generalize hD:(GZ w b).w=D at *
 have hx:(D.C1 b { D.AO.at b with room:=0,BP:=10 }).Bk=true:=Ks ggd hb.1 hb.2 ⟨⟨Int.le_refl _,show(0:Int) < 6 by decide⟩,⟨show(0:Int)≤10 by decide,show(10:Int)≤10 by decide⟩,k.B7,k.off,gh⟩ fun _=>gh
 have hy:(D.C1 b { D.AO.at b with room:=0,BP:=10 }).DV:=E0 gbr (gbr.be b)
 have hz:((D.C1 b { D.AO.at b with room:=0,BP:=10 }).AO.at b).here=true:=by rw [AH.Ec hb.1 hb.2];exact gh
 exact⟨by rw [e1];exact hb,by rw [e3];exact hy,by rw [e3];exact hx,by rw [e1,e3];exact hz⟩
theorem RA {w:AH}{b:Int}(h:(Fh w b).Fit):(IT w b).w.Bk=true∧(IT w b).w.DV∧(IT w b).out.length≤12:=by
 have hb:0≤b∧b < 6:=h.b
 obtain⟨g,hk⟩:=SX h
 unfold IT
 split
 ·rw [(DL _ _ _).2.1,(DL _ _ _).2.2]
  refine⟨AH.JB (X:=(GZ w b).w) g.fit.gd hb.1 hb.2 (by decide) fun i i0 i9 e1 e2=>absurd ⟨e1,e2⟩ (hk i i0 i9),E0 (X:=(GZ w b).w) g.fit.br (by decide),?_⟩
  rw [(Kd w b).2,Mv]
  exact(by decide:(0:Nat)+1≤12)
 ·have f:=Tq h
  have hl:=KR ((Je w b).kind 17)
  refine⟨by rw [hl.1];exact f.gd,by rw [hl.1];exact f.br,?_⟩
  have h2:=hl.2.2
  rw [Mv,(SF w b).2.1,Mv] at h2
  exact Nat.le_trans h2 (by decide:(0:Nat)+1+1+9≤12)
theorem Fy {s:AH × List Event}{draw b:Int}(hg:s.1.Bk=true)(hw:s.1.DV)(h0:0≤b)(h6:b < 6):(Eb draw b s).1.Bk=true∧(Eb draw b s).1.DV∧(Eb draw b s).2.length≤s.2.length+13:=by
 have kb:=Hk hg h0 h6
 have hn:=Ma (draw:=draw) h0
 unfold Eb
 split
 ·exact⟨hg,hw,by omega⟩
 ·rename_i h1
  simp only [Bool.or_eq_true,Bool.not_eq_true',decide_eq_true_eq,not_or,Bool.not_eq_false] at h1
  have kf:=kb.B7
  split
  ·exact⟨Ks hg h0 h6 ⟨kb.room,kb.BP,⟨Int.le_refl _,show(0:Int)≤6 by decide⟩,fun _=>rfl,kb.alive⟩ fun h=>h,E0 hw (hw.be b),Nat.le_add_right _ _⟩
  ·rename_i h2
   simp only [Bool.or_eq_true,Bool.not_eq_true',decide_eq_false_iff_not,not_or,Bool.not_eq_false,Decidable.not_not] at h2
   have hf:=L0 (b:=b) (n:=hit draw b) hg hw (B7:=(s.1.AO.at b).B7 - 1) (by omega) (by omega) h2.1
   have hso:(CE s.1 b ((s.1.AO.at b).B7 - 1) (hit draw b)).out.length=1:=rfl
   split
   ·obtain⟨d1,d2,d3⟩:=RA hf
    refine⟨d1,d2,?_⟩
    show((s.2++_)++_).length≤_
    rw [List.length_append,List.length_append,hso];omega
   ·rename_i h3
    have h3':¬ ((CE s.1 b ((s.1.AO.at b).B7 - 1) (hit draw b)).w.AO.at ((s.1.AO.at b).B7 - 1)).BP=0:=fun e=>h3 (decide_eq_true e)
    have e:((CE s.1 b ((s.1.AO.at b).B7 - 1) (hit draw b)).w.AO.at ((s.1.AO.at b).B7 - 1))={ s.1.AO.at ((s.1.AO.at b).B7 - 1) with BP:=max 0 ((s.1.AO.at ((s.1.AO.at b).B7 - 1)).BP - hit draw b) }:=Vector.CA (by omega) (by omega)
    rw [e] at h3'
    have h3'':¬ max 0 ((s.1.AO.at ((s.1.AO.at b).B7 - 1)).BP - hit draw b)=0:=h3'
    obtain⟨d1,d2⟩:=UH (b:=b) (n:=hit draw b) hg hw (B7:=(s.1.AO.at b).B7 - 1) (by omega) (by omega) h2.1 (by omega) (by omega)
    refine⟨d1,d2,?_⟩
    show(s.2++_).length≤_
    rw [List.length_append,hso];omega
end AE
end Go.Ing
/- What a round takes: plain laws. -/
namespace Go.Ing
open Go
namespace AE
def Rc (v:Vector Int 6)(e:Event):Vector Int 6:=if decide (e.kind=14)=true then v.put e.other (v.at e.other+e.n) else v
def Rg (v:Vector Bool 6)(e:Event):Vector Bool 6:=if decide (e.kind=15)=true then v.put e.DW true else v
def ET (l:List Event):Vector Int 6:=l.foldl Rc (Vector.replicate 6 default)
def Fv (l:List Event):Vector Bool 6:=l.foldl Rg (Vector.replicate 6 default)
theorem Pj (l:List Event)(e:Event):ET (l ++ [e])=Rc (ET l) e:=by simp [ET]
theorem Oq (l:List Event)(e:Event):Fv (l ++ [e])=Rg (Fv l) e:=by simp [Fv]
def Quiet (q:List Event):Prop:=∀ e∈q,e.kind≠14∧e.kind≠15
theorem Og:∀ {q:List Event} (v:Vector Int 6) (u:Vector Bool 6),Quiet q→q.foldl Rc v=v∧q.foldl Rg u=u
 | [],_,_,_=>⟨rfl,rfl⟩
 | e :: r,v,u,h=>by
  have he:=h e (List.mem_cons_self ..)
  have hr:Quiet r:=fun x hx=>h x (List.mem_cons_of_mem _ hx)
  rw [List.foldl_cons,List.foldl_cons,Rc,if_neg (by simp [he.1]),Rg,if_neg (by simp [he.2])]
  exact Og v u hr
theorem S3 {l q:List Event}(h:Quiet q):ET (l++q)=ET l∧Fv (l++q)=Fv l:=by
 unfold ET Fv
 rw [List.foldl_append,List.foldl_append]
 exact Og _ _ h
theorem Ij (T:AE)(e:Event):∃ x:Event,(T.BV e).out=T.out ++ [x]∧x.kind=e.kind∧x.DW=T.b∧x.other=e.other∧x.n=e.n:=by
 obtain⟨a1,a2,_,a4,a5,_⟩:=AH.Hq T.w (T.Cf e) 6
 have e2:(T.Cf e).kind=e.kind∧(T.Cf e).DW=T.b∧(T.Cf e).other=e.other∧(T.Cf e).n=e.n:=by
  unfold Cf
  split<;>exact⟨rfl,rfl,rfl,rfl⟩
 exact⟨_,rfl,a1.trans e2.1,a2.trans e2.2.1,a4.trans e2.2.2.1,a5.trans e2.2.2.2⟩
def N9 (T T':AE):Prop:=∃ q,T'.out=T.out++q∧∀ e∈q,e.kind=16
theorem N9.refl (T:AE):N9 T T:=⟨[],by simp,fun _ h=>by cases h⟩
theorem N9.tell {T T':AE}(h:N9 T T')(s:Ad):N9 T (T'.tell s):=by
 obtain⟨q,e,k⟩:=h
 obtain⟨x,e2,k2,_⟩:=Ij T' { GF 16 with text:=s }
 refine⟨q ++ [x],?_,fun y hy=>?_⟩
 ·show(T'.BV _).out=_
  rw [e2,e,List.append_assoc]
 ·rcases List.mem_append.1 hy with hy | hy
  ·exact k y hy
  ·have:y=x:=by simpa using hy
   rw [this];exact k2
theorem N9.look {T T':AE}(h:N9 T T'):N9 T T'.look:=by
 have hk:∀ {T'':AE},N9 T T''→∀ k:Nat,N9 T (T''.F0 k):=fun {T''} h' k=>by
  induction k with
  | zero=>exact h'
  | succ k ih=>
   unfold F0
   split
   ·exact ih.tell _
   ·exact ih
 unfold AE.look
 split
 ·exact h.tell _
 ·refine hk ?_ 6
  have ha:N9 T T'.KG:=(h.tell _).tell _
  unfold ES
  split
  ·exact ha.tell _
  ·exact ha
/-! #### who is struck, who dies -/
def calm (b:Int)(x:Am):Am:={ x with B7:=if x.B7=b+1 then 0 else x.B7 }
theorem Ym {b:Int}{x:Am}(h:x.B7=b+1):calm b x={ x with B7:=0 }:=by unfold calm;rw [if_pos h]
theorem ae {b:Int}{x:Am}(h:¬ x.B7=b+1):calm b x=x:=by unfold calm;rw [if_neg h]
theorem Tz (T:AE)(hb:0≤T.b):∀ k:Nat,k≤6→∀ c:Int,0≤c→c < 6→(T.Dj k).w.AO.at c=if c < (k:Int) then calm T.b (T.w.AO.at c) else T.w.AO.at c
 | 0,_,c,c0,_=>by rw [if_neg (by omega)];rfl
 | k+1,hk,c,c0,c6=>by
  have ih:=Tz T hb k (by omega)
  have ihk:=ih k (by omega) (by omega)
  rw [if_neg (by omega)] at ihk
  have ihc:=ih c c0 c6
  unfold Dj
  rw [ihk]
  by_cases e:(T.w.AO.at (k:Int)).B7=T.b+1
  ·rw [if_pos (decide_eq_true e)]
   show(((T.Dj k).w.AO.put (k:Int) { (T.Dj k).w.AO.at (k:Int) with B7:=0 }).at c)=_
   rw [H3 _ _ _ _ (by omega) (by omega) c0]
   by_cases ec:c=(k:Int)
   ·subst ec
    rw [if_pos rfl,if_pos (by omega),ihk,Ym e]
   ·rw [if_neg ec,ihc]
    by_cases hl:c < (k:Int)
    ·rw [if_pos hl,if_pos (by omega)]
    ·rw [if_neg hl,if_neg (by omega)]
  ·rw [if_neg (by simpa using e),ihc]
   by_cases hl:c < (k:Int)
   ·rw [if_pos hl,if_pos (by omega)]
   ·rw [if_neg hl]
    by_cases ec:c=(k:Int)
    ·subst ec
     rw [if_pos (by omega),ae e]
    ·rw [if_neg (by omega)]
theorem Ov:∀(l:List Int) (T:AE),(T.Cj l).w.AO=T.w.AO
 | [],_=>rfl
 | i :: r,T=>(Ov r (T.FH i)).trans rfl
theorem cw (T:AE)(hb:0≤T.b∧T.b < 6){c:Int}(c0:0≤c)(c6:c < 6):T.FQ.w.AO.at c=if c=T.b then { T.w.AO.at c with B7:=0 } else calm T.b (T.w.AO.at c):=by
 have hd:=Ov T.own T
 have hdb:=(JT T.own T).1
 have hk:=Tz (T.Cj T.own) (by rw [hdb];exact hb.1) 6 (Nat.le_refl _)
 rw [hd,hdb] at hk
 rw [Mo]
 generalize (T.Cj T.own).Dj 6=D at *
 show(D.w.AO.put T.b { D.w.AO.at T.b with B7:=0 }).at c=_
 rw [H3 _ _ _ _ hb.1 hb.2 c0]
 have hc:=hk c c0 c6
 rw [if_pos (by omega)] at hc
 by_cases e:c=T.b
 ·rw [if_pos e,if_pos e,← e,hc];rfl
 ·rw [if_neg e,if_neg e,hc]
structure gS (w w':AH)(f:Int):Prop where
 iT:∀ c,0≤c→c < 6→c≠f→(w'.AO.at c).BP=(w.AO.at c).BP∧(w'.AO.at c).room=(w.AO.at c).room∧(w'.AO.at c).here=(w.AO.at c).here∧((w'.AO.at c).B7=(w.AO.at c).B7∨(w'.AO.at c).B7=0)∧(w'.AO.at c).B7≠f+1
 here:(w'.AO.at f).here=decide (2≤f)
 B7:(w'.AO.at f).B7=0
theorem Wx {w:AH}{f c:Int}(hf:0≤f∧f < 6)(c0:0≤c)(c6:c < 6):(GZ w f).w.AO.at c=if c=f then { (Fh w f).w.AO.at c with B7:=0 } else calm f ((Fh w f).w.AO.at c):=cw ((Fh w f).kind 15) hf c0 c6
theorem Zq {w:AH}{f c:Int}(hf:0≤f∧f < 6)(c0:0≤c)(c6:c < 6)(hn:c≠f):(GZ w f).w.AO.at c=calm f (w.AO.at c):=by
 have h0:(Fh w f).w.AO.at c=w.AO.at c:=AH.G5 hf.1 hf.2 c0 hn _
 rw [Wx hf c0 c6,h0,if_neg hn]
theorem bh (f:Int)(hf:0≤f)(x:Am):(calm f x).BP=x.BP∧(calm f x).room=x.room∧(calm f x).here=x.here∧((calm f x).B7=x.B7∨(calm f x).B7=0)∧(calm f x).B7≠f+1:=by
 by_cases e:x.B7=f+1
 ·rw [Ym e]
  refine⟨rfl,rfl,rfl, .inr rfl,?_⟩
  show(0:Int)≠f+1
  omega
 ·rw [ae e]
  exact⟨rfl,rfl,rfl, .inl rfl,e⟩
theorem V8 {w w1 w':AH}{f:Int}(hf:0≤f∧f < 6)(ho:∀ c,0≤c→c < 6→c≠f→w1.AO.at c=calm f (w.AO.at c))(he:∀ c,0≤c→c < 6→c≠f→w'.AO.at c=w1.AO.at c)(h1:(w'.AO.at f).here=decide (2≤f))(h2:(w'.AO.at f).B7=0):gS w w' f:=by
 refine⟨fun c c0 c6 hn=>?_,h1,h2⟩
 rw [he c c0 c6 hn,ho c c0 c6 hn]
 exact bh f hf.1 _
theorem Yd {w:AH}{f:Int}(h:(Fh w f).Fit):gS w (IT w f).w f∧∃ x q,(IT w f).out=x :: q∧x.kind=15∧x.DW=f∧Quiet q:=by
 have hf:0≤f∧f < 6:=h.b
 have ho:∀ c,0≤c→c < 6→c≠f→(GZ w f).w.AO.at c=calm f (w.AO.at c):=fun c c0 c6 hn=>Zq hf c0 c6 hn
 obtain⟨x,e1,k1,k2,_⟩:=Ij (Fh w f) (GF 15)
 have hout:((Fh w f).kind 15).out = [x]:=e1
 have g:=(SX h).1.fit
 have gh:=g.here
 rw [(Kd w f).1] at gh
 have hme:=Wx (w:=w) hf hf.1 hf.2
 rw [if_pos rfl] at hme
 have hfoe:((GZ w f).w.AO.at f).B7=0:=by rw [hme]
 unfold IT
 split
 ·rename_i c2
  have c2':=of_decide_eq_true c2
  rw [(DL _ _ _).2.1,(DL _ _ _).2.2,(Kd w f).2,hout]
  generalize (GZ w f).w=D at *
  refine⟨V8 (w1:=D) hf ho (fun c c0 _ hn=>AH.G5 hf.1 hf.2 c0 hn _) ?_ ?_,x,[],rfl,k1,k2,fun e he=>by cases he⟩
  ·show((D.C1 f default).AO.at f).here=_
   rw [AH.Ec hf.1 hf.2,decide_eq_false (by omega)];rfl
  ·show((D.C1 f default).AO.at f).B7=_
   rw [AH.Ec hf.1 hf.2];rfl
 ·rename_i c2
  have c2':¬ f < 2:=fun e=>c2 (decide_eq_true e)
  have hl:=KR ((Je w f).kind 17)
  have e2:=SF w f
  obtain⟨y,e3,k3,_⟩:=Ij (Je w f) (GF 17)
  obtain⟨q,e4,k4⟩:=(N9.refl ((Je w f).kind 17)).look
  have e3':((Je w f).kind 17).out = [x] ++ [y]:=by rw [show((Je w f).kind 17).out=_ from e3,e2.2.1,hout]
  rw [hl.1,e4,e3',show((Je w f).kind 17).w=(Je w f).w from rfl,e2.2.2]
  generalize (GZ w f).w=D at *
  refine⟨V8 (w1:=D) hf ho (fun c c0 _ hn=>AH.G5 hf.1 hf.2 c0 hn _) ?_ ?_,x,y :: q,rfl,k1,k2,fun e he=>?_⟩
  ·rw [AH.Ec hf.1 hf.2,decide_eq_true (by omega)];exact gh
  ·rw [AH.Ec hf.1 hf.2];exact hfoe
  ·rcases List.mem_cons.1 he with he | he
   ·rw [he,k3];exact⟨by decide,by decide⟩
   ·rw [k4 e he];exact⟨by decide,by decide⟩
/-! #### the count of a round -/
def ik (e:Event):Prop:=(e.kind=14→1≤e.n∧e.n≤3∧0≤e.other∧e.other < 6)∧(e.kind=15→0≤e.DW∧e.DW < 6)
structure Uv (X:AH)(s:AH × List Event):Prop where
 ev:∀ e∈s.2,ik e
 un:∀ c,0≤c→c < 6→(Fv s.2).at c=false→(s.1.AO.at c).BP=(X.AO.at c).BP - (ET s.2).at c∧(s.1.AO.at c).room=(X.AO.at c).room∧(s.1.AO.at c).here=(X.AO.at c).here
 di:∀ c,0≤c→c < 6→(Fv s.2).at c=true→(X.AO.at c).BP≤(ET s.2).at c∧(s.1.AO.at c).here=decide (2≤c)∧(s.1.AO.at c).B7=0∧∀ a,0≤a→a < 6→(s.1.AO.at a).B7≠c+1
theorem Y9 {α:Type}[Inhabited α](c:Int)(c0:0≤c)(c6:c < 6):(Vector.replicate 6 (default:α)).at c=default:=by
 have:c=0∨c=1∨c=2∨c=3∨c=4∨c=5:=by omega
 rcases this with rfl | rfl | rfl | rfl | rfl | rfl<;>rfl
theorem Uv.start (X:AH):Uv X (X,[]):=by
 have hh:∀ c,0≤c→c < 6→(ET []).at c=0:=fun c c0 c6=>Y9 c c0 c6
 have hd:∀ c,0≤c→c < 6→(Fv []).at c=false:=fun c c0 c6=>Y9 c c0 c6
 refine⟨fun _ h=>(by cases h),fun c c0 c6 _=>⟨?_,rfl,rfl⟩,fun c c0 c6 h=>?_⟩
 ·show(X.AO.at c).BP=(X.AO.at c).BP - (ET []).at c
  rw [hh c c0 c6];omega
 ·have h':(Fv []).at c=true:=h
  rw [hd c c0 c6] at h';cases h'
theorem Uv.next {X:AH}{s:AH × List Event}{draw b:Int}(h:Uv X s)(hg:s.1.Bk=true)(hw:s.1.DV)(h0:0≤b)(h6:b < 6):Uv X (Eb draw b s):=by
 have kb:=Hk hg h0 h6
 have hn:=Ma (draw:=draw) h0
 unfold Eb
 split
 ·exact h
 ·rename_i h1
  simp only [Bool.or_eq_true,Bool.not_eq_true',decide_eq_true_eq,not_or,Bool.not_eq_false] at h1
  have kf:=kb.B7
  split
  ·have hb:∀ c,0≤c→((s.1.C1 b { s.1.AO.at b with B7:=0 }).AO.at c).BP=(s.1.AO.at c).BP∧((s.1.C1 b { s.1.AO.at b with B7:=0 }).AO.at c).room=(s.1.AO.at c).room∧((s.1.C1 b { s.1.AO.at b with B7:=0 }).AO.at c).here=(s.1.AO.at c).here∧(((s.1.C1 b { s.1.AO.at b with B7:=0 }).AO.at c).B7=(s.1.AO.at c).B7∨((s.1.C1 b { s.1.AO.at b with B7:=0 }).AO.at c).B7=0):=fun c c0=>by
    by_cases e:c=b
    ·subst e;rw [AH.Ec h0 h6];exact⟨rfl,rfl,rfl, .inr rfl⟩
    ·rw [AH.G5 h0 h6 c0 e];exact⟨rfl,rfl,rfl, .inl rfl⟩
   refine⟨h.ev,fun c c0 c6 hd=>?_,fun c c0 c6 hd=>?_⟩
   ·obtain⟨q1,q2,q3⟩:=h.un c c0 c6 hd
    obtain⟨r1,r2,r3,_⟩:=hb c c0
    exact⟨r1.trans q1,r2.trans q2,r3.trans q3⟩
   ·obtain⟨q1,q2,q3,q4⟩:=h.di c c0 c6 hd
    obtain⟨_,_,r3,r4⟩:=hb c c0
    refine⟨q1,r3.trans q2,?_,fun a a0 a6=>?_⟩
    ·rcases r4 with r4 | r4
     ·exact r4.trans q3
     ·exact r4
    ·have:=q4 a a0 a6
     rcases (hb a a0).2.2.2 with r | r
     ·rw [r];exact this
     ·rw [r];omega
  ·rename_i h2
   simp only [Bool.or_eq_true,Bool.not_eq_true',decide_eq_false_iff_not,not_or,Bool.not_eq_false,Decidable.not_not] at h2
   generalize hfo:(s.1.AO.at b).B7 - 1=f at *
   generalize hit draw b=n at *
   have f0:0≤f:=by omega
   have f6:f < 6:=by omega
   have hf:=L0 (b:=b) (n:=n) hg hw (B7:=f) f0 f6 h2.1
   have kf2:=(Hk hg f0 f6).BP
   obtain⟨x,ex,k1,k2,k3,k4⟩:=Ij ⟨s.1,b,[]⟩ { GF 14 with other:=f,n:=n }
   have hso:(CE s.1 b f n).out = [x]:=ex
   have hsw:(CE s.1 b f n).w=s.1.C1 f { s.1.AO.at f with BP:=max 0 ((s.1.AO.at f).BP - n) }:=rfl
   have k1':x.kind=14:=k1
   have k3':x.other=f:=k3
   have k4':x.n=n:=k4
   have hH:ET (s.2 ++ [x])=(ET s.2).put f ((ET s.2).at f+n):=by rw [Pj,Rc,if_pos (decide_eq_true k1'),k3',k4']
   have hD:Fv (s.2 ++ [x])=Fv s.2:=by rw [Oq,Rg,if_neg (by rw [k1'];decide)]
   have hnd:(Fv s.2).at f=false:=by
    cases hh:(Fv s.2).at f with
    | false=>rfl
    | true=>exact absurd (by omega:(s.1.AO.at b).B7=f+1) ((h.di f f0 f6 hh).2.2.2 b h0 h6)
   have hfe:=h.un f f0 f6 hnd
   have hxe:ik x:=⟨fun _=>by rw [k3',k4'];omega,fun e=>by rw [k1'] at e;cases e⟩
   have hev:∀ e∈s.2 ++ [x],ik e:=fun e he=>by
    rcases List.mem_append.1 he with he | he
    ·exact h.ev e he
    ·have:e=x:=by simpa using he
     rw [this];exact hxe
   have hwc:∀ c,0≤c→c≠f→(CE s.1 b f n).w.AO.at c=s.1.AO.at c:=fun c c0 hne=>by rw [hsw];exact AH.G5 f0 f6 c0 hne _
   have hwf:(CE s.1 b f n).w.AO.at f={ s.1.AO.at f with BP:=max 0 ((s.1.AO.at f).BP - n) }:=by rw [hsw];exact AH.Ec f0 f6 _
   have hwa:∀ a,0≤a→((CE s.1 b f n).w.AO.at a).B7=(s.1.AO.at a).B7:=fun a a0=>by
    by_cases e:a=f
    ·rw [e,hwf]
    ·rw [hwc a a0 e]
   have hHc:∀ c,0≤c→c≠f→((ET s.2).put f ((ET s.2).at f+n)).at c=(ET s.2).at c:=fun c c0 hne=>Vector.EM f0 f6 c0 hne
   have hHf:((ET s.2).put f ((ET s.2).at f+n)).at f=(ET s.2).at f+n:=Vector.CA f0 f6
   split
   ·rename_i h3
    have h3':=of_decide_eq_true h3
    rw [hwf] at h3'
    have h3'':max 0 ((s.1.AO.at f).BP - n)=0:=h3'
    obtain⟨dd,y,q,e2,y1,y2,y3⟩:=Yd hf
    rw [e2,hso]
    generalize (IT (CE s.1 b f n).w f).w=W at *
    have hA:ET (s.2 ++ [x]++y :: q)=(ET s.2).put f ((ET s.2).at f+n)∧Fv (s.2 ++ [x]++y :: q)=(Fv s.2).put f true:=by
     have hq:=S3 (l:=s.2 ++ [x] ++ [y]) y3
     rw [show s.2 ++ [x]++y :: q=s.2 ++ [x] ++ [y]++q by simp,hq.1,hq.2,Pj,Oq,hH,hD,Rc,if_neg (by rw [y1];decide),Rg,if_pos (decide_eq_true y1),y2]
     exact⟨rfl,rfl⟩
    refine⟨fun e he=>?_,fun c c0 c6 hd=>?_,fun c c0 c6 hd=>?_⟩
    ·rcases List.mem_append.1 he with he | he
     ·exact hev e he
     ·rcases List.mem_cons.1 he with he | he
      ·rw [he];exact⟨fun e=>absurd (y1.symm.trans e) (by decide),fun _=>by rw [y2];exact⟨f0,f6⟩⟩
      ·exact⟨fun e'=>absurd e' (y3 e he).1,fun e'=>absurd e' (y3 e he).2⟩
    ·have hd':((Fv s.2).put f true).at c=false:=by rw [← hA.2];exact hd
     have hne:c≠f:=fun e=>by
      rw [e,Vector.CA f0 f6] at hd';cases hd'
     rw [Vector.EM f0 f6 c0 hne] at hd'
     obtain⟨q1,q2,q3⟩:=h.un c c0 c6 hd'
     obtain⟨r1,r2,r3,_⟩:=dd.iT c c0 c6 hne
     rw [hwc c c0 hne] at r1 r2 r3
     show(W.AO.at c).BP=(X.AO.at c).BP - (ET (s.2 ++ [x]++y :: q)).at c∧_
     rw [hA.1,hHc c c0 hne]
     exact⟨r1.trans q1,r2.trans q2,r3.trans q3⟩
    ·have hd':((Fv s.2).put f true).at c=true:=by rw [← hA.2];exact hd
     show(X.AO.at c).BP≤(ET (s.2 ++ [x]++y :: q)).at c∧_
     rw [hA.1]
     by_cases hne:c=f
     ·subst hne
      rw [hHf]
      refine⟨by omega,dd.here,dd.B7,fun a a0 a6=>?_⟩
      by_cases ea:a=c
      ·rw [ea,dd.B7];omega
      ·exact(dd.iT a a0 a6 ea).2.2.2.2
     ·rw [Vector.EM f0 f6 c0 hne] at hd'
      rw [hHc c c0 hne]
      obtain⟨q1,q2,q3,q4⟩:=h.di c c0 c6 hd'
      obtain⟨_,_,r3,r4,_⟩:=dd.iT c c0 c6 hne
      rw [hwc c c0 hne] at r3 r4
      refine⟨q1,r3.trans q2,?_,fun a a0 a6=>?_⟩
      ·rcases r4 with r4 | r4
       ·exact r4.trans q3
       ·exact r4
      ·by_cases ea:a=f
       ·rw [ea,dd.B7];omega
       ·have:=q4 a a0 a6
        have r:=(dd.iT a a0 a6 ea).2.2.2.1
        rw [hwc a a0 ea] at r
        rcases r with r | r
        ·rw [r];exact this
        ·rw [r];omega
   ·rename_i h3
    have h3':¬ ((CE s.1 b f n).w.AO.at f).BP=0:=fun e=>h3 (decide_eq_true e)
    rw [hwf] at h3'
    have h3'':¬ max 0 ((s.1.AO.at f).BP - n)=0:=h3'
    rw [hso]
    refine⟨hev,fun c c0 c6 hd=>?_,fun c c0 c6 hd=>?_⟩
    ·have hd':(Fv s.2).at c=false:=by rw [← hD];exact hd
     show((CE s.1 b f n).w.AO.at c).BP=(X.AO.at c).BP - (ET (s.2 ++ [x])).at c∧_
     rw [hH]
     by_cases hne:c=f
     ·subst hne
      rw [hHf,hwf]
      refine⟨?_,hfe.2.1,hfe.2.2⟩
      show max 0 ((s.1.AO.at c).BP - n)=_
      have:=hfe.1
      omega
     ·rw [hHc c c0 hne,hwc c c0 hne]
      exact h.un c c0 c6 hd'
    ·have hd':(Fv s.2).at c=true:=by rw [← hD];exact hd
     have hne:c≠f:=fun e=>by rw [e,hnd] at hd';cases hd'
     show(X.AO.at c).BP≤(ET (s.2 ++ [x])).at c∧_
     rw [hH,hHc c c0 hne]
     obtain⟨q1,q2,q3,q4⟩:=h.di c c0 c6 hd'
     refine⟨q1,by rw [hwc c c0 hne];exact q2,by rw [hwc c c0 hne];exact q3,fun a a0 a6=>by rw [hwa a a0];exact q4 a a0 a6⟩
theorem Ri {X:AH}{draw:Int}(hg:X.Bk=true)(hw:X.DV):∀ k:Nat,k≤6→Uv X (Dp X draw k)∧(Dp X draw k).1.Bk=true∧(Dp X draw k).1.DV∧(Dp X draw k).2.length≤13 * k
 | 0,_=>⟨.start X,hg,hw,Nat.le_refl _⟩
 | k+1,hk=>by
  obtain⟨h1,h2,h3,h4⟩:=Ri hg hw k (by omega)
  obtain⟨g1,g2,g3⟩:=Fy (draw:=draw) (b:=(k:Int)) h2 h3 (by omega) (by omega)
  exact⟨h1.next h2 h3 (by omega) (by omega),g1,g2,by show(Eb draw k (Dp X draw k)).2.length≤_;omega⟩
theorem aD {X:AH}{draw:Int}(hw:X.DV)(h:(CU X draw).2.2=0):Uv X ((CU X draw).1,(CU X draw).2.1)∧(CU X draw).1.Bk=true∧(CU X draw).2.1.length≤78:=by
 unfold CU at h ⊢
 split at h
 ·cases h
 ·rename_i h1
  rw [if_neg h1]
  obtain⟨q1,q2,_,q4⟩:=Ri (draw:=draw) (by simpa using h1) hw 6 (Nat.le_refl _)
  generalize Dp X draw 6=S at *
  exact⟨q1,q2,Nat.le_trans q4 (by decide)⟩
end AE
end Go.Ing
/- The document's side of what beings do: plain functions and laws. -/
namespace Go.Ing
open Go
namespace AE
/-! #### names of players -/
def low (c:UInt8):Bool:=decide ((c.toNat:Int) < 97) || decide (122 < (c.toNat:Int))
def Hu (s:Ad)(k:Nat):Bool:=(s.drop k).all fun c=>!low c
theorem W8 {s:Ad}{k:Int}(h0:0≤k)(h1:k < s.length):Hu s k.toNat=(!low (s.getD k.toNat 0) && Hu s (k+1).toNat):=by
 have hk:k.toNat < s.length:=by omega
 unfold Hu
 rw [List.drop_eq_getElem_cons hk,show(k+1).toNat=k.toNat+1 by omega,List.getD_eq_getElem?_getD,List.getElem?_eq_getElem hk]
 rfl
theorem Y2 (s:Ad):Hu s (s.length:Int).toNat=true:=by
 unfold Hu
 rw [show(s.length:Int).toNat=s.length by omega,List.drop_length];rfl
def Yx:Ad:= [115,111,109,101,111,110,101]
def jR:Ad:= [121,111,117]
def Eu (s:Ad):Bool:=Hu s 0 && (decide (1≤(s.length:Int)) && decide ((s.length:Int)≤8) && !decide (s=Yx) && !decide (s=jR))
/-! #### who enters -/
def JH (X:AH)(s:Ad)(k:Int):Bool:=(X.AO.at k).here && decide ((X.AO.at k).name=s)
def CP (X:AH):Nat→Int
 | 0=>-1
 | n+1=>if (!(X.AO.at ((5 - n:Nat):Int)).here && decide (2≤((5 - n:Nat):Int)))=true then((5 - n:Nat):Int) else CP X n
theorem Pe {X:AH}{k:Int}(h0:0≤k)(h5:k≤5):CP X (5 - (k - 1)).toNat=if (!(X.AO.at k).here && decide (2≤k))=true then k else CP X (5 - k).toNat:=by
 have e:(5 - (k - 1)).toNat=(5 - k).toNat+1:=by omega
 rw [e,CP,show((5 - (5 - k).toNat:Nat):Int)=k by omega]
theorem aq {X:AH}{k:Int}(h2:2≤k)(h5:k≤5)(h:(!(X.AO.at k).here)=false):CP X (5 - (k - 1)).toNat=CP X (5 - k).toNat:=by
 rw [Pe (by omega) h5,h];rfl
theorem XS {X:AH}{k:Int}(h2:2≤k)(h5:k≤5)(h:(!(X.AO.at k).here)=true):CP X (5 - (k - 1)).toNat=k:=by
 rw [Pe (by omega) h5,h,decide_eq_true h2];rfl
theorem YS (X:AH):CP X 6=CP X 4:=by
 have h1:CP X 6=CP X 5:=by
  rw [CP,if_neg (by simp)]
 have h2:CP X 5=CP X 4:=by
  rw [CP,if_neg (by simp)]
 rw [h1,h2]
theorem NW (X:AH):∀ n:Nat,n≤6→CP X n=-1∨(2≤CP X n∧CP X n≤5)
 | 0,_=> .inl rfl
 | n+1,h=>by
  unfold CP
  split
  ·rename_i c
   rw [Bool.and_eq_true] at c
   have:=of_decide_eq_true c.2
   exact .inr ⟨this,by omega⟩
  ·exact NW X n (by omega)
def I5 (s:Ad):Am:={ (default:Am) with name:=s,here:=true,BP:=10 }
def H7 (X:AH)(s:Ad)(b:Int):AE:=((⟨X.C1 b (I5 s),b,[]⟩:AE).kind 17).look
def Bc (X:AH)(s:Ad):AH × Int × List Event × Int:=
 if (!X.Bk)=true then(X,0,[],2)
 else if (!Eu s)=true then(X,0,[],1)
 else if (!CD 6 (fun k=>!JH X s k) 6)=true then(X,0,[],1)
 else if decide (CP X 6 < 0)=true then(X,0,[],4)
 else((H7 X s (CP X 6)).w,CP X 6,(H7 X s (CP X 6)).out,0)
theorem RQ (X:AH)(s:Ad):(Bc X s).2.2.1.length≤10:=by
 unfold Bc
 split
 ·exact Nat.zero_le _
 ·split
  ·exact Nat.zero_le _
  ·split
   ·exact Nat.zero_le _
   ·split
    ·exact Nat.zero_le _
    ·exact(KR _).2.2
theorem Q1 {X:AH}{s:Ad}{b:Int}(hg:X.Bk=true)(hw:X.DV)(hs:s.length≤140737488351232)(h0:0≤b)(h6:b < 6):Fit ⟨X.C1 b (I5 s),b,[]⟩:=
 ⟨⟨h0,h6⟩,E0 hw hs,Ks hg h0 h6 ⟨⟨Int.le_refl _,show(0:Int) < 6 by decide⟩,⟨show(0:Int)≤10 by decide,show(10:Int)≤10 by decide⟩,⟨Int.le_refl _,show(0:Int)≤6 by decide⟩,fun _=>rfl,rfl⟩ fun _=>rfl,by
  show((X.C1 b (I5 s)).AO.at b).here=true
  rw [AH.Ec h0 h6];rfl⟩
end AE
end Go.Ing
/- A round, as the document says it: plain laws. -/
namespace Go.Ing
open Go
theorem Ws {α:Type}[Inhabited α]{n:Nat}{v u:Vector α n}(h:∀ i:Int,0≤i→i < n→v.at i=u.at i):v=u:=by
 apply Vector.ext
 intro i hi
 have:=h (i:Int) (by omega) (by omega)
 unfold Vector.at at this
 rw [List.getD_eq_getElem?_getD,List.getD_eq_getElem?_getD] at this
 simpa [hi] using this
namespace AE
def pre (o:List Event)(T:AE):AE:=⟨T.w,T.b,o++T.out⟩
theorem Rz (T:AE){i:Int}(h0:0≤i)(h9:i < 9)(c:decide ((((T.w.AP.put i { T.w.AP.at i with Cg:=0 }).put i { (T.w.AP.put i { T.w.AP.at i with Cg:=0 }).at i with at_:=(T.w.AO.at T.b).room }).at i).kind=2)=true):({ T.w with AP:=((T.w.AP.put i { T.w.AP.at i with Cg:=0 }).put i { (T.w.AP.put i { T.w.AP.at i with Cg:=0 }).at i with at_:=(T.w.AO.at T.b).room }).put i { ((T.w.AP.put i { T.w.AP.at i with Cg:=0 }).put i { (T.w.AP.put i { T.w.AP.at i with Cg:=0 }).at i with at_:=(T.w.AO.at T.b).room }).at i with on:=false } }:AH)=(T.FH i).w:=by
 rw [Vector.CA h0 h9,Vector.CA h0 h9] at c
 rw [Vector.CA h0 h9,Vector.EO,Vector.CA h0 h9,Vector.EO]
 unfold FH
 rw [if_pos (show decide ((T.w.AP.at i).kind=2)=true from c)];rfl
theorem Wf (T:AE){i:Int}(h0:0≤i)(h9:i < 9)(c:decide ((((T.w.AP.put i { T.w.AP.at i with Cg:=0 }).put i { (T.w.AP.put i { T.w.AP.at i with Cg:=0 }).at i with at_:=(T.w.AO.at T.b).room }).at i).kind=2)=false):({ T.w with AP:=(T.w.AP.put i { T.w.AP.at i with Cg:=0 }).put i { (T.w.AP.put i { T.w.AP.at i with Cg:=0 }).at i with at_:=(T.w.AO.at T.b).room } }:AH)=(T.FH i).w:=by
 rw [Vector.CA h0 h9,Vector.CA h0 h9] at c
 rw [Vector.CA h0 h9,Vector.EO]
 unfold FH
 rw [if_neg (show ¬ decide ((T.w.AP.at i).kind=2)=true from by rw [show decide ((T.w.AP.at i).kind=2)=false from c];decide)];rfl
theorem RB {X:AH}(hw:X.DV)(draw:Int):(CU X draw).2.1.length≤78:=by
 by_cases h:(CU X draw).2.2=0
 ·exact(aD hw h).2.2
 ·unfold CU at h ⊢
  split
  ·exact Nat.zero_le _
  ·rename_i h1
   rw [if_neg h1] at h
   exact absurd rfl h
end AE
end Go.Ing
/- What beings do, as the document says it: plain laws. -/
namespace Go.Ing
open Go
namespace AE
def skip (w:AH)(u:Ad)(i:Int):Bool:=!decide (u = []) && !decide (u=(w.AP.at i).name)
/-! #### what is taken -/
/-! #### what is set -/
/-! #### what is let go of -/
theorem Wq (T:AE)(o:Order):(T.C0 o).1.w=T.w∧(T.C0 o).1.b=T.b:=by
 unfold C0
 split
 ·exact T.KQ o.second
 ·split
  ·exact T.Jy o.second
  ·exact⟨rfl,rfl⟩
theorem Rb (T:AE)(o:Order):0≤(T.C0 o).2.1∧(T.C0 o).2.1 < 9:=by
 unfold C0
 split
 ·exact T.bm o.second
 ·split
  ·have:=T.My o.second;omega
  ·exact⟨Int.le_refl 0,show(0:Int) < 9 by decide⟩
theorem ZI {T:AE}{o:Order}(hv:o.verb=8∨o.verb=9∨o.verb=10)(h:(T.C0 o).2.2=true):OH (T.C0 o).1 o.verb (T.C0 o).2.1:=by
 unfold OH
 rw [(T.Wq o).1]
 unfold C0 at h ⊢
 split at h
 ·rename_i h2
  rw [if_pos h2]
  obtain⟨a0,a9,hk,_⟩:=ZB h
  have:=of_decide_eq_true h2
  exact .inr (.inr ⟨by omega,by omega,a0,a9,hk⟩)
 ·rename_i h2
  rw [if_neg h2]
  split at h
  ·rename_i h3
   rw [if_pos h3]
   obtain⟨a0,a6,_,hs⟩:=Kk h
   exact .inr (.inl ⟨of_decide_eq_true h3,a0,a6,(AH.Ht (AH.Ly hs).2.1).2.2⟩)
  ·rename_i h3
   rw [if_neg h3]
   refine .inl ?_
   rcases hv with e | e | e
   ·exact e
   ·exact absurd (decide_eq_true e) h2
   ·exact absurd (decide_eq_true e) h3
def Lh (T:AE)(o:Order):List Int:=BX T.w T.own o.nth o.name o.Bq
def Si (T:AE)(o:Order):AE:=if decide (((T.Lh o).length:Int)=0)=true then T.tell MI else T
theorem ey {T:AE}{o:Order}(h:decide (((T.Lh o).length:Int)=0)=true):T.Si o=T.tell MI:=if_pos h
theorem eJ {T:AE}{o:Order}(h:decide (((T.Lh o).length:Int)=0)=false):T.Si o=T:=if_neg (by rw [h];decide)
theorem eX (T:AE)(o:Order):(T.Si o).w=T.w∧(T.Si o).b=T.b∧(T.Si o).out.length≤T.out.length+1:=by
 unfold Si
 split
 ·exact⟨rfl,rfl,by rw [CM];exact Nat.le_refl _⟩
 ·exact⟨rfl,rfl,Nat.le_succ _⟩
def SD (T:AE)(to:Int)(o:Order)(k:Nat):AE:=(T.Si o).Ez o.verb to ((T.Lh o).take k)
theorem N6 {v to:Int}:∀(l:List Int) (T:AE) (i:Int),T.Ez v to (l ++ [i])=(T.Ez v to l).Cz v to i
 | [],_,_=>rfl
 | _ :: r,_,i=>N6 r _ i
theorem cj {l:List Int}{k:Int}(h0:0≤k)(h1:k < l.length):l.take (k+1).toNat=l.take k.toNat ++ [l.getD k.toNat 0]:=by
 obtain⟨m,rfl⟩:=Int.eq_ofNat_of_zero_le h0
 have hm:m < l.length:=by omega
 show l.take (m+1)=l.take m ++ [l.getD m 0]
 rw [List.take_add_one,List.getElem?_eq_getElem hm,List.getD_eq_getElem?_getD,List.getElem?_eq_getElem hm]
 rfl
theorem JF {T:AE}{to:Int}{o:Order}{k:Int}(h0:0≤k)(h1:k < (T.Lh o).length):T.SD to o (k+1).toNat=(T.SD to o k.toNat).Cz o.verb to ((T.Lh o).getD k.toNat 0):=by
 unfold SD
 rw [cj h0 h1,N6]
theorem ZZ {T:AE}{to:Int}{o:Order}:T.SD to o ((T.Lh o).length:Int).toNat=T.TB to o:=by
 unfold SD
 rw [show((T.Lh o).length:Int).toNat=(T.Lh o).length by omega,List.take_length]
 rfl
theorem Sv {T:AE}{o:Order}:(∀ i∈T.Lh o,JK T.w T.b i)∧(T.Lh o).Nodup∧(T.Lh o).length≤9:=
 ⟨fun _ hi=>(Ff (D6 hi)).R3,List.Nodup.sublist (El ..) (AH.RP ..),Nat.le_trans (El ..).length_le (AE.K6 T)⟩
theorem Ox (v to:Int):∀(l:List Int) (T:AE),(T.Ez v to l).out.length≤T.out.length+l.length∧(T.Ez v to l).b=T.b
 | [],_=>⟨Nat.le_refl _,rfl⟩
 | i :: r,T=>by
  obtain⟨h1,h2⟩:=Ox v to r (T.Cz v to i)
  have h3:=T.PL v to i
  rw [Ez,List.length_cons]
  exact⟨by omega,h2.trans (T.aX v to i)⟩
theorem aJ (T:AE)(to:Int)(o:Order)(k:Nat):(T.SD to o k).out.length≤T.out.length+10∧(T.SD to o k).b=T.b:=by
 have hs:=T.eX o
 obtain⟨h1,h2⟩:=Ox o.verb to ((T.Lh o).take k) (T.Si o)
 have h3:=(Sv (T:=T) (o:=o)).2.2
 have h4:((T.Lh o).take k).length≤(T.Lh o).length:=(List.take_sublist ..).length_le
 unfold SD
 exact⟨by omega,h2.trans hs.2.1⟩
theorem OH.j8 {T:AE}{v to:Int}(h:OH T v to)(hv:v=10):to < 6:=by
 rcases h with h | ⟨_,_,h,_⟩ | ⟨_,h,_⟩<;>omega
theorem YB {T X:AE}{o:Order}{p:Bool}(hX:X=(T.C0 o).1)(hp:p=(T.C0 o).2.2)(h:(!p)=true):T.FV o=X:=by
 rw [hp] at h
 rw [hX]
 exact if_pos h
theorem Vn {T X:AE}{o:Order}{to:Int}{p:Bool}(hX:X=(T.C0 o).1)(ht:to=(T.C0 o).2.1)(hp:p=(T.C0 o).2.2)(h:(!p)=false):T.FV o=X.TB to o∧0≤to∧to < 9∧(o.verb=8∨o.verb=9∨o.verb=10→OH X o.verb to):=by
 rw [hp] at h
 have h2:(T.C0 o).2.2=true:=by simpa using h
 rw [hX,ht]
 exact⟨if_neg (by rw [h];decide),(T.Rb o).1,(T.Rb o).2,fun hv=>ZI hv h2⟩
/-! #### what a being does -/
theorem GA {T:AE}{o:Order}(h:o.verb < 6):T.act o=T.walk o.verb:=by
 unfold act;rw [if_pos (decide_eq_true h)]
theorem OS (X:AH)(b:Int)(o:Order):(EJ X b o).2.1.length≤11:=by
 unfold EJ
 split
 ·exact Nat.zero_le _
 ·split
  ·exact Nat.zero_le _
  ·split
   ·exact Nat.zero_le _
   ·have:=WT (⟨X,b,[]⟩:AE) o
    exact Nat.le_trans this (Nat.le_refl 11)
end AE
end Go.Ing
/- Engine: the same rules, said shorter. -/
namespace Go.Ing
open Go
section
variable {F:List (Nat × Value)} {v0 v1 v2 v3 v4 v5 v6 v7 v8 v9 v10 v11:Value}
theorem Sub.t1 (k0:Nat)(h0:lk k0 F=some v0:=by rfl):Sub F [(k0,v0)]:= .cons h0 (.nil _)
theorem Sub.t2 (k0 k1:Nat)(h0:lk k0 F=some v0:=by rfl)(h1:lk k1 F=some v1:=by rfl):Sub F [(k0,v0),(k1,v1)]:= .cons h0 (.cons h1 (.nil _))
theorem Sub.t3 (k0 k1 k2:Nat)(h0:lk k0 F=some v0:=by rfl)(h1:lk k1 F=some v1:=by rfl)(h2:lk k2 F=some v2:=by rfl):Sub F [(k0,v0),(k1,v1),(k2,v2)]:= .cons h0 (.cons h1 (.cons h2 (.nil _)))
theorem Sub.t4 (k0 k1 k2 k3:Nat)(h0:lk k0 F=some v0:=by rfl)(h1:lk k1 F=some v1:=by rfl)(h2:lk k2 F=some v2:=by rfl)(h3:lk k3 F=some v3:=by rfl):Sub F [(k0,v0),(k1,v1),(k2,v2),(k3,v3)]:= .cons h0 (.cons h1 (.cons h2 (.cons h3 (.nil _))))
theorem Sub.t5 (k0 k1 k2 k3 k4:Nat)(h0:lk k0 F=some v0:=by rfl)(h1:lk k1 F=some v1:=by rfl)(h2:lk k2 F=some v2:=by rfl)(h3:lk k3 F=some v3:=by rfl)(h4:lk k4 F=some v4:=by rfl):Sub F [(k0,v0),(k1,v1),(k2,v2),(k3,v3),(k4,v4)]:= .cons h0 (.cons h1 (.cons h2 (.cons h3 (.cons h4 (.nil _)))))
theorem Sub.t6 (k0 k1 k2 k3 k4 k5:Nat)(h0:lk k0 F=some v0:=by rfl)(h1:lk k1 F=some v1:=by rfl)(h2:lk k2 F=some v2:=by rfl)(h3:lk k3 F=some v3:=by rfl)(h4:lk k4 F=some v4:=by rfl)(h5:lk k5 F=some v5:=by rfl):Sub F [(k0,v0),(k1,v1),(k2,v2),(k3,v3),(k4,v4),(k5,v5)]:= .cons h0 (.cons h1 (.cons h2 (.cons h3 (.cons h4 (.cons h5 (.nil _))))))
theorem Sub.t7 (k0 k1 k2 k3 k4 k5 k6:Nat)(h0:lk k0 F=some v0:=by rfl)(h1:lk k1 F=some v1:=by rfl)(h2:lk k2 F=some v2:=by rfl)(h3:lk k3 F=some v3:=by rfl)(h4:lk k4 F=some v4:=by rfl)(h5:lk k5 F=some v5:=by rfl)(h6:lk k6 F=some v6:=by rfl):Sub F [(k0,v0),(k1,v1),(k2,v2),(k3,v3),(k4,v4),(k5,v5),(k6,v6)]:= .cons h0 (.cons h1 (.cons h2 (.cons h3 (.cons h4 (.cons h5 (.cons h6 (.nil _)))))))
theorem Sub.t8 (k0 k1 k2 k3 k4 k5 k6 k7:Nat)(h0:lk k0 F=some v0:=by rfl)(h1:lk k1 F=some v1:=by rfl)(h2:lk k2 F=some v2:=by rfl)(h3:lk k3 F=some v3:=by rfl)(h4:lk k4 F=some v4:=by rfl)(h5:lk k5 F=some v5:=by rfl)(h6:lk k6 F=some v6:=by rfl)(h7:lk k7 F=some v7:=by rfl):Sub F [(k0,v0),(k1,v1),(k2,v2),(k3,v3),(k4,v4),(k5,v5),(k6,v6),(k7,v7)]:= .cons h0 (.cons h1 (.cons h2 (.cons h3 (.cons h4 (.cons h5 (.cons h6 (.cons h7 (.nil _))))))))
theorem Sub.t9 (k0 k1 k2 k3 k4 k5 k6 k7 k8:Nat)(h0:lk k0 F=some v0:=by rfl)(h1:lk k1 F=some v1:=by rfl)(h2:lk k2 F=some v2:=by rfl)(h3:lk k3 F=some v3:=by rfl)(h4:lk k4 F=some v4:=by rfl)(h5:lk k5 F=some v5:=by rfl)(h6:lk k6 F=some v6:=by rfl)(h7:lk k7 F=some v7:=by rfl)(h8:lk k8 F=some v8:=by rfl):Sub F [(k0,v0),(k1,v1),(k2,v2),(k3,v3),(k4,v4),(k5,v5),(k6,v6),(k7,v7),(k8,v8)]:= .cons h0 (.cons h1 (.cons h2 (.cons h3 (.cons h4 (.cons h5 (.cons h6 (.cons h7 (.cons h8 (.nil _)))))))))
theorem Sub.t10 (k0 k1 k2 k3 k4 k5 k6 k7 k8 k9:Nat)(h0:lk k0 F=some v0:=by rfl)(h1:lk k1 F=some v1:=by rfl)(h2:lk k2 F=some v2:=by rfl)(h3:lk k3 F=some v3:=by rfl)(h4:lk k4 F=some v4:=by rfl)(h5:lk k5 F=some v5:=by rfl)(h6:lk k6 F=some v6:=by rfl)(h7:lk k7 F=some v7:=by rfl)(h8:lk k8 F=some v8:=by rfl)(h9:lk k9 F=some v9:=by rfl):Sub F [(k0,v0),(k1,v1),(k2,v2),(k3,v3),(k4,v4),(k5,v5),(k6,v6),(k7,v7),(k8,v8),(k9,v9)]:= .cons h0 (.cons h1 (.cons h2 (.cons h3 (.cons h4 (.cons h5 (.cons h6 (.cons h7 (.cons h8 (.cons h9 (.nil _))))))))))
theorem Sub.t11 (k0 k1 k2 k3 k4 k5 k6 k7 k8 k9 k10:Nat)(h0:lk k0 F=some v0:=by rfl)(h1:lk k1 F=some v1:=by rfl)(h2:lk k2 F=some v2:=by rfl)(h3:lk k3 F=some v3:=by rfl)(h4:lk k4 F=some v4:=by rfl)(h5:lk k5 F=some v5:=by rfl)(h6:lk k6 F=some v6:=by rfl)(h7:lk k7 F=some v7:=by rfl)(h8:lk k8 F=some v8:=by rfl)(h9:lk k9 F=some v9:=by rfl)(h10:lk k10 F=some v10:=by rfl):Sub F [(k0,v0),(k1,v1),(k2,v2),(k3,v3),(k4,v4),(k5,v5),(k6,v6),(k7,v7),(k8,v8),(k9,v9),(k10,v10)]:= .cons h0 (.cons h1 (.cons h2 (.cons h3 (.cons h4 (.cons h5 (.cons h6 (.cons h7 (.cons h8 (.cons h9 (.cons h10 (.nil _)))))))))))
theorem Sub.t12 (k0 k1 k2 k3 k4 k5 k6 k7 k8 k9 k10 k11:Nat)(h0:lk k0 F=some v0:=by rfl)(h1:lk k1 F=some v1:=by rfl)(h2:lk k2 F=some v2:=by rfl)(h3:lk k3 F=some v3:=by rfl)(h4:lk k4 F=some v4:=by rfl)(h5:lk k5 F=some v5:=by rfl)(h6:lk k6 F=some v6:=by rfl)(h7:lk k7 F=some v7:=by rfl)(h8:lk k8 F=some v8:=by rfl)(h9:lk k9 F=some v9:=by rfl)(h10:lk k10 F=some v10:=by rfl)(h11:lk k11 F=some v11:=by rfl):Sub F [(k0,v0),(k1,v1),(k2,v2),(k3,v3),(k4,v4),(k5,v5),(k6,v6),(k7,v7),(k8,v8),(k9,v9),(k10,v10),(k11,v11)]:= .cons h0 (.cons h1 (.cons h2 (.cons h3 (.cons h4 (.cons h5 (.cons h6 (.cons h7 (.cons h8 (.cons h9 (.cons h10 (.cons h11 (.nil _))))))))))))
end
section
variable {P:Program} {n:Nat} {w0:World} {M:List Nat} {Q:Exit→Go.Act→World→Prop} {F F':List (Nat × Value)} {L L' A K:List Ab} {ops:Array Oper} {rest l:List Oper} {d id:Nat} {op:Op} {T:TypeId} {pos:String} {Cu:Array Edge} {v v':Value} {x y:Code}
theorem Gs (h:GL P n w0 M l.toArray (Exit.then (y.wp P Q) Q) l F L):G P n w0 M (.seq (.region id l.toArray false) y) Q F L:=Aq (AJ h)
theorem CL {z:Code}(h:GL P n w0 M l.toArray (Exit.then (y.wp P (Exit.then (z.wp P Q) Q)) (Exit.then (z.wp P Q) Q)) l F L):G P n w0 M (.seq (.seq (.region id l.toArray false) y) z) Q F L:=Aq (Aq (AJ h))
theorem Gn (hs:Sub F F')(h:G P n w0 M y Q F' L):GL P n w0 M ops (Exit.then (y.wp P Q) Q) [] F L:=AR (AB hs (AA h))
theorem Gt (h:PS P n w0 M op T F L v L')(k:GL P n w0 M ops Q rest ((d,v) :: F) L')(hd:Nat.blt d n=true:=by rfl):GL P n w0 M ops Q (⟨some d,op,T,pos,Cu,none⟩ :: rest) F L:=LC hd h k
theorem Gm {x:Operand}(h:ev F x=some v)(k:GL P n w0 M ops Q rest ((d,v) :: F) L)(hd:Nat.blt d n=true:=by rfl):GL P n w0 M ops Q (⟨some d, .move x,T,pos,Cu,none⟩ :: rest) F L:=LC hd (AF h) k
theorem Ga {x:Operand}(h:ev F x=some v)(k:GL P n w0 M ops Q rest ((d,v) :: F) L)(hd:Nat.blt d n=true:=by rfl):GL P n w0 M ops Q (⟨some d, .assign x,T,pos,Cu,none⟩ :: rest) F L:=LC hd (A0 h) k
theorem Bp {j:Nat}{z:Bool}(t:Nat)(hj:(ops[j]?).bind (·.dst)=some t)(hb:lk t F=some (.bool z))(h:z=true→PS P n w0 M op T F L v L)(k:GL P n w0 M ops Q rest ((d,cv z v) :: F) L)(hd:Nat.blt d n=true:=by rfl):GL P n w0 M ops Q (⟨some d,op,T,pos,Cu,some (j,true)⟩ :: rest) F L:=dG hj hb hd h k
theorem Bj {j:Nat}{z:Bool}(t:Nat)(hj:(ops[j]?).bind (·.dst)=some t)(hb:lk t F=some (.bool z))(h:z=false→PS P n w0 M op T F L v L)(k:GL P n w0 M ops Q rest ((d,cv (!z) v) :: F) L)(hd:Nat.blt d n=true:=by rfl):GL P n w0 M ops Q (⟨some d,op,T,pos,Cu,some (j,false)⟩ :: rest) F L:=dM hj hb hd h k
theorem Gc {c:Operand}{b:Bool}(ht:b=true→G P n w0 M x Q F L)(hf:b=false→G P n w0 M y Q F L)(hc:ev F c=some (.bool b):=by rfl):G P n w0 M (.cond c x y) Q F L:=O6 hc ht hf
end
section
variable {P:Program} {n:Nat} {w0:World} {M:List Nat} {Q:Exit→Go.Act→World→Prop} {l:List Oper} {Rs:List Nat} {F:List (Nat × Value)}
variable {k i j d:Nat} {V A:List Nat} {D:List (Nat × (Nat × Value))} {L:List Ab} {op:Op} {T:TypeId} {pos:String} {Cu:Array Edge} {v v':Value}
theorem Pf (i:Nat)(ho:l[i]?=some ⟨some d,op,T,pos,Cu,none⟩)(h:PS P n w0 M op T (Ex D Cu.toList++F) L v L)(k':Js P n w0 M Q l Rs F k (i :: V) (i :: A) ((i,(d,v)) :: D) L)(hc:bE l V i Cu.toList=true:=by kernel_rfl)(hlk:U6 F d v:=by first | exact .inl rfl | exact .inr rfl):Js P n w0 M Q l Rs F (k+1) V A D L:=
 BI i ho rfl hc (LI (F6 h)) k' hlk
theorem IN {j:Nat}{y:Bool}(i t:Nat)(ho:l[i]?=some ⟨some d,op,T,pos,Cu,some (j,false)⟩)(hj:(l.toArray[j]?).bind (·.dst)=some t)(hb:lk t (Ex D Cu.toList++F)=some (.bool y))(h:y=false→PS P n w0 M op T (Ex D Cu.toList++F) L v L)(k':Js P n w0 M Q l Rs F k (i :: V) (i :: A) ((i,(d,cv (!y) v)) :: D) L)(hc:bE l V i Cu.toList=true:=by kernel_rfl)(hlk:U6 F d (cv (!y) v):=by first | exact .inl rfl | exact .inr rfl):Js P n w0 M Q l Rs F (k+1) V A D L:=
 BI i ho rfl hc (Hf (t:=t) hj hb (fun q=>F6 (h q))) k' hlk
theorem NX {j:Nat}{y:Bool}(i t:Nat)(ho:l[i]?=some ⟨some d,op,T,pos,Cu,some (j,true)⟩)(hj:(l.toArray[j]?).bind (·.dst)=some t)(hb:lk t (Ex D Cu.toList++F)=some (.bool y))(h:y=true→PS P n w0 M op T (Ex D Cu.toList++F) L v L)(k':Js P n w0 M Q l Rs F k (i :: V) (i :: A) ((i,(d,cv y v)) :: D) L)(hc:bE l V i Cu.toList=true:=by kernel_rfl)(hlk:U6 F d (cv y v):=by first | exact .inl rfl | exact .inr rfl):Js P n w0 M Q l Rs F (k+1) V A D L:=
 BI i ho rfl hc (UC (t:=t) hj hb (fun q=>F6 (h q))) k' hlk
theorem Pk (h:J8 P n w0 M Q l Rs F i D L A)(hr:reaches Rs i j=true:=by kernel_rfl):J8 P n w0 M Q l Rs F i D L (j :: A):=YF hr h
theorem Po (ho:l[j]?=some ⟨some d,op,T,pos,Cu,none⟩)(h:PS P n w0 M op T (Ex D Cu.toList++F) L v' L)(hl:OI j D=some (d,v))(e:v'=v)(k':J8 P n w0 M Q l Rs F i D L A):J8 P n w0 M Q l Rs F i D L (j :: A):=S4 ho (LI (F6 h)) hl e k'
end
section
variable {P:Program} {n:Nat} {w0:World} {M:List Nat} {F:List (Nat × Value)} {L:List Ab}
theorem cF {x:Operand}{c:Bool}{v:Value}(h:ev F x=some (cv (!c) v))(q:c=false):ev F x=some v:=Bo h (by rw [q];rfl)
theorem Al {T U f off b o:Nat}{x:Operand}(hf:FA P T f off)(hx:ev F x=some (.pointer (some ⟨b,o,none⟩))):PS P n w0 M (.fieldAddr T x f) U F L (.pointer (some ⟨b,o+off,none⟩)) L:=SO hf hx
theorem Bb {T:TypeId}{x:Operand}{p:Addr}(hx:ev F x=some (.pointer (some p))):PS P n w0 M (.nilCheck x) T F L (.pointer (some p)) L:=TQ hx
end
theorem AU.ar {α:Type}{n:Nat}[Inhabited α]{e:α→List Value}{sz:Nat}(fe:Flat e sz){i:Int}(h:0≤i∧i < (n:Int)):AU (B1 (n:=n) e) e (i.toNat * sz) sz (fun v=>v.at i) (fun v y=>v.put i y):=AU.arr fe h.1 h.2
class Nz (a:Prop) (b:outParam Prop):Prop where
 h:a→b
theorem kz {a b:Prop}[i:Nz a b](h:a):b:=i.h h
section
variable {p:Prop} [Decidable p] {a b:Bool} {x y:Prop} {m n:Int}
instance (priority:=low):Nz p p:=⟨id⟩
instance:Nz (decide p=true) p:=⟨of_decide_eq_true⟩
instance (priority:=low):Nz (decide p=false) (¬ p):=⟨of_decide_eq_false⟩
instance:Nz (decide (m < n)=false) (n≤m):=⟨fun h=>Int.not_lt.1 (of_decide_eq_false h)⟩
instance:Nz (decide (m≤n)=false) (n < m):=⟨fun h=>Int.not_le.1 (of_decide_eq_false h)⟩
instance [i:Nz (a=false) x]:Nz ((!a)=true) x:=⟨fun h=>i.h (by simpa using h)⟩
instance [i:Nz (a=true) x]:Nz ((!a)=false) x:=⟨fun h=>i.h (by simpa using h)⟩
instance [i:Nz (a=true) x][j:Nz (b=true) y]:Nz ((a && b)=true) (x∧y):=⟨fun h=>⟨i.h (jw ▸ h).1,j.h (jw ▸ h).2⟩⟩
instance [i:Nz (a=false) x][j:Nz (b=false) y]:Nz ((a || b)=false) (x∧y):=⟨fun h=>⟨i.h (js ▸ h).1,j.h (js ▸ h).2⟩⟩
instance [i:Nz (a=true) x][j:Nz (b=true) y]:Nz ((a || b)=true) (x∨y):=⟨fun h=>(jz ▸ h:a=true∨b=true).imp i.h j.h⟩
instance [i:Nz (a=false) x][j:Nz (b=false) y]:Nz ((a && b)=false) (x∨y):=⟨fun h=>(j5 ▸ h:a=false∨b=false).imp i.h j.h⟩
end
section
variable {F:List (Nat × Value)} {P:Program} {L L' K rs:List Ab} {r r' s:Ab} {x:Operand} {v:Value} {xs:List Operand} {vs:List Value}
theorem Lc.h:Lc (r :: L) r r' (r' :: L):= .head
theorem Lc.t (h:Lc L r r' L'):Lc (s :: L) r r' (s :: L'):= .tail h
theorem M0.h:M0 (r :: L) r L:= .head
theorem M0.t (h:M0 L r L'):M0 (s :: L) r (s :: L'):= .tail h
theorem Ax.n:Ax L [] L:= .nil
theorem Ax.c (h:M0 L r L')(hs:Ax L' rs K):Ax L (r :: rs) K:= .cons h hs
theorem OY.n:OY F [] []:= .nil
theorem OY.c (h:ev F x=some v)(hs:OY F xs vs):OY F (x :: xs) (v :: vs):= .cons h hs
theorem Rs.n:Rs P F L [] []:= .nil
end
section
variable {α:Type} {a b c d e f g h i j:α} {l:List α}
theorem _root_.List.Mem.m0:List.Mem a (a :: l):= .head _
theorem _root_.List.Mem.m1:List.Mem a (b :: a :: l):= .tail _ .m0
theorem _root_.List.Mem.m2:List.Mem a (b :: c :: a :: l):= .tail _ .m1
theorem _root_.List.Mem.m3:List.Mem a (b :: c :: d :: a :: l):= .tail _ .m2
theorem _root_.List.Mem.m4:List.Mem a (b :: c :: d :: e :: a :: l):= .tail _ .m3
theorem _root_.List.Mem.m5:List.Mem a (b :: c :: d :: e :: f :: a :: l):= .tail _ .m4
theorem _root_.List.Mem.m6:List.Mem a (b :: c :: d :: e :: f :: g :: a :: l):= .tail _ .m5
theorem _root_.List.Mem.m7:List.Mem a (b :: c :: d :: e :: f :: g :: h :: a :: l):= .tail _ .m6
theorem _root_.List.Mem.m8:List.Mem a (b :: c :: d :: e :: f :: g :: h :: i :: a :: l):= .tail _ .m7
end
end Go.Ing
/- A house's data, in Lean, and their parts. -/
namespace Go.Ing
open Go
structure A4 where
 state:Int
 Aw:Int
 DZ:AK
 ER:BR
 out:Av
 told:Hd
instance:Inhabited A4:=⟨⟨0,0,default,⟨[],false,false,⟨none,0,0⟩⟩,⟨⟨none,0,0⟩,0,false,[],false⟩,⟨none,0,0⟩⟩⟩
def A4.enc (x:A4):List Value:=Az x.state++Az x.Aw++AK.enc x.DZ++BR.enc x.ER++Av.enc x.out++Dh x.told
theorem A4.fl:Flat A4.enc 22:=⟨fun x=>by simp [A4.enc,BR.fl.len,Av.fl.len,AK.fl.len,Ix.len,B9.len],fun x v hv=>by
 simp only [A4.enc,List.mem_append] at hv
 rcases hv with ((((h | h) | h) | h) | h) | h
 ·exact B9.one _ v h
 ·exact B9.one _ v h
 ·exact AK.fl.one _ v h
 ·exact BR.fl.one _ v h
 ·exact Av.fl.one _ v h
 ·exact Ix.one _ v h⟩
theorem A4.l0:AU A4.enc (Az) 0 1 (fun x=>x.state) (fun x y=>{ x with state:=y }):=
 AU.Ey B9 (fun _=> []) (fun x=>Az x.Aw++AK.enc x.DZ++BR.enc x.ER++Av.enc x.out++Dh x.told) (fun _=>rfl) (fun x=>by simp [A4.enc]) (fun x y=>by simp [A4.enc])
theorem A4.l1:AU A4.enc (Az) 1 1 (fun x=>x.Aw) (fun x y=>{ x with Aw:=y }):=
 AU.Ey B9 (fun x=>Az x.state) (fun x=>AK.enc x.DZ++BR.enc x.ER++Av.enc x.out++Dh x.told) (fun x=>by simp [B9.len]) (fun x=>by simp [A4.enc]) (fun x y=>by simp [A4.enc])
theorem A4.l2:AU A4.enc (AK.enc) 2 10 (fun x=>x.DZ) (fun x y=>{ x with DZ:=y }):=
 AU.Ey AK.fl (fun x=>Az x.state++Az x.Aw) (fun x=>BR.enc x.ER++Av.enc x.out++Dh x.told) (fun x=>by simp [B9.len]) (fun x=>by simp [A4.enc]) (fun x y=>by simp [A4.enc])
theorem A4.l3:AU A4.enc (BR.enc) 12 4 (fun x=>x.ER) (fun x y=>{ x with ER:=y }):=
 AU.Ey BR.fl (fun x=>Az x.state++Az x.Aw++AK.enc x.DZ) (fun x=>Av.enc x.out++Dh x.told) (fun x=>by simp [AK.fl.len,B9.len]) (fun x=>by simp [A4.enc]) (fun x y=>by simp [A4.enc])
theorem A4.l4:AU A4.enc (Av.enc) 16 5 (fun x=>x.out) (fun x y=>{ x with out:=y }):=
 AU.Ey Av.fl (fun x=>Az x.state++Az x.Aw++AK.enc x.DZ++BR.enc x.ER) (fun x=>Dh x.told) (fun x=>by simp [BR.fl.len,AK.fl.len,B9.len]) (fun x=>by simp [A4.enc]) (fun x y=>by simp [A4.enc])
theorem A4.l5:AU A4.enc (Dh) 21 1 (fun x=>x.told) (fun x y=>{ x with told:=y }):=
 AU.Ey Ix (fun x=>Az x.state++Az x.Aw++AK.enc x.DZ++BR.enc x.ER++Av.enc x.out) (fun _=> []) (fun x=>by simp [BR.fl.len,Av.fl.len,AK.fl.len,B9.len]) (fun x=>by simp [A4.enc]) (fun x y=>by simp [A4.enc])
structure AN where
 w:AH
 Ar:Tn A4 4
 B8:Int
 last:Hd
def AN.enc (x:AN):List Value:=AH.enc x.w++B1 A4.enc x.Ar++Az x.B8++Dh x.last
theorem AN.fl:Flat AN.enc 255:=⟨fun x=>by simp [AN.enc,(GH A4.fl).len,AH.fl.len,Ix.len,B9.len],fun x v hv=>by
 simp only [AN.enc,List.mem_append] at hv
 rcases hv with ((h | h) | h) | h
 ·exact AH.fl.one _ v h
 ·exact(GH A4.fl).one _ v h
 ·exact B9.one _ v h
 ·exact Ix.one _ v h⟩
theorem AN.l0:AU AN.enc (AH.enc) 0 165 (fun x=>x.w) (fun x y=>{ x with w:=y }):=
 AU.Ey AH.fl (fun _=> []) (fun x=>B1 A4.enc x.Ar++Az x.B8++Dh x.last) (fun _=>rfl) (fun x=>by simp [AN.enc]) (fun x y=>by simp [AN.enc])
theorem AN.l1:AU AN.enc (B1 A4.enc) 165 88 (fun x=>x.Ar) (fun x y=>{ x with Ar:=y }):=
 AU.Ey (GH A4.fl) (fun x=>AH.enc x.w) (fun x=>Az x.B8++Dh x.last) (fun x=>by simp [AH.fl.len]) (fun x=>by simp [AN.enc]) (fun x y=>by simp [AN.enc])
theorem AN.l2:AU AN.enc (Az) 253 1 (fun x=>x.B8) (fun x y=>{ x with B8:=y }):=
 AU.Ey B9 (fun x=>AH.enc x.w++B1 A4.enc x.Ar) (fun x=>Dh x.last) (fun x=>by simp [(GH A4.fl).len,AH.fl.len]) (fun x=>by simp [AN.enc]) (fun x y=>by simp [AN.enc])
theorem AN.l3:AU AN.enc (Dh) 254 1 (fun x=>x.last) (fun x y=>{ x with last:=y }):=
 AU.Ey Ix (fun x=>AH.enc x.w++B1 A4.enc x.Ar++Az x.B8) (fun _=> []) (fun x=>by simp [(GH A4.fl).len,AH.fl.len,B9.len]) (fun x=>by simp [AN.enc]) (fun x y=>by simp [AN.enc])
end Go.Ing
/- What a house does: plain functions. -/
namespace Go.Ing
open Go
structure Ae where
 state:Int
 Aw:Int
 DZ:AK
 now:Ad
 long:Bool
 ret:Bool
 queue:List Ad
 pg:Page.Pg
 wait:List Ad
 told:List Ad
instance:Inhabited Ae:=⟨⟨0,0,default,[],false,false,[],⟨0,false,[],false⟩,[],[]⟩⟩
structure AG where
 w:AH
 Ar:Vector Ae 4
 B8:Int
 last:List Event
namespace Ae
def MC (s:Ae):Bool:=decide ((s.wait.length:Int)≤60) && decide ((s.pg.ring.length:Int)≤700) && decide (0≤s.pg.shown) && decide (s.pg.shown≤200)
def line (s:Ae)(u:Ad):Ae:=
 if (!s.MC)=true then s else if s.pg.cut=true then s
 else if decide (60≤(s.wait.length:Int))=true then { s with pg:={ s.pg with cut:=true } } else { s with wait:=s.wait ++ [u] }
def note (s:Ae)(u:Ad):Ae:=if (!s.pg.cut)=true then { s with told:=s.told ++ [u] } else s
def tell (s:Ae)(u:Ad):Ae:=(s.line u).note u
def send (s:Ae)(u:Ad):Ae:=if (!s.MC)=true then s else if s.pg.cut=true then s else { s with pg:=Page.put s.pg u }
def BH (s:Ae):Ae:=
 if (!s.MC || decide (s.DZ.Bv < 0) || decide (200 < s.DZ.Bv))=true then s
 else { s with pg:=(Page.BH s.DZ.Bv s.wait s.pg).1,wait:=(Page.BH s.DZ.Bv s.wait s.pg).2 }
def E1 (s:Ae):Ae:={ s with pg:={ s.pg with shown:=0,B5:=false } }
def fj (s:Ae)(n:Int):Nat:=(max 0 (min n (s.pg.ring.length:Int))).toNat
def Fl (s:Ae)(n:Int):Ae:={ s with pg:={ s.pg with ring:=s.pg.ring.drop (s.fj n) } }
def out (s:Ae)(n:Int):Ad:=s.pg.ring.take (s.fj n)
def Lv (s:Ae):Bool:=
 !(decide (60 < (s.now.length:Int)) || decide (6 < (s.queue.length:Int)) || (s.long && decide (60 < (s.now.length:Int))) || (s.ret && (!decide (s.now = []) || s.long))) && (s.queue ++ [s.now]).all Bh.GX
def typed (s:Ae)(u:Ad):Ae × Int:=
 if (!s.Lv)=true then(s,0)
 else
  let x:=Bh.feed ⟨s.now,s.long,s.ret,s.queue,0⟩ u
  ({ s with now:=x.now,long:=x.long,ret:=x.ret,queue:=x.queue },x.lost)
def bytes (s:Ae)(u:Ad):Ae × Ad:=({ s with DZ:=(s.DZ.DA u).1 }.send (s.DZ.DA u).2.2.1,(s.DZ.DA u).2.1)
def offer (s:Ae)(opt:Int):Ae:=
 if decide ((s.DZ.Da opt).2.1 = [])=true then { s with DZ:=((s.DZ.Da opt).1.Ask opt).1 }.send ([]++((s.DZ.Da opt).1.Ask opt).2.1)
 else { s with DZ:=(s.DZ.Da opt).1 }.send ((s.DZ.Da opt).2.1 ++ [])
end Ae
namespace AG
def at_ (H:AG)(k:Int):Ae:=H.Ar.at k
def set (H:AG)(k:Int)(s:Ae):AG:={ H with Ar:=H.Ar.put k s }
def tell (H:AG)(k:Int)(u:Ad):AG:=H.set k ((H.at_ k).tell u)
def CS (e:Event)(H:AG):Nat→AG
 | 0=>H
 | k+1=>if (!decide (((CS e H k).at_ k).state=2))=true then CS e H k else if (AH.tell e ((CS e H k).at_ k).Aw).2=true then(CS e H k).tell k (AH.tell e ((CS e H k).at_ k).Aw).1 else CS e H k
def Hy (H:AG)(l:List Event):AG:=l.foldl (fun X e=>CS e X 4) H
def HQ (H:AG)(l:List Event):AG:={ H with last:=H.last++l }.Hy l
def EL:Order:={ (default:Order) with verb:=20 }
def VK (H:AG)(k:Int):AG:={ H with w:=(AE.EJ H.w (H.at_ k).Aw EL).1 }
def leave (H:AG)(k:Int):AG:=
 (if (decide ((H.at_ k).state=2) && (H.w.AO.at (H.at_ k).Aw).here)=true then((H.VK k).set k default).HQ (AE.EJ H.w (H.at_ k).Aw EL).2.1 else H).set k default
def CG (H:AG):Nat→AG × Bool
 | 0=>(H,false)
 | k+1=>
  if decide (((CG H k).1.at_ k).state=0)=true then CG H k
  else if (((CG H k).1.at_ k).BH).pg.cut=true then(((CG H k).1.set k (((CG H k).1.at_ k).BH)).leave k,true)
  else((CG H k).1.set k (((CG H k).1.at_ k).BH),(CG H k).2)
def GW (H:AG):Nat→AG
 | 0=>H
 | n+1=>if (!(H.CG 4).2)=true then(H.CG 4).1 else(H.CG 4).1.GW n
def BH (H:AG):AG:=H.GW 5
def G9:Ad:= [87,104,111,32,97,114,101,32,121,111,117,63]
def OF:Ad:= [78,111,116,32,115,111,32,102,97,115,116,46]
def du:Ad:= [87,104,97,116,63]
def R4:Ad:= [84,104,97,116,32,105,115,32,110,111,32,110,97,109,101,46]
def noRoom:Ad:= [84,104,101,114,101,32,105,115,32,110,111,32,114,111,111,109,46]
def IU (H:AG)(k:Int):AG:=((H.set k ((({ (default:Ae) with state:=1,Aw:=-1 }).offer 3).offer 31)).tell k G9).BH
def named (H:AG)(k:Int)(u:Ad):AG:=
 if decide ((AE.Bc H.w u).2.2.2=0)=true then({ H with w:=(AE.Bc H.w u).1 }.set k { H.at_ k with state:=2,Aw:=(AE.Bc H.w u).2.1 }).HQ (AE.Bc H.w u).2.2.1
 else if decide ((AE.Bc H.w u).2.2.2=4)=true then H.tell k noRoom
 else H.tell k R4
def order (H:AG)(k:Int)(u:Ad):AG:=
 if (!decide ((Words.parse u).2=0))=true then H.tell k du
 else if decide ((Words.parse u).1.verb=20)=true then H.leave k
 else { H with w:=(AE.EJ H.w (H.at_ k).Aw (Words.parse u).1).1 }.HQ (AE.EJ H.w (H.at_ k).Aw (Words.parse u).1).2.1
def Dz (H:AG)(k:Int):AG:=
 if decide ((H.at_ k).state=0)=true then H
 else match (H.at_ k).queue with
  | []=>H
  | q :: r=>
   let H1:=H.set k { H.at_ k with queue:=r }.E1
   if (H.at_ k).pg.B5=true then H1
   else if decide ((H.at_ k).state=1)=true then H1.named k (Words.Qj 32 (Words.SA 32 q))
   else H1.order k q
def turns (H:AG):Nat→AG
 | 0=>H
 | k+1=>(turns H k).Dz k
def Np (H:AG)(d:Int):AG:=
 let X:=H.turns 4
 ({ X with w:=(AE.CU X.w d).1 }.HQ (AE.CU X.w d).2.1).BH
def Es (H:AG):Nat→AG
 | 0=>H
 | k+1=>(Es H k).set k { (Es H k).at_ k with told:= [] }
def begun (H:AG):AG:={ H with B8:=H.B8+1,last:= [] }.Es 4
def ok:Bl:=⟨0,[]⟩
def byte (H:AG)(k:Int)(u:Ad):AG:=
 let s1:=(H.at_ k).bytes u
 let s2:=s1.1.typed s1.2
 ((if decide (0 < s2.2)=true then(H.set k s2.1).tell k OF else H.set k s2.1)).BH
def DJ (X:AG)(a:Br):AG × Bl:=
 if decide (a.kind=5)=true then(X.Np a.n,ok)
 else if (decide (a.kind < 1) || decide (5 < a.kind))=true then(X,⟨5,[]⟩)
 else if (decide (a.A3 < 0) || decide (4≤a.A3))=true then(X,⟨2,[]⟩)
 else if (decide ((X.at_ a.A3).state=0) != decide (a.kind=1))=true then(X,⟨3,[]⟩)
 else if decide (a.kind=1)=true then(X.IU a.A3,ok)
 else if decide (a.kind=2)=true then(X.byte a.A3 a.bytes,ok)
 else if decide (a.kind=3)=true then((X.set a.A3 ((X.at_ a.A3).Fl a.n)).BH,⟨0,(X.at_ a.A3).out a.n⟩)
 else((X.leave a.A3).BH,ok)
def act (H:AG)(a:Br):AG × Bl:=if decide (400≤H.B8)=true then(H,⟨4,[]⟩) else H.begun.DJ a
def new:AG:=⟨AH.new,Vector.replicate 4 default,0,[]⟩
def run:AG→List Br→AG × List Bl
 | H,[]=>(H,[])
 | H,a :: l=>((run (H.act a).1 l).1,(H.act a).2 :: (run (H.act a).1 l).2)
end AG
end Go.Ing
/- Engine: several slices together; a seat of a house. -/
namespace Go.Ing
open Go
def Ab.DP (l:List Ab):Ab where
 Cc:=l.flatMap Ab.Cc
 ok w:=(∀ r∈l,r.ok w)∧l.Pairwise fun r s=>∀ b:Nat,b∈r.Cc→b ∉ s.Cc
 loc w w' h hw:=⟨fun r hr=>r.loc w w' (fun b hb=>h b (List.mem_flatMap.2 ⟨r,hr,hb⟩)) (hw.1 r hr),hw.2⟩
section
variable {w0 w:World} {M:List Nat} {l L:List Ab}
theorem St.WG (h:St w0 M w (Ab.DP l :: L)):St w0 M w (l++L):=by
 have hm:∀ r∈l,∀ b∈r.Cc,b∈(Ab.DP l).Cc:=fun r hr b hb=>List.mem_flatMap.2 ⟨r,hr,hb⟩
 have hf:=h.ok (Ab.DP l) (List.mem_cons_self ..)
 refine⟨h.os,h.tape,h.output,h.size,h.I7,fun r hr=>?_,fun r hr=>?_,List.pairwise_append.2 ⟨hf.2,(List.pairwise_cons.1 h.Jc).2,fun r hr s hs b hb=>(List.pairwise_cons.1 h.Jc).1 s hs b (hm r hr b hb)⟩⟩
 ·rcases List.mem_append.1 hr with hr | hr
  ·exact hf.1 r hr
  ·exact h.ok r (List.mem_cons_of_mem _ hr)
 ·rcases List.mem_append.1 hr with hr | hr
  ·exact fun b hb=>h.Cc _ (List.mem_cons_self ..) b (hm r hr b hb)
  ·exact h.Cc r (List.mem_cons_of_mem _ hr)
theorem St.Wi (h:St w0 M w (l++L)):St w0 M w (Ab.DP l :: L):=by
 have hd:=List.pairwise_append.1 h.Jc
 refine⟨h.os,h.tape,h.output,h.size,h.I7,fun r hr=>?_,fun r hr=>?_,List.pairwise_cons.2 ⟨fun s hs b hb=>?_,hd.2.1⟩⟩
 ·rcases List.mem_cons.1 hr with rfl | hr
  ·exact⟨fun r hr=>h.ok r (List.mem_append_left _ hr),hd.1⟩
  ·exact h.ok r (List.mem_append_right _ hr)
 ·rcases List.mem_cons.1 hr with rfl | hr
  ·intro b hb
   obtain⟨r,hr,hb'⟩:=List.mem_flatMap.1 hb
   exact h.Cc r (List.mem_append_left _ hr) b hb'
  ·exact h.Cc r (List.mem_append_right _ hr)
 ·obtain⟨r,hr,hb'⟩:=List.mem_flatMap.1 hb
  exact hd.2.2 r hr s hs b hb'
end
structure BD where
 queue:List Ad
 wait:List Ad
 told:List Ad
 deriving Inhabited
def F7 (T:Nat)(v:A4)(l:BD):List Ab:= [Ab.own v.ER.queue T 1 (l.queue.flatMap A6),Ab.own v.out.wait T 1 (l.wait.flatMap A6),Ab.own v.told T 1 (l.told.flatMap A6)]
def CQ (T:Nat)(vs:Vector A4 4)(ls:Vector BD 4):List Ab:=F7 T (vs.at 0) (ls.at 0)++(F7 T (vs.at 1) (ls.at 1)++(F7 T (vs.at 2) (ls.at 2)++F7 T (vs.at 3) (ls.at 3)))
def HI (T:Nat)(k:Int)(vs:Vector A4 4)(ls:Vector BD 4):List Ab:=
 if k=0 then F7 T (vs.at 1) (ls.at 1)++(F7 T (vs.at 2) (ls.at 2)++F7 T (vs.at 3) (ls.at 3))
 else if k=1 then F7 T (vs.at 0) (ls.at 0)++(F7 T (vs.at 2) (ls.at 2)++F7 T (vs.at 3) (ls.at 3))
 else if k=2 then F7 T (vs.at 0) (ls.at 0)++(F7 T (vs.at 1) (ls.at 1)++F7 T (vs.at 3) (ls.at 3))
 else F7 T (vs.at 0) (ls.at 0)++(F7 T (vs.at 1) (ls.at 1)++F7 T (vs.at 2) (ls.at 2))
theorem H5 {α:Type}(a b c:List α):(a++(b++c)).Perm (b++(a++c)):=by
 rw [← List.append_assoc,← List.append_assoc]
 exact List.perm_append_comm.append_right c
theorem four {k:Int}(h0:0≤k)(h1:k < 4):k=0∨k=1∨k=2∨k=3:=by omega
theorem RW (T:Nat){k:Int}(h0:0≤k)(h1:k < 4)(vs:Vector A4 4)(ls:Vector BD 4):(CQ T vs ls).Perm (F7 T (vs.at k) (ls.at k)++HI T k vs ls):=by
 unfold CQ HI
 rcases four h0 h1 with e | e | e | e<;>subst e
 ·exact .refl _
 ·exact H5 _ _ _
 ·exact((H5 _ _ _).append_left _).trans (H5 _ _ _)
 ·exact(((List.perm_append_comm).append_left _).append_left _).trans (((H5 _ _ _).append_left _).trans (H5 _ _ _))
theorem X9 (T:Nat){k:Int}(h0:0≤k)(h1:k < 4)(vs:Vector A4 4)(ls:Vector BD 4)(v:A4)(l:BD):HI T k (vs.put k v) (ls.put k l)=HI T k vs ls:=by
 have hv:∀ i:Int,0≤i→i≠k→(vs.put k v).at i=vs.at i:=fun i hi hn=>Vector.EM h0 h1 hi hn
 have hl:∀ i:Int,0≤i→i≠k→(ls.put k l).at i=ls.at i:=fun i hi hn=>Vector.EM h0 h1 hi hn
 unfold HI
 rcases four h0 h1 with e | e | e | e<;>subst e
 ·rw [if_pos rfl,if_pos rfl,hv 1 (by decide) (by decide),hv 2 (by decide) (by decide),hv 3 (by decide) (by decide),hl 1 (by decide) (by decide),hl 2 (by decide) (by decide),hl 3 (by decide) (by decide)]
 ·rw [if_neg (by decide),if_pos rfl,if_neg (by decide),if_pos rfl,hv 0 (by decide) (by decide),hv 2 (by decide) (by decide),hv 3 (by decide) (by decide),hl 0 (by decide) (by decide),hl 2 (by decide) (by decide),hl 3 (by decide) (by decide)]
 ·rw [if_neg (by decide),if_neg (by decide),if_pos rfl,if_neg (by decide),if_neg (by decide),if_pos rfl,hv 0 (by decide) (by decide),hv 1 (by decide) (by decide),hv 3 (by decide) (by decide),hl 0 (by decide) (by decide),hl 1 (by decide) (by decide),hl 3 (by decide) (by decide)]
 ·rw [if_neg (by decide),if_neg (by decide),if_neg (by decide),if_neg (by decide),if_neg (by decide),if_neg (by decide),hv 0 (by decide) (by decide),hv 1 (by decide) (by decide),hv 2 (by decide) (by decide),hl 0 (by decide) (by decide),hl 1 (by decide) (by decide),hl 2 (by decide) (by decide)]
def AN.A3 (V:AN)(k:Int)(s:A4):AN:={ V with Ar:=V.Ar.put k s }
def Ka (V:AN)(k:Int)(s:A4):List Value:=(V.A3 k s).enc
theorem AU.A3 (V:AN){k:Int}(h0:0≤k)(h1:k < 4):AU (Ka V k) A4.enc (165+k.toNat * 22) 22 (fun s=>s) (fun _ y=>y):=by
 have hl:=AN.l1.comp (AU.arr (n:=4) A4.fl h0 h1)
 refine⟨fun x=>?_,hl.len,fun x=>hl.bA _,fun x y=>?_,hl.one⟩
 ·have:=hl.get (V.A3 k x)
  rw [show((V.A3 k x).Ar.at k)=x from Vector.CA h0 h1] at this
  exact this
 ·have:=hl.set (V.A3 k x) y
  rw [show({ V.A3 k x with Ar:=(V.A3 k x).Ar.put k y }:AN)=V.A3 k y from by unfold AN.A3;rw [Vector.EO]] at this
  exact this
theorem Vector.Mg {α:Type}[Inhabited α]{n:Nat}(v:Vector α n){k:Int}(h0:0≤k)(h1:k < n):v.put k (v.at k)=v:=by
 apply Ws
 intro i i0 i1
 by_cases e:i=k
 ·subst e;rw [Vector.CA h0 h1]
 ·rw [Vector.EM h0 h1 i0 e]
theorem AN.Nj (V:AN){k:Int}(h0:0≤k)(h1:k < 4):V.A3 k (V.Ar.at k)=V:=by
 unfold AN.A3;rw [Vector.Mg _ h0 h1]
def Cw (v:A4)(l:BD):Ae:=⟨v.state,v.Aw,v.DZ,v.ER.now,v.ER.long,v.ER.ret,l.queue,Page.of v.out,l.wait,l.told⟩
def A7 (V:AN)(ls:Vector BD 4)(ev:List Event):AG:=⟨V.w,Vector.ofFn fun i=>Cw (V.Ar.at ((i:Nat):Int)) (ls.at ((i:Nat):Int)),V.B8,ev⟩
theorem CV (V:AN)(ls:Vector BD 4)(ev:List Event){k:Int}(h0:0≤k)(h1:k < 4):(A7 V ls ev).at_ k=Cw (V.Ar.at k) (ls.at k):=by
 rcases four h0 h1 with e | e | e | e<;>subst e<;>rfl
theorem JU (V:AN)(ls:Vector BD 4)(ev:List Event){k:Int}(h0:0≤k)(h1:k < 4)(v:A4)(l:BD):A7 (V.A3 k v) (ls.put k l) ev=(A7 V ls ev).set k (Cw v l):=by
 unfold A7 AG.set AN.A3
 congr 1
 apply Ws
 intro i i0 i1
 have hof:∀(f:Fin 4→Ae),(Vector.ofFn f).at i=f ⟨i.toNat,by omega⟩:=fun f=>by
  rcases four i0 i1 with e | e | e | e<;>subst e<;>rfl
 rw [hof]
 have hi:((i.toNat:Nat):Int)=i:=by omega
 by_cases e:i=k
 ·subst e
  rw [Vector.CA h0 h1]
  show Cw ((V.Ar.put i v).at ((i.toNat:Nat):Int)) ((ls.put i l).at ((i.toNat:Nat):Int))=_
  rw [hi,Vector.CA h0 h1,Vector.CA h0 h1]
 ·rw [Vector.EM h0 h1 i0 e,hof]
  show Cw ((V.Ar.put k v).at ((i.toNat:Nat):Int)) ((ls.put k l).at ((i.toNat:Nat):Int))=Cw (V.Ar.at ((i.toNat:Nat):Int)) (ls.at ((i.toNat:Nat):Int))
  rw [hi,Vector.EM h0 h1 i0 e,Vector.EM h0 h1 i0 e]
section
variable {P:Program} {n:Nat} {w0 w:World} {M:List Nat} {Q:Exit→Go.Act→World→Prop} {F:List (Nat × Value)} {L K:List Ab} {cd:Code} {b T TS:Nat} {V:AN} {ls:Vector BD 4} {k:Int}
theorem St.iJ (h0:0≤k)(h1:k < 4)(h:St w0 M w (Ab.box b T V.enc :: Ab.DP (CQ TS V.Ar ls) :: K)) :
  St w0 M w (Ab.own (V.Ar.at k).ER.queue TS 1 ((ls.at k).queue.flatMap A6) :: Ab.own (V.Ar.at k).out.wait TS 1 ((ls.at k).wait.flatMap A6) :: Ab.own (V.Ar.at k).told TS 1 ((ls.at k).told.flatMap A6) :: Ab.box b T (Ka V k (V.Ar.at k)) :: Ab.DP (HI TS k V.Ar ls) :: K):=by
 have h2:St w0 M w (CQ TS V.Ar ls++(Ab.box b T V.enc :: K)):=(h.perm (List.Perm.swap ..)).WG
 have h3:=h2.perm ((RW TS h0 h1 V.Ar ls).append_right _)
 have h4:St w0 M w (HI TS k V.Ar ls++(F7 TS (V.Ar.at k) (ls.at k)++(Ab.box b T V.enc :: K))):=by
  refine h3.perm ?_
  rw [List.append_assoc]
  exact H5 _ _ _
 have h5:=h4.Wi
 unfold Ka
 rw [V.Nj h0 h1]
 refine h5.perm ?_
 exact(H5 [Ab.DP (HI TS k V.Ar ls)] (F7 TS (V.Ar.at k) (ls.at k) ++ [Ab.box b T V.enc]) K).trans (.of_eq (by simp [F7]))
theorem St.close' (h0:0≤k)(h1:k < 4){s:A4}{qs ws ts:List Ad}{q w' t:Hd}(hq:s.ER.queue=q)(hw:s.out.wait=w')(ht:s.told=t)
  (h:St w0 M w (Ab.own q TS 1 (qs.flatMap A6) :: Ab.own w' TS 1 (ws.flatMap A6) :: Ab.own t TS 1 (ts.flatMap A6) :: Ab.box b T (Ka V k s) :: Ab.DP (HI TS k V.Ar ls) :: K)) :
  St w0 M w (Ab.box b T (V.A3 k s).enc :: Ab.DP (CQ TS (V.A3 k s).Ar (ls.put k ⟨qs,ws,ts⟩)) :: K):=by
 subst hq hw ht
 have e1:(V.A3 k s).Ar.at k=s:=Vector.CA h0 h1
 have e2:(ls.put k ⟨qs,ws,ts⟩).at k=⟨qs,ws,ts⟩:=Vector.CA h0 h1
 have hp:=RW TS h0 h1 (V.A3 k s).Ar (ls.put k ⟨qs,ws,ts⟩)
 rw [e1,e2,show HI TS k (V.A3 k s).Ar (ls.put k ⟨qs,ws,ts⟩)=HI TS k V.Ar ls from X9 TS h0 h1 _ _ _ _] at hp
 have h2:St w0 M w (Ab.DP (HI TS k V.Ar ls) :: (F7 TS s ⟨qs,ws,ts⟩++(Ab.box b T (V.A3 k s).enc :: K))):=
  h.perm ((H5 [Ab.DP (HI TS k V.Ar ls)] (F7 TS s ⟨qs,ws,ts⟩ ++ [Ab.box b T (V.A3 k s).enc]) K).symm.trans (.of_eq (by simp [F7]))|>.symm.symm)
 have h3:=h2.WG
 have h4:St w0 M w ((F7 TS s ⟨qs,ws,ts⟩++HI TS k V.Ar ls)++(Ab.box b T (V.A3 k s).enc :: K)):=h3.perm (by rw [List.append_assoc];exact H5 _ _ _)
 have h5:=(h4.perm (hp.symm.append_right _)).Wi
 exact h5.perm (List.Perm.swap ..)
theorem Fj (h0:0≤k)(h1:k < 4)(h:∀ s l,V.Ar.at k=s→ls.at k=l→(s.ER.queue.len=l.queue.length∧s.out.wait.len=l.wait.length∧s.told.len=l.told.length)→G P n w0 M cd Q F (Ab.own s.ER.queue TS 1 (l.queue.flatMap A6) :: Ab.own s.out.wait TS 1 (l.wait.flatMap A6) :: Ab.own s.told TS 1 (l.told.flatMap A6) :: Ab.box b T (Ka V k s) :: Ab.DP (HI TS k V.Ar ls) :: K)) :
  G P n w0 M cd Q F (Ab.box b T V.enc :: Ab.DP (CQ TS V.Ar ls) :: K):=fun a w hF hS=>
 have hO:=hS.iJ h0 h1
 h _ _ rfl rfl ⟨(Kn.own (.head _) w hO).Lz C7 (by decide),(Kn.own (.tail _ (.head _)) w hO).Lz C7 (by decide),(Kn.own (.tail _ (.tail _ (.head _))) w hO).Lz C7 (by decide)⟩ a w hF hO
theorem Hp (h0:0≤k)(h1:k < 4){s:A4}{qs ws ts:List Ad}{q w' t:Hd}(hq:s.ER.queue=q)(hw:s.out.wait=w')(ht:s.told=t)(h:G P n w0 M cd Q F (Ab.box b T (V.A3 k s).enc :: Ab.DP (CQ TS (V.A3 k s).Ar (ls.put k ⟨qs,ws,ts⟩)) :: K)) :
  G P n w0 M cd Q F (Ab.own q TS 1 (qs.flatMap A6) :: Ab.own w' TS 1 (ws.flatMap A6) :: Ab.own t TS 1 (ts.flatMap A6) :: Ab.box b T (Ka V k s) :: Ab.DP (HI TS k V.Ar ls) :: K):=fun a w hF hS=>h a w hF (hS.close' h0 h1 hq hw ht)
theorem S2 {x:Exit}(h0:0≤k)(h1:k < 4){s:A4}{qs ws ts:List Ad}{q w' t:Hd}(hq:s.ER.queue=q)(hw:s.out.wait=w')(ht:s.told=t)(h:GQ n w0 M Q x F (Ab.box b T (V.A3 k s).enc :: Ab.DP (CQ TS (V.A3 k s).Ar (ls.put k ⟨qs,ws,ts⟩)) :: K)) :
  GQ n w0 M Q x F (Ab.own q TS 1 (qs.flatMap A6) :: Ab.own w' TS 1 (ws.flatMap A6) :: Ab.own t TS 1 (ts.flatMap A6) :: Ab.box b T (Ka V k s) :: Ab.DP (HI TS k V.Ar ls) :: K):=fun a w hF hS=>h a w hF (hS.close' h0 h1 hq hw ht)
end
theorem E3 {V:AN}{ls:Vector BD 4}{ev:List Event}{k:Int}(h0:0≤k)(h1:k < 4){s v:A4}{l l':BD}(hs:V.Ar.at k=s)(hl:ls.at k=l){f:Ae→Ae}(e:Cw v l'=f (Cw s l)):A7 (V.A3 k v) (ls.put k l') ev=(A7 V ls ev).set k (f ((A7 V ls ev).at_ k)):=by
 rw [JU V ls ev h0 h1,CV V ls ev h0 h1,hs,hl,e]
theorem Jt {v:A4}{l:BD}(h:v.out.wait.len=l.wait.length):(Cw v l).MC=Page.Bk v.out:=by
 unfold Ae.MC Page.Bk
 rw [h];rfl
end Go.Ing
/- A house: plain laws for the walks. -/
namespace Go.Ing
open Go
theorem Zt {v:A4}{l:BD}{u:Ad}(hw:v.out.wait.len=l.wait.length)(h:Page.Bk v.out=false):(Cw v l).line u=Cw v l:=if_pos (by rw [Jt hw,h];rfl)
theorem Zj {v:A4}{l:BD}{u:Ad}(hw:v.out.wait.len=l.wait.length)(h:Page.Bk v.out=true)(c:v.out.cut=true):(Cw v l).line u=Cw v l:=(if_neg (by rw [Jt hw,h];decide)).trans (if_pos c)
theorem YX {v:A4}{l:BD}{u:Ad}(hw:v.out.wait.len=l.wait.length)(h:Page.Bk v.out=true)(c:v.out.cut=false)(n:60≤l.wait.length):(Cw v l).line u=Cw { v with out:=⟨v.out.wait,v.out.shown,v.out.B5,v.out.ring,true⟩ } l:=
 (if_neg (by rw [Jt hw,h];decide)).trans ((if_neg (by show ¬ v.out.cut=true;rw [c];decide)).trans (if_pos (decide_eq_true (show(60:Int)≤(l.wait.length:Int) by omega))))
theorem Xl {v:A4}{l:BD}{u:Ad}(hw:v.out.wait.len=l.wait.length)(h:Page.Bk v.out=true)(c:v.out.cut=false)(n:l.wait.length < 60)(w:Hd):(Cw v l).line u=Cw { v with out:=⟨w,v.out.shown,v.out.B5,v.out.ring,v.out.cut⟩ } ⟨l.queue,l.wait ++ [u],l.told⟩:=
 (if_neg (by rw [Jt hw,h];decide)).trans ((if_neg (by show ¬ v.out.cut=true;rw [c];decide)).trans (if_neg (by rw [decide_eq_true_eq];show ¬ (60:Int)≤(l.wait.length:Int);omega)))
theorem dj {v:A4}{l:BD}{u:Ad}(h:(!v.out.cut)=true)(t:Hd):(Cw v l).note u=Cw { v with told:=t } ⟨l.queue,l.wait,l.told ++ [u]⟩:=if_pos h
theorem fE {v:A4}{l:BD}{u:Ad}(h:(!v.out.cut)=false):(Cw v l).note u=Cw v l:=if_neg (by show ¬ (!v.out.cut)=true;rw [h];decide)
theorem AG.CN (H:AG){k j:Int}(h0:0≤k)(h1:k < 4)(j0:0≤j)(s:Ae):(H.set k s).at_ j=if j=k then s else H.at_ j:=by
 unfold AG.set AG.at_
 by_cases e:j=k
 ·subst e;rw [if_pos rfl];exact Vector.CA h0 h1
 ·rw [if_neg e];exact Vector.EM h0 h1 j0 e
theorem CM (s:Ae)(u:Ad):(s.tell u).told.length≤s.told.length+1:=by
 have h:(s.line u).told=s.told:=by
  unfold Ae.line;split
  ·rfl
  ·split
   ·rfl
   ·split<;>rfl
 unfold Ae.tell Ae.note
 split
 ·show((s.line u).told ++ [u]).length≤_
  rw [h,List.length_append];exact Nat.le_refl _
 ·rw [h];exact Nat.le_succ _
theorem Lj {V V':AN}{ls ls':Vector BD 4}{ev ev':List Event}{k:Int}{u:Ad}(h0:0≤k)(h1:k < 4)(e:A7 V' ls' ev'=(A7 V ls ev).tell k u){j:Int}(j0:0≤j)(j1:j < 4) :
  (ls'.at j).told.length≤(ls.at j).told.length+1∧(j≠k→(ls'.at j).told=(ls.at j).told):=by
 have h:=congrArg (fun H=>(AG.at_ H j).told) e
 simp only [AG.tell] at h
 rw [CV _ _ _ j0 j1,AG.CN _ h0 h1 j0] at h
 have h':(ls'.at j).told=(if j=k then((A7 V ls ev).at_ k).tell u else(A7 V ls ev).at_ j).told:=h
 by_cases c:j=k
 ·subst c
  rw [if_pos rfl,CV _ _ _ j0 j1] at h'
  exact⟨by rw [h'];exact CM _ _,fun hn=>absurd rfl hn⟩
 ·rw [if_neg c,CV _ _ _ j0 j1] at h'
  exact⟨by rw [h'];exact Nat.le_succ _,fun _=>h'⟩
theorem L2 {V:AN}{ls:Vector BD 4}{ev:List Event}{e:Event}{X:AG}{i:Int}(h0:0≤i)(h1:i < 4)(h:A7 V ls ev=AG.CS e X i.toNat):AG.CS e X (i+1).toNat=if (!decide ((V.Ar.at i).state=2))=true then A7 V ls ev else if (AH.tell e (V.Ar.at i).Aw).2=true then(A7 V ls ev).tell i (AH.tell e (V.Ar.at i).Aw).1 else A7 V ls ev:=by
 obtain⟨m,rfl⟩:=Int.eq_ofNat_of_zero_le h0
 have ha:=CV V ls ev h0 h1
 rw [show((m:Int)+1).toNat=m+1 by omega,AG.CS]
 rw [show((m:Int)).toNat=m by omega] at h
 rw [← h,ha]
 rfl
theorem VD {H:AG}{es:List Event}{k:Int}(h0:0≤k)(h1:k < es.length):H.Hy (es.take (k+1).toNat)=AG.CS (es.getD k.toNat default) (H.Hy (es.take k.toNat)) 4:=by
 obtain⟨m,rfl⟩:=Int.eq_ofNat_of_zero_le h0
 have hm:m < es.length:=by omega
 show H.Hy (es.take (m+1))=AG.CS (es.getD m default) (H.Hy (es.take m)) 4
 unfold AG.Hy
 rw [List.take_add_one,List.getElem?_eq_getElem hm,List.foldl_append,List.getD_eq_getElem?_getD,List.getElem?_eq_getElem hm]
 rfl
def Yn (ls:Vector BD 4)(n:Nat):Prop:=∀ j:Int,0≤j→j < 4→(ls.at j).told.length≤n
theorem aW {H:AG}{ev es:List Event}(h:H.last=ev):AG.HQ H es=({ H with last:=ev++es }:AG).Hy es:=by subst h;rfl
end Go.Ing
/- What is said in a land of short names is short: plain laws. -/
namespace Go.Ing
open Go
namespace AH
structure ML (w:AH):Prop where
 th:∀ i,(w.AP.at i).name.length≤100
 be:∀ i,(w.AO.at i).name.length≤100
 ro:∀ i,(w.BT.at i).name.length≤100
theorem ML.Hb {w:AH}(h:w.ML):w.DV:=⟨fun i=>Nat.le_trans (h.th i) (by decide),fun i=>Nat.le_trans (h.be i) (by decide),fun i=>Nat.le_trans (h.ro i) (by decide)⟩
theorem aN {X:AH}(h:X.ML){i:Int}{t:An}(ht:t.name.length≤100):(X.Gr i t).ML:=⟨fun j=>by
 rcases Vector.N2 X.AP i j t with e | e
 ·show((X.AP.put i t).at j).name.length≤_;rw [e];exact ht
 ·show((X.AP.put i t).at j).name.length≤_;rw [e];exact h.th j,h.be,h.ro⟩
theorem JY {X:AH}(h:X.ML){i:Int}{t:Am}(ht:t.name.length≤100):(X.C1 i t).ML:=⟨h.th,fun j=>by
 rcases Vector.N2 X.AO i j t with e | e
 ·show((X.AO.put i t).at j).name.length≤_;rw [e];exact ht
 ·show((X.AO.put i t).at j).name.length≤_;rw [e];exact h.be j,h.ro⟩
theorem Yo {X:AH}(h:X.ML){r d:Int}{v:Bool}:(X.Mw r d v).ML:=⟨h.th,h.be,fun j=>by
 rcases Vector.N2 X.BT r j { X.BT.at r with shut:=(X.BT.at r).shut.put d v } with e | e
 ·show((X.BT.put r _).at j).name.length≤_;rw [e];exact h.ro r
 ·show((X.BT.put r _).at j).name.length≤_;rw [e];exact h.ro j⟩
end AH
namespace AE
structure C9 (T:AE):Prop where
 F8:T.w.ML
 out:∀ e∈T.out,AH.Small e
theorem NK {w:AH}(hw:w.ML):∀(l:List Int) (s:Ad),(Ge w s l).length≤s.length+l.length * 102
 | [],s=>by simp [Ge]
 | i :: r,s=>by
  have hn:=hw.th i
  unfold Ge
  split
  ·have:=NK hw r (s ++ [32]++(w.AP.at i).name ++ [42])
   simp only [List.length_append,List.length_cons,List.length_nil] at this ⊢
   omega
  ·have:=NK hw r (s ++ [32]++(w.AP.at i).name)
   simp only [List.length_append,List.length_cons,List.length_nil] at this ⊢
   omega
theorem Nq:(default:Am).name.length≤100:=by decide
section
variable {T:AE}
theorem C9.BV (h:C9 T){e:Event}(h1:e.BM.length≤1000000)(h2:e.text.length≤1000000)(h3:e.ED.length≤1000000)(h4:-9223372036854775808≤e.n)(h5:e.n≤9223372036854775807):C9 (T.BV e):=by
 refine⟨h.F8,fun x hx=>?_⟩
 rcases List.mem_append.1 (show x∈T.out ++ [T.w.Gj (T.Cf e) 6] from hx) with hx | hx
 ·exact h.out x hx
 ·have hx':x=T.w.Gj (T.Cf e) 6:=by simpa using hx
  subst hx'
  obtain⟨a1,a2,a3,a4,a5,a6,a7,a8,a9⟩:=AH.Hq T.w (T.Cf e) 6
  have e2:(T.Cf e).n=e.n∧(T.Cf e).G9=T.me.name∧(T.Cf e).ED.length≤1000000∧(T.Cf e).BM=e.BM∧(T.Cf e).text=e.text:=by
   unfold Cf
   split
   ·exact⟨rfl,rfl,Nat.le_trans (h.F8.be _) (by decide),rfl,rfl⟩
   ·exact⟨rfl,rfl,h3,rfl,rfl⟩
  obtain⟨b4,b5,b6,b7,b8⟩:=e2
  refine⟨?_,?_,?_,?_,?_,?_⟩
  ·rw [a6,b5];exact Nat.le_trans (h.F8.be T.b) (by decide)
  ·rw [a7];exact Nat.le_trans b6 (by decide)
  ·rw [a8,b7];exact Nat.le_trans h1 (by decide)
  ·rw [a9,b8];exact Nat.le_trans h2 (by decide)
  ·rw [a5,b4];exact h4
  ·rw [a5,b4];exact h5
theorem C9.tell (h:C9 T){s:Ad}(hs:s.length≤1000000):C9 (T.tell s):=h.BV (Nat.zero_le _) hs (Nat.zero_le _) (show(-9223372036854775808:Int)≤0 by decide) (show(0:Int)≤9223372036854775807 by decide)
theorem C9.kind (h:C9 T)(k:Int):C9 (T.kind k):=h.BV (Nat.zero_le _) (Nat.zero_le _) (Nat.zero_le _) (show(-9223372036854775808:Int)≤0 by decide) (show(0:Int)≤9223372036854775807 by decide)
theorem C9.BM (h:C9 T)(k i:Int):C9 (T.BM k i):=h.BV (Nat.le_trans (h.F8.th i) (by decide)) (Nat.zero_le _) (Nat.zero_le _) (show(-9223372036854775808:Int)≤0 by decide) (show(0:Int)≤9223372036854775807 by decide)
theorem C9.land (h:C9 T){w':AH}(ht:w'.ML):C9 { T with w:=w' }:=⟨ht,h.out⟩
theorem C9.DH (h:C9 T){i:Int}{t:An}(ht:t.name=(T.w.AP.at i).name):C9 (T.DH i t):=h.land (w':=T.w.Gr i t) (AH.aN h.F8 (by rw [ht];exact h.F8.th i))
theorem C9.place (h:C9 T)(i Cg at_:Int):C9 (T.place i Cg at_):=h.DH rfl
theorem C9.Cq (h:C9 T)(k f:Int):C9 (T.Cq k f):=h.land (w':=T.w.C1 k { T.w.AO.at k with B7:=f }) (AH.JY h.F8 (h.F8.be k))
theorem C9.Dg (h:C9 T)(k:Int){x:Am}(hx:x.name.length≤100):C9 (T.Dg k x):=h.land (w':=T.w.C1 k x) (AH.JY h.F8 hx)
theorem C9.DG (h:C9 T)(r d:Int)(v:Bool):C9 (T.DG r d v):=h.land (w':=T.w.Mw r d v) (AH.Yo h.F8)
theorem C9.Fw (h:C9 T)(r:Int):C9 (T.Fw r):=h.land (w':=T.w.C1 T.b { T.me with room:=r,B7:=0 }) (AH.JY h.F8 (h.F8.be T.b))
theorem C9.list (h:C9 T){s:Ad}(hs:s.length≤100){l:List Int}(hl:l.length≤9):C9 (T.list s l):=by
 refine h.tell ?_
 have:=NK h.F8 l s
 unfold MS
 split<;>simp only [List.length_append,List.length_cons,List.length_nil]<;>omega
theorem C9.look (h:C9 T):C9 T.look:=by
 have hk:∀ {T':AE},C9 T'→∀ k:Nat,C9 (T'.F0 k):=fun {T'} h' k=>by
  induction k with
  | zero=>exact h'
  | succ k ih=>
   unfold F0
   split
   ·exact ih.tell (by
     have:=ih.F8.be k
     have e:(T'.F0 k).w=T'.w:=(K5 T' k).1
     rw [e] at this
     simp only [List.length_append,List.length_cons,List.length_nil];omega)
   ·exact ih
 unfold AE.look
 split
 ·exact h.tell (by show([73,116,32,105,115,32,100,97,114,107,46]:Ad).length≤_;decide)
 ·refine hk ?_ 6
  have ha:C9 T.KG:=(h.tell (by
   have:=h.F8.ro T.me.room
   simp only [List.length_append,List.length_cons,List.length_nil];omega)).tell (by
   have:=NM (T.w.BT.at T.me.room) 6
   omega)
  unfold ES
  split
  ·exact ha.list (by decide) (AH.Iw ..)
  ·exact ha
theorem C9.walk (h:C9 T)(d:Int):C9 (T.walk d):=by
 unfold AE.walk
 split
 ·exact h.tell (by decide)
 ·split
  ·exact h.tell (by decide)
  ·have i1:C9 (T.BV { GF 1 with dir:=d }):=h.BV (Nat.zero_le _) (Nat.zero_le _) (Nat.zero_le _) (show(-9223372036854775808:Int)≤0 by decide) (show(0:Int)≤9223372036854775807 by decide)
   exact((i1.Fw _).BV (e:={ GF 2 with dir:=AH.opposite d }) (Nat.zero_le _) (Nat.zero_le _) (Nat.zero_le _) (show(-9223372036854775808:Int)≤0 by decide) (show(0:Int)≤9223372036854775807 by decide)).look
theorem C9.box (h:C9 T)(u:Ad):C9 (T.box u).1:=by
 unfold AE.box
 split
 ·exact h.tell (by decide)
 ·split
  ·exact h.tell (by decide)
  ·exact h
theorem C9.A9 (h:C9 T)(u:Ad):C9 (T.A9 u).1:=by
 unfold AE.A9
 split
 ·split
  ·exact h
  ·exact h.tell (by decide)
 ·exact h.tell (by decide)
theorem C9.DR (l:List Int):∀ {T':AE},C9 T'→C9 (T'.DR l):=by
 induction l with
 | nil=>exact fun h=>h
 | cons i r ih=>exact fun {T'} h=>ih ((h.place i 1 T'.b).BM 3 i)
theorem C9.LM (h:C9 T)(l:List Int)(o:Order):C9 (T.LM l o):=by
 unfold AE.LM
 refine C9.DR _ ?_
 split
 ·exact h.tell (by decide)
 ·exact h
theorem C9.get (h:C9 T)(o:Order):C9 (T.get o):=by
 unfold AE.get
 split
 ·split
  ·exact h.box _
  ·exact(h.box _).LM _ _
 ·exact h.LM _ _
theorem C9.Cz (h:C9 T)(v to i:Int):C9 (T.Cz v to i):=by
 unfold AE.Cz
 split
 ·exact h.tell (by decide)
 ·split
  ·exact(h.place _ _ _).BM _ _
  ·split
   ·exact(h.place i 1 to).BV (e:={ GF 6 with other:=to,BM:=(T.w.AP.at i).name }) (Nat.le_trans (h.F8.th i) (by decide)) (Nat.zero_le _) (Nat.zero_le _) (show(-9223372036854775808:Int)≤0 by decide) (show(0:Int)≤9223372036854775807 by decide)
   ·split
    ·exact h.tell (by decide)
    ·exact(h.place i 2 to).BV (e:={ GF 5 with BM:=(T.w.AP.at i).name,text:=(T.w.AP.at to).name }) (Nat.le_trans (h.F8.th i) (by decide)) (Nat.le_trans (h.F8.th to) (by decide)) (Nat.zero_le _) (show(-9223372036854775808:Int)≤0 by decide) (show(0:Int)≤9223372036854775807 by decide)
theorem C9.Ez {v to:Int}(l:List Int):∀ {T':AE},C9 T'→C9 (T'.Ez v to l):=by
 induction l with
 | nil=>exact fun h=>h
 | cons i r ih=>exact fun h=>ih (h.Cz v to i)
theorem C9.FV (h:C9 T)(o:Order):C9 (T.FV o):=by
 have ht:C9 (T.C0 o).1:=by
  unfold C0
  split
  ·exact h.box _
  ·split
   ·exact h.A9 _
   ·exact h
 unfold AE.FV
 split
 ·exact ht
 ·unfold TB
  refine C9.Ez _ ?_
  split
  ·exact ht.tell (by decide)
  ·exact ht
theorem C9.FK (h:C9 T)(o:Order):C9 (T.FK o):=by
 unfold AE.FK
 generalize (if (!decide (o.nth=1) || o.Bq)=true then [] else o.name)=nm
 have hs:=h.A9 nm
 split
 ·exact hs
 ·refine C9.tell ?_ (by decide)
  split
  ·exact(hs.Cq _ _).Cq _ _
  ·exact hs.Cq _ _
theorem C9.before (h:C9 T)(first:Bool)(i:Int)(v:Bool)(k:Int):C9 (T.before first i v k):=by
 unfold AE.before
 split
 ·exact(C9.DH h (i:=i) (t:={ T.w.AP.at i with on:=v }) rfl).BM _ _
 ·exact(h.BM k i).DH rfl
theorem C9.Gv (h:C9 T)(d:Int)(on:Bool)(k:Int):C9 (T.Gv d on k):=by
 unfold AE.Gv
 split
 ·exact h.tell (by decide)
 ·split
  ·exact h.tell (by decide)
  ·refine C9.BV ?_ (by show([100,111,111,114]:Ad).length≤1000000;decide) (Nat.zero_le _) (Nat.zero_le _) (show(-9223372036854775808:Int)≤0 by decide) (show(0:Int)≤9223372036854775807 by decide)
   split
   ·exact(h.DG _ _ _).DG _ _ _
   ·exact h.DG _ _ _
theorem C9.set (h:C9 T)(o:Order):C9 (T.set o):=by
 unfold AE.set
 split
 ·exact h.Gv _ _ _
 ·split
  ·exact h.tell (by decide)
  ·split
   ·exact h.tell (by decide)
   ·split
    ·exact h.before _ _ _ _
    ·exact h.before _ _ _ _
theorem C9.Cj (l:List Int):∀ {T':AE},C9 T'→C9 (T'.Cj l):=by
 induction l with
 | nil=>exact fun h=>h
 | cons i r ih=>exact fun {T'} h=>ih (C9.DH h (i:=i) rfl)
theorem C9.Dj (h:C9 T):∀ k:Nat,C9 (T.Dj k)
 | 0=>h
 | k+1=>by
  unfold AE.Dj
  split
  ·exact(C9.Dj h k).Cq _ _
  ·exact C9.Dj h k
theorem C9.FQ (h:C9 T):C9 T.FQ:=by
 rw [Mo]
 exact((C9.Cj _ h).Dj 6).Cq _ _
theorem C9.GY (h:C9 T):C9 T.GY:=by
 have hf:=C9.FQ (h.kind 18)
 unfold AE.GY
 generalize (T.kind 18).FQ=F at *
 exact hf.Dg T.b (x:=default) Nq
theorem C9.act (h:C9 T){o:Order}(hx:o.text.length≤1000000):C9 (T.act o):=by
 unfold AE.act
 split
 ·exact h.walk _
 ·split
  ·exact h.look
  ·split
   ·exact h.list (by decide) (AH.Iw ..)
   ·split
    ·exact h.BV (e:={ GF 7 with text:=o.text }) (Nat.zero_le _) hx (Nat.zero_le _) (show(-9223372036854775808:Int)≤0 by decide) (show(0:Int)≤9223372036854775807 by decide)
    ·split
     ·exact h.GY
     ·split
      ·exact h.FK _
      ·split
       ·exact h.get _
       ·split
        ·exact h.FV _
        ·exact h.set _
end
theorem K0 {X:AH}{b:Int}{o:Order}(hw:X.ML)(hx:o.text.length≤1000000):(EJ X b o).1.ML∧∀ e∈(EJ X b o).2.1,AH.Small e:=by
 unfold EJ
 split
 ·exact⟨hw,fun e h=>by cases h⟩
 ·split
  ·exact⟨hw,fun e h=>by cases h⟩
  ·split
   ·exact⟨hw,fun e h=>by cases h⟩
   ·have:=C9.act (T:=⟨X,b,[]⟩) ⟨hw,fun e h=>by cases h⟩ hx
    exact⟨this.F8,this.out⟩
theorem Jh {X:AH}{s:Ad}(hw:X.ML):(Bc X s).1.ML∧∀ e∈(Bc X s).2.2.1,AH.Small e:=by
 unfold Bc
 split
 ·exact⟨hw,fun e h=>by cases h⟩
 ·split
  ·exact⟨hw,fun e h=>by cases h⟩
  ·rename_i h1
   split
   ·exact⟨hw,fun e h=>by cases h⟩
   ·split
    ·exact⟨hw,fun e h=>by cases h⟩
    ·have hn:s.length≤8:=by
      have h2:Eu s=true:=by simpa using h1
      simp only [Eu,Bool.and_eq_true,decide_eq_true_eq] at h2
      omega
     have h0:C9 ⟨X.C1 (CP X 6) (I5 s),CP X 6,[]⟩:=⟨AH.JY hw (by show s.length≤100;omega),fun e h=>by cases h⟩
     have:=(h0.kind 17).look
     exact⟨this.F8,this.out⟩
theorem Vd {w:AH}{b B7 n:Int}(hw:w.ML)(h0:1≤n)(h1:n≤3):C9 (CE w b B7 n):=by
 have hs:C9 ⟨w,b,[]⟩:=⟨hw,fun e h=>by cases h⟩
 unfold CE
 exact(hs.BV (e:={ GF 14 with other:=B7,n:=n }) (Nat.zero_le _) (Nat.zero_le _) (Nat.zero_le _) (show -9223372036854775808≤n by omega) (show n≤9223372036854775807 by omega)).Dg _ (hw.be B7)
theorem C9.jJ {T:AE}(h:C9 T)(b:Int):C9 (T.Dg b { T.w.AO.at b with room:=0,BP:=10 }):=h.Dg b (h.F8.be b)
theorem Zz {w:AH}{b:Int}(hw:w.ML):C9 (IT w b):=by
 have h0:C9 (Fh w b):=⟨AH.JY hw (hw.be b),fun e h=>by cases h⟩
 have h1:C9 (GZ w b):=by unfold GZ;exact(h0.kind 15).FQ
 unfold IT
 split
 ·generalize GZ w b=F at *
  exact h1.Dg b (x:=default) Nq
 ·have h2:C9 (Je w b):=by unfold Je;exact h1.jJ b
  exact(h2.kind 17).look
theorem U4 {draw b:Int}(hb:0≤b){s:AH × List Event}(h:s.1.ML∧∀ e∈s.2,AH.Small e):(Eb draw b s).1.ML∧∀ e∈(Eb draw b s).2,AH.Small e:=by
 have hh:=Ma (draw:=draw) hb
 unfold Eb
 split
 ·exact h
 ·split
  ·exact⟨AH.JY h.1 (h.1.be b),h.2⟩
  ·have hk:=Vd (b:=b) (B7:=(s.1.AO.at b).B7 - 1) h.1 hh.1 hh.2
   split
   ·have hd:=Zz (b:=(s.1.AO.at b).B7 - 1) hk.F8
    refine⟨hd.F8,fun e he=>?_⟩
    rcases List.mem_append.1 he with he | he
    ·rcases List.mem_append.1 he with he | he
     ·exact h.2 e he
     ·exact hk.out e he
    ·exact hd.out e he
   ·refine⟨hk.F8,fun e he=>?_⟩
    rcases List.mem_append.1 he with he | he
    ·exact h.2 e he
    ·exact hk.out e he
theorem PF {X:AH}{draw:Int}(hw:X.ML):∀ k:Nat,(Dp X draw k).1.ML∧∀ e∈(Dp X draw k).2,AH.Small e
 | 0=>⟨hw,fun e h=>by cases h⟩
 | k+1=>U4 (by omega) (PF hw k)
theorem L3 {X:AH}{draw:Int}(hw:X.ML):(CU X draw).1.ML∧∀ e∈(CU X draw).2.1,AH.Small e:=by
 unfold CU
 split
 ·exact⟨hw,fun e h=>by cases h⟩
 ·have h:=PF (draw:=draw) hw 6
  generalize Dp X draw 6=r at *
  exact h
end AE
end Go.Ing
/- What a house keeps: plain laws. -/
namespace Go.Ing
open Go
namespace AG
def eg (q:List Ad):Prop:=q.length≤6∧∀ s∈q,s.length≤60
structure Fit (H:AG)(n m:Nat):Prop where
 F8:H.w.ML
 told:∀ k:Int,0≤k→k < 4→(H.at_ k).told.length≤n
 last:H.last.length≤m
 Aw:∀ k:Int,0≤k→k < 4→(H.at_ k).state=2→0≤(H.at_ k).Aw∧(H.at_ k).Aw < 6
 wait:∀ k:Int,0≤k→k < 4→∀ s∈(H.at_ k).wait,s.length≤70368744000000
 queue:∀ k:Int,0≤k→k < 4→eg (H.at_ k).queue
variable {H:AG} {n m:Nat}
theorem Fit.mono (h:H.Fit n m){n' m':Nat}(hn:n≤n')(hm:m≤m'):H.Fit n' m':=⟨h.F8,fun k a b=>Nat.le_trans (h.told k a b) hn,Nat.le_trans h.last hm,h.Aw,h.wait,h.queue⟩
theorem Fit.set (h:H.Fit n m){k:Int}(h0:0≤k)(h1:k < 4){s:Ae}(ht:s.told.length≤n)(hb:s.state=2→0≤s.Aw∧s.Aw < 6)(hw:∀ u∈s.wait,u.length≤70368744000000)(hq:eg s.queue):(H.set k s).Fit n m:=by
 have e:∀ j:Int,0≤j→(H.set k s).at_ j=if j=k then s else H.at_ j:=fun j j0=>AG.CN H h0 h1 j0 s
 refine⟨h.F8,fun j a b=>?_,h.last,fun j a b=>?_,fun j a b=>?_,fun j a b=>?_⟩<;>rw [e j a]<;>split
 ·exact ht
 ·exact h.told j a b
 ·exact hb
 ·exact h.Aw j a b
 ·exact hw
 ·exact h.wait j a b
 ·exact hq
 ·exact h.queue j a b
theorem Fit.land (h:H.Fit n m){w:AH}(hw:w.ML):({ H with w:=w }:AG).Fit n m:=⟨hw,h.told,h.last,h.Aw,h.wait,h.queue⟩
theorem RV (s:Ae)(u:Ad):(s.line u).wait=s.wait∨(s.line u).wait=s.wait ++ [u]:=by
 unfold Ae.line
 split
 ·exact .inl rfl
 ·split
  ·exact .inl rfl
  ·split
   ·exact .inl rfl
   ·exact .inr rfl
theorem XP (s:Ae)(u:Ad):(s.line u).state=s.state∧(s.line u).Aw=s.Aw∧(s.line u).queue=s.queue∧(s.line u).told=s.told:=by
 unfold Ae.line
 split
 ·exact⟨rfl,rfl,rfl,rfl⟩
 ·split
  ·exact⟨rfl,rfl,rfl,rfl⟩
  ·split<;>exact⟨rfl,rfl,rfl,rfl⟩
theorem Fu (s:Ae)(u:Ad):(s.tell u).state=s.state∧(s.tell u).Aw=s.Aw∧(s.tell u).queue=s.queue∧(s.tell u).wait=(s.line u).wait:=by
 obtain⟨a,b,c,_⟩:=XP s u
 unfold Ae.tell Ae.note
 split
 ·exact⟨a,b,c,rfl⟩
 ·exact⟨a,b,c,rfl⟩
theorem Fit.tell (h:H.Fit n m){k:Int}(h0:0≤k)(h1:k < 4){u:Ad}(hu:u.length≤70368744000000):(H.tell k u).Fit (n+1) m:=by
 obtain⟨a,b,c,d⟩:=Fu (H.at_ k) u
 refine(h.mono (Nat.le_succ n) (Nat.le_refl m)).set h0 h1 (Nat.le_trans (CM _ _) (Nat.succ_le_succ (h.told k h0 h1))) (by rw [a,b];exact h.Aw k h0 h1) (fun s hs=>?_) (by rw [c];exact h.queue k h0 h1)
 rw [d] at hs
 rcases RV (H.at_ k) u with e | e<;>rw [e] at hs
 ·exact h.wait k h0 h1 s hs
 ·rcases List.mem_append.1 hs with hs | hs
  ·exact h.wait k h0 h1 s hs
  ·rw [List.mem_singleton.1 hs];exact hu
theorem bk {e:Event}(he:AH.Small e)(b:Int):(AH.tell e b).1.length≤70368744000000:=by
 unfold AH.tell
 split
 ·exact Nat.zero_le _
 ·split
  ·exact Nat.zero_le _
  ·refine Nat.le_trans (AH.PI he (AH.RD he b) (AH.Pn he b) _ _) ?_
   have:=AH.PN e b
   omega
theorem Wl {k j:Int}(h0:0≤k)(h1:k < 4)(j0:0≤j)(hn:j≠k)(u:Ad):(H.tell k u).at_ j=H.at_ j:=by
 unfold AG.tell
 rw [AG.CN H h0 h1 j0,if_neg hn]
theorem Lw (e:Event)(H:AG):∀ k:Nat,k≤4→∀ j:Int,(k:Int)≤j→j < 4→(CS e H k).at_ j=H.at_ j
 | 0,_,_,_,_=>rfl
 | k+1,hk,j,h0,h1=>by
  have ih:=Lw e H k (by omega) j (by omega) h1
  unfold CS
  split
  ·exact ih
  ·split
   ·rw [Wl (by omega) (by omega) (by omega) (by omega)];exact ih
   ·exact ih
theorem QJ {e:Event}(he:AH.Small e)(h:H.Fit n m):∀ k:Nat,k≤4→(CS e H k).Fit (n+1) m
 | 0,_=>h.mono (Nat.le_succ n) (Nat.le_refl m)
 | k+1,hk=>by
  have ih:=QJ he h k (by omega)
  unfold CS
  split
  ·exact ih
  ·split
   ·have hr:=Lw e H k (by omega) k (Int.le_refl _) (by omega)
    obtain⟨a,b,c,d⟩:=Fu ((CS e H k).at_ k) (AH.tell e ((CS e H k).at_ k).Aw).1
    unfold AG.tell
    refine ih.set (by omega) (by omega) ?_ (by rw [a,b];exact ih.Aw k (by omega) (by omega)) (fun s hs=>?_) (by rw [c];exact ih.queue k (by omega) (by omega))
    ·refine Nat.le_trans (CM _ _) ?_
     rw [hr];exact Nat.succ_le_succ (h.told k (by omega) (by omega))
    ·rw [d] at hs
     rcases RV ((CS e H k).at_ k) (AH.tell e ((CS e H k).at_ k).Aw).1 with q | q<;>rw [q] at hs
     ·exact ih.wait k (by omega) (by omega) s hs
     ·rcases List.mem_append.1 hs with hs | hs
      ·exact ih.wait k (by omega) (by omega) s hs
      ·rw [List.mem_singleton.1 hs];exact bk he _
   ·exact ih
theorem RF:∀(es:List Event) {H:AG} {n:Nat},(∀ e∈es,AH.Small e)→H.Fit n m→(H.Hy es).Fit (n+es.length) m
 | [],_,_,_,h=>h
 | e :: r,H,n,he,h=>by
  have h1:=QJ (he e (List.mem_cons_self ..)) h 4 (Nat.le_refl 4)
  have h2:=RF r (fun x hx=>he x (List.mem_cons_of_mem _ hx)) h1
  rw [List.length_cons,show n+(r.length+1)=n+1+r.length by omega]
  exact h2
theorem Fit.HQ (h:H.Fit n m){es:List Event}(he:∀ e∈es,AH.Small e):(H.HQ es).Fit (n+es.length) (m+es.length):=by
 refine RF (m:=m+es.length) es he ?_
 exact⟨h.F8,h.told,by show(H.last++es).length≤_;rw [List.length_append];exact Nat.add_le_add_right h.last _,h.Aw,h.wait,h.queue⟩
theorem Fit.free (h:H.Fit n m){k:Int}(h0:0≤k)(h1:k < 4):(H.set k default).Fit n m:=
 h.set h0 h1 (Nat.zero_le _) (fun e=>absurd (show(0:Int)=2 from e) (by decide)) (fun u hu=>by cases hu) ⟨Nat.zero_le _,fun u hu=>by cases hu⟩
theorem Nb:EL.text.length≤1000000:=Nat.zero_le _
theorem Fit.leave (h:H.Fit n m){k:Int}(h0:0≤k)(h1:k < 4):(H.leave k).Fit (n+11) (m+11):=by
 unfold AG.leave
 refine Fit.free ?_ h0 h1
 split
 ·have hd:=AE.K0 (b:=(H.at_ k).Aw) (o:=EL) h.F8 Nb
  have hl:=AE.OS H.w (H.at_ k).Aw EL
  exact(((h.land hd.1).free h0 h1).HQ hd.2).mono (Nat.add_le_add_left hl n) (Nat.add_le_add_left hl m)
 ·exact h.mono (Nat.le_add_right ..) (Nat.le_add_right ..)
theorem UX (ht:Int):∀(l:List Ad) (x:Page.Pg),∀ s∈(Page.BH ht l x).2,s∈l
 | [],_,s,h=>h
 | q :: r,x,s,h=>by
  unfold Page.BH at h
  split at h
  ·exact h
  ·split at h
   ·exact h
   ·exact List.mem_cons_of_mem _ (UX ht r _ s h)
theorem F5 (s:Ae):s.BH.told=s.told∧s.BH.state=s.state∧s.BH.Aw=s.Aw∧s.BH.queue=s.queue∧∀ u∈s.BH.wait,u∈s.wait:=by
 unfold Ae.BH
 split
 ·exact⟨rfl,rfl,rfl,rfl,fun _ h=>h⟩
 ·exact⟨rfl,rfl,rfl,rfl,UX _ _ _⟩
theorem Fit.aK (h:H.Fit n m){k:Int}(h0:0≤k)(h1:k < 4):(H.set k (H.at_ k).BH).Fit n m:=by
 obtain⟨a,b,c,d,e⟩:=F5 (H.at_ k)
 exact h.set h0 h1 (by rw [a];exact h.told k h0 h1) (by rw [b,c];exact h.Aw k h0 h1) (fun u hu=>h.wait k h0 h1 u (e u hu)) (by rw [d];exact h.queue k h0 h1)
theorem NJ (h:H.Fit n m):∀ k:Nat,k≤4→(H.CG k).1.Fit (n+11 * k) (m+11 * k)
 | 0,_=>h
 | k+1,hk=>by
  have ih:=NJ h k (by omega)
  unfold CG
  split
  ·exact ih.mono (by omega) (by omega)
  ·split
   ·exact((ih.aK (by omega) (by omega)).leave (by omega) (by omega)).mono (by omega) (by omega)
   ·exact(ih.aK (by omega) (by omega)).mono (by omega) (by omega)
theorem Rh:∀(r:Nat) {H:AG} {n m:Nat},H.Fit n m→(H.GW r).Fit (n+44 * r) (m+44 * r)
 | 0,_,_,_,h=>h
 | r+1,H,n,m,h=>by
  have h1:=NJ h 4 (Nat.le_refl 4)
  unfold GW
  split
  ·exact h1.mono (by omega) (by omega)
  ·exact(Rh r h1).mono (by omega) (by omega)
theorem Fit.BH (h:H.Fit n m):H.BH.Fit (n+220) (m+220):=Rh 5 h
end AG
end Go.Ing
/- A house: plain laws for the walks, on. -/
namespace Go.Ing
open Go
theorem JI {V:AN}{ls:Vector BD 4}{ev:List Event}{k:Int}(h0:0≤k)(h1:k < 4):A7 (V.A3 k default) (ls.put k ⟨[],[],[]⟩) ev=(A7 V ls ev).set k default:=JU V ls ev h0 h1 _ _
theorem QA {V:AN}{ls:Vector BD 4}{ev:List Event}{w:AH}:A7 { V with w:=w } ls ev={ A7 V ls ev with w:=w }:=rfl
theorem Rz {V V4:AN}{ls ls4:Vector BD 4}{ev ev4:List Event}{k:Int}(h0:0≤k)(h1:k < 4)(c:(decide ((V.Ar.at k).state=2) && (V.w.AO.at (V.Ar.at k).Aw).here)=true)
  (e:A7 V4 ls4 ev4=(A7 (AN.A3 { V with w:=(AE.EJ V.w (V.Ar.at k).Aw AG.EL).1 } k default) (ls.put k ⟨[],[],[]⟩) ev).HQ (AE.EJ V.w (V.Ar.at k).Aw AG.EL).2.1) :
  A7 (V4.A3 k default) (ls4.put k ⟨[],[],[]⟩) ev4=(A7 V ls ev).leave k:=by
 rw [JI h0 h1,e,JI h0 h1,QA]
 have ha:=CV V ls ev h0 h1
 unfold AG.leave AG.VK
 rw [ha]
 rw [if_pos (show(decide ((Cw (V.Ar.at k) (ls.at k)).state=2) && ((A7 V ls ev).w.AO.at (Cw (V.Ar.at k) (ls.at k)).Aw).here)=true from c)]
 rfl
theorem Wf {V:AN}{ls:Vector BD 4}{ev:List Event}{k:Int}(h0:0≤k)(h1:k < 4)(c:(decide ((V.Ar.at k).state=2) && (V.w.AO.at (V.Ar.at k).Aw).here)=false) :
  A7 (V.A3 k default) (ls.put k ⟨[],[],[]⟩) ev=(A7 V ls ev).leave k:=by
 rw [JI h0 h1]
 have ha:=CV V ls ev h0 h1
 unfold AG.leave
 rw [ha]
 rw [if_neg (show ¬ (decide ((Cw (V.Ar.at k) (ls.at k)).state=2) && ((A7 V ls ev).w.AO.at (Cw (V.Ar.at k) (ls.at k)).Aw).here)=true by rw [show(decide ((Cw (V.Ar.at k) (ls.at k)).state=2) && ((A7 V ls ev).w.AO.at (Cw (V.Ar.at k) (ls.at k)).Aw).here)=false from c];decide)]
theorem HM {V:AN}{ls:Vector BD 4}{ev:List Event}{n m:Nat}(h:(A7 V ls ev).Fit n m):Yn ls n:=fun j j0 j1=>by
 have:=h.told j j0 j1
 rw [CV V ls ev j0 j1] at this
 exact this
theorem Xe {V:AN}{ls:Vector BD 4}{ev:List Event}{n m:Nat}(h:(A7 V ls ev).Fit n m){k:Int}(h0:0≤k)(h1:k < 4):(V.Ar.at k).state≠2∨(0≤(V.Ar.at k).Aw∧(V.Ar.at k).Aw < 6):=by
 have:=h.Aw k h0 h1
 rw [CV V ls ev h0 h1] at this
 by_cases c:(V.Ar.at k).state=2
 ·exact .inr (this c)
 ·exact .inl c
theorem St.or {w0 w:World}{M:List Nat}{L:List Ab}{T TS:Nat}{h f g:Hd}{xs qs zs:List Ad}(ho:fK T h xs TS f qs TS g zs)(hS:St w0 M w (Ab.own g TS 1 (zs.flatMap A6) :: Ab.own f TS 1 (qs.flatMap A6) :: L)):St w0 M w (Ab.own h TS 1 (xs.flatMap A6) :: L):=by
 rcases ho with ⟨_,rfl,rfl,_,_⟩ | ⟨_,rfl,rfl⟩
 ·exact hS.sub (List.sublist_cons_self ..)
 ·exact hS.sub (List.Sublist.cons_cons _ (List.sublist_cons_self ..))
theorem gZ {n:Nat}{w0:World}{M:List Nat}{Q:Exit→Go.Act→World→Prop}{F:List (Nat × Value)}{L:List Ab}{x:Exit}{T TS:Nat}{h f g:Hd}{xs qs zs:List Ad}(ho:fK T h xs TS f qs TS g zs)(k:GQ n w0 M Q x F (Ab.own h TS 1 (xs.flatMap A6) :: L)):GQ n w0 M Q x F (Ab.own g TS 1 (zs.flatMap A6) :: Ab.own f TS 1 (qs.flatMap A6) :: L):=fun a w hF hS=>k a w hF (St.or ho hS)
theorem KH {v:A4}{l:BD}(hw:v.out.wait.len=l.wait.length)(h:(!Page.Bk v.out || decide (v.DZ.Bv < 0) || decide (200 < v.DZ.Bv))=true):Cw v l=(Cw v l).BH:=
 (if_pos (show(!(Cw v l).MC || decide (v.DZ.Bv < 0) || decide (200 < v.DZ.Bv))=true by rw [Jt hw];exact h)).symm
theorem bq {v:A4}{l:BD}(hw:v.out.wait.len=l.wait.length)(h:(!Page.Bk v.out || decide (v.DZ.Bv < 0) || decide (200 < v.DZ.Bv))=false)(w:Hd) :
  Cw { v with out:=⟨w,(Page.BH v.DZ.Bv l.wait (Page.of v.out)).1.shown,(Page.BH v.DZ.Bv l.wait (Page.of v.out)).1.B5,(Page.BH v.DZ.Bv l.wait (Page.of v.out)).1.ring,(Page.BH v.DZ.Bv l.wait (Page.of v.out)).1.cut⟩ } ⟨l.queue,(Page.BH v.DZ.Bv l.wait (Page.of v.out)).2,l.told⟩=(Cw v l).BH:=
 ((if_neg (show ¬ (!(Cw v l).MC || decide (v.DZ.Bv < 0) || decide (200 < v.DZ.Bv))=true by rw [Jt hw,h];decide)).trans rfl).symm
theorem L8 {V:AN}{ls:Vector BD 4}{ev:List Event}{c:Bool}{H:AG}{i:Int}(h0:0≤i)(h1:i < 4)(h:(A7 V ls ev,c)=H.CG i.toNat) :
  H.CG (i+1).toNat=if decide ((V.Ar.at i).state=0)=true then(A7 V ls ev,c) else if (((A7 V ls ev).at_ i).BH).pg.cut=true then(((A7 V ls ev).set i ((A7 V ls ev).at_ i).BH).leave i,true) else((A7 V ls ev).set i ((A7 V ls ev).at_ i).BH,c):=by
 obtain⟨m,rfl⟩:=Int.eq_ofNat_of_zero_le h0
 have ha:=CV V ls ev h0 h1
 rw [show((m:Int)+1).toNat=m+1 by omega,AG.CG]
 rw [show((m:Int)).toNat=m by omega] at h
 rw [← h]
 rw [show decide (((A7 V ls ev).at_ (m:Int)).state=0)=decide ((V.Ar.at (m:Int)).state=0) by rw [ha];rfl]
theorem WW {V V':AN}{ls ls':Vector BD 4}{ev ev':List Event}{i:Int}(h0:0≤i)(h1:i < 4){s:Ae}(e:A7 V' ls' ev'=(A7 V ls ev).set i s):(V'.Ar.at i).out.cut=s.pg.cut:=by
 have h:=congrArg (fun H=>(AG.at_ H i).pg.cut) e
 rw [CV V' ls' ev' h0 h1,AG.CN _ h0 h1 h0,if_pos rfl] at h
 exact h
theorem QY {X:AG}{k:Int}(h0:0≤k)(h1:k < 5):X.GW (5 - k).toNat=if (!(X.CG 4).2)=true then(X.CG 4).1 else(X.CG 4).1.GW (5 - (k+1)).toNat:=by
 rw [show(5 - k).toNat=(5 - (k+1)).toNat+1 by omega,AG.GW]
theorem Q2 {H:AG}{n m:Nat}(h:H.Fit n m){V:AN}{ls:Vector BD 4}{ev:List Event}{c:Bool}{i:Int}(h0:0≤i)(h1:i≤4)(e:(A7 V ls ev,c)=H.CG i.toNat):(A7 V ls ev).Fit (n+44) (m+44):=by
 have:=AG.NJ h i.toNat (by omega)
 rw [← e] at this
 exact this.mono (by omega) (by omega)
theorem bB {V:AN}{ls:Vector BD 4}{ev:List Event}{n m:Nat}(h:(A7 V ls ev).Fit n m){k:Int}(h0:0≤k)(h1:k < 4):∀ s∈(ls.at k).wait,s.length≤70368744000000:=by
 have:=h.wait k h0 h1
 rw [CV V ls ev h0 h1] at this
 exact this
end Go.Ing
/- A house: who comes, and what is typed: plain laws for the walks. -/
namespace Go.Ing
open Go
namespace Words
def PZ (N:Nat)(o:Order):Prop:=o.name.length≤N∧o.second.length≤N∧o.text.length≤N
theorem Fz (N:Nat):PZ N default:=⟨Nat.zero_le _,Nat.zero_le _,Nat.zero_le _⟩
theorem aQ (u p:Ad):(OO u p).1.length≤u.length:=by
 unfold OO
 split
 ·exact Nat.le_refl _
 ·show(List.drop _ u).length≤_
  rw [List.length_drop];omega
theorem av (u:Ad):(Ee u).2.1.length≤u.length:=by
 unfold Ee
 split
 ·exact Nat.zero_le _
 ·split
  ·exact aQ u _
  ·split
   ·split
    ·exact Nat.zero_le _
    ·exact Nat.le_refl _
   ·unfold Qn
    have:=(OU 46 u).2
    split
    ·split
     ·exact Nat.zero_le _
     ·exact this
    ·exact Nat.zero_le _
theorem ab {N:Nat}{o:Order}{j:Ad × Bool}{W:List Ad}{m:Nat}(h:PZ N o)(hw:(W.getD 0 []).length≤N):PZ N (Nk o j W m).1:=by
 unfold Nk
 split
 ·exact h
 ·split
  ·exact Fz N
  ·exact⟨h.1,hw,h.2.2⟩
theorem eR {N:Nat}{o:Order}{j:Ad × Bool}{W:List Ad}{m:Nat}(h:PZ N o)(hw:∀ i,(W.getD i []).length≤N):PZ N (P5 o j W m).1:=by
 unfold P5
 split
 ·split
  ·exact Fz N
  ·refine ab h ?_
   have:=hw 1
   rw [List.getD_eq_getElem?_getD,List.getElem?_drop,← List.getD_eq_getElem?_getD]
   exact this
 ·exact ab h (hw 0)
theorem Yy {N:Nat}{v:Int}{W:List Ad}{m:Nat}(hw:∀ i,(W.getD i []).length≤N):PZ N (Nc v W m).1:=by
 unfold Nc
 split
 ·exact Fz N
 ·refine eR ⟨Nat.le_trans (av _) (hw 0),Nat.zero_le _,Nat.zero_le _⟩ (fun i=>?_)
  rw [List.getD_eq_getElem?_getD,List.getElem?_drop,← List.getD_eq_getElem?_getD]
  exact hw (1+i)
theorem Uf (i:Nat):(AH.HF.getD i []).length≤20:=by
 rw [List.getD_eq_getElem?_getD]
 cases h:AH.HF[i]? with
 | none=>exact Nat.zero_le _
 | some w=>
  have hm:w∈AH.HF:=List.mem_of_getElem? h
  have:∀ w∈AH.HF,w.length≤20:=by decide
  exact this w hm
theorem Kf (s:Ad):PZ (s.length+20) (parse s).1:=by
 have hw:∀ i,(((words s).drop 1).getD i []).length≤s.length+20:=fun i=>Nat.le_trans (NR s i 1) (by omega)
 unfold parse
 split
 ·exact Fz _
 ·split
  ·exact Fz _
  ·unfold VG
   split
   ·split
    ·exact Fz _
    ·refine⟨Nat.zero_le _,Nat.zero_le _,?_⟩
     show(said s).length≤_
     unfold said
     have h1:=MV 32 (SA 32 (cut 32 (Qj 32 s)).2.1)
     have h2:=Rw 32 (cut 32 (Qj 32 s)).2.1
     have h3:=(OU 32 (Qj 32 s)).2
     have h4:=MV 32 s
     omega
   ·split
    ·split
     ·exact Fz _
     ·exact⟨Nat.zero_le _,Nat.zero_le _,Nat.zero_le _⟩
    ·split
     ·exact Fz _
     ·split
      ·split
       ·exact⟨Nat.le_trans (Uf _) (by omega),Nat.zero_le _,Nat.zero_le _⟩
       ·exact Yy hw
      ·exact Yy hw
end Words
theorem YU {V:AN}{ls:Vector BD 4}{ev:List Event}{n m:Nat}(h:(A7 V ls ev).Fit n m){k:Int}(h0:0≤k)(h1:k < 4):AG.eg (ls.at k).queue:=by
 have:=h.queue k h0 h1
 rw [CV V ls ev h0 h1] at this
 exact this
theorem AG.Me (H:AG){k:Int}(h0:0≤k)(h1:k < 4):H.set k (H.at_ k)=H:=by
 unfold AG.set AG.at_
 rw [Vector.Mg _ h0 h1]
theorem Sy {X:AH}{s:Ad}(h:(AE.Bc X s).2.2.2=0):0≤(AE.Bc X s).2.1∧(AE.Bc X s).2.1 < 6:=by
 have hf:=AE.NW X 6 (Nat.le_refl 6)
 unfold AE.Bc at h ⊢
 split
 ·exact⟨Int.le_refl 0,show(0:Int) < 6 by decide⟩
 ·split
  ·exact⟨Int.le_refl 0,show(0:Int) < 6 by decide⟩
  ·split
   ·exact⟨Int.le_refl 0,show(0:Int) < 6 by decide⟩
   ·split
    ·rename_i h1 h2 h3 h4
     rw [if_neg h1,if_neg h2,if_neg h3,if_pos h4] at h
     exact absurd h (show ¬ (4:Int)=0 by decide)
    ·rename_i h4
     show 0≤AE.CP X 6∧AE.CP X 6 < 6
     rw [decide_eq_true_eq] at h4
     omega
namespace AG
variable {H:AG} {n m:Nat}
theorem Fit.enters (h:H.Fit n m){k:Int}(h0:0≤k)(h1:k < 4){u:Ad}(c:(AE.Bc H.w u).2.2.2=0):(({ H with w:=(AE.Bc H.w u).1 }:AG).set k { H.at_ k with state:=2,Aw:=(AE.Bc H.w u).2.1 }).Fit n m:=by
 have hs:=AE.Jh (s:=u) h.F8
 exact(h.land hs.1).set h0 h1 (h.told k h0 h1) (fun _=>Sy c) (h.wait k h0 h1) (h.queue k h0 h1)
theorem Fit.named (h:H.Fit n m){k:Int}(h0:0≤k)(h1:k < 4)(u:Ad):(H.named k u).Fit (n+11) (m+11):=by
 unfold AG.named
 split
 ·rename_i c
  have hs:=AE.Jh (s:=u) h.F8
  have hl:=AE.RQ H.w u
  exact((h.enters h0 h1 (of_decide_eq_true c)).HQ hs.2).mono (by omega) (by omega)
 ·split
  ·exact(h.tell h0 h1 (show noRoom.length≤_ by decide)).mono (by omega) (by omega)
  ·exact(h.tell h0 h1 (show R4.length≤_ by decide)).mono (by omega) (by omega)
theorem Fit.order (h:H.Fit n m){k:Int}(h0:0≤k)(h1:k < 4){u:Ad}(hu:u.length≤1000):(H.order k u).Fit (n+11) (m+11):=by
 unfold AG.order
 split
 ·exact(h.tell h0 h1 (show du.length≤_ by decide)).mono (by omega) (by omega)
 ·split
  ·exact h.leave h0 h1
  ·have hp:=Words.Kf u
   have hd:=AE.K0 (b:=(H.at_ k).Aw) (o:=(Words.parse u).1) h.F8 (by have:=hp.2.2;omega)
   have hl:=AE.OS H.w (H.at_ k).Aw (Words.parse u).1
   exact((h.land hd.1).HQ hd.2).mono (by omega) (by omega)
theorem Fit.E1 (h:H.Fit n m){k:Int}(h0:0≤k)(h1:k < 4){q:Ad}{r:List Ad}(e:(H.at_ k).queue=q :: r):(H.set k { H.at_ k with queue:=r }.E1).Fit n m:=
 h.set h0 h1 (h.told k h0 h1) (h.Aw k h0 h1) (h.wait k h0 h1) (by
  have hq:=h.queue k h0 h1
  rw [e] at hq
  exact⟨Nat.le_of_succ_le hq.1,fun u hu=>hq.2 u (List.mem_cons_of_mem _ hu)⟩)
theorem Fit.Dz (h:H.Fit n m){k:Int}(h0:0≤k)(h1:k < 4):(H.Dz k).Fit (n+11) (m+11):=by
 unfold AG.Dz
 split
 ·exact h.mono (by omega) (by omega)
 ·split
  ·exact h.mono (by omega) (by omega)
  ·rename_i q r e
   have ht:=h.E1 h0 h1 e
   have hq:=(h.queue k h0 h1).2 q (by rw [e];exact List.mem_cons_self ..)
   simp only []
   split
   ·exact ht.mono (by omega) (by omega)
   ·split
    ·exact ht.named h0 h1 _
    ·exact ht.order h0 h1 (by omega)
theorem Kw (h:H.Fit n m):∀ k:Nat,k≤4→(H.turns k).Fit (n+11 * k) (m+11 * k)
 | 0,_=>h
 | k+1,hk=>by
  have ih:=Kw h k (by omega)
  unfold AG.turns
  exact(ih.Dz (by omega) (by omega)).mono (by omega) (by omega)
end AG
theorem ca {V V3 V4:AN}{ls ls3 ls4:Vector BD 4}{ev ev4:List Event}{k:Int}{u:Ad}(c:decide ((AE.Bc V.w u).2.2.2=0)=true)
  (e3:A7 V3 ls3 ev=({ A7 V ls ev with w:=(AE.Bc V.w u).1 }:AG).set k { (A7 V ls ev).at_ k with state:=2,Aw:=(AE.Bc V.w u).2.1 })
  (e:A7 V4 ls4 ev4=(A7 V3 ls3 ev).HQ (AE.Bc V.w u).2.2.1):A7 V4 ls4 ev4=(A7 V ls ev).named k u:=by
 rw [e,e3]
 exact(if_pos c).symm
theorem ck {V V4:AN}{ls ls4:Vector BD 4}{ev ev4:List Event}{k:Int}{u:Ad}(c:decide ((AE.Bc V.w u).2.2.2=0)=false)(c2:decide ((AE.Bc V.w u).2.2.2=4)=true)
  (e:A7 V4 ls4 ev4=(A7 V ls ev).tell k AG.noRoom):A7 V4 ls4 ev4=(A7 V ls ev).named k u:=e.trans ((if_neg (by show ¬ decide ((AE.Bc V.w u).2.2.2=0)=true;rw [c];decide)).trans (if_pos c2)).symm
theorem bO {V V4:AN}{ls ls4:Vector BD 4}{ev ev4:List Event}{k:Int}{u:Ad}(c:decide ((AE.Bc V.w u).2.2.2=0)=false)(c2:decide ((AE.Bc V.w u).2.2.2=4)=false)
  (e:A7 V4 ls4 ev4=(A7 V ls ev).tell k AG.R4):A7 V4 ls4 ev4=(A7 V ls ev).named k u:=e.trans ((if_neg (by show ¬ decide ((AE.Bc V.w u).2.2.2=0)=true;rw [c];decide)).trans (if_neg (by show ¬ decide ((AE.Bc V.w u).2.2.2=4)=true;rw [c2];decide))).symm
theorem Wz {V V4:AN}{ls ls4:Vector BD 4}{ev ev4:List Event}{k:Int}{u:Ad}(h0:0≤k)(h1:k < 4)(c:(!decide ((Words.parse u).2=0))=false)(c2:decide ((Words.parse u).1.verb=20)=false)
  (e:A7 V4 ls4 ev4=(A7 { V with w:=(AE.EJ V.w (V.Ar.at k).Aw (Words.parse u).1).1 } ls ev).HQ (AE.EJ V.w (V.Ar.at k).Aw (Words.parse u).1).2.1):A7 V4 ls4 ev4=(A7 V ls ev).order k u:=by
 rw [e,QA]
 have ha:=CV V ls ev h0 h1
 unfold AG.order
 rw [if_neg (by rw [c];decide),if_neg (by rw [c2];decide),ha]
 rfl
theorem YM {V:AN}{ls:Vector BD 4}{ev:List Event}{k:Int}(h0:0≤k)(h1:k < 4)(c:decide ((V.Ar.at k).state=0)=true):A7 V ls ev=(A7 V ls ev).Dz k:=by
 have ha:=CV V ls ev h0 h1
 exact(if_pos (show decide (((A7 V ls ev).at_ k).state=0)=true by rw [ha];exact c)).symm
theorem YQ {V:AN}{ls:Vector BD 4}{ev:List Event}{k:Int}(h0:0≤k)(h1:k < 4){sv:A4}{sl:BD}(hs:V.Ar.at k=sv)(hl:ls.at k=sl)(hq:sl.queue = [])(c:decide ((V.Ar.at k).state=0)=false) :
  A7 (V.A3 k sv) (ls.put k ⟨sl.queue,sl.wait,sl.told⟩) ev=(A7 V ls ev).Dz k:=by
 have ha:=CV V ls ev h0 h1
 rw [E3 h0 h1 hs hl (f:=fun x=>x) rfl,AG.Me _ h0 h1]
 unfold AG.Dz
 rw [if_neg (show ¬ decide (((A7 V ls ev).at_ k).state=0)=true by rw [ha];show ¬ decide ((V.Ar.at k).state=0)=true;rw [c];decide)]
 have e:((A7 V ls ev).at_ k).queue = []:=by rw [ha,hl];exact hq
 split
 ·rfl
 ·rename_i q r e2;rw [e] at e2;cases e2
theorem Dv {V:AN}{ls:Vector BD 4}{ev:List Event}{k:Int}(h0:0≤k)(h1:k < 4){sv:A4}{sl:BD}(hs:V.Ar.at k=sv)(hl:ls.at k=sl){q:Ad}{r:List Ad}(hq:sl.queue=q :: r)(c:decide ((V.Ar.at k).state=0)=false)(h':Hd) :
  A7 (V.A3 k { sv with ER:=⟨sv.ER.now,sv.ER.long,sv.ER.ret,h'⟩,out:=⟨sv.out.wait,0,false,sv.out.ring,sv.out.cut⟩ }) (ls.put k ⟨r,sl.wait,sl.told⟩) ev=(A7 V ls ev).set k { (A7 V ls ev).at_ k with queue:=r }.E1∧((A7 V ls ev).at_ k).queue=q :: r ∧
  (A7 V ls ev).Dz k=if sv.out.B5=true then(A7 V ls ev).set k { (A7 V ls ev).at_ k with queue:=r }.E1 else if decide (sv.state=1)=true then((A7 V ls ev).set k { (A7 V ls ev).at_ k with queue:=r }.E1).named k (Words.Qj 32 (Words.SA 32 q)) else((A7 V ls ev).set k { (A7 V ls ev).at_ k with queue:=r }.E1).order k q:=by
 have ha:=CV V ls ev h0 h1
 have e:((A7 V ls ev).at_ k).queue=q :: r:=by rw [ha,hl];exact hq
 refine⟨E3 h0 h1 hs hl (f:=fun x=>{ x with queue:=r }.E1) rfl,e,?_⟩
 unfold AG.Dz
 rw [if_neg (show ¬ decide (((A7 V ls ev).at_ k).state=0)=true by rw [ha];show ¬ decide ((V.Ar.at k).state=0)=true;rw [c];decide)]
 split
 ·rename_i e2;rw [e] at e2;cases e2
 ·rename_i q' r' e2
  rw [e] at e2
  obtain⟨rfl,rfl⟩:=List.cons.inj e2
  have e3:((A7 V ls ev).at_ k).pg.B5=sv.out.B5:=by rw [ha,hs];rfl
  have e4:((A7 V ls ev).at_ k).state=sv.state:=by rw [ha,hs];rfl
  simp only [e3,e4]
theorem Vp {H:AG}{i:Int}(h0:0≤i):H.turns (i+1).toNat=(H.turns i.toNat).Dz i:=by
 obtain⟨m,rfl⟩:=Int.eq_ofNat_of_zero_le h0
 rfl
end Go.Ing
/- A house: who comes, bytes that come: plain laws for the walks. -/
namespace Go.Ing
open Go
def cR:Hd:=⟨none,0,0⟩
def Ef (t:AK)(g:Page.Pg):A4:=⟨1,-1,t,⟨[],false,false,cR⟩,⟨cR,g.shown,g.B5,g.ring,g.cut⟩,cR⟩
def bY:BD:=⟨[],[],[]⟩
theorem Ti {v:A4}{l:BD}{u:Ad}(hw:v.out.wait.len=l.wait.length):(Cw v l).send u=Cw { v with out:=⟨v.out.wait,(Page.send v.out u).1.shown,(Page.send v.out u).1.B5,(Page.send v.out u).1.ring,(Page.send v.out u).1.cut⟩ } l:=by
 unfold Ae.send Page.send
 rw [Jt hw]
 cases h:Page.Bk v.out with
 | false=>rfl
 | true=>
  have e:(Cw v l).pg.cut=v.out.cut:=rfl
  cases hc:v.out.cut with
  | true=>rw [e,hc];show Cw v l=Cw { v with out:=⟨v.out.wait,v.out.shown,v.out.B5,v.out.ring,v.out.cut⟩ } l;rfl
  | false=>rw [e,hc];rfl
def Iz (t:AK)(opt:Int):AK:=if decide ((t.Da opt).2.1 = [])=true then((t.Da opt).1.Ask opt).1 else(t.Da opt).1
def NN (t:AK)(opt:Int):Ad:=if decide ((t.Da opt).2.1 = [])=true then(t.Da opt).2.1++((t.Da opt).1.Ask opt).2.1 else(t.Da opt).2.1 ++ []
def Ld (t:AK)(g:Page.Pg)(opt:Int):Page.Pg:=(Page.send ⟨cR,g.shown,g.B5,g.ring,g.cut⟩ (NN t opt)).1
theorem Nn (t:AK)(g:Page.Pg)(opt:Int):(Cw (Ef t g) bY).offer opt=Cw (Ef (Iz t opt) (Ld t g opt)) bY:=by
 have h:=Ti (v:=Ef (Iz t opt) g) (l:=bY) (u:=NN t opt) rfl
 unfold Ae.offer
 have e:(Cw (Ef t g) bY).DZ=t:=rfl
 rw [e]
 by_cases c:decide ((t.Da opt).2.1 = [])=true
 ·rw [if_pos c]
  have e1:Iz t opt=((t.Da opt).1.Ask opt).1:=if_pos c
  have e2:NN t opt = []++((t.Da opt).1.Ask opt).2.1:=(if_pos c).trans (by rw [of_decide_eq_true c])
  rw [← e1,← e2]
  exact h
 ·rw [if_neg c]
  have e1:Iz t opt=(t.Da opt).1:=if_neg c
  have e2:NN t opt=(t.Da opt).2.1 ++ []:=if_neg c
  rw [← e1,← e2]
  exact h
def EC (j:Int):Int:=(((Vector.replicate 2 (default:Int)).put 0 3).put 1 31).at j
def E9:Nat→AK × Page.Pg
 | 0=>(default,⟨0,false,[],false⟩)
 | j+1=>(Iz (E9 j).1 (EC j),Ld (E9 j).1 (E9 j).2 (EC j))
theorem Hg {j:Int}(h0:0≤j):E9 (j+1).toNat=(Iz (E9 j.toNat).1 (EC j),Ld (E9 j.toNat).1 (E9 j.toNat).2 (EC j)):=by
 obtain⟨m,rfl⟩:=Int.eq_ofNat_of_zero_le h0
 rfl
theorem Ow:Cw (Ef (E9 2).1 (E9 2).2) bY=(({ (default:Ae) with state:=1,Aw:=-1 }).offer 3).offer 31:=by
 have h0:({ (default:Ae) with state:=1,Aw:=-1 }:Ae)=Cw (Ef (E9 0).1 (E9 0).2) bY:=rfl
 rw [h0,Nn,Nn]
 rfl
theorem F1 (t:AK)(opt:Int):(t.Da opt).2.1.length≤3:=by
 unfold AK.Da
 split
 ·exact Nat.zero_le _
 ·split
  ·exact Nat.zero_le _
  ·split
   ·exact Nat.zero_le _
   ·exact Nat.le_refl 3
theorem IY (t:AK)(opt:Int):(t.Ask opt).2.1.length≤3:=by
 unfold AK.Ask
 split
 ·exact Nat.zero_le _
 ·split
  ·exact Nat.zero_le _
  ·split
   ·exact Nat.zero_le _
   ·exact Nat.le_refl 3
theorem AG.Fit.comes {H:AG}{n m:Nat}(h:H.Fit n m){k:Int}(h0:0≤k)(h1:k < 4)(t:AK)(g:Page.Pg):(H.set k (Cw (Ef t g) bY)).Fit n m:=
 h.set h0 h1 (Nat.zero_le _) (fun e=>absurd (show(1:Int)=2 from e) (by decide)) (fun u hu=>by cases hu) ⟨Nat.zero_le _,fun u hu=>by cases hu⟩
theorem AG.Fit.IU {H:AG}{n m:Nat}(h:H.Fit n m){k:Int}(h0:0≤k)(h1:k < 4):(H.IU k).Fit (n+221) (m+220):=by
 unfold AG.IU
 rw [← Ow]
 exact((h.comes h0 h1 _ _).tell h0 h1 (show AG.G9.length≤_ by decide)).BH.mono (by omega) (by omega)
end Go.Ing
/- A house: an act: plain laws for the walks. -/
namespace Go.Ing
open Go
theorem RJ {v:A4}{l:BD}(h:v.ER.queue.len=l.queue.length):(Cw v l).Lv=Bh.Bk v.ER l.queue:=by
 unfold Ae.Lv Bh.Bk Bh.Ju
 rw [h];rfl
theorem W4 {v:A4}{l:BD}{u:Ad}(h:v.ER.queue.len=l.queue.length)(c:Bh.Bk v.ER l.queue=false):(Cw v l).typed u=(Cw v l,0):=if_pos (by rw [RJ h,c];rfl)
theorem bG {v:A4}{l:BD}{u:Ad}(h:v.ER.queue.len=l.queue.length)(c:Bh.Bk v.ER l.queue=true)(q:Hd) :
  (Cw v l).typed u=(Cw { v with ER:=⟨(Bh.feed (Bh.start v.ER l.queue) u).now,(Bh.feed (Bh.start v.ER l.queue) u).long,(Bh.feed (Bh.start v.ER l.queue) u).ret,q⟩ } ⟨(Bh.feed (Bh.start v.ER l.queue) u).queue,l.wait,l.told⟩,(Bh.feed (Bh.start v.ER l.queue) u).lost):=
 (if_neg (by rw [RJ h,c];decide)).trans rfl
theorem UZ (s:Ae)(u:Ad):(s.typed u).1.told=s.told∧(s.typed u).1.state=s.state∧(s.typed u).1.Aw=s.Aw∧(s.typed u).1.wait=s.wait∧(AG.eg s.queue→AG.eg (s.typed u).1.queue):=by
 unfold Ae.typed
 split
 ·exact⟨rfl,rfl,rfl,rfl,fun h=>h⟩
 ·rename_i c
  refine⟨rfl,rfl,rfl,rfl,fun _=>?_⟩
  have hg:Bh.Bk ⟨s.now,s.long,s.ret,⟨none,s.queue.length,0⟩⟩ s.queue=true:=by
   have:s.Lv=true:=by simpa using c
   exact this
  have ho:=Bh.Wa u ((Bh.H8 (l:=⟨s.now,s.long,s.ret,⟨none,s.queue.length,0⟩⟩) rfl).1 hg)
  exact⟨ho.len,fun q hq=>((Bh.Gu q).1 (ho.queue q hq)).1⟩
theorem Py (s:Ae)(u:Ad):(s.send u).told=s.told∧(s.send u).state=s.state∧(s.send u).Aw=s.Aw∧(s.send u).wait=s.wait∧(s.send u).queue=s.queue:=by
 unfold Ae.send
 split
 ·exact⟨rfl,rfl,rfl,rfl,rfl⟩
 ·split<;>exact⟨rfl,rfl,rfl,rfl,rfl⟩
def Cv (s:Ae)(u:Ad):Ae × Int:=(s.bytes u).1.typed (s.bytes u).2
theorem Dl (s:Ae)(u:Ad):(Cv s u).1.told=s.told∧(Cv s u).1.state=s.state∧(Cv s u).1.Aw=s.Aw∧(Cv s u).1.wait=s.wait∧(AG.eg s.queue→AG.eg (Cv s u).1.queue):=by
 have h1:=UZ (s.bytes u).1 (s.bytes u).2
 have h2:=Py { s with DZ:=(s.DZ.DA u).1 } (s.DZ.DA u).2.2.1
 obtain⟨a,b,c,d,e⟩:=h1
 obtain⟨a',b',c',d',e'⟩:=h2
 exact⟨a.trans a',b.trans b',c.trans c',d.trans d',fun hq=>e (by rw [show(s.bytes u).1.queue=s.queue from e'];exact hq)⟩
theorem HE (H:AG)(k:Int)(u:Ad):H.byte k u=(if decide (0 < (Cv (H.at_ k) u).2)=true then(H.set k (Cv (H.at_ k) u).1).tell k AG.OF else H.set k (Cv (H.at_ k) u).1).BH:=rfl
def heard (v:A4)(u:Ad):A4:={ v with DZ:=(v.DZ.DA u).1,out:=⟨v.out.wait,(Page.send v.out (v.DZ.DA u).2.2.1).1.shown,(Page.send v.out (v.DZ.DA u).2.2.1).1.B5,(Page.send v.out (v.DZ.DA u).2.2.1).1.ring,(Page.send v.out (v.DZ.DA u).2.2.1).1.cut⟩ }
theorem Qy {v:A4}{l:BD}{u:Ad}(hw:v.out.wait.len=l.wait.length):(Cw v l).bytes u=(Cw (heard v u) l,(v.DZ.DA u).2.1):=by
 unfold Ae.bytes
 exact congrArg (fun x=>(x,_)) (Ti (v:={ v with DZ:=(v.DZ.DA u).1 }) (l:=l) (u:=(v.DZ.DA u).2.2.1) hw)
theorem ID {v:A4}{l:BD}{u:Ad}(hw:v.out.wait.len=l.wait.length)(h:v.ER.queue.len=l.queue.length)(c:Bh.Bk v.ER l.queue=false):Cv (Cw v l) u=(Cw (heard v u) l,0):=by
 unfold Cv
 rw [Qy hw]
 exact W4 (v:=heard v u) h c
theorem JD {v:A4}{l:BD}{u:Ad}(hw:v.out.wait.len=l.wait.length)(h:v.ER.queue.len=l.queue.length)(c:Bh.Bk v.ER l.queue=true)(q:Hd) :
  Cv (Cw v l) u=(Cw { heard v u with ER:=⟨(Bh.feed (Bh.start v.ER l.queue) (v.DZ.DA u).2.1).now,(Bh.feed (Bh.start v.ER l.queue) (v.DZ.DA u).2.1).long,(Bh.feed (Bh.start v.ER l.queue) (v.DZ.DA u).2.1).ret,q⟩ } ⟨(Bh.feed (Bh.start v.ER l.queue) (v.DZ.DA u).2.1).queue,l.wait,l.told⟩,(Bh.feed (Bh.start v.ER l.queue) (v.DZ.DA u).2.1).lost):=by
 unfold Cv
 rw [Qy hw]
 exact bG (v:=heard v u) h c q
namespace AG
variable {H:AG} {n m:Nat}
theorem Ry {i:Int}(h0:0≤i):H.Es (i+1).toNat=(H.Es i.toNat).set i { (H.Es i.toNat).at_ i with told:= [] }:=by
 obtain⟨k,rfl⟩:=Int.eq_ofNat_of_zero_le h0
 rfl
theorem Hm:∀ k:Nat,(H.Es k).w=H.w∧(H.Es k).last=H.last∧(H.Es k).B8=H.B8
 | 0=>⟨rfl,rfl,rfl⟩
 | k+1=>Hm k
theorem Ph:∀ k:Nat,k≤4→∀ j:Int,0≤j→j < 4→(H.Es k).at_ j=if j < k then { H.at_ j with told:= [] } else H.at_ j
 | 0,_,j,j0,_=>by rw [if_neg (by omega)];rfl
 | k+1,hk,j,j0,j1=>by
  have ih:=Ph k (by omega)
  show(((H.Es k).set k _).at_ j)=_
  rw [CN _ (by omega) (by omega) j0]
  by_cases c:j=(k:Int)
  ·subst c
   rw [if_pos rfl,if_pos (by omega),ih _ j0 j1,if_neg (by omega)]
  ·rw [if_neg c,ih j j0 j1]
   by_cases c2:j < (k:Int)
   ·rw [if_pos c2,if_pos (by omega)]
   ·rw [if_neg c2,if_neg (by omega)]
theorem E4 {j:Int}(j0:0≤j)(j1:j < 4):H.begun.at_ j={ H.at_ j with told:= [] }:=by
 have:=Ph (H:={ H with B8:=H.B8+1,last:= [] }) 4 (Nat.le_refl 4) j j0 j1
 rw [if_pos (by omega)] at this
 exact this
theorem Fit.begun (h:H.Fit n m):H.begun.Fit 0 0:=by
 have hs:=Hm (H:={ H with B8:=H.B8+1,last:= [] }) 4
 refine⟨by show(Es _ 4).w.ML;rw [hs.1];exact h.F8,fun j a b=>?_,by show(Es _ 4).last.length≤0;rw [hs.2.1];exact Nat.le_refl 0,fun j a b=>?_,fun j a b=>?_,fun j a b=>?_⟩<;>rw [E4 a b]
 ·exact Nat.le_refl 0
 ·exact h.Aw j a b
 ·exact h.wait j a b
 ·exact h.queue j a b
theorem Fit.typed (h:H.Fit n m){k:Int}(h0:0≤k)(h1:k < 4)(u:Ad):(H.set k (Cv (H.at_ k) u).1).Fit n m:=by
 obtain⟨a,b,c,d,e⟩:=Dl (H.at_ k) u
 exact h.set h0 h1 (by rw [a];exact h.told k h0 h1) (by rw [b,c];exact h.Aw k h0 h1) (by rw [d];exact h.wait k h0 h1) (e (h.queue k h0 h1))
theorem Fit.Fl (h:H.Fit n m){k:Int}(h0:0≤k)(h1:k < 4)(z:Int):(H.set k ((H.at_ k).Fl z)).Fit n m:=
 h.set h0 h1 (h.told k h0 h1) (h.Aw k h0 h1) (h.wait k h0 h1) (h.queue k h0 h1)
theorem Fit.Np (h:H.Fit n m)(d:Int):(H.Np d).Fit (n+400) (m+400):=by
 have h1:=Kw h 4 (Nat.le_refl 4)
 have hr:=AE.L3 (draw:=d) h1.F8
 have hl:=AE.RB h1.F8.Hb d
 exact(((h1.land hr.1).HQ hr.2).BH).mono (by omega) (by omega)
theorem Fit.byte (h:H.Fit 0 0){k:Int}(h0:0≤k)(h1:k < 4)(u:Ad):(H.byte k u).Fit 1000 1000:=by
 rw [HE]
 refine(Fit.BH (n:=1) (m:=0) ?_).mono (by omega) (by omega)
 split
 ·exact(h.typed h0 h1 _).tell h0 h1 (show OF.length≤_ by decide)
 ·exact(h.typed h0 h1 _).mono (by omega) (by omega)
theorem Jr (P:AG→Prop)(h0:P H)(hp:∀ d,P (H.Np d))(hc:∀ k,0≤k→k < 4→P (H.IU k))(hb:∀ k u,0≤k→k < 4→P (H.byte k u))(ht:∀ k z,0≤k→k < 4→P ((H.set k ((H.at_ k).Fl z)).BH))(hl:∀ k,0≤k→k < 4→P (H.leave k).BH)(a:Br):P (H.DJ a).1:=by
 unfold AG.DJ
 split
 ·dsimp only;exact hp a.n
 ·split
  ·dsimp only;exact h0
  ·split
   ·dsimp only;exact h0
   ·rename_i c
    have hs:0≤a.A3∧a.A3 < 4:=by simp only [Bool.or_eq_true,decide_eq_true_eq] at c;omega
    split
    ·dsimp only;exact h0
    ·split
     ·dsimp only;exact hc _ hs.1 hs.2
     ·split
      ·dsimp only;exact hb _ _ hs.1 hs.2
      ·split
       ·dsimp only;exact ht _ _ hs.1 hs.2
       ·dsimp only;exact hl _ hs.1 hs.2
theorem Fit.DJ (h:H.Fit 0 0)(a:Br):(H.DJ a).1.Fit 1000 1000:=
 Jr (fun X=>X.Fit 1000 1000) (h.mono (by omega) (by omega)) (fun d=>(h.Np d).mono (by omega) (by omega)) (fun k h0 h1=>(h.IU h0 h1).mono (by omega) (by omega)) (fun k u h0 h1=>h.byte h0 h1 u)
  (fun k z h0 h1=>((h.Fl h0 h1 z).BH).mono (by omega) (by omega)) (fun k h0 h1=>((h.leave h0 h1).BH).mono (by omega) (by omega)) a
theorem Fit.act (h:H.Fit n m)(a:Br):(H.act a).1.Fit (n+1000) (m+1000):=by
 unfold AG.act
 split
 ·exact h.mono (by omega) (by omega)
 ·exact(h.begun.DJ a).mono (by omega) (by omega)
theorem GA {H:AG}(c:decide (400≤H.B8)=false)(a:Br):H.act a=H.begun.DJ a:=if_neg (by rw [c];decide)
end AG
theorem HB (V:AN)(ls:Vector BD 4)(ev:List Event){k:Int}(h0:0≤k)(h1:k < 4):decide (((A7 V ls ev).at_ k).state=0)=decide ((V.Ar.at k).state=0):=by rw [CV V ls ev h0 h1];rfl
theorem FZ {V:AN}{ls:Vector BD 4}{ev:List Event}{k:Int}(h0:0≤k)(h1:k < 4){sv v:A4}{sl l:BD}(hs:V.Ar.at k=sv)(hl:ls.at k=sl){u:Ad}{z:Int}(e:Cv (Cw sv sl) u=(Cw v l,z)) :
  A7 (V.A3 k v) (ls.put k l) ev=(A7 V ls ev).set k (Cv ((A7 V ls ev).at_ k) u).1∧(Cv ((A7 V ls ev).at_ k) u).2=z:=by
 have ha:Cv ((A7 V ls ev).at_ k) u=(Cw v l,z):=by rw [CV V ls ev h0 h1,hs,hl];exact e
 rw [JU V ls ev h0 h1,ha]
 exact⟨rfl,rfl⟩
theorem JJ {V V2:AN}{ls ls2:Vector BD 4}{ev:List Event}{k:Int}(h0:0≤k)(h1:k < 4){u:Ad}{z:Int}(e:A7 V2 ls2 ev=(A7 V ls ev).set k (Cv ((A7 V ls ev).at_ k) u).1∧(Cv ((A7 V ls ev).at_ k) u).2=z)(hF:(A7 V ls ev).Fit 0 0):(A7 V2 ls2 ev).Fit 0 0:=by
 rw [e.1];exact hF.typed h0 h1 u
theorem Mi {V V2 V3 V4:AN}{ls ls2 ls3 ls4:Vector BD 4}{ev ev3 ev4:List Event}{k:Int}(_:0≤k)(_:k < 4){u:Ad}{z:Int}(e:A7 V2 ls2 ev=(A7 V ls ev).set k (Cv ((A7 V ls ev).at_ k) u).1∧(Cv ((A7 V ls ev).at_ k) u).2=z)
  (e3:(decide (0 < z)=true∧A7 V3 ls3 ev3=(A7 V2 ls2 ev).tell k AG.OF)∨(decide (0 < z)=false∧A7 V3 ls3 ev3=A7 V2 ls2 ev)) (e4:A7 V4 ls4 ev4=(A7 V3 ls3 ev3).BH):A7 V4 ls4 ev4=(A7 V ls ev).byte k u:=by
 rw [e4,HE,e.2]
 rcases e3 with ⟨c,e3⟩ | ⟨c,e3⟩
 ·rw [e3,if_pos c,e.1]
 ·rw [e3,if_neg (by rw [c];decide),e.1]
theorem Zk (V:AN)(ls:Vector BD 4)(ev:List Event){k:Int}(h0:0≤k)(h1:k < 4){sv:A4}(hs:V.Ar.at k=sv)(n:Int):sv.out.ring.take (max 0 (min n (sv.out.ring.length:Int))).toNat=((A7 V ls ev).at_ k).out n:=by
 rw [CV V ls ev h0 h1,hs];rfl
theorem Xz (t:AK)(u:Ad):(t.DA u).2.1.length≤u.length:=by
 unfold AK.DA
 split
 ·exact Nat.zero_le _
 ·exact(AK.S1 u t).1
end Go.Ing
/- A house, from outside: plain laws for the walks. -/
namespace Go.Ing
open Go
namespace AG
def Jg (H:AG)(i:Int):Int × Int:=if decide ((H.at_ i).state=2)=true then(2,(H.at_ i).Aw) else((H.at_ i).state,-1)
theorem Tf:∀(l:List Br) (H:AG) (a:Br),run H (l ++ [a])=(((run H l).1.act a).1,(run H l).2 ++ [((run H l).1.act a).2])
 | [],_,_=>rfl
 | b :: r,H,a=>by
  have ih:=Tf r (H.act b).1 a
  show((run (H.act b).1 (r ++ [a])).1,(H.act b).2 :: (run (H.act b).1 (r ++ [a])).2)=_
  rw [ih];rfl
theorem ZP {H:AG}{xs:List Br}{k:Int}(h0:0≤k)(h1:k < xs.length):run H (xs.take (k+1).toNat)=(((run H (xs.take k.toNat)).1.act (xs.getD k.toNat default)).1,(run H (xs.take k.toNat)).2 ++ [((run H (xs.take k.toNat)).1.act (xs.getD k.toNat default)).2]):=by
 obtain⟨m,rfl⟩:=Int.eq_ofNat_of_zero_le h0
 have hm:m < xs.length:=by omega
 show run H (xs.take (m+1))=(((run H (xs.take m)).1.act (xs.getD m default)).1,(run H (xs.take m)).2 ++ [((run H (xs.take m)).1.act (xs.getD m default)).2])
 rw [List.take_add_one,List.getElem?_eq_getElem hm,List.getD_eq_getElem?_getD,List.getElem?_eq_getElem hm]
 exact Tf _ _ _
def Fits (H:AG):Prop:=∃ n m,H.Fit n m
theorem Fits.act {H:AG}(h:H.Fits)(a:Br):(H.act a).1.Fits:=by
 obtain⟨n,m,h⟩:=h
 exact⟨_,_,h.act a⟩
theorem Fits.run:∀(l:List Br) {H:AG},H.Fits→(run H l).1.Fits
 | [],_,h=>h
 | a :: r,_,h=>Fits.run r (h.act a)
theorem WN:AH.new.ML:=by
 refine⟨fun i=>?_,fun i=>?_,fun i=>?_⟩
 ·rcases Vector.JR AH.new.AP i with e | ⟨j,j0,j1,e⟩
  ·rw [e];exact Nat.zero_le _
  ·rw [e]
   have:j=0∨j=1∨j=2∨j=3∨j=4∨j=5∨j=6∨j=7∨j=8:=by omega
   rcases this with h | h | h | h | h | h | h | h | h<;>subst h<;>decide
 ·rcases Vector.JR AH.new.AO i with e | ⟨j,j0,j1,e⟩
  ·rw [e];exact Nat.zero_le _
  ·rw [e]
   have:j=0∨j=1∨j=2∨j=3∨j=4∨j=5:=by omega
   rcases this with h | h | h | h | h | h<;>subst h<;>decide
 ·rcases Vector.JR AH.new.BT i with e | ⟨j,j0,j1,e⟩
  ·rw [e];exact Nat.zero_le _
  ·rw [e]
   have:j=0∨j=1∨j=2∨j=3∨j=4∨j=5:=by omega
   rcases this with h | h | h | h | h | h<;>subst h<;>decide
theorem MF {k:Int}(h0:0≤k)(h1:k < 4):AG.new.at_ k=default:=by
 rcases four h0 h1 with e | e | e | e<;>subst e<;>rfl
theorem bQ:AG.new.Fit 0 0:=by
 refine⟨WN,fun k a b=>?_,Nat.le_refl 0,fun k a b=>?_,fun k a b=>?_,fun k a b=>?_⟩<;>rw [MF a b]
 ·exact Nat.le_refl 0
 ·exact fun e=>absurd (show(0:Int)=2 from e) (by decide)
 ·exact fun u hu=>by cases hu
 ·exact⟨Nat.zero_le _,fun u hu=>by cases hu⟩
end AG
theorem St.Vx {w0 w:World}{M:List Nat}{L l:List Ab}(h:St w0 M w L)(hl:∀ r∈l,r.Cc = []∧r.ok w):St w0 M w (Ab.DP l :: L):=by
 have hf:(Ab.DP l).Cc = []:=by
  show l.flatMap Ab.Cc = []
  rw [List.flatMap_eq_nil_iff]
  exact fun r hr=>(hl r hr).1
 refine⟨h.os,h.tape,h.output,h.size,h.I7,fun r hr=>?_,fun r hr=>?_,List.pairwise_cons.2 ⟨fun s hs b hb=>?_,h.Jc⟩⟩
 ·rcases List.mem_cons.1 hr with rfl | hr
  ·refine⟨fun r hr=>(hl r hr).2,?_⟩
   refine List.Pairwise.imp_of_mem (R:=fun _ _=>True) (fun {a b} ha hb _ x hx=>?_) (List.pairwise_of_forall (fun _ _=>trivial))
   rw [(hl a ha).1] at hx;cases hx
  ·exact h.ok r hr
 ·rcases List.mem_cons.1 hr with rfl | hr
  ·rw [hf];exact fun b hb=>by cases hb
  ·exact h.Cc r hr
 ·rw [hf] at hb;cases hb
def OX:Vector A4 4:=Vector.replicate 4 default
def OZ:Vector BD 4:=Vector.replicate 4 ⟨[],[],[]⟩
theorem Z8 (T:Nat)(w:World):∀ r∈CQ T OX OZ,r.Cc = []∧r.ok w:=by
 have hs:∀ r∈F7 T default ⟨[],[],[]⟩,r.Cc = []∧r.ok w:=fun r hr=>by
  unfold F7 at hr
  simp only [List.mem_cons,List.mem_nil_iff,or_false] at hr
  rcases hr with rfl | rfl | rfl<;>exact⟨rfl, .inl ⟨rfl,rfl⟩⟩
 intro r hr
 have e:CQ T OX OZ=F7 T default ⟨[],[],[]⟩++(F7 T default ⟨[],[],[]⟩++(F7 T default ⟨[],[],[]⟩++F7 T default ⟨[],[],[]⟩)):=rfl
 rw [e] at hr
 simp only [List.mem_append] at hr
 rcases hr with h | h | h | h<;>exact hs r h
def Ei (v:A4):Int × Int:=if decide (v.state=2)=true then(2,v.Aw) else(v.state,-1)
theorem Sb (V:AN)(ls:Vector BD 4)(ev:List Event){i:Int}(h0:0≤i)(h1:i < 4):Ei (V.Ar.at i)=(A7 V ls ev).Jg i:=by
 unfold AG.Jg
 rw [CV V ls ev h0 h1]
 rfl
end Go.Ing
/- Engine: calls of closures that read what they are handed; slices that are only read, beside boxes. -/
namespace Go.Ing
open Go
section
variable {P:Program} {n:Nat} {w0:World} {M:List Nat} {Q:Exit→Go.Act→World→Prop} {F:List (Nat × Value)} {L:List Ab} {ops:Array Oper} {rest:List Oper}
theorem Xb {d:Nat}{f:FuncId}{t:Nat}{caps:List Value}{args:List Operand}{ts:Array TypeId}{T:TypeId}{pos:String}{Cu:Array Edge}{vs:List Value}{H:World→Prop}{Post:Value→List Ab→Prop}{A K:List Ab}(hd:Nat.blt d n=true)(hc:CF P f)(hf:lk t F=some (.func (.func f) #[] caps.toArray))(ha:OY F args vs)(hL:Ax L A K)
  (h:FO P f (vs++caps).toArray A H Post) (hH:∀ w,St w0 M w L→H w)
  (k:∀ v B,Post v B→GL P n w0 M ops Q rest ((d,v) :: F) (B++K)):GL P n w0 M ops Q (⟨some d, .call ⟨.value (.tmp t),args.toArray,ts⟩,T,pos,Cu,none⟩ :: rest) F L:=by
 intro a w hF hS
 refine wpList_plain rfl fun K' hK=>?_
 unfold Oper.wp
 rw [RH hc hF hf ha]
 show Calls _ _ _ _ _
 refine Calls.mono (h w (hS.perm hL.perm).focus (hH w hS)) fun e w' he=>?_
 obtain⟨v,rfl,B,hP,hB⟩:=he
 exact hK _ _ (k v B hP _ _ (hF.put (by simpa [Nat.blt_eq] using hd) v) ((hS.perm hL.perm).frame hB))
def ja (w:World)(M:List Nat)(h:Hd)(T sz:Nat)(cs:List Value):Prop:=Rd w h T sz cs∧(cs≠ []→∀ b o,h.a=some ⟨b,o,none⟩→b ∉ M)
theorem Kn.bt {h:Hd}{T sz:Nat}{cs:List Value}(hr:ja w0 M h T sz cs):Kn w0 M L h T sz cs:=fun w hS=>by
 by_cases hc:cs = []
 ·subst hc;exact⟨hr.1.1,fun h=>absurd rfl h⟩
 ·exact hS.j3 hr.1 (hr.2 hc)
theorem aM {T U E sz:TypeId}{x z:Operand}{h:Hd}{k:IntKind}{b:Int}(hu:P.underlying T=some (.slice E))(hs:Sz P E sz)(hx:ev F x=some h.val)(hz:ev F z=some (.int k b))(h1:0≤b)(h2:b≤(h.cap:Int)):PS P n w0 M (.slice T x none (some z) none) U F L (h.cut 0 b.toNat sz).val L:=CR fun e w hF=>by
 have hs':=hs w
 simp only [execOp,hF.ev hx,Option.map_some,Option.map_none,hF.ev hz,Hd.val,Instr.sliceAt,Instr.slice,underlying]
 simp [hu,Instr.sliceBounds,Instr.sliceBound,asIntOf,h1,h2,hs',Hd.cut]
end
theorem Rd.pull {w0 w:World}{L A K:List Ab}{h:Hd}{T sz:Nat}{cs:List Value}(hr:Rd w0 h T sz cs)(hS:St w0 [] w L)(hp:Ax L A K):ja w (Ch A) h T sz cs:=
 ⟨hS.rd hr,fun hne b o e=>by
  obtain⟨b',o',C,fz,h1,h2,_⟩:=hr.2 hne
  rw [e] at h1
  injection h1 with h1
  injection h1 with h1
  subst h1
  exact Mb h2 (by simp) hS hp⟩
instance:Inhabited AN:=⟨⟨default,Vector.replicate 4 default,0,⟨none,0,0⟩⟩⟩
end Go.Ing
/- Engine: the texts in a slice of acts that came in, and how much they can take. -/
namespace Go.Ing
open Go Go.RowKit Go.ChangeShapes Go.WideShapes Go.ChangeAt
section
variable {H:Type} {enc:TypeId × Value→H} {P:Program} {w:World}
theorem N5 {e:TypeId}{d:DataW H}:∀ {l:List (DataW H)},d∈l→∀ n∈d.weights P e,n∈DataW.weightsAll P e l
 | [],h,_,_=>by cases h
 | x :: r,h,n,hn=>by
  simp only [DataW.weightsAll]
  rcases List.mem_cons.1 h with rfl | h
  ·exact List.mem_append_left _ hn
  ·exact List.mem_append_right _ (N5 h n hn)
theorem Vu {t E TS:TypeId}{fs:Array Field}{h:Hd}{d:DataW H}{p:List MemPlace}{T0:Nat}{xs:List Br}(hT:P.underlying t=some (.slice E))(hE:P.underlying E=some (.struct fs))(hf:(fs[3]?).map (fun f=>(f.type,f.offset))=some (TS,3))(hS:P.underlying TS=some .string)(zE:P.cellsOf E=4)(zS:P.cellsOf TS=1)
  (hd:DataW.Trod enc P w 0 (fun _=>true) true t h.val d p) (hr:Rd w h T0 4 (xs.flatMap Br.enc)) (hw:∀ n∈d.weights P t,n≤reachBytes):∀ a∈xs,a.bytes.length≤140737488351232:=by
 have hlen:h.len=xs.length:=hr.Lz Br.fl (by decide)
 intro a ha
 obtain⟨i,hi,rfl⟩:=List.getElem_of_mem ha
 have hb:∃ b o,h.a=some ⟨b,o,none⟩:=by
  have hne:xs.flatMap Br.enc≠ []:=fun e=>by
   have:=congrArg List.length e
   rw [DD Br.fl.len] at this
   simp only [List.length_nil] at this
   omega
  obtain⟨b,o,_,_,e,_⟩:=hr.2 hne
  exact⟨b,o,e⟩
 obtain⟨b,o,hb⟩:=hb
 obtain⟨fuel,hfu⟩:=hd
 have hv:h.val = .slice (some ⟨b,o,none⟩) h.len h.cap:=by rw [← hb];rfl
 have hcs:h.val.cells.toList = [.slice (some ⟨b,o,none⟩) h.len h.cap]:=by rw [hv];rfl
 rw [hcs] at hfu
 rcases DataW.trod_slice hT hfu with ⟨h3,_⟩ | ⟨a',len,cap,elems,rest,m,_,h3,h4,_,hlc,_,h5,hel,_⟩
 ·simp at h3
 ·simp at h3
  obtain⟨rfl,rfl,rfl⟩:=h3
  have hd':d = .slice (elems.map (·.1)) (rest.map (·.1)):=congrArg Prod.fst h4
  have h6:=hel i (by omega)
  have hi':i < elems.length:=by omega
  rw [List.getElem?_eq_getElem hi',Option.bind_eq_some_iff] at h6
  obtain⟨c,h7,h9⟩:=h6
  obtain⟨ys,q,_,hx,hl,hlen',hfl⟩:=DataW.trod_struct hE h9
  cases hf3:fs[3]? with
  | none=>rw [hf3] at hf;cases hf
  | some f=>
   rw [hf3] at hf
   simp at hf
   obtain⟨rfl,hoff⟩:=hf
   have h1:=hfl 3 f hf3
   have h3s:3 < fs.size:=by
    rcases Nat.lt_or_ge 3 fs.size with h' | h'
    ·exact h'
    ·rw [Array.getElem?_eq_none h'] at hf3;cases hf3
   have h2:ys[3]?=some (ys[3]'(by omega)):=List.getElem?_eq_getElem (by omega)
   rw [h2,zS,hoff] at h1
   obtain⟨s,e1,e2,_⟩:=DataW.trod_string hS h1
   have hc:=World.cells?_some h7
   rw [zE] at hc
   have h10:=hc.2.2 3 (by omega)
   have h11:c[3]?=some (.string s):=by
    have:=congrArg (fun l=>l[0]?) e1
    simp only [List.getElem?_take,List.getElem?_drop] at this
    simpa using this
   obtain⟨b',o',C,fz,k1,k2,k3,k4⟩:=Ob Br.fl Br.l3 hr hi (by decide)
   have k1':(some ⟨b,o,none⟩:Option Addr)=some ⟨b',o',none⟩:=hb.symm.trans k1
   injection k1' with k1'
   injection k1' with kb ko
   subst kb;subst ko
   rw [Eo,Eo] at h10
   unfold World.cell? at h10
   simp only [k2] at h10
   have k5:C[o+i * 4+3]?=some (BW xs[i].bytes):=by
    have:=congrArg (fun l=>l[0]?) k4
    simp only [List.getElem?_take,List.getElem?_drop] at this
    simpa [A6] using this
   have k6:BW xs[i].bytes = .string s:=by
    rw [h11] at h10
    have:C[o+i * 4+3]?=some (Value.string s):=by simpa using h10
    rw [k5] at this
    injection this
   have k7:s.data.toList=xs[i].bytes:=by
    simp [BW] at k6
    rw [← k6]
   have hmem:xs[i].bytes.length∈d.weights P t:=by
    rw [hd']
    simp only [DataW.weights,hT]
    refine List.mem_cons_of_mem _ (List.mem_append_left _ (N5 (d:=elems[i].1) (List.mem_map.2 ⟨elems[i],List.getElem_mem _,rfl⟩) _ ?_))
    have hx':elems[i].1 = .agg (ys.map (·.1)):=congrArg Prod.fst hx
    rw [hx']
    simp only [DataW.weights,hE]
    refine DataW.weights_mem_each (j:=3) (t:=f.type) (d:=(ys[3]'(by omega)).1) ?_ ?_ _ ?_
    ·rw [List.getElem?_map];simp [hf3]
    ·rw [List.getElem?_map,h2];rfl
    ·rw [e2,k7];simp [DataW.weights]
   exact hw _ hmem
end
end Go.Ing
/- What every turn keeps: a principle. -/
namespace Go.Ing
open Go
namespace AE
inductive Sp (w:AH):Ad→Prop
 | word {s:Ad}:s∈ [Le,SP,QS,It,MI,Lg,cN,WM,Z9,NF]→Sp w s
 | room (r:Int):Sp w ([84,104,101,32]++(w.BT.at r).name ++ [46])
 | ways (r:Room):Sp w (G8 r 6)
 | list {s:Ad} (l:List Int):s∈ [[72,101,114,101,32,105,115],[89,111,117,32,104,97,118,101]]→Sp w (MS w s l ++ [46])
 | seen (k:Int):Sp w ((w.AO.at k).name ++ [32,105,115,32,104,101,114,101,46])
inductive Shape (x:Ad)(w:AH):Event→Prop
 | cr {s:Ad}:Sp w s→Shape x w { GF 16 with text:=s }
 | said:Shape x w { GF 7 with text:=x }
 | kind {k:Int}:k=15∨k=17→Shape x w (GF k)
 | dir {k d:Int}:k=1∨k=2→Shape x w { GF k with dir:=d }
 | BM {k i:Int}:k=3∨k=4∨(8≤k∧k≤13)→Shape x w { GF k with BM:=(w.AP.at i).name }
 | Gv {k:Int}:k=8∨k=9→Shape x w { GF k with BM:=P7 }
 | cB {i to:Int}:Shape x w { GF 6 with other:=to,BM:=(w.AP.at i).name }
 | R1 {i to:Int}:Shape x w { GF 5 with BM:=(w.AP.at i).name,text:=(w.AP.at to).name }
 | CE {B7 n:Int}:1≤n→n≤3→Shape x w { GF 14 with other:=B7,n:=n }
def ev (w:AH)(b:Int)(e:Event):Event:=w.Gj (Cf ⟨w,b,[]⟩ e) 6
theorem Oe (T:AE)(e:Event):(T.BV e).out=T.out ++ [ev T.w T.b e]:=rfl
structure Rel (x:Ad)(q:Prop)(b:Int)(R:AH→List Event→AH→Prop):Prop where
 refl:∀ w,R w [] w
 trans:∀ {X l Y m Z},R X l Y→R Y m Z→R X (l++m) Z
 eO:∀ {w e},Shape x w e→R w [ev w b e] w
 BM:∀ {w:AH} {i:Int} {t:An},t.name=(w.AP.at i).name→t.kind=(w.AP.at i).kind→R w [] (w.Gr i t)
 B7:∀ {w:AH} {k f:Int},R w [] (w.C1 k { w.AO.at k with B7:=f })
 shut:∀ {w:AH} {r d:Int} {v:Bool},R w [] (w.Mw r d v)
 Fw:∀ {w:AH} {d r:Int},R w [ev w b { GF 1 with dir:=d }] (w.C1 b { w.AO.at b with room:=r,B7:=0 })
 GY:q→∀ {w},R w [ev w b (GF 18)] w
 gone:∀ {X l w},R X l w→(∃ e∈l,(e.kind=18∨(e.kind=15∧b < 2))∧e.DW=b)→R X l (w.C1 b default)
structure On (R:AH→List Event→AH→Prop)(X:AH)(b:Int)(T:AE):Prop where
 b:T.b=b
 r:R X T.out T.w
theorem O2 (T:AE)(i j Cg at_:Int):((T.place i Cg at_).w.AP.at j).name=(T.w.AP.at j).name:=by
 show((T.w.AP.put i { T.w.AP.at i with Cg:=Cg,at_:=at_ }).at j).name=_
 unfold Vector.put Vector.at
 rw [List.getD_eq_getElem?_getD,List.getD_eq_getElem?_getD,List.getD_eq_getElem?_getD]
 simp only [Vector.toList_setIfInBounds]
 rw [List.getElem?_set]
 split
 ·rename_i h1
  split
  ·rw [h1];rfl
  ·rename_i h2
   rw [← h1,List.getElem?_eq_none (by omega)]
 ·rfl
theorem Fc (w:AH)(b:Int)(e:Event):(ev w b e).kind=e.kind∧(ev w b e).DW=b:=by
 obtain⟨a1,a2,_⟩:=AH.Hq w (Cf ⟨w,b,[]⟩ e) 6
 refine⟨a1.trans ?_,a2.trans ?_⟩
 ·unfold Cf;split<;>rfl
 ·unfold Cf;split<;>rfl
section
variable {x:Ad} {q:Prop} {b:Int} {R:AH→List Event→AH→Prop} (K:Rel x q b R) {X:AH} {T:AE}
include K
theorem On.start (X:AH):On R X b ⟨X,b,[]⟩:=⟨rfl,K.refl X⟩
theorem On.land (h:On R X b T){w':AH}(hr:R T.w [] w'):On R X b { T with w:=w' }:=⟨h.b,by have:=K.trans h.r hr;rwa [List.append_nil] at this⟩
theorem On.BV (h:On R X b T){e:Event}(he:Shape x T.w e):On R X b (T.BV e):=⟨h.b,by rw [Oe,h.b];exact K.trans h.r (K.eO he)⟩
theorem On.tell (h:On R X b T){s:Ad}(hs:Sp T.w s):On R X b (T.tell s):=h.BV K (.cr hs)
theorem On.kind (h:On R X b T){k:Int}(hk:k=15∨k=17):On R X b (T.kind k):=h.BV K (.kind hk)
theorem On.iV (h:On R X b T){k:Int}(i:Int)(hk:k=3∨k=4∨(8≤k∧k≤13)):On R X b (T.BM k i):=h.BV K (.BM hk)
theorem On.DH (h:On R X b T){i:Int}{t:An}(hn:t.name=(T.w.AP.at i).name)(hk:t.kind=(T.w.AP.at i).kind):On R X b (T.DH i t):=h.land K (w':=T.w.Gr i t) (K.BM hn hk)
theorem On.place (h:On R X b T)(i Cg at_:Int):On R X b (T.place i Cg at_):=h.DH K rfl rfl
theorem On.Cq (h:On R X b T)(k f:Int):On R X b (T.Cq k f):=h.land K (w':=T.w.C1 k { T.w.AO.at k with B7:=f }) K.B7
theorem On.DG (h:On R X b T)(r d:Int)(v:Bool):On R X b (T.DG r d v):=h.land K (w':=T.w.Mw r d v) K.shut
theorem On.list (h:On R X b T){s:Ad}(hs:s∈ [[72,101,114,101,32,105,115],[89,111,117,32,104,97,118,101]])(l:List Int):On R X b (T.list s l):=h.tell K (.list l hs)
theorem On.look (h:On R X b T):On R X b T.look:=by
 have hk:∀ {T':AE},On R X b T'→∀ k:Nat,On R X b (T'.F0 k):=fun {T'} h' k=>by
  induction k with
  | zero=>exact h'
  | succ k ih=>
   unfold F0
   split
   ·refine ih.tell K ?_
    rw [(K5 T' k).1]
    exact .seen k
   ·exact ih
 unfold AE.look
 split
 ·exact h.tell K (.word (by simp))
 ·refine hk ?_ 6
  have ha:On R X b T.KG:=(h.tell K (.room _)).tell K (.ways _)
  unfold ES
  split
  ·exact ha.list K (by simp) _
  ·exact ha
theorem On.walk (h:On R X b T)(d:Int):On R X b (T.walk d):=by
 unfold AE.walk
 split
 ·exact h.tell K (.word (by simp))
 ·split
  ·exact h.tell K (.word (by simp))
  ·have i1:On R X b ((T.BV { GF 1 with dir:=d }).Fw ((T.w.BT.at T.me.room).Ca.at d - 1)):=⟨h.b,by
    have:=K.trans h.r (K.Fw (w:=T.w) (d:=d) (r:=(T.w.BT.at T.me.room).Ca.at d - 1))
    rw [← h.b] at this
    exact this⟩
   exact(i1.BV K (.dir (.inr rfl))).look K
theorem On.box (h:On R X b T)(u:Ad):On R X b (T.box u).1:=by
 unfold AE.box
 split
 ·exact h.tell K (.word (by simp))
 ·split
  ·exact h.tell K (.word (by simp))
  ·exact h
theorem On.A9 (h:On R X b T)(u:Ad):On R X b (T.A9 u).1:=by
 unfold AE.A9
 split
 ·split
  ·exact h
  ·exact h.tell K (.word (by simp))
 ·exact h.tell K (.word (by simp))
theorem On.DR (l:List Int):∀ {T':AE},On R X b T'→On R X b (T'.DR l):=by
 induction l with
 | nil=>exact fun h=>h
 | cons i r ih=>exact fun {T'} h=>ih ((h.place K i 1 T'.b).iV K i (.inl rfl))
theorem On.LM (h:On R X b T)(l:List Int)(o:Order):On R X b (T.LM l o):=by
 unfold AE.LM
 refine On.DR K _ ?_
 split
 ·exact h.tell K (.word (by simp))
 ·exact h
theorem On.get (h:On R X b T)(o:Order):On R X b (T.get o):=by
 unfold AE.get
 split
 ·split
  ·exact h.box K _
  ·exact(h.box K _).LM K _ _
 ·exact h.LM K _ _
theorem On.Cz (h:On R X b T)(v to i:Int):On R X b (T.Cz v to i):=by
 unfold AE.Cz
 split
 ·exact h.tell K (.word (by simp))
 ·split
  ·exact(h.place K _ _ _).iV K _ (.inr (.inl rfl))
  ·split
   ·refine(h.place K i 1 to).BV K ?_
    rw [← O2 T i i 1 to]
    exact .cB
   ·split
    ·exact h.tell K (.word (by simp))
    ·refine(h.place K i 2 to).BV K ?_
     rw [← O2 T i i 2 to,← O2 T i to 2 to]
     exact .R1
theorem On.Ez {v to:Int}(l:List Int):∀ {T':AE},On R X b T'→On R X b (T'.Ez v to l):=by
 induction l with
 | nil=>exact fun h=>h
 | cons i r ih=>exact fun h=>ih (h.Cz K v to i)
theorem On.FV (h:On R X b T)(o:Order):On R X b (T.FV o):=by
 have ht:On R X b (T.C0 o).1:=by
  unfold C0
  split
  ·exact h.box K _
  ·split
   ·exact h.A9 K _
   ·exact h
 unfold AE.FV
 split
 ·exact ht
 ·unfold TB
  refine On.Ez K _ ?_
  split
  ·exact ht.tell K (.word (by simp))
  ·exact ht
theorem On.FK (h:On R X b T)(o:Order):On R X b (T.FK o):=by
 unfold AE.FK
 generalize (if (!decide (o.nth=1) || o.Bq)=true then [] else o.name)=nm
 have hs:=h.A9 K nm
 split
 ·exact hs
 ·refine On.tell K ?_ (.word (by simp))
  split
  ·exact(hs.Cq K _ _).Cq K _ _
  ·exact hs.Cq K _ _
theorem On.before (h:On R X b T)(first:Bool)(i:Int)(v:Bool){k:Int}(hk:k=3∨k=4∨(8≤k∧k≤13)):On R X b (T.before first i v k):=by
 unfold AE.before
 split
 ·exact(On.DH K h (i:=i) (t:={ T.w.AP.at i with on:=v }) rfl rfl).iV K _ hk
 ·exact(h.iV K i hk).DH K rfl rfl
theorem On.Gv (h:On R X b T)(d:Int)(on:Bool){k:Int}(hk:k=8∨k=9):On R X b (T.Gv d on k):=by
 unfold AE.Gv
 split
 ·exact h.tell K (.word (by simp))
 ·split
  ·exact h.tell K (.word (by simp))
  ·refine On.BV K ?_ (.Gv hk)
   split
   ·exact(h.DG K _ _ _).DG K _ _ _
   ·exact h.DG K _ _ _
theorem On.set (h:On R X b T){o:Order}(h0:12≤o.verb)(h1:o.verb≤17):On R X b (T.set o):=by
 unfold AE.set
 split
 ·rename_i c
  rw [Bool.and_eq_true] at c
  have h3:=of_decide_eq_true c.2
  have:o.verb=12∨o.verb=13:=by
   unfold setKind at h3
   split at h3
   ·omega
   ·split at h3
    ·omega
    ·rename_i c1 c2
     simp only [Bool.or_eq_true,decide_eq_true_eq,not_or] at c1 c2
     omega
  exact h.Gv K _ _ (by unfold QB;omega)
 ·split
  ·exact h.tell K (.word (by simp))
  ·split
   ·exact h.tell K (.word (by simp))
   ·split
    ·exact h.before K _ _ _ (by unfold QB;omega)
    ·exact h.before K _ _ _ (by unfold QB;omega)
theorem On.Cj (l:List Int):∀ {T':AE},On R X b T'→On R X b (T'.Cj l):=by
 induction l with
 | nil=>exact fun h=>h
 | cons i r ih=>exact fun {T'} h=>ih (On.DH K h (i:=i) rfl rfl)
theorem On.Dj (h:On R X b T):∀ k:Nat,On R X b (T.Dj k)
 | 0=>h
 | k+1=>by
  unfold AE.Dj
  split
  ·exact(On.Dj h k).Cq K _ _
  ·exact On.Dj h k
theorem On.FQ (h:On R X b T):On R X b T.FQ:=by
 rw [Mo]
 exact((On.Cj K _ h).Dj K 6).Cq K _ _
theorem On.GY (h:On R X b T)(hq:q):On R X b T.GY:=by
 have h18:On R X b (T.kind 18):=⟨h.b,by show R X (T.BV (GF 18)).out _;rw [Oe,h.b];exact K.trans h.r (K.GY hq)⟩
 have hf:=On.FQ K h18
 have hb:=T.PV
 refine⟨hb.1.trans h.b,?_⟩
 rw [hb.2.1,hb.2.2]
 have h2:=hf.r
 rw [(Rt (T.kind 18)).2] at h2
 have:=K.gone h2 ⟨ev T.w T.b (GF 18),by show _∈T.out ++ [_];exact List.mem_append_right _ (List.mem_cons_self ..), .inl (Fc ..).1,(Fc ..).2.trans h.b⟩
 rw [← h.b] at this
 exact this
theorem On.act (h:On R X b T){o:Order}(hx:o.text=x)(hq:o.verb=20→q)(h0:0≤o.verb)(h20:o.verb≤20):On R X b (T.act o):=by
 unfold AE.act
 split
 ·exact h.walk K _
 ·split
  ·exact h.look K
  ·split
   ·exact h.list K (by simp) _
   ·split
    ·refine h.BV K ?_;rw [hx];exact .said
    ·split
     ·rename_i c;exact h.GY K (hq (of_decide_eq_true c))
     ·split
      ·exact h.FK K _
      ·split
       ·exact h.get K _
       ·split
        ·exact h.FV K _
        ·rename_i c1 c2 c3 c4 c5 c6 c7 c8
         simp only [Bool.or_eq_true,decide_eq_true_eq,not_or] at c1 c2 c3 c4 c5 c6 c7 c8
         exact h.set K (by omega) (by omega)
theorem KP {o:Order}(hx:o.text=x)(hq:o.verb=20→q):R X (EJ X b o).2.1 (EJ X b o).1:=by
 unfold EJ
 split
 ·exact K.refl X
 ·split
  ·exact K.refl X
  ·split
   ·exact K.refl X
   ·rename_i c
    simp only [Bool.or_eq_true,decide_eq_true_eq,not_or] at c
    exact((On.start K X).act K hx hq (by omega) (by omega)).r
end
end AE
end Go.Ing
/- What every round of fights keeps, and every coming in: a principle. -/
namespace Go.Ing
open Go
namespace AE
structure YE (R:AH→List Event→AH→Prop):Prop where
 all:∀ b,0≤b→b < 6→Rel [] False b R
 gu:∀ {w:AH} {k h:Int},R w [] (w.C1 k { w.AO.at k with BP:=h })
 jS:∀ {X l w} {b:Int},2≤b→R X l w→(∃ e∈l,e.kind=15∧e.DW=b)→R X l (w.C1 b { w.AO.at b with room:=0,BP:=10 })
section
variable {R:AH→List Event→AH→Prop} (K:YE R)
include K
theorem WL {X:AH}:R X [] X:=(K.all 0 (Int.le_refl _) (by decide)).refl X
theorem rel_trans {X Y Z:AH}{l m:List Event}(h:R X l Y)(k:R Y m Z):R X (l++m) Z:=(K.all 0 (Int.le_refl _) (by decide)).trans h k
theorem Vw {w:AH}{b B7 n:Int}(b0:0≤b)(b6:b < 6)(h1:1≤n)(h3:n≤3):R w (CE w b B7 n).out (CE w b B7 n).w:=by
 have a:=(On.start (K.all b b0 b6) w).BV (K.all b b0 b6) (e:={ GF 14 with other:=B7,n:=n }) (.CE h1 h3)
 have:=rel_trans K a.r (K.gu (k:=B7) (h:=max 0 ((w.AO.at B7).BP - n)))
 rw [List.append_nil] at this
 exact this
theorem bX {w:AH}{b:Int}(b0:0≤b)(b6:b < 6):R w (IT w b).out (IT w b).w:=by
 have KB:=K.all b b0 b6
 have h0:On R w b (Fh w b):=⟨rfl,K.gu⟩
 have h1:=On.FQ KB (h0.kind KB (k:=15) (.inl rfl))
 have e1:((Fh w b).kind 15).FQ=GZ w b:=rfl
 have hm:∃ e∈(GZ w b).out,e.kind=15∧e.DW=b:=by
  rw [(Kd w b).2]
  exact⟨ev (Fh w b).w b (GF 15),List.mem_append_right _ (List.mem_cons_self ..),(Fc ..).1,(Fc ..).2⟩
 rw [e1] at h1
 clear e1
 unfold IT
 split
 ·rename_i c
  have c2:=of_decide_eq_true c
  rw [(DL _ _ _).2.1,(DL _ _ _).2.2]
  obtain⟨e,he,hk,ha⟩:=hm
  exact KB.gone h1.r ⟨e,he, .inr ⟨hk,c2⟩,ha⟩
 ·rename_i c
  have h2:On R w b (Je w b):=by
   obtain⟨d1,d2,d3⟩:=SF w b
   refine⟨d1,?_⟩
   rw [d3,d2,← (Kd w b).2]
   have hb2:2≤b:=Int.not_lt.1 fun e=>c (decide_eq_true e)
   exact K.jS (b:=b) hb2 h1.r hm
  exact((h2.kind KB (k:=17) (.inr rfl)).look KB).r
theorem VC {X:AH}{s:AH × List Event}{draw b:Int}(b0:0≤b)(b6:b < 6)(hg:s.1.Bk=true)(h:R X s.2 s.1):R X (Eb draw b s).2 (Eb draw b s).1:=by
 have hh:=Ma (draw:=draw) b0
 have kb:=(Hk hg b0 b6).B7
 unfold Eb
 split
 ·exact h
 ·rename_i c0
  simp only [Bool.or_eq_true,Bool.not_eq_true',decide_eq_true_eq,not_or,Bool.not_eq_false] at c0
  split
  ·have:=rel_trans K h ((K.all b b0 b6).B7 (k:=b) (f:=0))
   rw [List.append_nil] at this
   exact this
  ·have hk:=Vw K (w:=s.1) (b:=b) (B7:=(s.1.AO.at b).B7 - 1) b0 b6 hh.1 hh.2
   split
   ·exact rel_trans K (rel_trans K h hk) (bX K (by omega) (by omega))
   ·exact rel_trans K h hk
theorem MH {X:AH}{draw:Int}(hg:X.Bk=true)(hw:X.DV):∀ k:Nat,k≤6→R X (Dp X draw k).2 (Dp X draw k).1∧(Dp X draw k).1.Bk=true∧(Dp X draw k).1.DV
 | 0,_=>⟨WL K,hg,hw⟩
 | k+1,hk=>by
  obtain⟨a,b,c⟩:=MH hg hw k (by omega)
  have:=Fy (draw:=draw) (b:=k) b c (by omega) (by omega)
  exact⟨VC K (by omega) (by omega) b a,this.1,this.2.1⟩
theorem Kt {X:AH}{draw:Int}(hw:X.DV):R X (CU X draw).2.1 (CU X draw).1:=by
 unfold CU
 split
 ·exact WL K
 ·rename_i c
  have h:=(MH K (draw:=draw) (show X.Bk=true by simpa using c) hw 6 (Nat.le_refl 6)).1
  generalize Dp X draw 6=r at *
  exact h
theorem TY {X:AH}{s:Ad}{b:Int}(b0:0≤b)(b6:b < 6):R (X.C1 b (I5 s)) (H7 X s b).out (H7 X s b).w:=by
 have KB:=K.all b b0 b6
 have h:On R (X.C1 b (I5 s)) b ((⟨X.C1 b (I5 s),b,[]⟩:AE).kind 17):=(On.start KB (X.C1 b (I5 s))).kind KB (k:=17) (.inr rfl)
 exact(h.look KB).r
omit K in
theorem Nw (X:AH)(s:Ad):((Bc X s).2.2.2≠0∧(Bc X s).1=X∧(Bc X s).2.2.1 = [])∨(Bc X s=((H7 X s (CP X 6)).w,CP X 6,(H7 X s (CP X 6)).out,0)∧2≤CP X 6∧CP X 6≤5∧Eu s=true∧X.Bk=true∧∀ k,0≤k→k < 6→JH X s k=false):=by
 have bad:∀ z:Int,z≠0→Bc X s=(X,0,[],z)→(Bc X s).2.2.2≠0∧(Bc X s).1=X∧(Bc X s).2.2.1 = []:=fun z hz e=>by rw [e];exact⟨hz,rfl,rfl⟩
 cases c1:X.Bk with
 | false=>exact .inl (bad 2 (by decide) (if_pos (by rw [c1];rfl)))
 | true=>
  have e1:Bc X s=if (!Eu s)=true then(X,0,[],1) else if (!CD 6 (fun k=>!JH X s k) 6)=true then(X,0,[],1) else if decide (CP X 6 < 0)=true then(X,0,[],4) else((H7 X s (CP X 6)).w,CP X 6,(H7 X s (CP X 6)).out,0):=if_neg (by rw [c1];decide)
  cases c2:Eu s with
  | false=>exact .inl (bad 1 (by decide) (e1.trans (if_pos (by rw [c2];rfl))))
  | true=>
   have e2:=e1.trans (if_neg (by rw [c2];decide))
   cases c3:CD 6 (fun k=>!JH X s k) 6 with
   | false=>exact .inl (bad 1 (by decide) (e2.trans (if_pos (by rw [c3];rfl))))
   | true=>
    have e3:=e2.trans (if_neg (by rw [c3];decide))
    cases c4:decide (CP X 6 < 0) with
    | true=>exact .inl (bad 4 (by decide) (e3.trans (if_pos c4)))
    | false=>
     have e4:=e3.trans (if_neg (by rw [c4];decide))
     have hf:2≤CP X 6∧CP X 6≤5:=by
      rcases NW X 6 (Nat.le_refl 6) with e | e
      ·exact absurd (show CP X 6 < 0 by omega) (of_decide_eq_false c4)
      ·exact e
     refine .inr ⟨e4,hf.1,hf.2,rfl,rfl,fun k k0 k6=>?_⟩
     have:=(Dq 6).1 c3 k (by omega) k6
     simpa using this
end
end AE
end Go.Ing
/- What happens within an act of a house, in small steps. -/
namespace Go.Ing
open Go
namespace Ae
def CS (s:Ae)(e:Event):Ae:=if (AH.tell e s.Aw).2=true then s.tell (AH.tell e s.Aw).1 else s
def Df (s:Ae)(es:List Event):Ae:=if s.state=2 then es.foldl CS s else s
end Ae
theorem lt_next {j:Int}{k:Nat}(c:¬ j=(k:Int)):(j < ((k+1:Nat):Int))=(j < (k:Int)):=propext ⟨fun _=>by omega,fun _=>by omega⟩
namespace AG
theorem LS (e:Event)(H:AG):∀ k:Nat,k≤4→∀ j:Int,0≤j→j < 4→(CS e H k).at_ j=if j < k∧(H.at_ j).state=2 then(H.at_ j).CS e else H.at_ j
 | 0,_,j,h0,_=>by rw [if_neg (by omega)];rfl
 | k+1,hk,j,h0,h1=>by
  have ih:=LS e H k (by omega) j h0 h1
  have ihk:=Lw e H k (by omega) k (Int.le_refl _) (by omega)
  by_cases c:j=(k:Int)
  ·subst c
   unfold CS
   rw [ihk]
   split
   ·rename_i c1
    rw [if_neg (by simp at c1;exact fun h=>c1 h.2)];exact ihk
   ·rename_i c1
    have hr:(if (k:Int) < ((k+1:Nat):Int)∧(H.at_ k).state=2 then(H.at_ k).CS e else H.at_ k)=if (AH.tell e (H.at_ k).Aw).2=true then(H.at_ k).tell (AH.tell e (H.at_ k).Aw).1 else H.at_ k:=if_pos ⟨by omega,by simpa using c1⟩
    rw [hr]
    by_cases c2:(AH.tell e (H.at_ k).Aw).2=true
    ·rw [if_pos c2,if_pos c2]
     unfold AG.tell
     rw [AG.CN _ (by omega) (by omega) h0,if_pos rfl,ihk]
    ·rw [if_neg c2,if_neg c2];exact ihk
  ·have e2:(CS e H (k+1)).at_ j=(CS e H k).at_ j:=by
    rw [CS.eq_2]
    split
    ·rfl
    ·split
     ·exact Wl (by omega) (by omega) h0 c _
     ·rfl
   rw [e2,ih];simp only [lt_next c]
theorem Qa (e:Event)(H:AG):∀ k:Nat,(CS e H k).w=H.w∧(CS e H k).last=H.last∧(CS e H k).B8=H.B8
 | 0=>⟨rfl,rfl,rfl⟩
 | k+1=>by
  have ih:=Qa e H k
  rw [CS.eq_2]
  split
  ·exact ih
  ·split
   ·exact ih
   ·exact ih
theorem WR (s:Ae)(e:Event):(s.CS e).state=s.state∧(s.CS e).Aw=s.Aw:=by
 unfold Ae.CS
 split
 ·exact⟨(Fu _ _).1,(Fu _ _).2.1⟩
 ·exact⟨rfl,rfl⟩
theorem Tm {j:Int}(j0:0≤j)(j1:j < 4):∀(es:List Event) (H:AG),(H.Hy es).at_ j=(H.at_ j).Df es
 | [],H=>by show H.at_ j=_;unfold Ae.Df;split<;>rfl
 | e :: r,H=>by
  have ih:=Tm j0 j1 r (CS e H 4)
  show((CS e H 4).Hy r).at_ j=_
  have h1:=LS e H 4 (Nat.le_refl 4) j j0 j1
  rw [ih,h1]
  by_cases c:(H.at_ j).state=2
  ·rw [if_pos ⟨by omega,c⟩]
   unfold Ae.Df
   rw [if_pos c,if_pos (by rw [(WR _ e).1];exact c)]
   rfl
  ·rw [if_neg (fun h=>c h.2)]
   unfold Ae.Df
   rw [if_neg c,if_neg c]
theorem PT:∀(es:List Event) (H:AG),(H.Hy es).w=H.w∧(H.Hy es).last=H.last∧(H.Hy es).B8=H.B8
 | [],H=>⟨rfl,rfl,rfl⟩
 | e :: r,H=>by
  have ih:=PT r (CS e H 4)
  have h1:=Qa e H 4
  exact⟨ih.1.trans h1.1,ih.2.1.trans h1.2.1,ih.2.2.trans h1.2.2⟩
theorem W0 (H:AG)(es:List Event){j:Int}(j0:0≤j)(j1:j < 4):(H.HQ es).at_ j=(H.at_ j).Df es:=Tm j0 j1 es _
theorem XT (H:AG)(es:List Event):(H.HQ es).w=H.w∧(H.HQ es).last=H.last++es∧(H.HQ es).B8=H.B8:=PT es _
def TI:List Ad:= [G9,OF,du,R4,noRoom]
inductive DN (U:Ad→Prop)(H:AG):Int→AH→Ae→List Event→Prop
 | left {k:Int}:(H.at_ k).state=2→(H.w.AO.at (H.at_ k).Aw).here=true→DN U H k (AE.EJ H.w (H.at_ k).Aw EL).1 default (AE.EJ H.w (H.at_ k).Aw EL).2.1
 | Jf {k:Int} {u:Ad}:(H.at_ k).state=1→(AE.Bc H.w u).2.2.2=0→DN U H k (AE.Bc H.w u).1 { H.at_ k with state:=2,Aw:=(AE.Bc H.w u).2.1 } (AE.Bc H.w u).2.2.1
 | db {k:Int} {q:Ad}:U q→(H.at_ k).state≠0→(H.at_ k).state≠1→(Words.parse q).1.verb≠20→DN U H k (AE.EJ H.w (H.at_ k).Aw (Words.parse q).1).1 (H.at_ k) (AE.EJ H.w (H.at_ k).Aw (Words.parse q).1).2.1
 | round {d:Int}:DN U H 0 (AE.CU H.w d).1 (H.at_ 0) (AE.CU H.w d).2.1
def Hi (H:AG)(k:Int)(w:AH)(s:Ae)(es:List Event):AG:=({ H with w:=w }.set k s).HQ es
inductive Step (U:Ad→Prop)(H:AG):AG→Prop
 | told {k:Int} {u:Ad}:0≤k→k < 4→(H.at_ k).state≠0→u∈TI→Step U H (H.tell k u)
 | BH {k:Int}:0≤k→k < 4→(H.at_ k).state≠0→Step U H (H.set k (H.at_ k).BH)
 | goes {k:Int} {w:AH} {s:Ae} {es:List Event}:0≤k→k < 4→DN U H k w s es→Step U H (H.Hi k w s es)
 | free {k:Int}:0≤k→k < 4→¬ ((H.at_ k).state=2∧(H.w.AO.at (H.at_ k).Aw).here=true)→Step U H (H.set k default)
inductive Steps (U:Ad→Prop)(H:AG):AG→Prop
 | refl:Steps U H H
 | tail {X Y:AG}:Steps U H X→Step U X Y→Steps U H Y
section
variable {U:Ad→Prop} {H X Y:AG}
theorem Step.one (h:Step U H X):Steps U H X:= .tail .refl h
theorem Steps.trans (h:Steps U H X)(k:Steps U X Y):Steps U H Y:=by
 induction k with
 | refl=>exact h
 | tail _ s ih=>exact ih.tail s
theorem Steps.J7 {P:AG→Prop}(hs:∀ {H X:AG},P H→Step U H X→P X)(h:P H)(k:Steps U H X):P X:=by
 induction k with
 | refl=>exact h
 | tail _ s ih=>exact hs ih s
theorem GO (H:AG){k:Int}(h0:0≤k)(h1:k < 4)(w:AH)(s:Ae)(es:List Event){j:Int}(j0:0≤j)(j1:j < 4):(H.Hi k w s es).at_ j=(if j=k then s else H.at_ j).Df es:=by
 unfold Hi
 rw [W0 _ _ j0 j1,CN _ h0 h1 j0]
 rfl
theorem LB (H:AG)(k:Int)(w:AH)(s:Ae)(es:List Event):(H.Hi k w s es).w=w∧(H.Hi k w s es).last=H.last++es∧(H.Hi k w s es).B8=H.B8:=XT _ es
theorem QF (es:List Event):(default:Ae).Df es=default:=if_neg (show ¬ (0:Int)=2 by decide)
theorem F4 (H:AG){k:Int}(h0:0≤k)(h1:k < 4):Steps U H (H.leave k):=by
 unfold AG.leave
 split
 ·rename_i c
  rw [Bool.and_eq_true,decide_eq_true_eq] at c
  have s:Step U H (H.Hi k (AE.EJ H.w (H.at_ k).Aw EL).1 default (AE.EJ H.w (H.at_ k).Aw EL).2.1):= .goes h0 h1 (.left c.1 c.2)
  have e:(((H.VK k).set k default).HQ (AE.EJ H.w (H.at_ k).Aw EL).2.1).set k default=H.Hi k (AE.EJ H.w (H.at_ k).Aw EL).1 default (AE.EJ H.w (H.at_ k).Aw EL).2.1:=by
   show(H.Hi k _ default _).set k default=_
   have:=GO H h0 h1 (AE.EJ H.w (H.at_ k).Aw EL).1 default (AE.EJ H.w (H.at_ k).Aw EL).2.1 h0 h1
   rw [if_pos rfl,QF] at this
   have h2:=Me (H.Hi k (AE.EJ H.w (H.at_ k).Aw EL).1 default (AE.EJ H.w (H.at_ k).Aw EL).2.1) h0 h1
   rw [this] at h2
   exact h2
  rw [e]
  exact s.one
 ·rename_i c
  exact(Step.free h0 h1 (fun h=>c (by rw [Bool.and_eq_true,decide_eq_true_eq];exact h))).one
theorem Is (H:AG):∀ k:Nat,k≤4→Steps U H (H.CG k).1
 | 0,_=> .refl
 | k+1,hk=>by
  have ih:=Is H k (by omega)
  unfold CG
  split
  ·exact ih
  ·rename_i c
   have s:Step U (H.CG k).1 ((H.CG k).1.set k (((H.CG k).1.at_ k).BH)):= .BH (by omega) (by omega) (by simpa using c)
   split
   ·exact(ih.tail s).trans (F4 _ (by omega) (by omega))
   ·exact ih.tail s
theorem Nt:∀(n:Nat) (H:AG),Steps U H (H.GW n)
 | 0,_=> .refl
 | n+1,H=>by
  unfold GW
  split
  ·exact Is H 4 (Nat.le_refl 4)
  ·exact(Is H 4 (Nat.le_refl 4)).trans (Nt n _)
theorem Jd (H:AG):Steps U H H.BH:=Nt 5 H
theorem TZ (H:AG){k:Int}(h0:0≤k)(h1:k < 4)(hs:(H.at_ k).state=1)(u:Ad):Steps U H (H.named k u):=by
 unfold AG.named
 split
 ·rename_i c
  exact(Step.goes h0 h1 (.Jf hs (of_decide_eq_true c))).one
 ·have hn:(H.at_ k).state≠0:=by omega
  split
  ·exact(Step.told h0 h1 hn (by simp [TI])).one
  ·exact(Step.told h0 h1 hn (by simp [TI])).one
theorem S7 (H:AG){k:Int}(h0:0≤k)(h1:k < 4)(hs:(H.at_ k).state≠0)(h2:(H.at_ k).state≠1){u:Ad}(hu:U u):Steps U H (H.order k u):=by
 unfold AG.order
 split
 ·exact(Step.told h0 h1 hs (by simp [TI])).one
 ·split
  ·exact F4 H h0 h1
  ·rename_i c
   have:=(Step.goes (H:=H) h0 h1 (.db hu hs h2 (fun e=>c (decide_eq_true e)))).one
   unfold Hi at this
   rw [show({ H with w:=(AE.EJ H.w (H.at_ k).Aw (Words.parse u).1).1 }:AG).set k (H.at_ k)={ H with w:=(AE.EJ H.w (H.at_ k).Aw (Words.parse u).1).1 } from Me { H with w:=(AE.EJ H.w (H.at_ k).Aw (Words.parse u).1).1 } h0 h1] at this
   exact this
theorem Ir (H:AG)(d:Int):Steps U H ({ H with w:=(AE.CU H.w d).1 }.HQ (AE.CU H.w d).2.1):=by
 have:=(Step.goes (U:=U) (H:=H) (Int.le_refl 0) (by decide) (.round (d:=d))).one
 unfold Hi at this
 rw [show({ H with w:=(AE.CU H.w d).1 }:AG).set 0 (H.at_ 0)={ H with w:=(AE.CU H.w d).1 } from Me { H with w:=(AE.CU H.w d).1 } (Int.le_refl 0) (by decide)] at this
 exact this
def next (H:AG)(k:Int)(r:List Ad):AG:=H.set k { H.at_ k with queue:=r }.E1
theorem ME (H:AG){k:Int}(h0:0≤k)(h1:k < 4)(hU:∀ q∈(H.at_ k).queue,U q):(((H.at_ k).state=0∨(H.at_ k).queue = [])∧H.Dz k=H)∨∃ q r,(H.at_ k).state≠0∧(H.at_ k).queue=q :: r∧Steps U (H.next k r) (H.Dz k):=by
 unfold AG.Dz
 split
 ·rename_i c;exact .inl ⟨.inl (of_decide_eq_true c),rfl⟩
 ·rename_i c
  have c':(H.at_ k).state≠0:=fun e=>c (decide_eq_true e)
  split
  ·rename_i e;exact .inl ⟨.inr e,rfl⟩
  ·rename_i q r e
   refine .inr ⟨q,r,c',e,?_⟩
   have ha:(H.next k r).at_ k={ H.at_ k with queue:=r }.E1:=by unfold next;rw [CN _ h0 h1 h0,if_pos rfl]
   have hst:((H.next k r).at_ k).state=(H.at_ k).state:=by rw [ha];rfl
   show Steps U (H.next k r) (if (H.at_ k).pg.B5=true then H.next k r else if decide ((H.at_ k).state=1)=true then(H.next k r).named k (Words.Qj 32 (Words.SA 32 q)) else(H.next k r).order k q)
   split
   ·exact .refl
   ·split
    ·rename_i c2
     exact TZ _ h0 h1 (by rw [hst];exact of_decide_eq_true c2) _
    ·rename_i c2
     exact S7 _ h0 h1 (by rw [hst];exact c') (by rw [hst];exact fun e=>c2 (decide_eq_true e)) (hU q (by rw [e];exact List.mem_cons_self ..))
end
end AG
end Go.Ing
/- What a seat is behind every act: plain laws. -/
namespace Go.Ing
open Go
namespace Page
theorem Re (ht:Int):∀(l:List Ad) (x:Pg),BH ht (BH ht l x).2 (BH ht l x).1=BH ht l x
 | [],x=>rfl
 | s :: r,x=>by
  by_cases c1:(x.B5 || x.cut)=true
  ·have e:BH ht (s :: r) x=(x,s :: r):=by rw [BH,if_pos c1]
   rw [e];exact e
  ·by_cases c2:(decide (0 < ht) && decide (ht≤x.shown))=true
   ·have e:BH ht (s :: r) x=(put { x with B5:=true } HO,s :: r):=by rw [BH,if_neg c1,if_pos c2]
    rw [e]
    have ha:(put { x with B5:=true } HO).B5=true:=by
     unfold put;split
     ·rfl
     ·split<;>rfl
    rw [BH,if_pos (by rw [ha];rfl)]
   ·have e:BH ht (s :: r) x=BH ht r (put { x with shown:=min (x.shown+1) 200 } (escape s ++ [13,10])):=by rw [BH,if_neg c1,if_neg c2]
    rw [e]
    exact Re ht r _
theorem QX (ht:Int):∀(l:List Ad) (x:Pg),x.ring.length≤700→0≤x.shown→x.shown≤200→(BH ht l x).1.ring.length≤700∧0≤(BH ht l x).1.shown∧(BH ht l x).1.shown≤200
 | [],x,h1,h2,h3=>⟨h1,h2,h3⟩
 | s :: r,x,h1,h2,h3=>by
  unfold BH
  split
  ·exact⟨h1,h2,h3⟩
  ·split
   ·refine⟨MM h1,?_,?_⟩<;>rw [Hr]
    ·exact h2
    ·exact h3
   ·refine QX ht r _ (MM h1) ?_ ?_<;>rw [Hr]
    ·show 0≤min (x.shown+1) 200;omega
    ·show min (x.shown+1) 200≤200;omega
end Page
namespace Ae
structure Ok (s:Ae):Prop where
 st:0≤s.state∧s.state≤2
 n:s.wait.length≤60
 ring:s.pg.ring.length≤700
 s0:0≤s.pg.shown
 s1:s.pg.shown≤200
 ln:Bh.Ok ⟨s.now,s.long,s.ret,s.queue,0⟩
theorem aP (s:Ae):s.MC=true↔s.wait.length≤60∧s.pg.ring.length≤700∧0≤s.pg.shown∧s.pg.shown≤200:=by
 simp only [MC,Bool.and_eq_true,decide_eq_true_eq];omega
theorem eB (s:Ae):s.Lv=true↔Bh.Ok ⟨s.now,s.long,s.ret,s.queue,0⟩:=
 Bh.H8 (l:=⟨s.now,s.long,s.ret,⟨none,s.queue.length,0⟩⟩) (qs:=s.queue) rfl
variable {s:Ae}
theorem Ok.MC (h:s.Ok):s.MC=true:=(aP s).2 ⟨h.n,h.ring,h.s0,h.s1⟩
theorem Ok.Lv (h:s.Ok):s.Lv=true:=(eB s).2 h.ln
theorem Ct:(default:Ae).Ok:=⟨⟨Int.le_refl 0,by decide⟩,Nat.zero_le _,Nat.zero_le _,Int.le_refl 0,by decide,(⟨Bh.NO,(fun s hs=>by cases hs),Nat.zero_le _,(fun h=>by cases h)⟩:Bh.Ok ⟨[],false,false,[],0⟩)⟩
theorem Ok.line (h:s.Ok)(u:Ad):(s.line u).Ok:=by
 unfold Ae.line
 split
 ·exact h
 ·split
  ·exact h
  ·split
   ·exact⟨h.st,h.n,h.ring,h.s0,h.s1,h.ln⟩
   ·rename_i c
    refine⟨h.st,?_,h.ring,h.s0,h.s1,h.ln⟩
    have hn:=h.n
    have c':¬ (60:Int)≤s.wait.length:=fun e=>c (decide_eq_true e)
    show(s.wait ++ [u]).length≤60
    rw [List.length_append,List.length_singleton];omega
theorem Ok.tell (h:s.Ok)(u:Ad):(s.tell u).Ok:=by
 have:=h.line u
 unfold Ae.tell Ae.note
 split
 ·exact⟨this.st,this.n,this.ring,this.s0,this.s1,this.ln⟩
 ·exact this
theorem Ok.BH (h:s.Ok):s.BH.Ok:=by
 unfold Ae.BH
 split
 ·exact h
 ·have hk:=Page.QX s.DZ.Bv s.wait s.pg h.ring h.s0 h.s1
  exact⟨h.st,Nat.le_trans (Page.bP _ _ _) h.n,hk.1,hk.2.1,hk.2.2,h.ln⟩
theorem Ok.send (h:s.Ok)(u:Ad):(s.send u).Ok:=by
 unfold Ae.send
 split
 ·exact h
 ·split
  ·exact h
  ·exact⟨h.st,h.n,Page.MM h.ring,by show 0≤(Page.put s.pg u).shown;rw [Page.Hr];exact h.s0,by show(Page.put s.pg u).shown≤200;rw [Page.Hr];exact h.s1,h.ln⟩
theorem Ok.DZ (h:s.Ok)(t:AK):({ s with DZ:=t }:Ae).Ok:=⟨h.st,h.n,h.ring,h.s0,h.s1,h.ln⟩
theorem Ok.offer (h:s.Ok)(opt:Int):(s.offer opt).Ok:=by
 unfold Ae.offer
 split
 ·exact(h.DZ _).send _
 ·exact(h.DZ _).send _
theorem Ok.Fl (h:s.Ok)(n:Int):(s.Fl n).Ok:=⟨h.st,h.n,by show(s.pg.ring.drop _).length≤700;rw [List.length_drop];have:=h.ring;omega,h.s0,h.s1,h.ln⟩
theorem Ok.next (h:s.Ok){q:Ad}{r:List Ad}(e:s.queue=q :: r):({ s with queue:=r }:Ae).E1.Ok:=
 ⟨h.st,h.n,h.ring,Int.le_refl 0,show(0:Int)≤200 by decide,⟨h.ln.now,fun x hx=>h.ln.queue x (by show x∈s.queue;rw [e];exact List.mem_cons_of_mem _ hx),by
  have:=h.ln.len
  have h2:s.queue.length≤6:=this
  rw [e,List.length_cons] at h2
  show r.length≤6;omega,h.ln.ret⟩⟩
theorem Ok.typed (h:s.Ok)(u:Ad):(Cv s u).1.Ok:=by
 have h1:(s.bytes u).1.Ok:=(h.DZ _).send _
 unfold Cv Ae.typed
 split
 ·exact h1
 ·have ho:=Bh.Wa (s.bytes u).2 h1.ln
  exact⟨h1.st,h1.n,h1.ring,h1.s0,h1.s1,⟨ho.now,ho.queue,ho.len,ho.ret⟩⟩
theorem Ok.Jf (h:s.Ok)(b:Int):({ s with state:=2,Aw:=b }:Ae).Ok:=⟨⟨show(0:Int)≤2 by decide,show(2:Int)≤2 by decide⟩,h.n,h.ring,h.s0,h.s1,h.ln⟩
theorem Ok.CS (h:s.Ok)(e:Event):(s.CS e).Ok:=by
 unfold Ae.CS;split
 ·exact h.tell _
 ·exact h
theorem V6:∀(es:List Event) {s:Ae},s.Ok→(es.foldl Ae.CS s).Ok
 | [],_,h=>h
 | e :: r,_,h=>V6 r (h.CS e)
theorem Ok.Df (h:s.Ok)(es:List Event):(s.Df es).Ok:=by
 unfold Ae.Df
 split
 ·exact V6 es h
 ·exact h
theorem Ok.heard (h:s.Ok):({ s with told:= [] }:Ae).Ok:=⟨h.st,h.n,h.ring,h.s0,h.s1,h.ln⟩
theorem Fa (s:Ae)(es:List Event):(s.Df es).state=s.state∧(s.Df es).Aw=s.Aw:=by
 unfold Ae.Df
 split
 ·induction es generalizing s with
  | nil=>exact⟨rfl,rfl⟩
  | cons e r ih=>
   rename_i c
   have h1:=AG.WR s e
   have:=ih (s.CS e) (by rw [h1.1];exact c)
   exact⟨this.1.trans h1.1,this.2.trans h1.2⟩
 ·exact⟨rfl,rfl⟩
structure Still (s:Ae):Prop where
 fl:s.BH=s
 cut:s.pg.cut=false
theorem Ni (s:Ae)(h:s.wait.length≤60∧s.pg.ring.length≤700∧0≤s.pg.shown∧s.pg.shown≤200)(c:(decide (s.DZ.Bv < 0) || decide (200 < s.DZ.Bv))=false):s.BH={ s with pg:=(Page.BH s.DZ.Bv s.wait s.pg).1,wait:=(Page.BH s.DZ.Bv s.wait s.pg).2 }:=by
 unfold Ae.BH
 rw [if_neg]
 rw [(aP s).2 h]
 simpa using c
theorem KH (s:Ae)(c:(decide (s.DZ.Bv < 0) || decide (200 < s.DZ.Bv))=true):s.BH=s:=by
 unfold Ae.BH
 rw [if_pos]
 rw [Bool.or_assoc,c,Bool.or_true]
theorem Ok.idem (h:s.Ok):s.BH.BH=s.BH:=by
 cases c:(decide (s.DZ.Bv < 0) || decide (200 < s.DZ.Bv)) with
 | true=>rw [KH s c,KH s c]
 | false=>
  have e:=Ni s ⟨h.n,h.ring,h.s0,h.s1⟩ c
  have hk:=h.BH
  rw [e] at hk ⊢
  rw [Ni _ ⟨hk.n,hk.ring,hk.s0,hk.s1⟩ c]
  have:=Page.Re s.DZ.Bv s.wait s.pg
  dsimp only
  rw [this]
end Ae
namespace AG
def HK (H:AG):Prop:=∀ k,0≤k→k < 4→(H.at_ k).Ok
section
variable {U:Ad→Prop} {H X:AG}
theorem HK.set (h:H.HK){k:Int}(h0:0≤k)(h1:k < 4){s:Ae}(hs:s.Ok):(H.set k s).HK:=fun j j0 j1=>by
 rw [CN _ h0 h1 j0];split
 ·exact hs
 ·exact h j j0 j1
theorem HK.step (h:H.HK)(s:Step U H X):X.HK:=by
 cases s with
 | told h0 h1 _ _=>exact h.set h0 h1 ((h _ h0 h1).tell _)
 | BH h0 h1 _=>exact h.set h0 h1 (h _ h0 h1).BH
 | free h0 h1 _=>exact h.set h0 h1 Ae.Ct
 | goes h0 h1 g=>
  intro j j0 j1
  rw [GO H h0 h1 _ _ _ j0 j1]
  refine Ae.Ok.Df ?_ _
  split
  ·cases g with
   | left _ _=>exact Ae.Ct
   | Jf _ _=>exact(h _ h0 h1).Jf _
   | db _ _ _ _=>exact h _ h0 h1
   | round=>exact h _ (Int.le_refl 0) (by decide)
  ·exact h j j0 j1
theorem HK.steps (h:H.HK)(s:Steps U H X):X.HK:=Steps.J7 (P:=HK) (fun h s=>h.step s) h s
/-! #### nobody is cut off behind all that flows -/
def busy (H:AG)(k:Int):Nat:=if (H.at_ k).state=0 then 0 else 1
def Oj (H:AG):Nat:=H.busy 0+H.busy 1+H.busy 2+H.busy 3
theorem bx {H X:AG}(h:∀ j,0≤j→j < 4→(H.at_ j).state=0→(X.at_ j).state=0):X.Oj≤H.Oj∧∀ k,0≤k→k < 4→(H.at_ k).state≠0→(X.at_ k).state=0→X.Oj < H.Oj:=by
 have hb:∀ j,0≤j→j < 4→X.busy j≤H.busy j∧H.busy j≤1∧((H.at_ j).state≠0→(X.at_ j).state=0→X.busy j < H.busy j):=fun j j0 j1=>by
  have:=h j j0 j1
  unfold busy
  refine⟨?_,?_,?_⟩
  ·split
   ·exact Nat.zero_le _
   ·rename_i c
    rw [if_neg (fun e=>c (this e))];exact Nat.le_refl _
  ·split<;>omega
  ·intro a b
   rw [if_pos b,if_neg a];decide
 have b0:=hb 0 (by decide) (by decide);have b1:=hb 1 (by decide) (by decide);have b2:=hb 2 (by decide) (by decide);have b3:=hb 3 (by decide) (by decide)
 unfold Oj
 refine⟨by omega,fun k k0 k1 a b=>?_⟩
 rcases four k0 k1 with e | e | e | e<;>subst e
 ·have:=b0.2.2 a b;omega
 ·have:=b1.2.2 a b;omega
 ·have:=b2.2.2 a b;omega
 ·have:=b3.2.2 a b;omega
theorem KW (H:AG){k:Int}(h0:0≤k)(h1:k < 4){j:Int}(j0:0≤j)(j1:j < 4):(H.leave k).at_ j=if j=k then default else(H.at_ j).Df (if decide ((H.at_ k).state=2) && (H.w.AO.at (H.at_ k).Aw).here then(AE.EJ H.w (H.at_ k).Aw EL).2.1 else []):=by
 unfold AG.leave
 rw [CN _ h0 h1 j0]
 split
 ·rfl
 ·rename_i c
  split
  ·rw [W0 _ _ j0 j1,CN _ h0 h1 j0,if_neg c]
   rfl
  ·unfold Ae.Df;split<;>rfl
theorem Jo (H:AG):∀ k:Nat,k≤4→∀ j,0≤j→j < 4→(H.at_ j).state=0→((H.CG k).1.at_ j).state=0
 | 0,_,_,_,_,h=>h
 | k+1,hk,j,j0,j1,h=>by
  have ih:=Jo H k (by omega) j j0 j1 h
  have hf:(((H.CG k).1.set k (((H.CG k).1.at_ k).BH)).at_ j).state=0:=by
   rw [CN _ (by omega) (by omega) j0]
   split
   ·rename_i e;subst e;rw [(F5 _).2.1];exact ih
   ·exact ih
  unfold CG
  split
  ·exact ih
  ·split
   ·show(AG.at_ (AG.leave _ _) j).state=0
    rw [KW _ (by omega) (by omega) j0 j1]
    split
    ·rfl
    ·rw [(Ae.Fa _ _).1];exact hf
   ·exact hf
theorem Qv (H:AG):∀ k:Nat,k≤4→(H.CG k).2=true→∃ j,0≤j∧j < 4∧(H.at_ j).state≠0∧((H.CG k).1.at_ j).state=0
 | 0,_,h=>by cases h
 | k+1,hk,h=>by
  have ih:=Qv H k (by omega)
  have hn:(((H.CG k).1.at_ k).state≠0)→(H.at_ k).state≠0:=fun c e=>c (Jo H k (by omega) k (by omega) (by omega) e)
  unfold CG at h ⊢
  split at h
  ·rename_i c
   rw [if_pos c];exact ih h
  ·rename_i c
   have c':((H.CG k).1.at_ k).state≠0:=by simpa using c
   rw [if_neg c]
   split at h
   ·rename_i c2
    rw [if_pos c2]
    refine⟨k,by omega,by omega,hn c',?_⟩
    show(AG.at_ (AG.leave _ _) k).state=0
    rw [KW _ (by omega) (by omega) (by omega) (by omega),if_pos rfl];rfl
   ·rename_i c2
    rw [if_neg c2]
    obtain⟨j,j0,j1,a,b⟩:=ih h
    refine⟨j,j0,j1,a,?_⟩
    show(AG.at_ (AG.set _ _ _) j).state=0
    rw [CN _ (by omega) (by omega) j0]
    split
    ·rename_i e;subst e;exact absurd b c'
    ·exact b
theorem IG (H:AG):∀ k:Nat,k≤4→(H.CG k).2=false→(H.CG k).1.w=H.w∧(H.CG k).1.last=H.last∧(H.CG k).1.B8=H.B8∧∀ j,0≤j→j < 4→(H.CG k).1.at_ j=(if j < k∧(H.at_ j).state≠0 then(H.at_ j).BH else H.at_ j)∧(j < k→(H.at_ j).state≠0→(H.at_ j).BH.pg.cut=false)
 | 0,_,_=>⟨rfl,rfl,rfl,fun j j0 _=>⟨by rw [if_neg (by omega)];rfl,fun h=>by omega⟩⟩
 | k+1,hk,h=>by
  have ih:=IG H k (by omega)
  unfold CG at h ⊢
  split at h
  ·rename_i c
   rw [if_pos c]
   obtain⟨a1,a2,a3,a4⟩:=ih h
   have hk0:=(a4 k (by omega) (by omega)).1
   rw [if_neg (by omega)] at hk0
   rw [hk0] at c
   have c':(H.at_ k).state=0:=of_decide_eq_true c
   refine⟨a1,a2,a3,fun j j0 j1=>⟨?_,fun hj hs=>?_⟩⟩
   ·rw [(a4 j j0 j1).1]
    by_cases e:j=(k:Int)
    ·subst e;rw [if_neg (fun h=>h.2 c'),if_neg (fun h=>h.2 c')]
    ·simp only [lt_next e]
   ·by_cases e:j=(k:Int)
    ·subst e;exact absurd c' hs
    ·exact(a4 j j0 j1).2 (by omega) hs
  ·rename_i c
   split at h
   ·cases h
   ·rename_i c2
    rw [if_neg c,if_neg c2]
    obtain⟨a1,a2,a3,a4⟩:=ih h
    have hk0:=(a4 k (by omega) (by omega)).1
    rw [if_neg (by omega)] at hk0
    rw [hk0] at c c2
    have c':(H.at_ k).state≠0:=by simpa using c
    refine⟨a1,a2,a3,fun j j0 j1=>⟨?_,fun hj hs=>?_⟩⟩
    ·show(AG.at_ (AG.set _ _ _) j)=_
     rw [CN _ (by omega) (by omega) j0]
     by_cases e:j=(k:Int)
     ·subst e;rw [if_pos rfl,if_pos ⟨by omega,c'⟩,hk0]
     ·rw [if_neg e,(a4 j j0 j1).1];simp only [lt_next e]
    ·by_cases e:j=(k:Int)
     ·subst e;simpa using c2
     ·exact(a4 j j0 j1).2 (by omega) hs
theorem Ns:∀(n:Nat) (H:AG),H.HK→H.Oj < n→∀ j,0≤j→j < 4→((H.GW n).at_ j).state≠0→((H.GW n).at_ j).Still
 | 0,_,_,h,_,_,_,_=>absurd h (Nat.not_lt_zero _)
 | n+1,H,hk,hb,j,j0,j1,hs=>by
  unfold GW at hs ⊢
  split at hs
  ·rename_i c
   rw [if_pos c]
   obtain⟨_,_,_,a⟩:=IG H 4 (Nat.le_refl 4) (by simpa using c)
   have a:=a j j0 j1
   by_cases e:(H.at_ j).state=0
   ·rw [a.1,if_neg (fun h=>h.2 e)] at hs;exact absurd e hs
   ·rw [a.1,if_pos ⟨by omega,e⟩]
    exact⟨(hk j j0 j1).idem,a.2 (by omega) e⟩
  ·rename_i c
   rw [if_neg c]
   obtain⟨i,i0,i1,a,b⟩:=Qv H 4 (Nat.le_refl 4) (by simpa using c)
   have hl:=(bx (Jo H 4 (Nat.le_refl 4))).2 i i0 i1 a b
   exact Ns n _ (hk.steps (U:=fun _=>True) (Is H 4 (Nat.le_refl 4))) (by omega) j j0 j1 hs
theorem VP (h:H.HK){j:Int}(j0:0≤j)(j1:j < 4)(hs:(H.BH.at_ j).state≠0):(H.BH.at_ j).Still:=
 Ns 5 H h (by
  have hb:∀ j,H.busy j≤1:=fun j=>by unfold busy;split<;>omega
  have:=hb 0;have:=hb 1;have:=hb 2;have:=hb 3
  unfold Oj;omega) j j0 j1 hs
end
end AG
end Go.Ing
/- Acts that are played: plain laws. -/
namespace Go.Ing
open Go
namespace AK
def HY (t:AK):Nat:=if t.at_=2 then 2 else if t.at_=1 then 1 else 0
theorem W7 (t:AK)(b:UInt8):(t.step b).2.2.length+(t.step b).1.HY≤1+t.HY:=by
 unfold step;dsimp only
 split
 ·rename_i c;have c':=of_decide_eq_true c
  have hp:t.HY=0:=by unfold HY;rw [if_neg (by omega),if_neg (by omega)]
  split
  ·exact Nat.le_add_right 1 _
  ·show 0+t.HY≤1+t.HY;omega
 ·split
  ·rename_i c;have c':=of_decide_eq_true c
   have hp:t.HY=1:=by unfold HY;rw [if_neg (by omega),if_pos c']
   rw [hp]
   split
   ·exact Nat.zero_le _
   ·split
    ·exact Nat.zero_le _
    ·split
     ·exact Nat.le_refl 2
     ·exact Nat.zero_le _
  ·split
   ·rename_i c;have c':=of_decide_eq_true c
    have hp:t.HY=2:=by unfold HY;rw [if_pos c']
    rw [hp]
    exact Iy _ _ _
   ·split
    ·rename_i c;have c':=of_decide_eq_true c
     split
     ·exact Nat.zero_le _
     ·show 0+(t.collect b).HY≤_
      have:(t.collect b).at_=t.at_:=by unfold collect;split<;>rfl
      unfold HY;rw [this];rw [if_neg (by omega),if_neg (by omega)];omega
    ·split
     ·rename_i c;have c':=of_decide_eq_true c
      split
      ·show 0+(collect { t with at_:=3 } b).HY≤_
       have:(collect { t with at_:=3 } b).at_=3:=by unfold collect;split<;>rfl
       unfold HY;rw [this];rw [if_neg (by decide),if_neg (by decide)];omega
      ·split
       ·show 0+HY { t.measure with at_:=0,sub:= [] }≤_;exact Nat.zero_le _
       ·exact Nat.zero_le _
     ·show 0+t.HY≤_;omega
theorem NZ:∀(s:Ad) (t:AK),(t.feed s).2.2.length≤s.length+t.HY
 | [],t=>Nat.zero_le _
 | b :: s,t=>by
  have h1:=W7 t b
  have h2:=NZ s (t.step b).1
  show((t.step b).2.2++((t.step b).1.feed s).2.2).length≤s.length+1+t.HY
  rw [List.length_append];omega
theorem WH (t:AK):t.HY≤2:=by unfold HY;split;exact Nat.le_refl 2;split<;>decide
theorem KY.yb {X t:AK}{u x y:Ad}{k:Int}(h:KY X u k t x y):y.length≤u.length+2:=by
 have h1:=NZ u X
 have h2:=WH X
 rw [h.e3,List.length_append] at h1
 omega
theorem XK (t:AK)(u:Ad):(t.DA u).2.2.1.length≤u.length+2:=by
 unfold DA
 split
 ·exact Nat.zero_le _
 ·have h1:=NZ u t
  have h2:=WH t
  show(t.feed u).2.2.length≤_
  omega
end AK
namespace AG
section
variable {H:AG}
theorem HK.tell (h:H.HK){k:Int}(h0:0≤k)(h1:k < 4)(u:Ad):(H.tell k u).HK:=h.set h0 h1 ((h k h0 h1).tell u)
theorem HK.BH (h:H.HK):H.BH.HK:=h.steps (U:=fun _=>True) (Jd H)
theorem HK.Dz (h:H.HK){k:Int}(h0:0≤k)(h1:k < 4):(H.Dz k).HK:=by
 rcases ME (U:=fun _=>True) H h0 h1 (fun _ _=>trivial) with ⟨_,e⟩ | ⟨q,r,_,e,s⟩
 ·rw [e];exact h
 ·exact HK.steps (h.set h0 h1 ((h k h0 h1).next e)) s
theorem HK.turns (h:H.HK):∀ k:Nat,k≤4→(H.turns k).HK
 | 0,_=>h
 | k+1,hk=>(HK.turns h k (by omega)).Dz (by omega) (by omega)
theorem HK.begun (h:H.HK):H.begun.HK:=fun k h0 h1=>by rw [E4 h0 h1];exact(h k h0 h1).heard
theorem HK.DJ (h:H.HK)(a:Br):(H.DJ a).1.HK:=
 Jr (fun X=>X.HK) h (fun d=>((h.turns 4 (Nat.le_refl 4)).steps (U:=fun _=>True) (Ir _ d)).BH)
  (fun k h0 h1=>((h.set h0 h1 (((show({ (default:Ae) with state:=1,Aw:=-1 }:Ae).Ok from⟨⟨show(0:Int)≤1 by decide,show(1:Int)≤2 by decide⟩,Ae.Ct.n,Ae.Ct.ring,Ae.Ct.s0,Ae.Ct.s1,Ae.Ct.ln⟩).offer 3).offer 31)).tell h0 h1 G9).BH)
  (fun k u h0 h1=>by
   rw [HE]
   refine HK.BH ?_
   have hs:=h.set h0 h1 ((h k h0 h1).typed u)
   split
   ·exact hs.tell h0 h1 OF
   ·exact hs)
  (fun k z h0 h1=>(h.set h0 h1 ((h k h0 h1).Fl z)).BH) (fun k h0 h1=>(h.steps (U:=fun _=>True) (F4 H h0 h1)).BH) a
theorem HK.act (h:H.HK)(a:Br):(H.act a).1.HK:=by
 unfold AG.act
 split
 ·exact h
 ·exact h.begun.DJ a
end
structure Live (H:AG):Prop where
 fit:H.Fit 1000 1000
 B8:0≤H.B8
 M5:H.HK
theorem Live.fits {H:AG}(h:H.Live):H.Fits:=⟨_,_,h.fit⟩
theorem WY:AG.new.HK:=fun k h0 h1=>by rw [MF h0 h1];exact Ae.Ct
theorem M3:AG.new.Live:=⟨bQ.mono (by decide) (by decide),Int.le_refl 0,WY⟩
section
variable {H X:AG}
theorem PA (e:Event)(H:AG):∀ k:Nat,(CS e H k).B8=H.B8
 | 0=>rfl
 | k+1=>by
  have ih:=PA e H k
  rw [CS.eq_2]
  split
  ·exact ih
  ·split<;>exact ih
theorem Ot:∀(es:List Event) (H:AG),(H.Hy es).B8=H.B8
 | [],_=>rfl
 | e :: r,H=>(Ot r _).trans (PA e H 4)
theorem Ku (H:AG)(es:List Event):(H.HQ es).B8=H.B8:=Ot es _
theorem MB (H:AG)(k:Int):(H.leave k).B8=H.B8:=by
 unfold AG.leave
 split
 ·exact Ku _ _
 ·rfl
theorem Lq (H:AG):∀ k:Nat,(H.CG k).1.B8=H.B8
 | 0=>rfl
 | k+1=>by
  have ih:=Lq H k
  unfold CG
  split
  ·exact ih
  ·split
   ·exact(MB _ _).trans ih
   ·exact ih
theorem P9:∀(n:Nat) (H:AG),(H.GW n).B8=H.B8
 | 0,_=>rfl
 | n+1,H=>by
  unfold GW
  split
  ·exact Lq H 4
  ·exact(P9 n _).trans (Lq H 4)
theorem JN (H:AG):H.BH.B8=H.B8:=P9 5 H
theorem VS (H:AG)(k:Int):(H.Dz k).B8=H.B8:=by
 unfold AG.Dz
 split
 ·rfl
 ·split
  ·rfl
  ·dsimp only
   split
   ·rfl
   ·split
    ·unfold AG.named
     split
     ·exact Ku _ _
     ·split<;>rfl
    ·unfold AG.order
     split
     ·rfl
     ·split
      ·exact MB _ _
      ·exact Ku _ _
theorem PQ (H:AG):∀ k:Nat,(H.turns k).B8=H.B8
 | 0=>rfl
 | k+1=>(VS _ _).trans (PQ H k)
theorem YT (X:AG)(a:Br):(X.DJ a).1.B8=X.B8:=
 Jr (fun Y=>Y.B8=X.B8) rfl (fun d=>(JN _).trans ((Ku _ _).trans (PQ X 4))) (fun k _ _=>JN _) (fun k u _ _=>by rw [HE,JN];split<;>rfl) (fun k z _ _=>JN _) (fun k _ _=>(JN _).trans (MB _ _)) a
theorem Up (H:AG):H.begun.B8=H.B8+1:=(Hm (H:={ H with B8:=H.B8+1,last:= [] }) 4).2.2
theorem Pp (H:AG)(a:Br):(H.act a).1.B8=if 400≤H.B8 then H.B8 else H.B8+1:=by
 unfold AG.act
 by_cases c:400≤H.B8
 ·rw [if_pos (decide_eq_true c),if_pos c]
 ·rw [if_neg (fun e=>c (of_decide_eq_true e)),if_neg c]
  exact(YT _ _).trans (Up H)
theorem Live.act (h:H.Live)(a:Br):(H.act a).1.Live:=⟨by
 unfold AG.act
 split
 ·exact h.fit
 ·exact(h.fit.begun).DJ a,by rw [Pp];have:=h.B8;split<;>omega,h.M5.act a⟩
theorem Live.run:∀(l:List Br) {H:AG},H.Live→(H.run l).1.Live
 | [],_,h=>h
 | a :: r,_,h=>Live.run r (h.act a)
theorem TO:∀(l:List Br) {H:AG},H.B8+l.length≤400→(H.run l).1.B8=H.B8+l.length
 | [],H,_=>by show H.B8=_;simp
 | a :: r,H,h=>by
  rw [List.length_cons] at h
  have h1:(H.act a).1.B8=H.B8+1:=by rw [Pp,if_neg (by omega)]
  have:=TO r (H:=(H.act a).1) (by rw [h1];omega)
  show((H.act a).1.run r).1.B8=_
  rw [this,h1,List.length_cons];omega
end
theorem Ua {xs:List Br}{k:Int}(h0:0≤k)(h1:k < xs.length)(H:AG):(H.run (xs.take (k+1).toNat)).1=((H.run (xs.take k.toNat)).1.act (xs.getD k.toNat default)).1:=by rw [ZP h0 h1]
/-! #### does a house answer at all? -/
def Qx:Br:=⟨1,2,0,[]⟩
def type2:Br:=⟨2,2,0,[97,110,110,13,10]⟩
def Un:Br:=⟨5,0,0,[]⟩
theorem jo:AG.new.Live:=M3
theorem jq:(AG.new.act Qx).1.Live:=jo.act _
theorem jy:((AG.new.act Qx).1.act type2).1.Live:=jq.act _
def ia:AG:=(((AG.new.act Qx).1.act type2).1.act Un).1
theorem Ze:ia.Live:=jy.act _
theorem ib:(AG.new.act Qx).2.code=0:=by kernel_rfl
theorem je:(((AG.new.act Qx).1.act type2).1.act Un).2.code=0:=by kernel_rfl
theorem jD:ia.Jg 2=(2,2):=by kernel_rfl
theorem jE:decide (2 < ((ia.at_ 2).told.length:Int))=true:=by kernel_rfl
theorem Live.told {V:AN}{ls:Vector BD 4}{ev:List Event}(h:(A7 V ls ev).Live){k:Int}(h0:0≤k)(h1:k < 4):(ls.at k).told.length≤1000000:=by
 have:=h.fit.told k h0 h1
 rw [CV _ _ _ h0 h1] at this
 exact Nat.le_trans this (by decide)
theorem Live.wait {V:AN}{ls:Vector BD 4}{ev:List Event}(h:(A7 V ls ev).Live){k:Int}(h0:0≤k)(h1:k < 4):(ls.at k).wait.length≤1000000:=by
 have:=(h.M5 k h0 h1).n
 rw [CV _ _ _ h0 h1] at this
 exact Nat.le_trans this (by decide)
theorem Live.queue {V:AN}{ls:Vector BD 4}{ev:List Event}(h:(A7 V ls ev).Live){k:Int}(h0:0≤k)(h1:k < 4):(ls.at k).queue.length≤1000000:=by
 have:=(h.M5 k h0 h1).ln.len
 rw [CV _ _ _ h0 h1] at this
 exact Nat.le_trans this (by decide)
theorem Live.last {V:AN}{ls:Vector BD 4}{ev:List Event}(h:(A7 V ls ev).Live):ev.length≤1000000:=Nat.le_trans h.fit.last (by decide)
/-! #### do two houses stand alike? -/
def ei (s t:Ae):Bool:=decide (s.wait=t.wait) && decide (s.pg.shown=t.pg.shown) && (s.pg.B5 == t.pg.B5) && decide (s.pg.ring=t.pg.ring) && (s.pg.cut == t.pg.cut)
def dz (s t:Ae):Bool:=decide (s.now=t.now) && (s.long == t.long) && (s.ret == t.ret) && decide (s.queue=t.queue)
def sameAt (H K:AG)(k:Int):Bool:=!(!decide ((H.Jg k).1=(K.Jg k).1) || !decide ((H.Jg k).2=(K.Jg k).2) || !ei (H.at_ k) (K.at_ k) || !dz (H.at_ k) (K.at_ k))
def same (H K:AG):Bool:=CD 4 (sameAt H K) 4 && decide (H.w=K.w)
end AG
end Go.Ing
/- What beings do keeps: things, people, and who is far. -/
namespace Go.Ing
open Go
theorem E5 {α β:Type}[Inhabited α]{n:Nat}(f:α→β)(v:Vector α n){k:Int}{x:α}(hx:f x=f (v.at k))(i:Int):f ((v.put k x).at i)=f (v.at i):=by
 unfold Vector.put Vector.at at *
 rw [List.getD_eq_getElem?_getD] at hx ⊢
 rw [List.getD_eq_getElem?_getD]
 simp only [Vector.toList_setIfInBounds]
 rw [List.getElem?_set]
 split
 ·rename_i h1
  split
  ·rw [← h1,← hx];rfl
  ·rename_i h2
   rw [← h1,List.getElem?_eq_none (by omega)]
 ·rfl
namespace AE
/-! #### things stay what they are -/
def dE (X:AH)(_:List Event)(Y:AH):Prop:=∀ i,(Y.AP.at i).name=(X.AP.at i).name∧(Y.AP.at i).kind=(X.AP.at i).kind
theorem eG (x:Ad)(q:Prop)(b:Int):Rel x q b dE where
 refl _:=fun _=>⟨rfl,rfl⟩
 trans h k:=fun i=>⟨(k i).1.trans (h i).1,(k i).2.trans (h i).2⟩
 eO _:=fun _=>⟨rfl,rfl⟩
 BM {w i t} hn hk:=fun j=>⟨E5 An.name w.AP hn j,E5 An.kind w.AP hk j⟩
 B7:=fun _=>⟨rfl,rfl⟩
 shut:=fun _=>⟨rfl,rfl⟩
 Fw:=fun _=>⟨rfl,rfl⟩
 GY _:=fun _=>⟨rfl,rfl⟩
 gone h _:=h
theorem bT:YE dE:=⟨fun b _ _=>eG [] False b,fun _=>⟨rfl,rfl⟩,fun _ h _=>h⟩
/-! #### who is there -/
def iL (l:List Event)(c:Int):Prop:=∃ e∈l,e.kind=18∧e.DW=c
def dJ (X:AH)(l:List Event)(Y:AH):Prop:=∀ c,0≤c→c < 6→((Y.AO.at c).here=true→(X.AO.at c).here=true∧(Y.AO.at c).name=(X.AO.at c).name)∧(2≤c→¬ iL l c→(Y.AO.at c).here=(X.AO.at c).here)
theorem HN {X Y:AH}{l:List Event}(h:∀ c,(Y.AO.at c).here=(X.AO.at c).here∧(Y.AO.at c).name=(X.AO.at c).name):dJ X l Y:=fun c _ _=>⟨fun e=>⟨by rw [← (h c).1];exact e,(h c).2⟩,fun _ _=>(h c).1⟩
theorem XW {X Y Z:AH}{l m:List Event}(h:dJ X l Y)(k:dJ Y m Z):dJ X (l++m) Z:=fun c c0 c6=>⟨fun e=>by
  obtain⟨a,b⟩:=(k c c0 c6).1 e
  obtain⟨d,f⟩:=(h c c0 c6).1 a
  exact⟨d,b.trans f⟩,fun c2 hn=>((k c c0 c6).2 c2 fun⟨e,he,h1⟩=>hn ⟨e,List.mem_append_right _ he,h1⟩).trans ((h c c0 c6).2 c2 fun⟨e,he,h1⟩=>hn ⟨e,List.mem_append_left _ he,h1⟩)⟩
theorem Yw (x:Ad)(q:Prop){b:Int}(b0:0≤b)(b6:b < 6):Rel x q b dJ where
 refl _:=HN fun _=>⟨rfl,rfl⟩
 trans:=XW
 eO _:=HN fun _=>⟨rfl,rfl⟩
 BM _ _:=HN fun _=>⟨rfl,rfl⟩
 B7 {w k f}:=HN fun c=>⟨E5 Am.here w.AO (k:=k) (x:={ w.AO.at k with B7:=f }) rfl c,E5 Am.name w.AO (k:=k) (x:={ w.AO.at k with B7:=f }) rfl c⟩
 shut:=HN fun _=>⟨rfl,rfl⟩
 Fw {w d r}:=HN fun c=>⟨E5 Am.here w.AO (k:=b) (x:={ w.AO.at b with room:=r,B7:=0 }) rfl c,E5 Am.name w.AO (k:=b) (x:={ w.AO.at b with room:=r,B7:=0 }) rfl c⟩
 GY _ {w}:=HN fun _=>⟨rfl,rfl⟩
 gone {X l w} h hg:=fun c c0 c6=>by
  by_cases e:c=b
  ·subst e
   rw [AH.Ec c0 c6]
   refine⟨fun e=>(by cases e),fun c2 hn=>?_⟩
   obtain⟨e,he,hk,ha⟩:=hg
   rcases hk with hk | ⟨_,hk⟩
   ·exact absurd ⟨e,he,hk,ha⟩ hn
   ·omega
  ·rw [AH.G5 b0 b6 c0 e];exact h c c0 c6
theorem fN:YE dJ:=⟨fun b b0 b6=>Yw [] False b0 b6,fun {w k h}=>HN fun c=>⟨E5 Am.here w.AO (k:=k) (x:={ w.AO.at k with BP:=h }) rfl c,E5 Am.name w.AO (k:=k) (x:={ w.AO.at k with BP:=h }) rfl c⟩,
 fun {X l w b} _ h _=>fun c c0 c6=>by
  have e1:=E5 Am.here w.AO (k:=b) (x:={ w.AO.at b with room:=0,BP:=10 }) rfl c
  have e2:=E5 Am.name w.AO (k:=b) (x:={ w.AO.at b with room:=0,BP:=10 }) rfl c
  have:=h c c0 c6
  rw [← e1,← e2] at this
  exact this⟩
def Still (_:AH)(l:List Event)(_:AH):Prop:=∀ e∈l,e.kind≠18
theorem VL {x:Ad}{w:AH}{e:Event}(h:Shape x w e):e.kind≠18:=by
 cases h with
 | cr _=>show(16:Int)≠18;decide
 | said=>show(7:Int)≠18;decide
 | @kind k h=>show k≠18;omega
 | @dir k d h=>show k≠18;omega
 | @BM k i h=>show k≠18;omega
 | @Gv k h=>show k≠18;omega
 | cB=>show(6:Int)≠18;decide
 | R1=>show(5:Int)≠18;decide
 | CE _ _=>show(14:Int)≠18;decide
theorem WS (x:Ad)(b:Int):Rel x False b Still where
 refl _:=fun _ h=>by cases h
 trans h k:=fun e he=>(List.mem_append.1 he).elim (h e) (k e)
 eO {w e} h:=fun y hy=>by rw [List.mem_singleton.1 hy,(Fc w b e).1];exact VL h
 BM _ _:=fun _ h=>by cases h
 B7:=fun _ h=>by cases h
 shut:=fun _ h=>by cases h
 Fw {w d r}:=fun y hy=>by rw [List.mem_singleton.1 hy,(Fc w b _).1];show(1:Int)≠18;decide
 GY h:=h.elim
 gone h _:=h
theorem bz:YE Still:=⟨fun b _ _=>WS [] b,fun _ h=>(by cases h),fun _ h _=>h⟩
def By (b:Int)(_:AH)(l:List Event)(_:AH):Prop:=∀ e∈l,e.DW=b
theorem jL (x:Ad)(q:Prop)(b:Int):Rel x q b (By b) where
 refl _:=fun _ h=>by cases h
 trans h k:=fun e he=>(List.mem_append.1 he).elim (h e) (k e)
 eO {w e} _:=fun y hy=>by rw [List.mem_singleton.1 hy,(Fc w b e).2]
 BM _ _:=fun _ h=>by cases h
 B7:=fun _ h=>by cases h
 shut:=fun _ h=>by cases h
 Fw {w d r}:=fun y hy=>by rw [List.mem_singleton.1 hy,(Fc w b _).2]
 GY _ {w}:=fun y hy=>by rw [List.mem_singleton.1 hy,(Fc w b _).2]
 gone h _:=h
/-! #### who stays in a room -/
end AE
end Go.Ing
/- What a house keeps through every act: people and pages. -/
namespace Go.Ing
open Go
namespace AE
theorem Z2 (X:AH)(s:Ad)(b:Int):(H7 X s b).w=X.C1 b (I5 s):=(KR _).1
theorem RE (X:AH):∀ n:Nat,n≤6→2≤CP X n→(X.AO.at (CP X n)).here=false
 | 0,_,h=>by have:CP X 0=-1:=rfl;omega
 | n+1,hn,h=>by
  unfold CP at h ⊢
  split
  ·rename_i c
   rw [Bool.and_eq_true] at c
   simpa using c.1
  ·rename_i c
   rw [if_neg c] at h
   exact RE X n (by omega) h
theorem eF {X:AH}{b:Int}{o:Order}(hg:X.Bk=true)(b0:0≤b)(b6:b < 6)(hh:(X.AO.at b).here=true)(h0:0≤o.verb)(h1:o.verb≤20):(EJ X b o)=((AE.act ⟨X,b,[]⟩ o).w,(AE.act ⟨X,b,[]⟩ o).out,0):=by
 unfold EJ
 rw [if_neg (by rw [hg];decide),if_neg (by rw [decide_eq_false (by omega:¬ b < 0),decide_eq_false (by omega:¬ 6≤b),hh];decide),if_neg (by rw [decide_eq_false (by omega:¬ o.verb < 0),decide_eq_false (by omega:¬ 20 < o.verb)];decide)]
theorem Wp {X:AH}{b:Int}{o:Order}(hg:X.Bk=true)(hw:X.DV):(EJ X b o).1.Bk=true:=by
 by_cases h:(EJ X b o).2.2=0
 ·exact(keeps hw h).1
 ·have:(EJ X b o).1=X:=by
   unfold EJ at h ⊢
   split
   ·rfl
   ·split
    ·rfl
    ·split
     ·rfl
     ·rename_i c1 c2 c3
      rw [if_neg c1,if_neg c2,if_neg c3] at h
      exact absurd rfl h
  rw [this];exact hg
theorem dn {X:AH}{b:Int}(hg:X.Bk=true)(b0:0≤b)(b6:b < 6)(hh:(X.AO.at b).here=true):((EJ X b AG.EL).1.AO.at b).here=false:=by
 rw [eF hg b0 b6 hh (by decide) (by decide)]
 have e:AE.act ⟨X,b,[]⟩ AG.EL=AE.GY ⟨X,b,[]⟩:=rfl
 rw [e]
 have hf:=PV ⟨X,b,[]⟩
 show((AE.GY ⟨X,b,[]⟩).w.AO.at b).here=false
 rw [hf.2.2]
 show(((((⟨X,b,[]⟩:AE).kind 18).FQ.w.AO).put b default).at b).here=false
 rw [Vector.CA b0 b6];rfl
theorem TN {X:AH}{d:Int}(hg:X.Bk=true)(hw:X.DV):(CU X d).1.Bk=true:=by
 unfold CU
 rw [if_neg (by rw [hg];decide)]
 have h:=(MH bT (draw:=d) hg hw 6 (Nat.le_refl 6)).2.1
 generalize Dp X d 6=r at *
 exact h
end AE
namespace AG
structure UB (U:Ad→Prop)(P:AG→Prop):Prop where
 lines:∀ {H k},P H→0≤k→k < 4→∀ q∈(H.at_ k).queue,U q
 begun:∀ {H},P H→P H.begun
 step:∀ {H X},P H→Step U H X→P X
 next:∀ {H k q r},P H→0≤k→k < 4→(H.at_ k).state≠0→(H.at_ k).queue=q :: r→P (H.next k r)
 IU:∀ {H k},P H→0≤k→k < 4→(H.at_ k).state=0→P (H.set k ((({ (default:Ae) with state:=1,Aw:=-1 }:Ae).offer 3).offer 31))
 byte:∀ {H k u},P H→0≤k→k < 4→(H.at_ k).state≠0→P (H.set k (Cv (H.at_ k) u).1)
 Fl:∀ {H k n},P H→0≤k→k < 4→(H.at_ k).state≠0→P (H.set k ((H.at_ k).Fl n))
theorem EY (s:Ae)(o:Int):(s.offer o).state=s.state:=by
 unfold Ae.offer;split<;>exact(Py _ _).2.1
structure R6 (U:Ad→Prop)(Z:AG)(P:AG→Prop):Prop where
 lines:∀ {H k},P H→0≤k→k < 4→∀ q∈(H.at_ k).queue,U q
 step:∀ {H X},P H→Step U H X→P X
 next:∀ {H k q r},P H→0≤k→k < 4→(H.at_ k).state≠0→(H.at_ k).queue=q :: r→P (H.next k r)
 IU:∀ {k},0≤k→k < 4→(Z.at_ k).state=0→P (Z.set k ((({ (default:Ae) with state:=1,Aw:=-1 }:Ae).offer 3).offer 31))
 byte:∀ {k u},0≤k→k < 4→(Z.at_ k).state≠0→P (Z.set k (Cv (Z.at_ k) u).1)
 Fl:∀ {k n},0≤k→k < 4→(Z.at_ k).state≠0→P (Z.set k ((Z.at_ k).Fl n))
section
variable {U:Ad→Prop} {P:AG→Prop} {H X Z:AG} (K:R6 U Z P)
include K
theorem R6.steps (h:P H)(s:Steps U H X):P X:=Steps.J7 (fun h s=>K.step h s) h s
theorem R6.Dz (h:P H){k:Int}(h0:0≤k)(h1:k < 4):P (H.Dz k):=by
 rcases ME (U:=U) H h0 h1 (K.lines h h0 h1) with ⟨_,e⟩ | ⟨q,r,hs,e,s⟩
 ·rw [e];exact h
 ·exact K.steps (K.next h h0 h1 hs e) s
theorem R6.turns (h:P H):∀ k:Nat,k≤4→P (H.turns k)
 | 0,_=>h
 | k+1,hk=>K.Dz (R6.turns h k (by omega)) (by omega) (by omega)
theorem R6.BH (h:P H):P H.BH:=K.steps h (Jd H)
theorem R6.told (h:P H){k:Int}(h0:0≤k)(h1:k < 4)(hs:(H.at_ k).state≠0){u:Ad}(hu:u∈TI):P (H.tell k u):=K.step h (.told h0 h1 hs hu)
theorem R6.DJ (h:P Z)(a:Br):P (Z.DJ a).1:=by
 unfold AG.DJ
 split
 ·have hp:=K.BH (K.steps (K.turns h 4 (Nat.le_refl 4)) (Ir (Z.turns 4) a.n))
  dsimp only
  unfold AG.Np
  exact hp
 ·split
  ·exact h
  ·split
   ·exact h
   ·rename_i c
    have hs:0≤a.A3∧a.A3 < 4:=by simp only [Bool.or_eq_true,decide_eq_true_eq] at c;omega
    split
    ·exact h
    ·rename_i c2
     have c2':decide ((Z.at_ a.A3).state=0)=decide (a.kind=1):=by simpa using c2
     split
     ·rename_i c3
      have hz:(Z.at_ a.A3).state=0:=of_decide_eq_true (c2'.trans c3)
      have h1:=K.IU hs.1 hs.2 hz
      have h2:=K.BH (K.told (u:=G9) h1 hs.1 hs.2 (by
       rw [CN _ hs.1 hs.2 hs.1,if_pos rfl,EY,EY]
       exact(by decide:(1:Int)≠0)) (List.mem_cons_self ..))
      dsimp only
      unfold AG.IU
      exact h2
     ·rename_i c3
      have hz:(Z.at_ a.A3).state≠0:=fun e=>c3 (by rw [← c2'];exact decide_eq_true e)
      split
      ·have h1:=K.byte hs.1 hs.2 hz (u:=a.bytes)
       have h2:=K.BH h1
       have h3:=K.BH (K.told (u:=OF) h1 hs.1 hs.2 (by rw [CN _ hs.1 hs.2 hs.1,if_pos rfl,(Dl _ _).2.1];exact hz) (List.mem_cons_of_mem _ (List.mem_cons_self ..)))
       dsimp only
       rw [HE]
       split
       ·exact h3
       ·exact h2
      ·split
       ·have h1:=K.BH (K.Fl (n:=a.n) hs.1 hs.2 hz)
        dsimp only
        exact h1
       ·have h1:=K.BH (K.steps h (F4 Z hs.1 hs.2))
        dsimp only
        exact h1
end
section
variable {U:Ad→Prop} {P:AG→Prop} (K:UB U P) {H X:AG}
include K
theorem UB.DJ (h:P X)(a:Br):P (X.DJ a).1:=R6.DJ ⟨K.lines,K.step,K.next,K.IU h,K.byte h,K.Fl h⟩ h a
theorem UB.act (h:P H)(a:Br):P (H.act a).1:=by
 unfold AG.act
 split
 ·exact h
 ·exact K.DJ (K.begun h) a
theorem UB.run:∀(l:List Br) {H:AG},P H→P (H.run l).1
 | [],_,h=>h
 | a :: r,_,h=>UB.run r (K.act h a)
end
structure Home (H:AG):Prop where
 gd:H.w.Bk=true
 F8:H.w.ML
 M5:H.HK
 me:∀ k,0≤k→k < 4→(H.at_ k).state=2→2≤(H.at_ k).Aw∧(H.at_ k).Aw≤5∧(H.w.AO.at (H.at_ k).Aw).here=true
 one:∀ j k,0≤j→j < 4→0≤k→k < 4→(H.at_ j).state=2→(H.at_ k).state=2→(H.at_ j).Aw=(H.at_ k).Aw→j=k
 all:∀ b,2≤b→b≤5→(H.w.AO.at b).here=true→∃ k,0≤k∧k < 4∧(H.at_ k).state=2∧(H.at_ k).Aw=b
 named:∀ b,2≤b→b≤5→(H.w.AO.at b).here=true→AE.Eu (H.w.AO.at b).name=true
 diff:∀ b c,2≤b→b≤5→0≤c→c≤5→(H.w.AO.at b).here=true→(H.w.AO.at c).here=true→(H.w.AO.at c).name=(H.w.AO.at b).name→c=b
section
variable {H X:AG}
theorem Home.of (h:H.Home)(hw:X.w=H.w)(hs:∀ j,0≤j→j < 4→(X.at_ j).state=(H.at_ j).state∧(X.at_ j).Aw=(H.at_ j).Aw)(ho:X.HK):X.Home:=
 ⟨by rw [hw];exact h.gd,by rw [hw];exact h.F8,ho,fun k k0 k1 e=>by
  obtain⟨a,b⟩:=hs k k0 k1
  rw [hw,b];exact h.me k k0 k1 (a ▸ e),fun j k j0 j1 k0 k1 e1 e2 e3=>by
  obtain⟨a,b⟩:=hs k k0 k1
  obtain⟨c,d⟩:=hs j j0 j1
  exact h.one j k j0 j1 k0 k1 (c ▸ e1) (a ▸ e2) (by rw [← d,← b];exact e3),fun b b0 b1 e=>by
  rw [hw] at e
  obtain⟨k,k0,k1,e1,e2⟩:=h.all b b0 b1 e
  obtain⟨c,d⟩:=hs k k0 k1
  exact⟨k,k0,k1,c.trans e1,d.trans e2⟩,by rw [hw];exact h.named,by rw [hw];exact h.diff⟩
theorem Home.put (h:H.Home){k:Int}(k0:0≤k)(k1:k < 4)(hn:(H.at_ k).state≠2){s:Ae}(hs:s.state≠2)(ho:s.Ok):(H.set k s).Home:=by
 have e:∀ j,0≤j→(H.set k s).at_ j=if j=k then s else H.at_ j:=fun j j0=>CN H k0 k1 j0 s
 refine⟨h.gd,h.F8,h.M5.set k0 k1 ho,fun j j0 j1=>?_,fun i j i0 i1 j0 j1=>?_,fun b b0 b1 hb=>?_,h.named,h.diff⟩
 ·rw [e j j0];split
  ·exact fun q=>absurd q hs
  ·exact h.me j j0 j1
 ·rw [e i i0,e j j0];split
  ·exact fun q=>absurd q hs
  ·split
   ·exact fun _ q=>absurd q hs
   ·exact h.one i j i0 i1 j0 j1
 ·obtain⟨j,j0,j1,e1,e2⟩:=h.all b b0 b1 hb
  refine⟨j,j0,j1,?_⟩
  rw [e j j0,if_neg (fun q=>by subst q;exact hn e1)]
  exact⟨e1,e2⟩
theorem Home.land (h:H.Home){k:Int}(k0:0≤k)(k1:k < 4){w:AH}{es:List Event}(hg:w.Bk=true)(hw:w.ML)(hr:AE.dJ H.w es w)(hn:AE.Still H.w es w):(H.Hi k w (H.at_ k) es).Home:=by
 have hat:∀ j,0≤j→j < 4→((H.Hi k w (H.at_ k) es).at_ j).state=(H.at_ j).state∧((H.Hi k w (H.at_ k) es).at_ j).Aw=(H.at_ j).Aw:=fun j j0 j1=>by
  rw [GO H k0 k1 _ _ _ j0 j1]
  have e:(if j=k then H.at_ k else H.at_ j)=H.at_ j:=by
   split
   ·rename_i q;rw [q]
   ·rfl
  rw [e];exact Ae.Fa _ _
 have hok:(H.Hi k w (H.at_ k) es).HK:=fun j j0 j1=>by
  rw [GO H k0 k1 _ _ _ j0 j1]
  exact Ae.Ok.Df (by split;exact h.M5 k k0 k1;exact h.M5 j j0 j1) es
 have hkeep:=LB H k w (H.at_ k) es
 have hgone:∀ c,¬ AE.iL es c:=fun c ⟨e,he,h1,_⟩=>hn e he h1
 refine Home.of (H:={ H with w:=w }) ⟨hg,hw,h.M5,fun j j0 j1 e=>?_,h.one,fun b b0 b1 e=>h.all b b0 b1 ((hr b (by omega) (by omega)).1 e).1,fun b b0 b1 e=>?_,fun b c b0 b1 c0 c1 e1 e2 e3=>?_⟩ hkeep.1 hat hok
 ·obtain⟨a,b,c⟩:=h.me j j0 j1 e
  exact⟨a,b,((hr _ (by omega) (by omega)).2 a (hgone _)).trans c⟩
 ·obtain⟨p,q⟩:=(hr b (by omega) (by omega)).1 e
  show AE.Eu (w.AO.at b).name=true
  rw [q];exact h.named b b0 b1 p
 ·obtain⟨p,q⟩:=(hr b (by omega) (by omega)).1 e1
  obtain⟨p',q'⟩:=(hr c (by omega) (by omega)).1 e2
  exact h.diff b c b0 b1 c0 c1 p p' (by rw [← q,← q'];exact e3)
theorem Home.left (h:H.Home){k:Int}(k0:0≤k)(k1:k < 4)(hs:(H.at_ k).state=2):(H.Hi k (AE.EJ H.w (H.at_ k).Aw EL).1 default (AE.EJ H.w (H.at_ k).Aw EL).2.1).Home:=by
 obtain⟨b2,b5,hh⟩:=h.me k k0 k1 hs
 have hr:AE.dJ H.w (AE.EJ H.w (H.at_ k).Aw EL).2.1 (AE.EJ H.w (H.at_ k).Aw EL).1:=AE.KP (AE.Yw [] True (by omega) (by omega)) rfl (fun _=>trivial)
 have hb:AE.By (H.at_ k).Aw H.w (AE.EJ H.w (H.at_ k).Aw EL).2.1 (AE.EJ H.w (H.at_ k).Aw EL).1:=AE.KP (AE.jL [] True _) rfl (fun _=>trivial)
 have hq:=AE.dn h.gd (show 0≤(H.at_ k).Aw by omega) (by omega) hh
 have hg:=AE.Wp (b:=(H.at_ k).Aw) (o:=EL) h.gd h.F8.Hb
 have hw:=(AE.K0 (b:=(H.at_ k).Aw) (o:=EL) h.F8 Nb).1
 generalize hd:AE.EJ H.w (H.at_ k).Aw EL=D at *
 have hkeep:=LB H k D.1 default D.2.1
 have hat:=fun j j0 j1=>GO H k0 k1 D.1 default D.2.1 (j:=j) j0 j1
 have st:∀ j,0≤j→j < 4→((H.Hi k D.1 default D.2.1).at_ j).state=2→j≠k∧(H.at_ j).state=2∧((H.Hi k D.1 default D.2.1).at_ j).Aw=(H.at_ j).Aw:=fun j j0 j1 e=>by
  rw [hat j j0 j1] at e ⊢
  rw [(Ae.Fa _ _).1] at e
  rw [(Ae.Fa _ _).2]
  by_cases q:j=k
  ·rw [if_pos q] at e;exact absurd (show(0:Int)=2 from e) (by decide)
  ·rw [if_neg q] at e ⊢;exact⟨q,e,rfl⟩
 refine⟨by rw [hkeep.1];exact hg,by rw [hkeep.1];exact hw,fun j j0 j1=>?_,fun j j0 j1 e=>?_,fun i j i0 i1 j0 j1 e1 e2 e3=>?_,fun b b0 b1 e=>?_,fun b b0 b1 e=>?_,fun b c b0 b1 c0 c1 e1 e2 e3=>?_⟩
 ·rw [hat j j0 j1]
  exact Ae.Ok.Df (by split;exact Ae.Ct;exact h.M5 j j0 j1) _
 ·obtain⟨q,e1,e2⟩:=st j j0 j1 e
  obtain⟨a,b,c⟩:=h.me j j0 j1 e1
  rw [hkeep.1,e2]
  refine⟨a,b,((hr _ (by omega) (by omega)).2 a fun⟨y,hy,_,ha⟩=>?_).trans c⟩
  exact q (h.one j k j0 j1 k0 k1 e1 hs (ha.symm.trans (hb y hy)))
 ·obtain⟨_,a1,a2⟩:=st i i0 i1 e1
  obtain⟨_,c1,c2⟩:=st j j0 j1 e2
  exact h.one i j i0 i1 j0 j1 a1 c1 (by rw [← a2,← c2];exact e3)
 ·rw [hkeep.1] at e
  obtain⟨p,_⟩:=(hr b (by omega) (by omega)).1 e
  obtain⟨j,j0,j1,a1,a2⟩:=h.all b b0 b1 p
  have hjk:j≠k:=fun q=>by subst q;rw [a2,e] at hq;cases hq
  refine⟨j,j0,j1,?_⟩
  rw [hat j j0 j1,(Ae.Fa _ _).1,(Ae.Fa _ _).2,if_neg hjk]
  exact⟨a1,a2⟩
 ·rw [hkeep.1] at e ⊢
  obtain⟨p,q⟩:=(hr b (by omega) (by omega)).1 e
  rw [q];exact h.named b b0 b1 p
 ·rw [hkeep.1] at e1 e2 e3
  obtain⟨p,q⟩:=(hr b (by omega) (by omega)).1 e1
  obtain⟨p',q'⟩:=(hr c (by omega) (by omega)).1 e2
  exact h.diff b c b0 b1 c0 c1 p p' (by rw [← q,← q'];exact e3)
theorem Home.Jf (h:H.Home){k:Int}{u:Ad}(k0:0≤k)(k1:k < 4)(hs:(H.at_ k).state=1)(he:(AE.Bc H.w u).2.2.2=0):(H.Hi k (AE.Bc H.w u).1 { H.at_ k with state:=2,Aw:=(AE.Bc H.w u).2.1 } (AE.Bc H.w u).2.2.1).Home:=by
 rcases AE.Nw H.w u with ⟨hn,_⟩ | ⟨e,f2,f5,hn,_,ht⟩
 ·exact absurd he hn
 have hw:=(AE.Jh (s:=u) h.F8).1
 have hf:=AE.RE H.w 6 (Nat.le_refl 6) f2
 have hlen:u.length≤8:=by
  have h2:=hn
  simp only [AE.Eu,Bool.and_eq_true,decide_eq_true_eq] at h2
  omega
 have hfit:=AE.Q1 (b:=AE.CP H.w 6) h.gd h.F8.Hb (s:=u) (by omega) (by omega) (by omega)
 have hwe:=AE.Z2 H.w u (AE.CP H.w 6)
 rw [e] at hw ⊢
 generalize AE.CP H.w 6=f at *
 generalize (AE.H7 H.w u f).out=es
 generalize (AE.H7 H.w u f).w=w at *
 show(H.Hi k w { H.at_ k with state:=2,Aw:=f } es).Home
 have hw2:w.ML:=hw
 have hg:w.Bk=true:=by rw [hwe];exact hfit.gd
 have bf:w.AO.at f=AE.I5 u:=by rw [hwe];exact AH.Ec (by omega) (by omega) _
 have bn:∀ c,0≤c→c≠f→w.AO.at c=H.w.AO.at c:=fun c c0 hc=>by rw [hwe];exact AH.G5 (by omega) (by omega) c0 hc _
 have hkeep:=LB H k w { H.at_ k with state:=2,Aw:=f } es
 have hat:∀ j,0≤j→j < 4→((H.Hi k w { H.at_ k with state:=2,Aw:=f } es).at_ j).state=(if j=k then 2 else(H.at_ j).state)∧((H.Hi k w { H.at_ k with state:=2,Aw:=f } es).at_ j).Aw=(if j=k then f else(H.at_ j).Aw):=fun j j0 j1=>by
  rw [GO H k0 k1 _ _ _ j0 j1,(Ae.Fa _ _).1,(Ae.Fa _ _).2]
  split<;>exact⟨rfl,rfl⟩
 have out:∀ j,0≤j→j < 4→(H.at_ j).state=2→(H.at_ j).Aw≠f:=fun j j0 j1 e q=>by
  have:=(h.me j j0 j1 e).2.2
  rw [q,hf] at this;cases this
 refine⟨by rw [hkeep.1];exact hg,by rw [hkeep.1];exact hw2,fun j j0 j1=>?_,fun j j0 j1=>?_,fun i j i0 i1 j0 j1=>?_,fun b b0 b1 e=>?_,fun b b0 b1 e=>?_,fun b c b0 b1 c0 c1 e1 e2 e3=>?_⟩
 ·rw [GO H k0 k1 _ _ _ j0 j1]
  exact Ae.Ok.Df (by split;exact(h.M5 k k0 k1).Jf f;exact h.M5 j j0 j1) _
 ·rw [(hat j j0 j1).1,(hat j j0 j1).2,hkeep.1]
  split
  ·intro _;rw [bf];exact⟨by omega,by omega,rfl⟩
  ·intro e
   obtain⟨a,b,c⟩:=h.me j j0 j1 e
   exact⟨a,b,by rw [bn _ (by omega) (out j j0 j1 e)];exact c⟩
 ·rw [(hat i i0 i1).1,(hat i i0 i1).2,(hat j j0 j1).1,(hat j j0 j1).2]
  split
  ·rename_i q1
   split
   ·rename_i q2;intro _ _ _;rw [q1,q2]
   ·intro _ e q;exact absurd q.symm (out j j0 j1 e)
  ·split
   ·intro e _ q;exact absurd q (out i i0 i1 e)
   ·exact h.one i j i0 i1 j0 j1
 ·rw [hkeep.1] at e
  by_cases q:b=f
  ·exact⟨k,k0,k1,by rw [(hat k k0 k1).1,if_pos rfl],by rw [(hat k k0 k1).2,if_pos rfl,q]⟩
  ·rw [bn b (by omega) q] at e
   obtain⟨j,j0,j1,a1,a2⟩:=h.all b b0 b1 e
   have hjk:j≠k:=fun q=>by subst q;omega
   exact⟨j,j0,j1,by rw [(hat j j0 j1).1,if_neg hjk];exact a1,by rw [(hat j j0 j1).2,if_neg hjk];exact a2⟩
 ·rw [hkeep.1] at e ⊢
  by_cases q:b=f
  ·rw [q,bf];exact hn
  ·rw [bn b (by omega) q] at e ⊢;exact h.named b b0 b1 e
 ·rw [hkeep.1] at e1 e2 e3
  have hfree:∀ c,0≤c→c≤5→(H.w.AO.at c).here=true→(H.w.AO.at c).name≠u:=fun c c0 c1 hc q=>by
   have:=ht c c0 (by omega)
   unfold AE.JH at this
   rw [hc,q] at this
   simp at this
  by_cases q1:b=f
  ·by_cases q2:c=f
   ·rw [q1,q2]
   ·rw [bn c (by omega) q2] at e2 e3
    rw [q1,bf] at e3
    exact absurd e3 (hfree c c0 c1 e2)
  ·rw [bn b (by omega) q1] at e1 e3
   by_cases q2:c=f
   ·rw [q2,bf] at e3
    exact absurd e3.symm (hfree b (by omega) b1 e1)
   ·rw [bn c (by omega) q2] at e2 e3
    exact h.diff b c b0 b1 c0 c1 e1 e2 e3
theorem S8 (q:Ad)(hq:q.length≤1000):(Words.parse q).1.text.length≤1000000:=by
 have:=(Words.Kf q).2.2
 omega
theorem Home.step (h:H.Home)(hu:True){U:Ad→Prop}(hU:∀ q,U q→q.length≤1000)(s:Step U H X):X.Home:=by
 cases s with
 | @told k u h0 h1 hs _=>
  refine h.of rfl (fun j j0 j1=>?_) (h.M5.step (U:=U) (.told h0 h1 hs ‹_›))
  unfold AG.tell
  rw [CN _ h0 h1 j0]
  split
  ·rename_i q;subst q;exact⟨(Fu _ _).1,(Fu _ _).2.1⟩
  ·exact⟨rfl,rfl⟩
 | @BH k h0 h1 hs=>
  refine h.of rfl (fun j j0 j1=>?_) (h.M5.step (U:=U) (.BH h0 h1 hs))
  rw [CN _ h0 h1 j0]
  split
  ·rename_i q;subst q;exact⟨(F5 _).2.1,(F5 _).2.2.1⟩
  ·exact⟨rfl,rfl⟩
 | @free k h0 h1 hn=>exact h.put h0 h1 (fun e=>hn ⟨e,(h.me k h0 h1 e).2.2⟩) (show(0:Int)≠2 by decide) Ae.Ct
 | @goes k w s es h0 h1 g=>
  cases g with
  | left hs _=>exact h.left h0 h1 hs
  | Jf hs he=>exact h.Jf h0 h1 hs he
  | db hq hn0 hn1 hv=>
   have hst:=(h.M5 k h0 h1).st
   obtain⟨b2,b5,hh⟩:=h.me k h0 h1 (by omega)
   exact h.land h0 h1 (AE.Wp h.gd h.F8.Hb) (AE.K0 h.F8 (S8 _ (hU _ hq))).1 (AE.KP (AE.Yw _ False (by omega) (by omega)) rfl (fun e=>hv e)) (AE.KP (AE.WS _ _) rfl (fun e=>hv e))
  | round=>exact h.land h0 h1 (AE.TN h.gd h.F8.Hb) (AE.L3 h.F8).1 (AE.Kt AE.fN h.F8.Hb) (AE.Kt AE.bz h.F8.Hb)
end
end AG
end Go.Ing
/- An act that is refused, and acts behind the last: plain laws. -/
namespace Go.Ing
open Go
theorem bW {α:Type}(a b c:α) : [a,b,c].Perm [c,b,a]:=List.reverse_perm [c,b,a]
namespace AG
theorem Pa (H:AG):H.begun.w=H.w∧H.begun.last = []∧H.begun.B8=H.B8+1:=Hm (H:={ H with B8:=H.B8+1,last:= [] }) 4
def zero:Br:=⟨0,0,0,[]⟩
end AG
end Go.Ing
/- Behind each act: people and pages. -/
namespace Go.Ing
open Go
namespace Ae
theorem Still.heard {s:Ae}(h:s.Still):({ s with told:= [] }:Ae).Still:=by
 refine⟨?_,h.cut⟩
 have e:({ s with told:= [] }:Ae).BH={ s.BH with told:= [] }:=by
  unfold Ae.BH
  by_cases c:(!s.MC || decide (s.DZ.Bv < 0) || decide (200 < s.DZ.Bv))=true
  ·rw [if_pos c,if_pos (show(!({ s with told:= [] }:Ae).MC || decide (({ s with told:= [] }:Ae).DZ.Bv < 0) || decide (200 < ({ s with told:= [] }:Ae).DZ.Bv))=true from c)]
  ·rw [if_neg c,if_neg (show ¬ (!({ s with told:= [] }:Ae).MC || decide (({ s with told:= [] }:Ae).DZ.Bv < 0) || decide (200 < ({ s with told:= [] }:Ae).DZ.Bv))=true from c)]
 rw [e,h.fl]
end Ae
namespace AG
theorem Home.B8:UB (fun q=>q.length≤1000) Home where
 lines {H k} h h0 h1 q hq:=by
  have:=((Bh.Gu q).1 ((h.M5 k h0 h1).ln.queue q hq)).1
  omega
 begun {H} h:=h.of (Pa H).1 (fun j j0 j1=>by rw [E4 j0 j1];exact⟨rfl,rfl⟩) h.M5.begun
 step h s:=h.step trivial (fun _ h=>h) s
 next {H k q r} h h0 h1 _ e:=h.of rfl (fun j j0 j1=>by
  unfold AG.next;rw [CN _ h0 h1 j0];split
  ·rename_i q;subst q;exact⟨rfl,rfl⟩
  ·exact⟨rfl,rfl⟩) (h.M5.set h0 h1 ((h.M5 k h0 h1).next e))
 IU {H k} h h0 h1 hz:=h.put h0 h1 (by rw [hz];decide) (by rw [EY,EY];exact(by decide:(1:Int)≠2)) (((show({ (default:Ae) with state:=1,Aw:=-1 }:Ae).Ok from⟨⟨show(0:Int)≤1 by decide,show(1:Int)≤2 by decide⟩,Ae.Ct.n,Ae.Ct.ring,Ae.Ct.s0,Ae.Ct.s1,Ae.Ct.ln⟩).offer 3).offer 31)
 byte {H k u} h h0 h1 _:=h.of rfl (fun j j0 j1=>by
  rw [CN _ h0 h1 j0];split
  ·rename_i q;subst q;exact⟨(Dl _ _).2.1,(Dl _ _).2.2.1⟩
  ·exact⟨rfl,rfl⟩) (h.M5.set h0 h1 ((h.M5 k h0 h1).typed u))
 Fl {H k n} h h0 h1 _:=h.of rfl (fun j j0 j1=>by
  rw [CN _ h0 h1 j0];split
  ·rename_i q;subst q;exact⟨rfl,rfl⟩
  ·exact⟨rfl,rfl⟩) (h.M5.set h0 h1 ((h.M5 k h0 h1).Fl n))
def Zero (H:AG):Prop:=∀ k,0≤k→k < 4→(H.at_ k).state=0→H.at_ k=default
theorem Zero.set {H:AG}(h:H.Zero){k:Int}(h0:0≤k)(h1:k < 4){s:Ae}(hs:s.state=0→s=default):(H.set k s).Zero:=fun j j0 j1=>by
 rw [CN _ h0 h1 j0];split
 ·exact hs
 ·exact h j j0 j1
theorem Zero.B8:UB (fun _=>True) Zero where
 lines _ _ _ _ _:=trivial
 begun {H} h:=fun k h0 h1=>by
  rw [E4 h0 h1]
  intro e
  rw [h k h0 h1 e];rfl
 step {H X} h s:=by
  cases s with
  | told h0 h1 hs _=>exact h.set h0 h1 (fun e=>absurd ((Fu _ _).1.symm.trans e) hs)
  | BH h0 h1 hs=>exact h.set h0 h1 (fun e=>absurd ((F5 _).2.1.symm.trans e) hs)
  | free h0 h1 _=>exact h.set h0 h1 (fun _=>rfl)
  | @goes k w s es h0 h1 g=>
   have hs:s.state=0→s=default:=by
    cases g with
    | left _ _=>exact fun _=>rfl
    | Jf _ _=>exact fun e=>absurd (show(2:Int)=0 from e) (by decide)
    | db _ hn _ _=>exact fun e=>absurd e hn
    | round=>exact h 0 (Int.le_refl 0) (by decide)
   intro j j0 j1
   rw [GO H h0 h1 _ _ _ j0 j1]
   intro e
   rw [(Ae.Fa _ _).1] at e
   have e2:(if j=k then s else H.at_ j)=default:=by
    split at e
    ·rename_i q;rw [if_pos q];exact hs e
    ·rename_i q;rw [if_neg q];exact h j j0 j1 e
   rw [e2];exact QF es
 next {H k q r} h h0 h1 hs _:=h.set h0 h1 (fun e=>absurd e hs)
 IU {H k} h h0 h1 _:=h.set h0 h1 (fun e=>by rw [EY,EY] at e;exact absurd (show(1:Int)=0 from e) (by decide))
 byte {H k u} h h0 h1 hs:=h.set h0 h1 (fun e=>absurd ((Dl _ _).2.1.symm.trans e) hs)
 Fl {H k n} h h0 h1 hs:=h.set h0 h1 (fun e=>absurd e hs)
def Calm (H:AG):Prop:=∀ k,0≤k→k < 4→(H.at_ k).state≠0→(H.at_ k).Still
theorem VQ (X:AG)(h:X.HK)(a:Br):(X.DJ a).1=X∨∃ Y:AG,Y.HK∧(X.DJ a).1=Y.BH:=
 Jr (fun Z=>Z=X∨∃ Y:AG,Y.HK∧Z=Y.BH) (.inl rfl) (fun d=> .inr ⟨_,(h.turns 4 (Nat.le_refl 4)).steps (U:=fun _=>True) (Ir _ d),rfl⟩)
  (fun k h0 h1=> .inr ⟨_,(h.set h0 h1 (((show({ (default:Ae) with state:=1,Aw:=-1 }:Ae).Ok from⟨⟨show(0:Int)≤1 by decide,show(1:Int)≤2 by decide⟩,Ae.Ct.n,Ae.Ct.ring,Ae.Ct.s0,Ae.Ct.s1,Ae.Ct.ln⟩).offer 3).offer 31)).tell h0 h1 G9,rfl⟩)
  (fun k u h0 h1=> .inr ⟨_,by
   have hs:=h.set h0 h1 ((h k h0 h1).typed u)
   exact(show(if decide (0 < (Cv (X.at_ k) u).2)=true then(X.set k (Cv (X.at_ k) u).1).tell k OF else X.set k (Cv (X.at_ k) u).1).HK by
    split
    ·exact hs.tell h0 h1 OF
    ·exact hs),HE X k u⟩)
  (fun k z h0 h1=> .inr ⟨_,h.set h0 h1 ((h k h0 h1).Fl z),rfl⟩) (fun k h0 h1=> .inr ⟨_,h.steps (U:=fun _=>True) (F4 X h0 h1),rfl⟩) a
theorem Calm.act {H:AG}(h:H.Calm)(ho:H.HK)(a:Br):(H.act a).1.Calm:=by
 unfold AG.act
 split
 ·exact h
 ·rcases VQ H.begun ho.begun a with e | ⟨Y,hy,e⟩
  ·rw [e]
   intro k h0 h1
   rw [E4 h0 h1]
   exact fun hs=>(h k h0 h1 hs).heard
  ·rw [e]
   exact fun k h0 h1 hs=>VP hy h0 h1 hs
theorem TM:AG.new.Home:=by
 have hb:∀ b:Int,2≤b→b≤5→(AG.new.w.AO.at b).here=true→False:=fun b b0 b1=>by
  have:b=2∨b=3∨b=4∨b=5:=by omega
  rcases this with e | e | e | e<;>subst e<;>decide
 have hs:∀ k,0≤k→k < 4→(AG.new.at_ k).state=2→False:=fun k h0 h1 e=>by
  rw [MF h0 h1] at e
  exact absurd (show(0:Int)=2 from e) (by decide)
 exact⟨AH.Zf,WN,WY,fun k h0 h1 e=>(hs k h0 h1 e).elim,fun j k j0 j1 k0 k1 e=>(hs j j0 j1 e).elim,fun b b0 b1 e=>(hb b b0 b1 e).elim,fun b b0 b1 e=>(hb b b0 b1 e).elim,fun b c b0 b1 c0 c1 e=>(hb b b0 b1 e).elim⟩
theorem aa:AG.new.Zero:=fun k h0 h1 _=>MF h0 h1
theorem aE:AG.new.Calm:=fun k h0 h1 e=>absurd (by rw [MF h0 h1];rfl) e
structure Hz (H:AG):Prop where
 home:H.Home
 zero:H.Zero
 calm:H.Calm
 live:H.Live
theorem Qc:AG.new.Hz:=⟨TM,aa,aE,M3⟩
theorem Hz.act {H:AG}(h:H.Hz)(a:Br):(H.act a).1.Hz:=⟨Home.B8.act h.home a,Zero.B8.act h.zero a,h.calm.act h.home.M5 a,h.live.act a⟩
theorem Hz.run:∀(l:List Br) {H:AG},H.Hz→(H.run l).1.Hz
 | [],_,h=>h
 | a :: r,_,h=>Hz.run r (h.act a)
theorem Hz.cut {H:AG}(h:H.Hz){k:Int}(h0:0≤k)(h1:k < 4):(H.at_ k).pg.cut=false:=by
 by_cases e:(H.at_ k).state=0
 ·rw [h.zero k h0 h1 e];rfl
 ·exact(h.calm k h0 h1 e).cut
end AG
section
variable {V:AN} {ls:Vector BD 4} {ev:List Event} {k:Int}
variable (hF:(A7 V ls ev).Hz)
include hF
end
end Go.Ing
/- A pulse is one line of each seat: plain laws. -/
namespace Go.Ing
open Go
namespace AG
structure Q8 (P:Ae→Prop):Prop where
 tell:∀ {s} (u:Ad),P s→P (s.tell u)
 BH:∀ {s},P s→P s.BH
 free:P default
 Jf:∀ {s} (b:Int),s.state=1→P s→P { s with state:=2,Aw:=b }
section
variable {U:Ad→Prop} {P:Ae→Prop} (K:Q8 P) {H X:AG}
include K
theorem Q8.fold:∀(es:List Event) {s:Ae},P s→P (es.foldl Ae.CS s)
 | [],_,h=>h
 | e :: r,s,h=>by
  refine Q8.fold r ?_
  unfold Ae.CS
  split
  ·exact K.tell _ h
  ·exact h
theorem Q8.Df {s:Ae}(h:P s)(es:List Event):P (s.Df es):=by
 unfold Ae.Df
 split
 ·exact K.fold es h
 ·exact h
theorem Q8.step {j:Int}(j0:0≤j)(j1:j < 4)(h:P (H.at_ j))(s:Step U H X):P (X.at_ j):=by
 cases s with
 | told h0 h1 _ _=>
  unfold AG.tell
  rw [CN _ h0 h1 j0];split
  ·rename_i q;subst q;exact K.tell _ h
  ·exact h
 | BH h0 h1 _=>
  rw [CN _ h0 h1 j0];split
  ·rename_i q;subst q;exact K.BH h
  ·exact h
 | free h0 h1 _=>
  rw [CN _ h0 h1 j0];split
  ·exact K.free
  ·exact h
 | @goes k w s es h0 h1 g=>
  rw [GO H h0 h1 _ _ _ j0 j1]
  refine K.Df ?_ es
  split
  ·rename_i q
   subst q
   cases g with
   | left _ _=>exact K.free
   | Jf hs _=>exact K.Jf _ hs h
   | db _ _ _ _=>exact h
   | round=>exact h
  ·exact h
theorem Q8.steps {j:Int}(j0:0≤j)(j1:j < 4)(h:P (H.at_ j))(s:Steps U H X):P (X.at_ j):=Steps.J7 (P:=fun H=>P (H.at_ j)) (fun h s=>K.step j0 j1 h s) h s
end
theorem cP {H:AG}{k:Int}(h0:0≤k)(h1:k < 4)(r:List Ad){j:Int}(j0:0≤j):(H.next k r).at_ j=if j=k then { H.at_ k with queue:=r }.E1 else H.at_ j:=by
 unfold AG.next;rw [CN _ h0 h1 j0]
end AG
def bp (a:Br)(V:AN)(ls:Vector BD 4)(W:Vector Int 4):Prop:=∀ j:Int,0≤j→j < 4→0≤W.at j∧W.at j≤1000000∧((V.Ar.at j).state=0→(ls.at j).queue.length=0)∧((V.Ar.at j).state≠0→(a.kind=5→((ls.at j).queue.length:Int)=max 0 (W.at j - 1))∧(a.kind≠5→W.at j≤((ls.at j).queue.length:Int)))
section
variable {a:Br} {V:AN} {ls:Vector BD 4} {W U:Vector Int 4} {j:Int} {n:Nat} (h:bp a V ls W) (j0:0≤j) (j1:j < 4) (hU:U.at j=W.at j) (hn:n=(ls.at j).queue.length)
include h j0 j1 hU hn
end
end Go.Ing
/- Whoever stays in a room perceives nothing of another one: plain laws. -/
namespace Go.Ing
open Go
namespace AE
end AE
namespace AG
section
variable {i b:Int} {W:AH} {H X:AG}
end
end AG
end Go.Ing
/- What the players are told is what they perceive: plain laws. -/
namespace Go.Ing
open Go
def Has (x s:Ad):Prop:=∃ a y,s=a++x++y
theorem Has.self (a x:Ad):Has x (a++x):=⟨a,[],by rw [List.append_nil]⟩
theorem Has.app {x s:Ad}(h:Has x s)(t:Ad):Has x (s++t):=by
 obtain⟨a,y,e⟩:=h
 exact⟨a,y++t,by rw [e,List.append_assoc]⟩
theorem Has.verb (a m t:Ad):Has ([32]++t ++ [32]) (AH.Bn false a m t):=⟨a,[],by simp [AH.Bn]⟩
namespace AE
theorem TE (r:Room):∀ n:Nat,Has [87,97,121,115,58] (G8 r n)
 | 0=>Has.self [] _
 | n+1=>by
  have ih:=TE r n
  unfold G8
  split
  ·exact ih
  ·split
   ·exact(ih.app _).app _
   ·exact ih.app _
theorem NA (w:AH){x:Ad}:∀(l:List Int) {s:Ad},Has x s→Has x (Ge w s l)
 | [],_,h=>h
 | i :: r,s,h=>by
  unfold Ge
  refine NA w r ?_
  split
  ·exact((h.app _).app _).app _
  ·exact(h.app _).app _
theorem cT (w:AH)(b:Int)(e:Event):(ev w b e).text=e.text:=by
 obtain⟨_,_,_,_,_,_,_,_,a⟩:=AH.Hq w (Cf ⟨w,b,[]⟩ e) 6
 refine a.trans ?_
 unfold Cf;split<;>rfl
end AE
namespace Ae
theorem Zs {s:Ae}(u:Ad)(h:s.pg.cut=true):(s.tell u).pg.cut=true:=by
 have hl:(s.line u).pg.cut=true:=by
  unfold Ae.line
  split
  ·exact h
  ·exact h
 unfold Ae.tell Ae.note
 split
 ·exact hl
 ·exact hl
theorem W3 {s:Ae}(h:s.pg.cut=true):s.BH.pg.cut=true:=by
 unfold Ae.BH
 split
 ·exact h
 ·have:Page.BH s.DZ.Bv s.wait s.pg=(s.pg,s.wait):=by
   cases hq:s.wait with
   | nil=>rfl
   | cons a r=>unfold Page.BH;rw [if_pos (by rw [h];simp)]
  show(Page.BH s.DZ.Bv s.wait s.pg).1.cut=true
  rw [this];exact h
end Ae
namespace AG
section
variable {i b:Int} {H X:AG}
end
end AG
section
variable {V:AN} {ls:Vector BD 4} {ev:List Event} {W U:Vector Int 4} {k m n:Int}
end
end Go.Ing
/- What one does leaves the others' pages alone: plain laws. -/
namespace Go.Ing
open Go
namespace AG
section
variable {H X Y:AG}
theorem Z4 {k:Int}(k0:0≤k)(k1:k < 4)(hs:∀ i,0≤i→i < 4→i≠k→(Y.at_ i).state≠0→(Y.at_ i).Still):∀ n:Nat,n≤4→(Y.CG n).2=false∨((Y.CG n).1.at_ k).state=0
 | 0,_=> .inl rfl
 | n+1,hn=>by
  rcases Z4 k0 k1 hs n (by omega) with ih | ih
  ·have hc:=(IG Y n (by omega) ih).2.2.2 n (by omega) (by omega)
   have hk:=hc.1
   rw [if_neg (by omega)] at hk
   unfold CG
   split
   ·exact .inl ih
   ·rename_i c
    rw [hk] at c
    have c':(Y.at_ n).state≠0:=by simpa using c
    split
    ·rename_i c2
     rw [hk] at c2
     by_cases e:(n:Int)=k
     ·right
      show(AG.at_ (AG.leave _ _) k).state=0
      rw [KW _ (by omega) (by omega) k0 k1,if_pos e.symm];rfl
     ·have:=hs n (by omega) (by omega) e c'
      rw [this.fl,this.cut] at c2
      cases c2
    ·exact .inl ih
  ·right
   unfold CG
   split
   ·exact ih
   ·rename_i c
    have c':((Y.CG n).1.at_ n).state≠0:=by simpa using c
    have e:k≠(n:Int):=fun e=>c' (by rw [← e];exact ih)
    have hf:(AG.at_ (AG.set (Y.CG n).1 n ((Y.CG n).1.at_ n).BH) k).state=0:=by rw [CN _ (by omega) (by omega) k0,if_neg e];exact ih
    split
    ·show(AG.at_ (AG.leave _ _) k).state=0
     rw [KW _ (by omega) (by omega) k0 k1,if_neg e,(Ae.Fa _ _).1];exact hf
    ·exact hf
theorem TK (hs:∀ i,0≤i→i < 4→(Y.at_ i).state≠0→(Y.at_ i).BH.pg.cut=false):∀ n:Nat,n≤4→(Y.CG n).2=false
 | 0,_=>rfl
 | n+1,hn=>by
  have ih:=TK hs n (by omega)
  have hk:=((IG Y n (by omega) ih).2.2.2 n (by omega) (by omega)).1
  rw [if_neg (by omega)] at hk
  unfold CG
  split
  ·exact ih
  ·rename_i c
   rw [hk] at c
   split
   ·rename_i c2
    rw [hk,hs n (by omega) (by omega) (by simpa using c)] at c2
    cases c2
   ·exact ih
theorem RN (h:(Y.CG 4).2=false){i:Int}(i0:0≤i)(i1:i < 4)(hs:(Y.at_ i).state≠0→(Y.at_ i).Still):Y.BH.at_ i=Y.at_ i:=by
 have e:Y.BH=(Y.CG 4).1:=by
  show(if (!(Y.CG 4).2)=true then(Y.CG 4).1 else _)=_
  rw [h];rfl
 rw [e,((IG Y 4 (Nat.le_refl 4) h).2.2.2 i i0 i1).1]
 split
 ·rename_i c;exact(hs c.2).fl
 ·rfl
theorem Lx:∀(n:Nat) (Z:AG) {k:Int},0≤k→k < 4→(Z.at_ k).state=0→((Z.GW n).at_ k).state=0
 | 0,_,_,_,_,h=>h
 | n+1,Z,k,k0,k1,h=>by
  have h1:=Jo Z 4 (Nat.le_refl 4) k k0 k1 h
  unfold GW
  split
  ·exact h1
  ·exact Lx n _ k0 k1 h1
theorem Ux {k:Int}(k0:0≤k)(k1:k < 4)(hs:∀ i,0≤i→i < 4→i≠k→(Y.at_ i).state≠0→(Y.at_ i).Still):(Y.BH.at_ k).state=0∨∀ i,0≤i→i < 4→i≠k→Y.BH.at_ i=Y.at_ i:=by
 rcases Z4 k0 k1 hs 4 (Nat.le_refl 4) with h | h
 ·exact .inr fun i i0 i1 e=>RN h i0 i1 (hs i i0 i1 e)
 ·left
  show((Y.GW 5).at_ k).state=0
  unfold GW
  split
  ·exact h
  ·exact Lx 4 _ k0 k1 h
theorem Y1:(((({ (default:Ae) with state:=1,Aw:=-1 }:Ae).offer 3).offer 31).tell G9).BH.pg.cut=false:=by decide
theorem Vr {Z:AG}(hst:∀ i,0≤i→i < 4→(Z.at_ i).state≠0→(Z.at_ i).Still)(a:Br)(hp:a.kind≠5) :
  (0≤a.A3∧a.A3 < 4∧(Z.at_ a.A3).state≠0∧((Z.DJ a).1.at_ a.A3).state=0)∨∀ i,0≤i→i < 4→i≠a.A3→(Z.DJ a).1.at_ i=Z.at_ i:=by
 unfold AG.DJ
 split
 ·rename_i c;exact absurd (of_decide_eq_true c) hp
 ·split
  ·exact .inr fun _ _ _ _=>rfl
  ·split
   ·exact .inr fun _ _ _ _=>rfl
   ·rename_i c
    have hs:0≤a.A3∧a.A3 < 4:=by simp only [Bool.or_eq_true,decide_eq_true_eq] at c;omega
    have other:∀(s:Ae),∀ i,0≤i→i < 4→i≠a.A3→(Z.set a.A3 s).at_ i=Z.at_ i:=fun s i i0 _ e=>by rw [CN _ hs.1 hs.2 i0,if_neg e]
    have go:∀(s:Ae) ,(Z.at_ a.A3).state≠0→(0≤a.A3∧a.A3 < 4∧(Z.at_ a.A3).state≠0∧((Z.set a.A3 s).BH.at_ a.A3).state=0)∨∀ i,0≤i→i < 4→i≠a.A3→(Z.set a.A3 s).BH.at_ i=Z.at_ i:=fun s hz=>by
     rcases Ux (Y:=Z.set a.A3 s) hs.1 hs.2 (fun i i0 i1 e=>by rw [other s i i0 i1 e];exact hst i i0 i1) with h | h
     ·exact .inl ⟨hs.1,hs.2,hz,h⟩
     ·exact .inr fun i i0 i1 e=>(h i i0 i1 e).trans (other s i i0 i1 e)
    split
    ·exact .inr fun _ _ _ _=>rfl
    ·rename_i c2
     have c2':decide ((Z.at_ a.A3).state=0)=decide (a.kind=1):=by simpa using c2
     split
     ·rename_i c3
      right
      intro i i0 i1 e
      dsimp only
      unfold AG.IU AG.tell
      rw [CN _ hs.1 hs.2 hs.1,if_pos rfl,show ∀ s t,(Z.set a.A3 s).set a.A3 t=Z.set a.A3 t from fun s t=>by unfold AG.set;rw [Vector.EO]]
      refine(RN (TK (fun j j0 j1 hj=>?_) 4 (Nat.le_refl 4)) i0 i1 ?_).trans (other _ i i0 i1 e)
      ·rw [CN _ hs.1 hs.2 j0] at hj ⊢
       split
       ·exact Y1
       ·rename_i q
        rw [if_neg q] at hj
        have:=hst j j0 j1 hj
        rw [this.fl];exact this.cut
      ·rw [other _ i i0 i1 e];exact hst i i0 i1
     ·rename_i c3
      have hz:(Z.at_ a.A3).state≠0:=fun e=>c3 (by rw [← c2'];exact decide_eq_true e)
      split
      ·dsimp only
       rw [HE]
       split
       ·unfold AG.tell
        rw [show ∀ s t,(Z.set a.A3 s).set a.A3 t=Z.set a.A3 t from fun s t=>by unfold AG.set;rw [Vector.EO]]
        exact go _ hz
       ·exact go _ hz
      ·split
       ·exact go _ hz
       ·left
        refine⟨hs.1,hs.2,hz,?_⟩
        have h1:((Z.leave a.A3).at_ a.A3).state=0:=by rw [KW _ hs.1 hs.2 hs.1 hs.2,if_pos rfl];rfl
        have h2:=Lx 5 _ hs.1 hs.2 h1
        dsimp only
        unfold AG.BH
        exact h2
theorem alone {H:AG}(h:H.Hz)(c:H.B8 < 400)(a:Br)(hp:a.kind≠5) :
  (0≤a.A3∧a.A3 < 4∧(H.at_ a.A3).state≠0∧((H.act a).1.at_ a.A3).state=0)∨∀ i,0≤i→i < 4→i≠a.A3→(H.act a).1.at_ i={ H.at_ i with told:= [] }:=by
 rw [GA (decide_eq_false (by omega)) a]
 rcases Vr (Z:=H.begun) (fun i i0 i1 hs=>by
  rw [E4 i0 i1] at hs ⊢
  exact(h.calm i i0 i1 hs).heard) a hp with ⟨a0,a1,a2,a3⟩ | h2
 ·rw [E4 a0 a1] at a2
  exact .inl ⟨a0,a1,a2,a3⟩
 ·exact .inr fun i i0 i1 e=>by rw [h2 i i0 i1 e,E4 i0 i1]
end
end AG
section
variable {w0:World} {M:List Nat} {L rs:List Ab}
theorem Kn.DP {h:Hd}{T sz:Nat}{cs:List Value}(hm:Ab.own h T sz cs∈rs)(hp:Ab.DP rs∈L):Kn w0 M L h T sz cs:=fun _ hS=>Ab.Rm ((hS.ok _ hp).1 _ hm)
end
instance:Inhabited Av:=⟨⟨⟨none,0,0⟩,0,false,[],false⟩⟩
instance:Inhabited BR:=⟨⟨[],false,false,⟨none,0,0⟩⟩⟩
structure KeptAt (T:Nat)(s:A4)(l:BD)(p:Av)(q:BR)(z:Int)(rs:List Ab):Prop where
 pm:Ab.own p.wait T 1 (l.wait.flatMap A6)∈rs
 qm:Ab.own q.queue T 1 (l.queue.flatMap A6)∈rs
 p1:p.shown=s.out.shown
 p2:p.B5=s.out.B5
 p3:p.ring=s.out.ring
 p4:p.cut=s.out.cut
 q1:q.now=s.ER.now
 q2:q.long=s.ER.long
 q3:q.ret=s.ER.ret
 st:z=(Ei s).1
def iA (V W:AN)(ls ms:Vector BD 4)(z:Int):Prop:=∀ i:Int,0≤i→i < 4→i≠z→(Ei (W.Ar.at i)).1=(Ei (V.Ar.at i)).1∧(W.Ar.at i).out.shown=(V.Ar.at i).out.shown∧(W.Ar.at i).out.B5=(V.Ar.at i).out.B5∧(W.Ar.at i).out.ring=(V.Ar.at i).out.ring∧(W.Ar.at i).out.cut=(V.Ar.at i).out.cut∧(W.Ar.at i).ER.now=(V.Ar.at i).ER.now∧(W.Ar.at i).ER.long=(V.Ar.at i).ER.long∧(W.Ar.at i).ER.ret=(V.Ar.at i).ER.ret∧(ms.at i).wait=(ls.at i).wait∧(ms.at i).queue=(ls.at i).queue
theorem aV {X:Prop}{b:Bool}(h1:b=true→X)(h2:b=false→X):X:=by
 cases b
 ·exact h2 rfl
 ·exact h1 rfl
section
variable {T:Nat} {V W:AN} {ls ms:Vector BD 4} {i z x:Int} {p:Av} {q:BR} {rs:List Ab} (h:iA V W ls ms z) (hk:KeptAt T (V.Ar.at i) (ls.at i) p q x rs) (i0:0≤i) (i1:i < 4) (hi:(!decide (i=z))=true)
include h hk i0 i1 hi
end
end Go.Ing
/- As long as one is told the same, its page is the same: plain laws. -/
namespace Go.Ing
open Go
namespace Ae
def iU (ht:Int)(l:List Ad)(x:Page.Pg):Page.Pg × List Ad:=if (decide (ht < 0) || decide (200 < ht))=true then(x,l) else Page.BH ht l x
theorem Yq {s:Ae}(h:s.Ok):s.BH={ s with pg:=(iU s.DZ.Bv s.wait s.pg).1,wait:=(iU s.DZ.Bv s.wait s.pg).2 }:=by
 unfold iU
 cases c:(decide (s.DZ.Bv < 0) || decide (200 < s.DZ.Bv)) with
 | true=>rw [KH s c,if_pos rfl]
 | false=>rw [Ni s ⟨h.n,h.ring,h.s0,h.s1⟩ c,if_neg (by decide)]
structure eo (b s:Ae):Prop where
 DZ:s.DZ=b.DZ
 now:s.now=b.now
 long:s.long=b.long
 ret:s.ret=b.ret
 queue:s.queue=b.queue
theorem eo.refl (s:Ae):eo s s:=⟨rfl,rfl,rfl,rfl,rfl⟩
theorem cC {s:Ae}(h:s.Ok)(u:Ad):(s.tell u).pg.cut=true∨s.tell u={ s with wait:=s.wait ++ [u],told:=s.told ++ [u] }:=by
 unfold Ae.tell Ae.line
 rw [if_neg (by rw [h.MC];decide)]
 split
 ·rename_i c
  left
  unfold Ae.note
  split
  ·exact c
  ·exact c
 ·rename_i c
  split
  ·left
   unfold Ae.note
   rw [if_neg (show ¬ (!true)=true by decide)]
  ·right
   unfold Ae.note
   rw [if_pos (by simpa using c)]
structure RU (P:Ae→Prop):Prop where
 zero:∀ s,s.state=0→P s
 tell:∀ s u,s.Ok→P s→P (s.tell u)
 Jf:∀ s b,s.state=1→P s→P { s with state:=2,Aw:=b }
theorem RU.Df {P:Ae→Prop}(K:RU P){s:Ae}(ho:s.Ok)(h:P s)(es:List Event):P (s.Df es):=by
 unfold Ae.Df
 split
 ·rename_i c;clear c
  induction es generalizing s with
  | nil=>exact h
  | cons e r ih=>
   refine ih (ho.CS e) ?_
   unfold Ae.CS
   split
   ·exact K.tell s _ ho h
   ·exact h
 ·exact h
end Ae
namespace AG
inductive Mr (U:Ad→Prop)(H:AG):AG→Prop
 | told {k:Int} {u:Ad}:0≤k→k < 4→(H.at_ k).state≠0→u∈TI→Mr U H (H.tell k u)
 | goes {k:Int} {w:AH} {s:Ae} {es:List Event}:0≤k→k < 4→DN U H k w s es→Mr U H (H.Hi k w s es)
 | free {k:Int}:0≤k→k < 4→¬ ((H.at_ k).state=2∧(H.w.AO.at (H.at_ k).Aw).here=true)→Mr U H (H.set k default)
inductive Rv (U:Ad→Prop)(H:AG):AG→Prop
 | refl:Rv U H H
 | tail {X Y:AG}:Rv U H X→Mr U X Y→Rv U H Y
section
variable {U:Ad→Prop} {H X Y:AG}
theorem Mr.one (h:Mr U H X):Rv U H X:= .tail .refl h
theorem Mr.step (h:Mr U H X):Step U H X:=by
 cases h with
 | told a b c d=>exact .told a b c d
 | goes a b c=>exact .goes a b c
 | free a b c=>exact .free a b c
end
section
open Ae
variable {U:Ad→Prop} {H X:AG} {P:Ae→Prop} {i:Int}
theorem KT (K:RU P)(i0:0≤i)(i1:i < 4)(hO:H.HK)(h:P (H.at_ i))(s:Mr U H X):P (X.at_ i):=by
 cases s with
 | @told k u h0 h1 _ _=>
  unfold AG.tell
  rw [CN _ h0 h1 i0];split
  ·rename_i q;subst q;exact K.tell _ _ (hO _ i0 i1) h
  ·exact h
 | @free k h0 h1 _=>
  rw [CN _ h0 h1 i0];split
  ·exact K.zero _ rfl
  ·exact h
 | @goes k w s es h0 h1 g=>
  rw [GO H h0 h1 _ _ _ i0 i1]
  have go:(i=k→P s∧s.Ok)→P ((if i=k then s else H.at_ i).Df es):=fun hs=>by
   by_cases q:i=k
   ·rw [if_pos q];exact K.Df (hs q).2 (hs q).1 es
   ·rw [if_neg q];exact K.Df (hO i i0 i1) h es
  cases g with
  | left _ _=>exact go fun _=>⟨K.zero _ rfl,Ae.Ct⟩
  | Jf hs he=>exact go fun q=>by subst q;exact⟨K.Jf _ _ hs h,(hO i i0 i1).Jf _⟩
  | db _ _ _ _=>exact go fun q=>by subst q;exact⟨h,hO i i0 i1⟩
  | round=>exact go fun q=>by subst q;exact⟨h,hO _ i0 i1⟩
theorem QQ (K:RU P)(hf:∀ s,s.Ok→P s→P s.BH)(i0:0≤i)(i1:i < 4)(hO:H.HK)(h:P (H.at_ i))(s:Step U H X):P (X.at_ i):=by
 cases s with
 | told a b c d=>exact KT K i0 i1 hO h (.told (U:=U) a b c d)
 | goes a b c=>exact KT K i0 i1 hO h (.goes (U:=U) a b c)
 | free a b c=>exact KT K i0 i1 hO h (.free (U:=U) a b c)
 | @BH k h0 h1 _=>
  rw [CN _ h0 h1 i0];split
  ·rename_i q;subst q;exact hf _ (hO _ i0 i1) h
  ·exact h
theorem UT (K:RU P)(hf:∀ s,s.Ok→P s→P s.BH)(i0:0≤i)(i1:i < 4)(hO:H.HK)(h:P (H.at_ i))(s:Steps U H X):X.HK∧P (X.at_ i):=by
 induction s with
 | refl=>exact⟨hO,h⟩
 | tail _ s ih=>exact⟨ih.1.step s,QQ K hf i0 i1 ih.1 ih.2 s⟩
end
section
open Ae
variable {i:Int} {H Z K:AG}
def tb (s:Ae):Ae:=match s.queue with
 | []=>s
 | _ :: r=>{ s with queue:=r }.E1
def own (i:Int)(a:Br)(s:Ae):Ae:=
 if a.kind=5 then tb s
 else if a.A3≠i then s
 else if (decide (s.state=0) != decide (a.kind=1))=true then s
 else if a.kind=1 then((({ (default:Ae) with state:=1,Aw:=-1 }:Ae).offer 3).offer 31)
 else if a.kind=2 then(Cv s a.bytes).1
 else if a.kind=3 then s.Fl a.n
 else s
theorem ba:((({ (default:Ae) with state:=1,Aw:=-1 }:Ae).offer 3).offer 31).Ok:=((show({ (default:Ae) with state:=1,Aw:=-1 }:Ae).Ok from⟨⟨show(0:Int)≤1 by decide,show(1:Int)≤2 by decide⟩,Ae.Ct.n,Ae.Ct.ring,Ae.Ct.s0,Ae.Ct.s1,Ae.Ct.ln⟩).offer 3).offer 31
end
end AG
namespace Ae
structure iF (s t:Ae):Prop where
 state:t.state=s.state
 pg:t.pg=s.pg
 wait:t.wait=s.wait
 j4:eo s t
theorem iF.form {s t:Ae}(h:iF s t):t={ s with Aw:=t.Aw,told:=t.told }:=by
 obtain⟨a,b,c,⟨d,e,f,g,j⟩⟩:=h
 cases s;cases t
 simp only at a b c d e f g j
 subst a b c d e f g j
 rfl
theorem iF.refl (s:Ae):iF s s:=⟨rfl,rfl,rfl, .refl s⟩
end Ae
namespace AG
section
open Ae
variable {i:Int} {H K Z W:AG} {a b:Br}
end
end AG
namespace AG
structure iY (i k:Int)(H K:AG):Prop where
 f1:H.Hz
 f2:K.Hz
 a1:H.B8=k
 a2:K.B8=k
 eye:Ae.iF (H.at_ i) (K.at_ i)
theorem iY.new (i:Int):iY i 0 AG.new AG.new:=⟨Qc,Qc,rfl,rfl, .refl _⟩
end AG
structure Typed (i:Int)(a b:Br):Prop where
 kind:a.kind=b.kind
 A3:a.A3=b.A3
 n:a.n=b.n
 bytes:a.A3=i→a.kind=2→a.bytes=b.bytes
theorem Typed.refl (i:Int)(a:Br):Typed i a a:=⟨rfl,rfl,rfl,fun _ _=>rfl⟩
theorem Typed.other {i:Int}{a:Br}(h:a.A3≠i)(u:Ad):Typed i a { a with bytes:=u }:=⟨rfl,rfl,rfl,fun e=>absurd e h⟩
section
variable {i k:Int} {V W V' W':AN} {ls ms ls' ms':Vector BD 4} {ev fv ev' fv':List Event} {a b:Br} (h:AG.iY i k (A7 V ls ev) (A7 W ms fv)) (hk:k < 400) (i0:0≤i) (i1:i < 4) (e1:A7 V' ls' ev'=((A7 V ls ev).act a).1) (e2:A7 W' ms' fv'=((A7 W ms fv).act b).1) (hT:Typed i a b)
include h hk i0 i1 e1 e2 hT
omit e1 e2 in
end
section
variable {i k:Int} {V W:AN} {ls ms:Vector BD 4} {ev fv:List Event} (h:AG.iY i k (A7 V ls ev) (A7 W ms fv)) (i0:0≤i) (i1:i < 4)
include h i0 i1
end
end Go.Ing
/- What is escaped is text again. -/
namespace Go.Ing
open Go
namespace AK
theorem bC (a:Ad):∀(X:AK) (b:Ad),X.feed (a++b)=((((X.feed a).1).feed b).1,(X.feed a).2.1++(((X.feed a).1).feed b).2.1,(X.feed a).2.2++(((X.feed a).1).feed b).2.2):=by
 induction a with
 | nil=>intro X b;simp [feed]
 | cons c a ih=>intro X b;simp only [List.cons_append,feed,ih,List.append_assoc]
theorem Nx (X:AK)(h:X.at_=0)(u:Ad):X.feed (Page.escape u)=(X,u,[]):=by
 induction u with
 | nil=>rfl
 | cons b u ih=>
  have e:Page.escape (b :: u)=(if b=255 then [255,255] else [b])++Page.escape u:=rfl
  rw [e,bC]
  by_cases hb:b=255
  ·subst hb
   have e1:X.step 255=({ X with at_:=1 },[],[]):=by
    unfold step;simp [h]
   have e2:({ X with at_:=1 }:AK).step 255=(X,[255],[]):=by
    unfold step
    cases X
    simp only at h
    subst h
    simp
   have e3:X.feed [255,255]=(X,[255],[]):=by simp only [feed,e1,e2];rfl
   rw [if_pos rfl,e3]
   simp only [ih]
   rfl
  ·have hc:¬ (b.toNat:Int)=255:=fun e=>hb (UInt8.toNat_inj.1 (by show _=255;omega))
   have e1:X.step b=(X,[b],[]):=by
    unfold step;simp [h,hc]
   have e3:X.feed [b]=(X,[b],[]):=by simp only [feed,e1];rfl
   rw [if_neg hb,e3]
   simp only [ih]
   rfl
end AK
end Go.Ing
/- All that is told is plain text, and never the pager's own line: plain laws. -/
namespace Go.Ing
open Go
def BK (s:Ad):Bool:=s.all Bh.FP
theorem BU {s t:Ad}(h:BK s=true)(k:BK t=true):BK (s++t)=true:=by
 unfold BK at *
 rw [List.all_append,h,k];rfl
structure MG (x:Ad × Bool):Prop where
 c:BK x.1=true
theorem Cd {c:Prop}[Decidable c]{x y:Ad × Bool}(hx:MG x)(hy:MG y):MG (if c then x else y):=by
 split
 ·exact hx
 ·exact hy
theorem Ek {s:Ad}(h:BK s=true):MG (AH.fin s):=⟨h⟩
theorem GG {c:Prop}[Decidable c]{s t:Ad}(h:BK s=true)(k:BK t=true):BK (if c then s else t)=true:=by split<;>assumption
theorem Gk (own:Bool){a m t:Ad}(ha:BK a=true)(hm:BK m=true)(ht:BK t=true):BK (AH.Bn own a m t)=true:=by
 unfold AH.Bn
 exact GG (BU (BU (by decide) hm) (by decide)) (BU (BU (BU ha (by decide)) ht) (by decide))
theorem K3 (own:Bool){t:Ad}(h:BK t=true):BK (AH.CX own t)=true:=by
 unfold AH.CX
 exact GG (BU (by decide) h) (BU (by decide) h)
theorem Us {own:Bool}{a o d n th tx:Ad}{z:Int}(ha:BK a=true)(ho:BK o=true)(hd:BK d=true)(hn:BK n=true)(ht:BK th=true)(hx:BK tx=true):MG (AH.EA own a o d n th tx z):=by
 have e:MG (AH.fin []):=⟨by decide⟩
 have dot:BK [46]=true:=by decide
 have v:∀ m t:Ad,BK m=true→BK t=true→MG (AH.fin (AH.Bn own a m t++AH.CX own th ++ [46])):=fun m t h k=>Ek (BU (BU (Gk own ha h k) (K3 own ht)) dot)
 unfold AH.EA
 refine Cd (Ek (BU (BU (Gk own ha (by decide) (by decide)) hd) dot)) ?_
 refine Cd (Cd (Ek (BU (BU (BU ha (by decide)) hd) dot)) e) ?_
 refine Cd (v _ _ (by decide) (by decide)) ?_
 refine Cd (v _ _ (by decide) (by decide)) ?_
 refine Cd (Ek (BU (BU (BU (BU (Gk own ha (by decide) (by decide)) (K3 own ht)) (by decide)) (K3 own hx)) dot)) ?_
 refine Cd (Ek (BU (BU (BU (BU (Gk own ha (by decide) (by decide)) (K3 own ht)) (by decide)) ho) dot)) ?_
 refine Cd (Ek (BU (Gk own ha (by decide) (by decide)) hx)) ?_
 refine Cd (v _ _ (by decide) (by decide)) ?_
 refine Cd (v _ _ (by decide) (by decide)) ?_
 refine Cd (v _ _ (by decide) (by decide)) ?_
 refine Cd (v _ _ (by decide) (by decide)) ?_
 refine Cd (v _ _ (by decide) (by decide)) ?_
 refine Cd (v _ _ (by decide) (by decide)) ?_
 refine Cd (Ek (BU (BU (BU (BU (Gk own ha (by decide) (by decide)) ho) (by decide)) hn) dot)) ?_
 refine Cd (Ek (GG (by decide) (BU ha (by decide)))) ?_
 refine Cd (Cd ⟨hx⟩ e) ?_
 refine Cd (Ek (GG (by decide) (BU ha (by decide)))) ?_
 refine Cd (Cd (Ek (BU ha (by decide))) e) e
structure fO (e:Event):Prop where
 G9:BK e.G9=true
 ED:BK e.ED=true
 BM:BK e.BM=true
 text:BK e.text=true
 n:0≤e.n∧e.n≤3
theorem VZ {n:Int}(h:0≤n∧n≤3):BK (Lib.itoa n)=true:=by
 have:n=0∨n=1∨n=2∨n=3:=by omega
 rcases this with e | e | e | e<;>subst e<;>decide +kernel
theorem Ji (d:Int):BK (AH.called d)=true:=by
 unfold AH.called
 split
 ·decide
 ·rename_i c
  simp only [Bool.or_eq_true,decide_eq_true_eq] at c
  have:d=0∨d=1∨d=2∨d=3∨d=4∨d=5:=by omega
  rcases this with e | e | e | e | e | e<;>subst e<;>decide
theorem U0 {e:Event}{b:Int}(h:fO e):BK (AH.tell e b).1=true:=by
 rw [← AH.Ub]
 unfold AH.WX
 split
 ·decide
 ·refine(Us ?_ ?_ (Ji _) (VZ h.n) h.BM h.text).c
  ·unfold AH.II;exact GG (by decide) h.G9
  ·unfold AH.Fk AH.WV;exact GG (by decide) (GG (by decide) h.ED)
namespace AE
structure Hc (w:AH):Prop where
 th:∀ i,BK (w.AP.at i).name=true
 be:∀ i,BK (w.AO.at i).name=true
 ro:∀ i,BK (w.BT.at i).name=true
def NP (X:AH)(l:List Event)(Y:AH):Prop:=Hc X→Hc Y∧∀ e∈l,fO e
theorem Ol (r:Room):∀ n:Nat,BK (G8 r n)=true
 | 0=>by show BK [87,97,121,115,58]=true;decide
 | n+1=>by
  have ih:=Ol r n
  unfold G8
  split
  ·exact ih
  ·split
   ·exact BU (BU ih (BU (by decide) (Ji _))) (by decide)
   ·exact BU ih (BU (by decide) (Ji _))
theorem Kp {w:AH}(h:Hc w):∀(l:List Int) {s:Ad},BK s=true→BK (Ge w s l)=true
 | [],_,hs=>hs
 | i :: r,s,hs=>by
  unfold Ge
  refine Kp h r (GG ?_ ?_)
  ·exact BU (BU (BU hs (by decide)) (h.th i)) (by decide)
  ·exact BU (BU hs (by decide)) (h.th i)
theorem Vh {w:AH}{s:Ad}(hw:Hc w)(h:Sp w s):BK s=true:=by
 cases h with
 | word h=>exact(by decide:∀ s∈ [Le,SP,QS,It,MI,Lg,cN,WM,Z9,NF],BK s=true) s h
 | room r=>exact BU (BU (by decide) (hw.ro r)) (by decide)
 | ways r=>exact Ol r 6
 | @list s l h=>
  have hs:BK s=true:=(by decide:∀ s∈ [[72,101,114,101,32,105,115],[89,111,117,32,104,97,118,101]],BK s=true) s h
  refine BU ?_ (by decide)
  unfold MS
  exact GG (BU (Kp hw l hs) (by decide)) (Kp hw l hs)
 | seen k=>exact BU (hw.be k) (by decide)
theorem UY {x:Ad}{w:AH}{e:Event}(hx:BK x=true)(hw:Hc w)(h:Shape x w e):BK e.G9=true∧BK e.ED=true∧BK e.BM=true∧BK e.text=true∧0≤e.n∧e.n≤3:=by
 have z:(0:Int)≤0∧(0:Int)≤3:=by decide
 have n:BK []=true:=by decide
 cases h with
 | cr h=>exact⟨n,n,n,Vh hw h,z⟩
 | said=>exact⟨n,n,n,hx,z⟩
 | kind _=>exact⟨n,n,n,n,z⟩
 | dir _=>exact⟨n,n,n,n,z⟩
 | @BM k i _=>exact⟨n,n,hw.th i,n,z⟩
 | Gv _=>exact⟨n,n,(by decide:BK P7=true),n,z⟩
 | @cB i to=>exact⟨n,n,hw.th i,n,z⟩
 | @R1 i to=>exact⟨n,n,hw.th i,hw.th to,z⟩
 | @CE B7 m h1 h3=>
  exact⟨n,n,n,n,show 0≤m∧m≤3 by omega⟩
theorem QG {w:AH}{b:Int}{e:Event}(hw:Hc w)(h:BK e.G9=true∧BK e.ED=true∧BK e.BM=true∧BK e.text=true∧0≤e.n∧e.n≤3):fO (ev w b e):=by
 obtain⟨_,_,_,_,a4,a5,a6,a7,a8⟩:=AH.Hq w (Cf ⟨w,b,[]⟩ e) 6
 unfold ev
 have w1:BK (Cf ⟨w,b,[]⟩ e).G9=true:=by
  unfold Cf
  split
  ·exact hw.be b
  ·exact hw.be b
 have w2:BK (Cf ⟨w,b,[]⟩ e).ED=true:=by
  unfold Cf
  split
  ·exact hw.be e.other
  ·exact h.2.1
 have w3:BK (Cf ⟨w,b,[]⟩ e).BM=true:=by
  unfold Cf
  split<;>exact h.2.2.1
 have w4:BK (Cf ⟨w,b,[]⟩ e).text=true:=by
  unfold Cf
  split<;>exact h.2.2.2.1
 have w5:0≤(Cf ⟨w,b,[]⟩ e).n∧(Cf ⟨w,b,[]⟩ e).n≤3:=by
  unfold Cf
  split<;>exact h.2.2.2.2
 exact⟨by rw [a5];exact w1,by rw [a6];exact w2,by rw [a7];exact w3,by rw [a8];exact w4,by rw [a4];exact w5⟩
theorem K2 {w:AH}(hw:Hc w)(k:Int){x:Am}(hx:BK x.name=true):Hc (w.C1 k x):=⟨hw.th,fun i=>by
 show BK ((w.AO.put k x).at i).name=true
 rcases Vector.N2 w.AO k i x with e | e
 ·rw [e];exact hx
 ·rw [e];exact hw.be i,hw.ro⟩
theorem bb {w:AH}(hw:Hc w)(k:Int){x:An}(hx:BK x.name=true):Hc (w.Gr k x):=⟨fun i=>by
 show BK ((w.AP.put k x).at i).name=true
 rcases Vector.N2 w.AP k i x with e | e
 ·rw [e];exact hx
 ·rw [e];exact hw.th i,hw.be,hw.ro⟩
theorem cS {w:AH}(hw:Hc w)(r d:Int)(v:Bool):Hc (w.Mw r d v):=⟨hw.th,hw.be,fun i=>by
 have:((w.Mw r d v).BT.at i).name=(w.BT.at i).name:=E5 Room.name w.BT (k:=r) (x:={ w.BT.at r with shut:=(w.BT.at r).shut.put d v }) rfl i
 rw [this];exact hw.ro i⟩
theorem Ej:BK []=true:=by decide
theorem Sj {x:Ad}(hx:BK x=true)(q:Prop)(b:Int):Rel x q b NP where
 refl _:=fun h=>⟨h,fun _ h=>by cases h⟩
 trans h k:=fun c=>⟨(k (h c).1).1,fun e he=>(List.mem_append.1 he).elim ((h c).2 e) ((k (h c).1).2 e)⟩
 eO {w e} h:=fun c=>⟨c,fun y hy=>by rw [List.mem_singleton.1 hy];exact QG c (UY hx c h)⟩
 BM hn _:=fun c=>⟨bb c _ (by rw [hn];exact c.th _),fun _ h=>by cases h⟩
 B7 {w k f}:=fun c=>⟨K2 c _ (c.be k),fun _ h=>by cases h⟩
 shut:=fun c=>⟨cS c _ _ _,fun _ h=>by cases h⟩
 Fw {w d r}:=fun c=>⟨K2 c _ (c.be b),fun y hy=>by rw [List.mem_singleton.1 hy];exact QG c ⟨Ej,Ej,Ej,Ej,Int.le_refl 0,(by decide:(0:Int)≤3)⟩⟩
 GY _ {w}:=fun c=>⟨c,fun y hy=>by rw [List.mem_singleton.1 hy];exact QG c ⟨Ej,Ej,Ej,Ej,Int.le_refl 0,(by decide:(0:Int)≤3)⟩⟩
 gone h _:=fun c=>⟨K2 (h c).1 _ (by decide),(h c).2⟩
theorem Vy:YE NP:=⟨fun b _ _=>Sj (by decide) False b,fun {w k h}=>fun c=>⟨K2 c _ (c.be k),fun _ h=>by cases h⟩,fun {X l w b} _ h _=>fun c=>⟨K2 (h c).1 _ ((h c).1.be b),(h c).2⟩⟩
end AE
end Go.Ing
/- No line that is told is the pager's own: plain laws. -/
namespace Go.Ing
open Go
def Kh:Ad:= [45,45,32,109,111,114,101,32,45,45]
def FL (s:Ad):Bool:=decide (s=Kh)
theorem UK {s:Ad}(h:FL s=true):s∈ [Kh]:=List.mem_singleton.2 (of_decide_eq_true h)
def eL (x:Ad):Bool:= [Kh].all fun L=>(List.range 30).all fun n=>!decide ((L.drop n).take x.length=x)
theorem Ps {x s:Ad}(h:Has x s)(hx:eL x=true):FL s=false:=by
 cases ho:FL s with
 | false=>rfl
 | true=>
  have hm:=UK ho
  obtain⟨a,y,e⟩:=h
  have hl:s.length < 30:=by
   have:∀ L∈ [Kh],L.length < 30:=by decide
   exact this s hm
  have h1:=List.all_eq_true.1 (List.all_eq_true.1 hx s hm) a.length (List.mem_range.2 (by rw [e] at hl;simp only [List.length_append] at hl;omega))
  rw [e,List.append_assoc,List.drop_left,List.take_left] at h1
  simp at h1
theorem ZK (c:UInt8)(hc:([Kh].all fun L=>!decide (L.head?=some c))=true)(r:Ad):FL (c :: r)=false:=by
 cases ho:FL (c :: r) with
 | false=>rfl
 | true=>have:=List.all_eq_true.1 hc _ (UK ho);simp at this
structure Ve (x:Ad × Bool):Prop where
 l:FL x.1=false
theorem WE {c:Prop}[Decidable c]{x y:Ad × Bool}(hx:c→Ve x)(hy:¬ c→Ve y):Ve (if c then x else y):=by
 split
 ·rename_i h;exact hx h
 ·rename_i h;exact hy h
theorem IH (c:UInt8)(hc:([Kh].all fun L=>!decide (L.head?=some c))=true)(r:Ad):Ve (AH.fin (c :: r)):=⟨ZK c hc r⟩
theorem HC {x s:Ad}(h:Has x s)(hx:eL x=true):Ve (AH.fin s):=⟨Ps h hx⟩
theorem bK {own:Bool}{a o d n th tx:Ad}{z:Int}(h:z=16→FL tx=false):Ve (AH.EA own a o d n th tx z):=by
 have hn:Ve (AH.fin []):=⟨by decide⟩
 cases own with
 | true=>
  unfold AH.EA
  repeat' refine WE (fun hz=>?_) (fun _=>?_)
  ·exact IH 89 (by decide) _
  ·cases hz
  ·exact hn
  ·exact IH 89 (by decide) _
  ·exact IH 89 (by decide) _
  ·exact IH 89 (by decide) _
  ·exact IH 89 (by decide) _
  ·exact IH 89 (by decide) _
  ·exact IH 89 (by decide) _
  ·exact IH 89 (by decide) _
  ·exact IH 89 (by decide) _
  ·exact IH 89 (by decide) _
  ·exact IH 89 (by decide) _
  ·exact IH 89 (by decide) _
  ·exact IH 89 (by decide) _
  ·exact IH 89 (by decide) _
  ·exact⟨h (of_decide_eq_true (by assumption))⟩
  ·rename_i hz;exact absurd rfl hz
  ·exact IH 66 (by decide) _
  ·cases hz
  ·exact hn
  ·exact hn
 | false=>
  unfold AH.EA
  repeat' refine WE (fun hz=>?_) (fun _=>?_)
  ·exact HC (((Has.verb _ _ _).app _).app _) (by decide)
  ·exact HC ((Has.self _ [32,99,111,109,101,115,32,102,114,111,109,32]).app _ |>.app _) (by decide)
  ·exact hn
  ·exact HC (((Has.verb _ _ _).app _).app _) (by decide)
  ·exact HC (((Has.verb _ _ _).app _).app _) (by decide)
  ·exact HC (((((Has.verb _ _ _).app _).app _).app _).app _) (by decide)
  ·exact HC (((((Has.verb _ _ _).app _).app _).app _).app _) (by decide)
  ·exact HC ((Has.verb _ _ _).app _) (by decide)
  ·exact HC (((Has.verb _ _ _).app _).app _) (by decide)
  ·exact HC (((Has.verb _ _ _).app _).app _) (by decide)
  ·exact HC (((Has.verb _ _ _).app _).app _) (by decide)
  ·exact HC (((Has.verb _ _ _).app _).app _) (by decide)
  ·exact HC (((Has.verb _ _ _).app _).app _) (by decide)
  ·exact HC (((Has.verb _ _ _).app _).app _) (by decide)
  ·exact HC (((((Has.verb _ _ _).app _).app _).app _).app _) (by decide)
  ·exact HC (Has.self _ [32,100,105,101,115,46]) (by decide)
  ·cases hz
  ·exact hn
  ·exact HC (Has.self _ [32,97,114,114,105,118,101,115,46]) (by decide)
  ·exact HC (Has.self _ [32,102,97,100,101,115,46]) (by decide)
  ·exact hn
  ·exact hn
theorem ZF {e:Event}{b:Int}(h:e.kind=16→FL e.text=false):FL (AH.tell e b).1=false:=by
 rw [← AH.Ub]
 unfold AH.WX
 split
 ·decide
 ·exact(bK h).l
namespace AE
def fH (_:AH)(l:List Event)(_:AH):Prop:=∀ e∈l,e.kind=16→FL e.text=false
theorem bJ {w:AH}{s:Ad}(l:List Int)(h:s∈ [[72,101,114,101,32,105,115],[89,111,117,32,104,97,118,101]]):FL (MS w s l ++ [46])=false:=by
 have hs:Has s (MS w s l):=by
  unfold MS
  split
  ·exact(NA w l (Has.self [] s)).app _
  ·exact NA w l (Has.self [] s)
 refine Ps (hs.app _) ?_
 exact(by decide:∀ s∈ [[72,101,114,101,32,105,115],[89,111,117,32,104,97,118,101]],eL s=true) s h
theorem aO {w:AH}{s:Ad}(h:Sp w s):FL s=false:=by
 cases h with
 | word h=>exact(by decide:∀ s∈ [Le,SP,QS,It,MI,Lg,cN,WM,Z9,NF],FL s=false) s h
 | room r=>exact Ps (((Has.self [] [84,104,101,32]).app _).app _) (by decide)
 | ways r=>exact Ps (TE r 6) (by decide)
 | list l h=>exact bJ l h
 | seen k=>exact Ps (Has.self _ [32,105,115,32,104,101,114,101,46]) (by decide)
theorem Xd {x:Ad}{w:AH}{e:Event}(h:Shape x w e):e.kind=16→FL e.text=false:=by
 cases h with
 | cr h=>exact fun _=>aO h
 | said=>exact fun h=>absurd (show(7:Int)=16 from h) (by decide)
 | @kind k h=>exact fun e=>absurd (show k=16 from e) (by omega)
 | @dir k d h=>exact fun e=>absurd (show k=16 from e) (by omega)
 | @BM k i h=>exact fun e=>absurd (show k=16 from e) (by omega)
 | @Gv k h=>exact fun e=>absurd (show k=16 from e) (by omega)
 | cB=>exact fun h=>absurd (show(6:Int)=16 from h) (by decide)
 | R1=>exact fun h=>absurd (show(5:Int)=16 from h) (by decide)
 | CE _ _=>exact fun h=>absurd (show(14:Int)=16 from h) (by decide)
theorem ZQ (x:Ad)(q:Prop)(b:Int):Rel x q b fH where
 refl _:=fun _ h=>by cases h
 trans h k:=fun e he=>(List.mem_append.1 he).elim (h e) (k e)
 eO {w e} h:=fun y hy=>by rw [List.mem_singleton.1 hy,(Fc w b e).1,cT];exact Xd h
 BM _ _:=fun _ h=>by cases h
 B7:=fun _ h=>by cases h
 shut:=fun _ h=>by cases h
 Fw {w d r}:=fun y hy=>by rw [List.mem_singleton.1 hy,(Fc w b _).1];exact fun h=>absurd (show(1:Int)=16 from h) (by decide)
 GY _ {w}:=fun y hy=>by rw [List.mem_singleton.1 hy,(Fc w b _).1];exact fun h=>absurd (show(18:Int)=16 from h) (by decide)
 gone h _:=h
theorem dV:YE fH:=⟨fun b _ _=>ZQ [] False b,fun _ h=>(by cases h),fun _ h _=>h⟩
end AE
end Go.Ing
/- Whatever is told to a seat is plain: plain laws. -/
namespace Go.Ing
open Go
theorem NH {s t:Ad}(h:∀ b∈s,b∈t)(k:BK t=true):BK s=true:=by
 unfold BK at *
 rw [List.all_eq_true] at *
 exact fun b hb=>k b (h b hb)
theorem RO (c:UInt8){s:Ad}(k:BK s=true):BK (Words.Qj c s)=true:=NH (fun _ h=>(List.dropWhile_sublist _).subset h) k
theorem X3 (c:UInt8){s:Ad}(k:BK s=true):BK (Words.SA c s)=true:=NH (fun b h=>by
 unfold Words.SA at h
 rw [List.mem_reverse] at h
 exact List.mem_reverse.1 ((List.dropWhile_sublist _).subset h)) k
theorem cE (c:UInt8)(s:Ad):∀ b∈(Words.cut c s).2.1,b∈s:=by
 unfold Words.cut
 split
 ·exact fun b h=>List.mem_of_mem_drop h
 ·exact fun b h=>by cases h
theorem N0 (o:Order)(j:Ad × Bool)(W:List Ad)(m:Nat)(h:o.text = []):(Words.Nk o j W m).1.text = []:=by
 unfold Words.Nk
 split
 ·exact h
 ·split
  ·rfl
  ·exact h
theorem Tw (o:Order)(j:Ad × Bool)(W:List Ad)(m:Nat)(h:o.text = []):(Words.P5 o j W m).1.text = []:=by
 unfold Words.P5
 split
 ·split
  ·rfl
  ·exact N0 _ _ _ _ h
 ·exact N0 _ _ _ _ h
theorem N3 (v:Int)(W:List Ad)(m:Nat):(Words.Nc v W m).1.text = []:=by
 unfold Words.Nc
 split
 ·rfl
 ·exact Tw _ _ _ _ rfl
theorem Ut {s:Ad}(k:BK s=true):BK (Words.said s)=true:=by
 unfold Words.said
 refine RO _ (X3 _ ?_)
 exact NH (cE 32 _) (RO _ k)
theorem VJ (s:Ad):(Words.parse s).1.text = []∨(Words.parse s).1.text=Words.said s:=by
 unfold Words.parse
 split
 ·exact .inl rfl
 ·split
  ·exact .inl rfl
  ·unfold Words.VG
   split
   ·split
    ·exact .inl rfl
    ·exact .inr rfl
   ·left
    split
    ·split<;>rfl
    ·split
     ·rfl
     ·split
      ·split
       ·rfl
       ·exact N3 _ _ _
      ·exact N3 _ _ _
theorem TR {s:Ad}(k:BK s=true):BK (Words.parse s).1.text=true:=by
 rcases VJ s with e | e
 ·rw [e];exact AE.Ej
 ·rw [e];exact Ut k
end Go.Ing
/- Whatever is told to a seat is plain: a house keeps it. -/
namespace Go.Ing
open Go
structure LX (s:Ad):Prop where
 c:BK s=true
 m:FL s=false
theorem P3:∀ s∈AG.TI,BK s=true∧FL s=false:=by decide
theorem TU (s:Ae)(u:Ad):∀ x∈(s.tell u).told++(s.tell u).wait,x∈s.told++s.wait∨x=u:=by
 have hl:∀ x∈(s.line u).told++(s.line u).wait,x∈s.told++s.wait∨x=u:=by
  unfold Ae.line
  split
  ·exact fun x h=> .inl h
  ·split
   ·exact fun x h=> .inl h
   ·split
    ·exact fun x h=> .inl h
    ·intro x h
     rw [List.mem_append] at h
     rcases h with h | h
     ·exact .inl (List.mem_append_left _ h)
     ·rcases List.mem_append.1 h with h | h
      ·exact .inl (List.mem_append_right _ h)
      ·exact .inr (List.mem_singleton.1 h)
 unfold Ae.tell Ae.note
 split
 ·intro x h
  rcases List.mem_append.1 h with h | h
  ·rcases List.mem_append.1 h with h | h
   ·exact hl x (List.mem_append_left _ h)
   ·exact .inr (List.mem_singleton.1 h)
  ·exact hl x (List.mem_append_right _ h)
 ·exact hl
def Lb (s:Ae):Prop:=∀ x∈s.told++s.wait,LX x
theorem Lb.tell {s:Ae}(h:Lb s){u:Ad}(hu:LX u):Lb (s.tell u):=fun x hx=>(TU s u x hx).elim (h x) fun e=>e ▸ hu
theorem Lb.Df {s:Ae}(h:Lb s){es:List Event}(he:∀ e∈es,fO e∧(e.kind=16→FL e.text=false)):Lb (s.Df es):=by
 unfold Ae.Df
 split
 ·rename_i c;clear c
  induction es generalizing s with
  | nil=>exact h
  | cons e r ih=>
   refine ih ?_ fun y hy=>he y (List.mem_cons_of_mem _ hy)
   have h1:=he e (List.mem_cons_self ..)
   unfold Ae.CS
   split
   ·exact h.tell ⟨U0 h1.1,ZF h1.2⟩
   ·exact h
 ·exact h
theorem TP {s:Ad}(h:AE.Eu s=true):BK s=true:=by
 unfold BK
 rw [List.all_eq_true]
 intro b hb
 unfold AE.Eu AE.Hu at h
 rw [Bool.and_eq_true] at h
 have:=List.all_eq_true.1 h.1 b (by rw [List.drop_zero];exact hb)
 simp only [AE.low,Bool.not_eq_true',Bool.or_eq_false_iff,decide_eq_false_iff_not] at this
 unfold Bh.FP
 rw [decide_eq_true (by omega),decide_eq_true (by omega)]
 rfl
namespace AG
theorem VH {U:Ad→Prop}(hU:∀ q,U q→BK q=true){H:AG}{k:Int}{w:AH}{s:Ae}{es:List Event}(h:H.Home)(hc:AE.Hc H.w)(k0:0≤k)(k1:k < 4)(g:DN U H k w s es):AE.Hc w∧∀ e∈es,fO e∧(e.kind=16→FL e.text=false):=by
 cases g with
 | left hs _=>
  have a:=(AE.KP (AE.Sj AE.Ej True (H.at_ k).Aw) rfl (fun _=>trivial):AE.NP H.w (AE.EJ H.w (H.at_ k).Aw EL).2.1 (AE.EJ H.w (H.at_ k).Aw EL).1) hc
  exact⟨a.1,fun e he=>⟨a.2 e he,(AE.KP (AE.ZQ [] True (H.at_ k).Aw) rfl (fun _=>trivial):AE.fH _ _ _) e he⟩⟩
 | @Jf _ u hs hn=>
  rcases AE.Nw H.w u with ⟨hx,_⟩ | ⟨q,f2,f5,hu,_⟩
  ·exact absurd hn hx
  ·have a:=(AE.TY AE.Vy (X:=H.w) (s:=u) (b:=AE.CP H.w 6) (by omega) (by omega):AE.NP _ _ _) (AE.K2 hc _ (show BK u=true from TP hu))
   have b:=(AE.TY AE.dV (X:=H.w) (s:=u) (b:=AE.CP H.w 6) (by omega) (by omega):AE.fH _ _ _)
   rw [q]
   exact⟨a.1,fun e he=>⟨a.2 e he,b e he⟩⟩
 | @db k q hq hn0 hn1 hv=>
  have a:=(AE.KP (AE.Sj (TR (hU _ hq)) False (H.at_ k).Aw) rfl (fun e=>hv e):AE.NP H.w (AE.EJ H.w (H.at_ k).Aw (Words.parse q).1).2.1 (AE.EJ H.w (H.at_ k).Aw (Words.parse q).1).1) hc
  exact⟨a.1,fun e he=>⟨a.2 e he,(AE.KP (AE.ZQ _ False (H.at_ k).Aw) rfl (fun e=>hv e):AE.fH _ _ _) e he⟩⟩
 | @round d=>
  have a:=(AE.Kt AE.Vy h.F8.Hb:AE.NP H.w (AE.CU H.w d).2.1 (AE.CU H.w d).1) hc
  exact⟨a.1,fun e he=>⟨a.2 e he,(AE.Kt AE.dV h.F8.Hb:AE.fH _ _ _) e he⟩⟩
structure Plain (H:AG):Prop where
 home:H.Home
 land:AE.Hc H.w
 A3:∀ k,0≤k→k < 4→Lb (H.at_ k)
theorem Plain.set {H:AG}(h:H.Plain){k:Int}(k0:0≤k)(k1:k < 4){s:Ae}(hh:(H.set k s).Home)(hs:Lb s):(H.set k s).Plain:=⟨hh,h.land,fun j j0 j1=>by
 rw [CN _ k0 k1 j0];split
 ·exact hs
 ·exact h.A3 j j0 j1⟩
theorem Plain.step {H X:AG}(h:H.Plain)(s:Step (fun q=>q.length≤1000∧BK q=true) H X):X.Plain:=by
 have hh:=h.home.step trivial (fun q hq=>hq.1) s
 cases s with
 | @told k u h0 h1 _ hu=>exact h.set h0 h1 hh ((h.A3 k h0 h1).tell ⟨(P3 u hu).1,(P3 u hu).2⟩)
 | @BH k h0 h1 _=>
  refine h.set h0 h1 hh fun x hx=>?_
  rcases List.mem_append.1 hx with hx | hx
  ·rw [(F5 _).1] at hx;exact h.A3 k h0 h1 x (List.mem_append_left _ hx)
  ·exact h.A3 k h0 h1 x (List.mem_append_right _ ((F5 _).2.2.2.2 x hx))
 | @free k h0 h1 _=>exact h.set h0 h1 hh fun x hx=>by cases hx
 | @goes k w s es h0 h1 g=>
  obtain⟨a,b⟩:=VH (fun q hq=>hq.2) h.home h.land h0 h1 g
  refine⟨hh,by rw [(LB H k w s es).1];exact a,fun j j0 j1=>?_⟩
  rw [GO H h0 h1 _ _ _ j0 j1]
  refine Lb.Df ?_ b
  split
  ·cases g with
   | left _ _=>exact fun x hx=>by cases hx
   | Jf _ _=>exact h.A3 k h0 h1
   | db _ _ _ _=>exact h.A3 k h0 h1
   | round=>exact h.A3 0 (Int.le_refl 0) (by decide)
  ·exact h.A3 j j0 j1
theorem Vb:Lb ((({ (default:Ae) with state:=1,Aw:=-1 }:Ae).offer 3).offer 31):=fun x hx=>by
 have:((({ (default:Ae) with state:=1,Aw:=-1 }:Ae).offer 3).offer 31).told++((({ (default:Ae) with state:=1,Aw:=-1 }:Ae).offer 3).offer 31).wait = []:=by decide
 rw [this] at hx;cases hx
theorem Plain.B8:UB (fun q=>q.length≤1000∧BK q=true) Plain where
 lines {H k} h h0 h1 q hq:=by
  have:=(h.home.M5 k h0 h1).ln.queue q hq
  unfold Bh.GX at this
  simp only [Bool.and_eq_true,Bool.not_eq_true',decide_eq_false_iff_not] at this
  exact⟨by omega,this.2⟩
 begun {H} h:=⟨Home.B8.begun h.home,by rw [(Pa H).1];exact h.land,fun k k0 k1 x hx=>by
  rw [E4 k0 k1] at hx
  exact h.A3 k k0 k1 x (List.mem_append_right _ hx)⟩
 step h s:=h.step s
 next {H k q r} h h0 h1 hs e:=by
  have hh:=Home.B8.next h.home h0 h1 hs e
  unfold AG.next at hh ⊢
  exact h.set h0 h1 hh (h.A3 k h0 h1)
 IU {H k} h h0 h1 hz:=h.set h0 h1 (Home.B8.IU h.home h0 h1 hz) Vb
 byte {H k u} h h0 h1 hs:=h.set h0 h1 (Home.B8.byte h.home h0 h1 hs) fun x hx=>by
  rw [(Dl _ _).1,(Dl _ _).2.2.2.1] at hx
  exact h.A3 k h0 h1 x hx
 Fl {H k n} h h0 h1 hs:=h.set h0 h1 (Home.B8.Fl h.home h0 h1 hs) (h.A3 k h0 h1)
end AG
end Go.Ing
/- What is sent to a seat: lines, the pager's own line, answers: plain laws. -/
namespace Go.Ing
open Go
inductive Piece
 | line (s:Ad)
 | more
 | VY (v:Int) (o:UInt8)
namespace Piece
def enc:Piece→Ad
 | line s=>Page.escape s ++ [13,10]
 | more=>Page.HO
 | VY v o=>AK.OQ v (o.toNat:Int)
def Ok:Piece→Prop
 | line s=>LX s
 | more=>True
 | VY v _=>251≤v∧v≤254
def text:Piece→Ad
 | line s=>s ++ [13,10]
 | more=>Page.HO
 | VY _ _=> []
end Piece
def flat (ps:List Piece):Ad:=ps.flatMap Piece.enc
def Cy:List Piece→List Ad
 | []=> []
 | .line s :: r=>s :: Cy r
 | .more :: r=>Cy r
 | .VY _ _ :: r=>Cy r
theorem F3:∀ p q:List Piece,Cy (p++q)=Cy p++Cy q
 | [],_=>rfl
 | .line s :: r,q=>by show s :: Cy (r++q)=_;rw [F3 r q];rfl
 | .more :: r,q=>F3 r q
 | .VY _ _ :: r,q=>F3 r q
theorem Oi (p q:List Piece):flat (p++q)=flat p++flat q:=List.flatMap_append
theorem ND {x:Page.Pg}(h:x.cut=false)(s:Ad):(Page.put x s).cut=true∨Page.put x s={ x with ring:=x.ring++s }:=by
 unfold Page.put
 rw [if_neg (by rw [h];decide)]
 split
 ·exact .inl rfl
 ·exact .inr rfl
theorem Xi (ht:Int)(l:List Ad){x:Page.Pg}(h:x.cut=true):Page.BH ht l x=(x,l):=by
 cases l with
 | nil=>rfl
 | cons s r=>unfold Page.BH;rw [if_pos (by rw [h];simp)]
theorem Nv (ht:Int):∀(l:List Ad) (x:Page.Pg),(∀ s∈l,LX s)→(Page.BH ht l x).1.cut=true∨∃ qs:List Piece,(∀ p∈qs,p.Ok)∧(Page.BH ht l x).1.ring=x.ring++flat qs∧Cy qs++(Page.BH ht l x).2=l
 | [],x,_=> .inr ⟨[],(fun _ h=>by cases h),by show x.ring=x.ring ++ [];rw [List.append_nil],rfl⟩
 | s :: r,x,h=>by
  by_cases c1:(x.B5 || x.cut)=true
  ·have e:Page.BH ht (s :: r) x=(x,s :: r):=by rw [Page.BH,if_pos c1]
   rw [e]
   exact .inr ⟨[],(fun _ h=>by cases h),by show x.ring=x.ring ++ [];rw [List.append_nil],rfl⟩
  ·have hc:x.cut=false:=by
    simp only [Bool.or_eq_true,not_or] at c1
    simpa using c1.2
   by_cases c2:(decide (0 < ht) && decide (ht≤x.shown))=true
   ·have e:Page.BH ht (s :: r) x=(Page.put { x with B5:=true } Page.HO,s :: r):=by rw [Page.BH,if_neg c1,if_pos c2]
    rw [e]
    rcases ND (x:={ x with B5:=true }) hc Page.HO with q | q
    ·exact .inl q
    ·rw [q]
     exact .inr ⟨[.more],fun p hp=>by rw [List.mem_singleton.1 hp];exact trivial,by show x.ring++Page.HO=x.ring++(Page.HO ++ []);rw [List.append_nil],rfl⟩
   ·have e:Page.BH ht (s :: r) x=Page.BH ht r (Page.put { x with shown:=min (x.shown+1) 200 } (Page.escape s ++ [13,10])):=by rw [Page.BH,if_neg c1,if_neg c2]
    rw [e]
    rcases ND (x:={ x with shown:=min (x.shown+1) 200 }) hc (Page.escape s ++ [13,10]) with q | q
    ·rw [Xi ht r q];exact .inl q
    ·rw [q]
     rcases Nv ht r { x with shown:=min (x.shown+1) 200,ring:=x.ring++(Page.escape s ++ [13,10]) } (fun u hu=>h u (List.mem_cons_of_mem _ hu)) with w | ⟨qs,w1,w2,w3⟩
     ·exact .inl w
     ·refine .inr ⟨.line s :: qs,fun p hp=>?_,?_,?_⟩
      ·rcases List.mem_cons.1 hp with rfl | hp
       ·exact h s (List.mem_cons_self ..)
       ·exact w1 p hp
      ·rw [w2]
       show x.ring++(Page.escape s ++ [13,10])++flat qs=x.ring++((Page.escape s ++ [13,10])++flat qs)
       rw [List.append_assoc]
      ·show s :: (Cy qs++_)=s :: r
       rw [w3]
theorem VX {p:Piece}(hp:p.Ok){X:AK}(h:X.at_=0):(X.feed p.enc).1.at_=0∧(X.feed p.enc).2.1=p.text:=by
 cases p with
 | line s=>
  have e:Page.escape s ++ [13,10]=Page.escape (s ++ [13,10]):=by rw [Page.LQ];rfl
  show(X.feed (Page.escape s ++ [13,10])).1.at_=0∧(X.feed (Page.escape s ++ [13,10])).2.1=s ++ [13,10]
  rw [e,AK.Nx X h]
  exact⟨h,rfl⟩
 | more=>
  have e:Page.HO=Page.escape Page.HO:=by decide
  show(X.feed Page.HO).1.at_=0∧(X.feed Page.HO).2.1=Page.HO
  have:=AK.Nx X h Page.HO
  rw [← e] at this
  rw [this]
  exact⟨h,rfl⟩
 | VY v o=>
  show(X.feed (AK.OQ v (o.toNat:Int))).1.at_=0∧(X.feed (AK.OQ v (o.toNat:Int))).2.1 = []
  rw [AK.aj hp h]
  exact⟨rfl,rfl⟩
theorem Q5:∀(ps:List Piece),(∀ p∈ps,p.Ok)→∀ {X:AK},X.at_=0→(X.feed (flat ps)).1.at_=0∧(X.feed (flat ps)).2.1=ps.flatMap Piece.text
 | [],_,X,h=>⟨h,rfl⟩
 | p :: r,hp,X,h=>by
  have h1:=VX (hp p (List.mem_cons_self ..)) h
  have h2:=Q5 r (fun q hq=>hp q (List.mem_cons_of_mem _ hq)) h1.1
  have e:flat (p :: r)=p.enc++flat r:=rfl
  rw [e,AK.Il]
  refine⟨h2.1,?_⟩
  show(X.feed p.enc).2.1++_=p.text++r.flatMap Piece.text
  rw [h1.2,h2.2]
def shown:List Piece→List Ad
 | []=> []
 | .line s :: r=>s :: shown r
 | .more :: r=>Kh :: shown r
 | .VY _ _ :: r=>shown r
def crlf (l:List Ad):Ad:=l.flatMap fun s=>s ++ [13,10]
theorem Ja:∀ ps:List Piece,ps.flatMap Piece.text=crlf (shown ps)
 | []=>rfl
 | .line s :: r=>by show(s ++ [13,10])++r.flatMap Piece.text=(s ++ [13,10])++crlf (shown r);rw [Ja r]
 | .more :: r=>by show Page.HO++r.flatMap Piece.text=(Kh ++ [13,10])++crlf (shown r);rw [Ja r];rfl
 | .VY _ _ :: r=>by show []++r.flatMap Piece.text=crlf (shown r);rw [Ja r];rfl
theorem Ik:∀ ps:List Piece,(∀ p∈ps,p.Ok)→(shown ps).filter (fun s=>!FL s)=Cy ps
 | [],_=>rfl
 | .line s :: r,h=>by
  have hs:LX s:=h _ (List.mem_cons_self ..)
  show List.filter _ (s :: shown r)=s :: Cy r
  rw [List.filter_cons_of_pos (by rw [hs.m];rfl),Ik r fun p hp=>h p (List.mem_cons_of_mem _ hp)]
 | .more :: r,h=>by
  show List.filter _ (Kh :: shown r)=Cy r
  rw [List.filter_cons_of_neg (by decide),Ik r fun p hp=>h p (List.mem_cons_of_mem _ hp)]
 | .VY _ _ :: r,h=>Ik r fun p hp=>h p (List.mem_cons_of_mem _ hp)
theorem Ii:∀ ps:List Piece,(∀ p∈ps,p.Ok)→∀ s∈shown ps,BK s=true
 | [],_,_,h=>by cases h
 | .line s :: r,h,u,hu=>by
  rcases List.mem_cons.1 hu with rfl | hu
  ·exact(show LX u from h _ (List.mem_cons_self ..)).c
  ·exact Ii r (fun p hp=>h p (List.mem_cons_of_mem _ hp)) u hu
 | .more :: r,h,u,hu=>by
  rcases List.mem_cons.1 hu with rfl | hu
  ·decide
  ·exact Ii r (fun p hp=>h p (List.mem_cons_of_mem _ hp)) u hu
 | .VY _ _ :: r,h,u,hu=>Ii r (fun p hp=>h p (List.mem_cons_of_mem _ hp)) u hu
def DB (u:Ad):Prop:=∃ qs:List Piece,(∀ p∈qs,p.Ok)∧Cy qs = []∧u=flat qs
theorem DB.nil:DB []:=⟨[],(fun _ h=>by cases h),rfl,rfl⟩
theorem DB.app {u v:Ad}(h:DB u)(k:DB v):DB (u++v):=by
 obtain⟨p,a,b,c⟩:=h
 obtain⟨q,d,e,f⟩:=k
 exact⟨p++q,fun x hx=>(List.mem_append.1 hx).elim (a x) (d x),by rw [F3,b,e];rfl,by rw [Oi,c,f]⟩
theorem DB.OQ {v:Int}(hv:251≤v∧v≤254)(o:UInt8):DB (AK.OQ v (o.toNat:Int)):=⟨[.VY v o],(fun p hp=>by rw [List.mem_singleton.1 hp];exact hv),rfl,by show _=AK.OQ v _ ++ [];rw [List.append_nil]⟩
theorem DB.Dz {v w:Int}(hv:251≤v∧v≤254)(hw:251≤w∧w≤254)(was:Int)(on:Bool)(o:UInt8):DB (AK.GP was on (o.toNat:Int) v w):=by
 unfold AK.GP
 split
 ·exact .OQ hv o
 ·split
  ·exact .OQ hw o
  ·exact .nil
theorem Qo (t:AK)(v:Int)(o:UInt8):DB (t.Bm v (o.toNat:Int)).2:=by
 unfold AK.Bm
 dsimp only
 split
 ·split
  ·exact .OQ (by decide) o
  ·exact(DB.Dz (v:=251) (w:=252) (by decide) (by decide) _ true o:DB (AK.GP (t.us.at (AK.place (o.toNat:Int)).1) true (o.toNat:Int) 251 252))
 ·split
  ·split
   ·exact(DB.Dz (v:=251) (w:=252) (by decide) (by decide) _ false o:DB (AK.GP (t.us.at (AK.place (o.toNat:Int)).1) false (o.toNat:Int) 251 252))
   ·exact .nil
  ·split
   ·split
    ·exact .OQ (by decide) o
    ·exact(DB.Dz (v:=253) (w:=254) (by decide) (by decide) _ true o:DB (AK.GP (t.Gb.at (AK.place (o.toNat:Int)).1) true (o.toNat:Int) 253 254))
   ·split
    ·split
     ·exact(DB.Dz (v:=253) (w:=254) (by decide) (by decide) _ false o:DB (AK.GP (t.Gb.at (AK.place (o.toNat:Int)).1) false (o.toNat:Int) 253 254))
     ·exact .nil
    ·exact .nil
theorem Tc (t:AK)(b:UInt8):DB (t.step b).2.2:=by
 unfold AK.step
 dsimp only
 split
 ·split<;>exact .nil
 ·split
  ·split
   ·exact .nil
   ·split
    ·exact .nil
    ·split<;>exact .nil
  ·split
   ·exact Qo t _ b
   ·split
    ·split<;>exact .nil
    ·split
     ·split
      ·exact .nil
      ·split<;>exact .nil
     ·exact .nil
theorem UJ:∀(u:Ad) (t:AK),DB (t.feed u).2.2
 | [],_=> .nil
 | b :: s,t=>(Tc t b).app (UJ s _)
theorem ZR (u:Ad)(t:AK):DB (t.DA u).2.2.1:=by
 unfold AK.DA
 split
 ·exact .nil
 ·exact UJ u t
end Go.Ing
/- What is sent to a seat: what an act does to it: plain laws. -/
namespace Go.Ing
open Go
namespace Ae
def OW (out:Ad)(all:List Ad)(s:Ae):Prop:=s.state=0∨s.pg.cut=true∨((∀ x∈all++s.told,LX x)→∃ ps:List Piece,(∀ p∈ps,p.Ok)∧out++s.pg.ring=flat ps∧Cy ps++s.wait=all++s.told)
section
variable {out:Ad} {all:List Ad} {s:Ae}
theorem jn (out:Ad)(all:List Ad):RU (OW out all) where
 zero s h:= .inl h
 tell s u ho h:=by
  rcases h with h | h | h
  ·exact .inl ((AG.Fu _ _).1.trans h)
  ·exact .inr (.inl (Zs u h))
  ·rcases cC ho u with c | c
   ·exact .inr (.inl c)
   ·rw [c]
    refine .inr (.inr fun hx=>?_)
    obtain⟨ps,a,b,d⟩:=h fun x hm=>hx x (by
     rcases List.mem_append.1 hm with hm | hm
     ·exact List.mem_append_left _ hm
     ·exact List.mem_append_right _ (List.mem_append_left _ hm))
    exact⟨ps,a,b,by show Cy ps++(s.wait ++ [u])=all++(s.told ++ [u]);rw [← List.append_assoc,d,List.append_assoc]⟩
 Jf s z hs h:=by
  rcases h with h | h | h
  ·omega
  ·exact .inr (.inl h)
  ·exact .inr (.inr h)
theorem OW.BH (ho:s.Ok)(h:OW out all s):OW out all s.BH:=by
 rcases h with h | h | h
 ·exact .inl ((AG.F5 _).2.1.trans h)
 ·exact .inr (.inl (W3 h))
 ·rw [Yq ho]
  unfold iU
  by_cases c:(decide (s.DZ.Bv < 0) || decide (200 < s.DZ.Bv))=true
  ·rw [if_pos c];exact .inr (.inr h)
  ·rw [if_neg c]
   by_cases hx:∀ x∈all++s.told,LX x
   ·obtain⟨ps,a,b,d⟩:=h hx
    rcases Nv s.DZ.Bv s.wait s.pg (fun u hu=>hx u (by rw [← d];exact List.mem_append_right _ hu)) with w | ⟨qs,w1,w2,w3⟩
    ·exact .inr (.inl w)
    ·refine .inr (.inr fun _=>⟨ps++qs,fun p hp=>(List.mem_append.1 hp).elim (a p) (w1 p),?_,?_⟩)
     ·show out++(Page.BH s.DZ.Bv s.wait s.pg).1.ring=flat (ps++qs)
      rw [w2,Oi,← b,List.append_assoc]
     ·show Cy (ps++qs)++(Page.BH s.DZ.Bv s.wait s.pg).2=all++s.told
      rw [F3,List.append_assoc,w3,d]
   ·exact .inr (.inr fun hy=>absurd hy hx)
theorem OW.next (h:OW out all s)(r:List Ad):OW out all ({ s with queue:=r }:Ae).E1:=h
theorem OW.Fl (h:OW out all s)(n:Int):OW (out++s.out n) all (s.Fl n):=by
 rcases h with h | h | h
 ·exact .inl h
 ·exact .inr (.inl h)
 ·refine .inr (.inr fun hx=>?_)
  obtain⟨ps,a,b,d⟩:=h hx
  exact⟨ps,a,by show out++s.pg.ring.take _++s.pg.ring.drop _=_;rw [List.append_assoc,List.take_append_drop,b],d⟩
theorem Yb (s:Ae)(u:Ad):(s.send u).pg.cut=true∨(s.send u).pg.ring=s.pg.ring∨(s.send u).pg.ring=s.pg.ring++u:=by
 unfold Ae.send
 split
 ·exact .inr (.inl rfl)
 ·split
  ·rename_i c;exact .inl c
  ·rename_i c
   rcases ND (x:=s.pg) (by simpa using c) u with q | q
   ·exact .inl q
   ·exact .inr (.inr (by show(Page.put s.pg u).ring=_;rw [q]))
theorem Zo (s:Ae)(u:Ad):(s.typed u).1.pg=s.pg:=by
 unfold Ae.typed
 split<;>rfl
theorem OW.VY (h:OW out all s){u:Ad}(hu:DB u){t:Ae}(hs:t.state=s.state)(hw:t.wait=s.wait)(ht:t.told=s.told)(hr:t.pg.cut=true∨t.pg.ring=s.pg.ring∨t.pg.ring=s.pg.ring++u)(hc:s.pg.cut=true→t.pg.cut=true):OW out all t:=by
 rcases h with h | h | h
 ·exact .inl (hs.trans h)
 ·exact .inr (.inl (hc h))
 ·rcases hr with hr | hr | hr
  ·exact .inr (.inl hr)
  ·exact .inr (.inr (by rw [hw,ht,hr];exact h))
  ·refine .inr (.inr fun hx=>?_)
   rw [ht] at hx
   obtain⟨ps,a,b,d⟩:=h hx
   obtain⟨qs,e,f,g⟩:=hu
   exact⟨ps++qs,fun p hp=>(List.mem_append.1 hp).elim (a p) (e p),by rw [hr,← List.append_assoc,b,Oi,g],by rw [F3,f,List.append_nil,hw,ht];exact d⟩
theorem Zm {s:Ae}(u:Ad)(h:s.pg.cut=true):(s.send u).pg.cut=true:=by
 unfold Ae.send
 split
 ·exact h
 ·exact h
theorem OW.typed (h:OW out all s)(u:Ad):OW out all (Cv s u).1:=by
 have k:=Dl s u
 have e:(Cv s u).1.pg=(({ s with DZ:=(s.DZ.DA u).1 }:Ae).send (s.DZ.DA u).2.2.1).pg:=Zo _ _
 exact h.VY (ZR u s.DZ) k.2.1 k.2.2.2.1 k.1 (by rw [e];exact Yb _ _) (fun c=>by rw [e];exact Zm _ c)
end
end Ae
end Go.Ing
/- What is sent to a seat: through acts: plain laws. -/
namespace Go.Ing
open Go
namespace AG
structure LU (U:Ad→Prop)(Z:AG)(P:AG→Prop):Prop where
 lines:∀ {H k},P H→0≤k→k < 4→∀ q∈(H.at_ k).queue,U q
 step:∀ {H X},P H→Step U H X→P X
 next:∀ {H k q r},P H→0≤k→k < 4→(H.at_ k).state≠0→(H.at_ k).queue=q :: r→P (H.next k r)
 IU:∀ {k},0≤k→k < 4→(Z.at_ k).state=0→P (Z.set k ((({ (default:Ae) with state:=1,Aw:=-1 }:Ae).offer 3).offer 31))
 byte:∀ {k u},0≤k→k < 4→(Z.at_ k).state≠0→P (Z.set k (Cv (Z.at_ k) u).1)
section
variable {U:Ad→Prop} {P:AG→Prop} {H X Z:AG} (K:LU U Z P)
include K
theorem LU.steps (h:P H)(s:Steps U H X):P X:=Steps.J7 (fun h s=>K.step h s) h s
theorem LU.Dz (h:P H){k:Int}(h0:0≤k)(h1:k < 4):P (H.Dz k):=by
 rcases ME (U:=U) H h0 h1 (K.lines h h0 h1) with ⟨_,e⟩ | ⟨q,r,hs,e,s⟩
 ·rw [e];exact h
 ·exact K.steps (K.next h h0 h1 hs e) s
theorem LU.turns (h:P H):∀ k:Nat,k≤4→P (H.turns k)
 | 0,_=>h
 | k+1,hk=>K.Dz (LU.turns h k (by omega)) (by omega) (by omega)
theorem LU.BH (h:P H):P H.BH:=K.steps h (Jd H)
theorem LU.told (h:P H){k:Int}(h0:0≤k)(h1:k < 4)(hs:(H.at_ k).state≠0){u:Ad}(hu:u∈TI):P (H.tell k u):=K.step h (.told h0 h1 hs hu)
theorem LU.DJ (h:P Z)(a:Br)(h3:a.kind≠3):P (Z.DJ a).1:=by
 unfold AG.DJ
 split
 ·have hp:=K.BH (K.steps (K.turns h 4 (Nat.le_refl 4)) (Ir (Z.turns 4) a.n))
  dsimp only
  unfold AG.Np
  exact hp
 ·split
  ·exact h
  ·split
   ·exact h
   ·rename_i c
    have hs:0≤a.A3∧a.A3 < 4:=by simp only [Bool.or_eq_true,decide_eq_true_eq] at c;omega
    split
    ·exact h
    ·rename_i c2
     have c2':decide ((Z.at_ a.A3).state=0)=decide (a.kind=1):=by simpa using c2
     split
     ·rename_i c3
      have hz:(Z.at_ a.A3).state=0:=of_decide_eq_true (c2'.trans c3)
      have h1:=K.IU hs.1 hs.2 hz
      have h2:=K.BH (K.told (u:=G9) h1 hs.1 hs.2 (by
       rw [CN _ hs.1 hs.2 hs.1,if_pos rfl,EY,EY]
       exact(by decide:(1:Int)≠0)) (List.mem_cons_self ..))
      dsimp only
      unfold AG.IU
      exact h2
     ·rename_i c3
      have hz:(Z.at_ a.A3).state≠0:=fun e=>c3 (by rw [← c2'];exact decide_eq_true e)
      split
      ·have h1:=K.byte hs.1 hs.2 hz (u:=a.bytes)
       have h2:=K.BH h1
       have h3:=K.BH (K.told (u:=OF) h1 hs.1 hs.2 (by rw [CN _ hs.1 hs.2 hs.1,if_pos rfl,(Dl _ _).2.1];exact hz) (List.mem_cons_of_mem _ (List.mem_cons_self ..)))
       dsimp only
       rw [HE]
       split
       ·exact h3
       ·exact h2
      ·split
       ·rename_i c4;exact absurd (of_decide_eq_true c4) h3
       ·have h1:=K.BH (K.steps h (F4 Z hs.1 hs.2))
        dsimp only
        exact h1
end
section
open Ae
variable {i:Int} {Z:AG}
theorem bH:OW [] [] ((({ (default:Ae) with state:=1,Aw:=-1 }:Ae).offer 3).offer 31):=
 .inr (.inr fun _=>⟨[.VY 251 3, .VY 253 31],(fun p hp=>by
  rcases List.mem_cons.1 hp with rfl | hp
  ·exact(by decide:(251:Int)≤251∧(251:Int)≤254)
  ·rw [List.mem_singleton.1 hp];exact(by decide:(251:Int)≤253∧(253:Int)≤254)),by decide,by decide⟩)
theorem ZL (i0:0≤i)(i1:i < 4)(hO:Z.HK)(a:Br){out:Ad}{all:List Ad}(hz:(Z.at_ i).state=0→out = []∧all = [])(h:OW out all (Z.at_ i)):OW (if a.kind=3∧a.A3=i then out++(Z.DJ a).2.out else out) all ((Z.DJ a).1.at_ i):=by
 by_cases h3:a.kind=3
 ·have e:Z.DJ a=if (decide (a.A3 < 0) || decide (4≤a.A3))=true then(Z,⟨2,[]⟩) else if (decide ((Z.at_ a.A3).state=0) != decide (a.kind=1))=true then(Z,⟨3,[]⟩) else((Z.set a.A3 ((Z.at_ a.A3).Fl a.n)).BH,⟨0,(Z.at_ a.A3).out a.n⟩):=by
   unfold AG.DJ
   rw [if_neg (show ¬ decide (a.kind=5)=true by rw [h3];decide),if_neg (show ¬ (decide (a.kind < 1) || decide (5 < a.kind))=true by rw [h3];decide)]
   rw [if_neg (show ¬ decide (a.kind=1)=true by rw [h3];decide),if_neg (show ¬ decide (a.kind=2)=true by rw [h3];decide),if_pos (show decide (a.kind=3)=true by rw [h3];decide)]
  rw [e]
  have none:OW (if a.kind=3∧a.A3=i then out ++ [] else out) all (Z.at_ i):=by rw [List.append_nil];split<;>exact h
  by_cases c:(decide (a.A3 < 0) || decide (4≤a.A3))=true
  ·rw [if_pos c];exact none
  rw [if_neg c]
  have hs:0≤a.A3∧a.A3 < 4:=by simp only [Bool.or_eq_true,decide_eq_true_eq] at c;omega
  by_cases c2:(decide ((Z.at_ a.A3).state=0) != decide (a.kind=1))=true
  ·rw [if_pos c2];exact none
  rw [if_neg c2]
  dsimp only
  have BH:∀ {o:Ad} {s:Ae},s.Ok→OW o all ((Z.set a.A3 s).at_ i)→OW o all ((Z.set a.A3 s).BH.at_ i):=fun {o s} ho hp=>(UT (jn o all) (fun _ ho h=>h.BH ho) i0 i1 (hO.set hs.1 hs.2 ho) hp (Jd (U:=fun _=>True) _)).2
  refine BH ((hO _ hs.1 hs.2).Fl a.n) ?_
  by_cases q:a.A3=i
  ·rw [if_pos ⟨h3,q⟩,CN _ hs.1 hs.2 i0,if_pos q.symm,q]
   exact h.Fl a.n
  ·rw [if_neg (fun e=>q e.2),CN _ hs.1 hs.2 i0,if_neg (fun e=>q e.symm)]
   exact h
 ·rw [if_neg (fun e=>h3 e.1)]
  have K:LU (fun _=>True) Z (fun H=>H.HK∧OW out all (H.at_ i)):={
   lines:=fun _ _ _ _ _=>trivial
   step:=fun h s=>⟨h.1.step s,QQ (jn out all) (fun _ ho h=>h.BH ho) i0 i1 h.1 h.2 s⟩
   next:=fun {H k q r} h h0 h1 _ e=>⟨by unfold AG.next;exact h.1.set h0 h1 ((h.1 k h0 h1).next e),by
    rw [cP h0 h1 r i0];split
    ·rename_i c;subst c;exact h.2.next r
    ·exact h.2⟩
   IU:=fun {k} h0 h1 hk=>⟨hO.set h0 h1 ba,by
    rw [CN _ h0 h1 i0];split
    ·rename_i c;subst c;obtain⟨rfl,rfl⟩:=hz hk;exact bH
    ·exact h⟩
   byte:=fun {k u} h0 h1 _=>⟨hO.set h0 h1 ((hO k h0 h1).typed u),by
    rw [CN _ h0 h1 i0];split
    ·rename_i c;subst c;exact h.typed u
    ·exact h⟩ }
  exact(LU.DJ K ⟨hO,h⟩ a h3).2
end
end AG
end Go.Ing
/- What is sent to a seat: behind each act: plain laws. -/
namespace Go.Ing
open Go
namespace AG
structure GN (i:Int)(out:Ad)(all:List Ad)(H:AG):Prop where
 zero:(H.at_ i).state=0→out = []∧all = []
 clean:∀ x∈all,LX x
 ps:(H.at_ i).state≠0→∃ ps:List Piece,(∀ p∈ps,p.Ok)∧out++(H.at_ i).pg.ring=flat ps∧Cy ps++(H.at_ i).wait=all
 ol:(out.length:Int)≤700 * H.B8
 al:(all.length:Int)≤1000 * H.B8
theorem Zl:AE.Hc AH.new:=by
 refine⟨fun i=>?_,fun i=>?_,fun i=>?_⟩
 ·rcases Vector.JR AH.new.AP i with e | ⟨j,j0,j1,e⟩
  ·rw [e];decide
  ·rw [e]
   have:j=0∨j=1∨j=2∨j=3∨j=4∨j=5∨j=6∨j=7∨j=8:=by omega
   rcases this with h | h | h | h | h | h | h | h | h<;>subst h<;>decide
 ·rcases Vector.JR AH.new.AO i with e | ⟨j,j0,j1,e⟩
  ·rw [e];decide
  ·rw [e]
   have:j=0∨j=1∨j=2∨j=3∨j=4∨j=5:=by omega
   rcases this with h | h | h | h | h | h<;>subst h<;>decide
 ·rcases Vector.JR AH.new.BT i with e | ⟨j,j0,j1,e⟩
  ·rw [e];decide
  ·rw [e]
   have:j=0∨j=1∨j=2∨j=3∨j=4∨j=5:=by omega
   rcases this with h | h | h | h | h | h<;>subst h<;>decide
theorem WC {H:AG}(h:H.Hz)(a:Br):(H.act a).2.out.length≤700:=by
 unfold AG.act
 split
 ·exact Nat.zero_le _
 ·have ho:=h.home.M5.begun
  unfold AG.DJ
  split
  ·exact Nat.zero_le _
  ·split
   ·exact Nat.zero_le _
   ·split
    ·exact Nat.zero_le _
    ·rename_i c
     have hs:0≤a.A3∧a.A3 < 4:=by simp only [Bool.or_eq_true,decide_eq_true_eq] at c;omega
     split
     ·exact Nat.zero_le _
     ·split
      ·exact Nat.zero_le _
      ·split
       ·exact Nat.zero_le _
       ·split
        ·have:=(ho a.A3 hs.1 hs.2).ring
         show((H.begun.at_ a.A3).pg.ring.take _).length≤700
         rw [List.length_take]
         omega
        ·exact Nat.zero_le _
theorem W9:AG.new.Plain:=⟨TM,Zl,fun k k0 k1 x hx=>by
 rw [MF k0 k1] at hx
 cases hx⟩
open Ae in
theorem GN.act {H:AG}(hF:H.Hz)(hP:H.Plain)(c:H.B8 < 400)(a:Br){i:Int}(i0:0≤i)(i1:i < 4){out:Ad}{all:List Ad}(h:GN i out all H) :
  GN i (if ((H.act a).1.at_ i).state=0 then [] else if a.kind=3∧a.A3=i then out++(H.act a).2.out else out) (if ((H.act a).1.at_ i).state=0 then [] else all++((H.act a).1.at_ i).told) (H.act a).1:=by
 have f1:=hF.act a
 have p1:=Plain.B8.act hP a
 have ha:=Pp H a
 rw [if_neg (by omega)] at ha
 have h0:=hF.live.B8
 have tl:((H.act a).1.at_ i).told.length≤1000:=f1.live.fit.told i i0 i1
 have rl:(H.act a).2.out.length≤700:=WC hF a
 have sc:OW (if a.kind=3∧a.A3=i then out++(H.act a).2.out else out) all ((H.act a).1.at_ i):=by
  rw [GA (decide_eq_false (by omega)) a]
  refine ZL i0 i1 hF.home.M5.begun a ?_ ?_
  ·rw [E4 i0 i1];exact h.zero
  ·rw [E4 i0 i1]
   by_cases z:(H.at_ i).state=0
   ·exact .inl z
   ·obtain⟨ps,x,y,w⟩:=h.ps z
    exact .inr (.inr fun _=>⟨ps,x,y,by show Cy ps++(H.at_ i).wait=all ++ [];rw [List.append_nil];exact w⟩)
 by_cases z:((H.act a).1.at_ i).state=0
 ·rw [if_pos z,if_pos z]
  exact⟨fun _=>⟨rfl,rfl⟩,(fun x hx=>by cases hx),fun e=>absurd z e,(by show(0:Int)≤_;omega),(by show(0:Int)≤_;omega)⟩
 ·rw [if_neg z,if_neg z]
  have hc:∀ x∈all++((H.act a).1.at_ i).told,LX x:=fun x hx=>(List.mem_append.1 hx).elim (h.clean x) fun hx=>p1.A3 i i0 i1 x (List.mem_append_left _ hx)
  have hl:=h.ol
  have hm:=h.al
  refine⟨fun e=>absurd e z,hc,fun _=>?_,?_,?_⟩
  ·rcases sc with s | s | s
   ·exact absurd s z
   ·have:=f1.cut i0 i1
    rw [s] at this;cases this
   ·exact s hc
  ·split
   ·rw [List.length_append];omega
   ·omega
  ·rw [List.length_append];omega
end AG
end Go.Ing
/- What a look at a seat finds: plain laws. -/
namespace Go.Ing
open Go
structure E6 (out ring:Ad)(all wait:List Ad)(ps:List Piece):Prop where
 ok:∀ p∈ps,p.Ok
 text:out++ring=flat ps
 lines:Cy ps++wait=all
section
variable {out ring:Ad} {all wait:List Ad} {ps:List Piece} (h:E6 out ring all wait ps)
include h
theorem E6.n:(all.length:Int) - (wait.length:Int)=(Cy ps).length:=by
 rw [← h.lines,List.length_append];omega
theorem E6.drop:all.drop ((all.length:Int) - (wait.length:Int)).toNat=wait:=by
 rw [h.n,Int.toNat_natCast,← h.lines,List.drop_left]
theorem E6.take:all.take ((all.length:Int) - (wait.length:Int)).toNat=Cy ps:=by
 rw [h.n,Int.toNat_natCast,← h.lines,List.take_left]
theorem E6.feed {X:AK}(hg:X.Bk=true)(h0:X.at_=0):(X.DA (out++ring)).2.1=crlf (shown ps)∧(X.DA (out++ring)).2.2.2=0:=by
 have e:X.DA (out++ring)=((X.feed (out++ring)).1,(X.feed (out++ring)).2.1,(X.feed (out++ring)).2.2,0):=if_neg (by rw [hg];decide)
 rw [e]
 refine⟨?_,rfl⟩
 show(X.feed (out++ring)).2.1=_
 rw [h.text,(Q5 ps h.ok h0).2,Ja]
end
theorem AG.GN.facts {i:Int}{out:Ad}{all:List Ad}{V:AN}{ls:Vector BD 4}{ev:List Event}(i0:0≤i)(i1:i < 4)(h:AG.GN i out all (A7 V ls ev))(hs:(V.Ar.at i).state≠0):∃ ps,E6 out (V.Ar.at i).out.ring all (ls.at i).wait ps:=by
 obtain⟨ps,a,b,c⟩:=h.ps (by rw [CV _ _ _ i0 i1];exact hs)
 rw [CV _ _ _ i0 i1] at b c
 exact⟨ps,a,b,c⟩
theorem ag {l:List Ad}:crlf l = []↔l = []:=by
 cases l with
 | nil=>exact⟨fun _=>rfl,fun _=>rfl⟩
 | cons s r=>
  refine⟨fun h=>?_,fun h=>by cases h⟩
  have:(crlf (s :: r)).length=s.length+2+(crlf r).length:=by
   show((s ++ [13,10])++crlf r).length=_
   simp only [List.length_append,List.length_cons,List.length_nil]
  rw [h] at this
  simp at this
  omega
theorem RX (s:Ad)(r:List Ad):crlf (s :: r)=s++([13,10]++crlf r):=by
 show(s ++ [13,10])++crlf r=_
 rw [List.append_assoc]
theorem iG {s:Ad}(h:BK s=true):∀ b∈s,b≠13:=fun b hb e=>by
 have:=List.all_eq_true.1 h b hb
 subst e
 exact absurd this (by decide)
theorem Rf:(default:AK).Bk=true∧(default:AK).at_=0:=by decide
namespace AG
theorem GN.new {i:Int}(i0:0≤i)(i1:i < 4):GN i [] [] AG.new:=⟨fun _=>⟨rfl,rfl⟩,(fun x hx=>by cases hx),fun e=>absurd (by rw [MF i0 i1];rfl) e,Int.le_refl 0,Int.le_refl 0⟩
end AG
end Go.Ing
/- Lines cut out of a text: plain laws. -/
namespace Go.Ing
open Go
theorem O0:∀(s:Ad) (t:Ad),BK s=true→Lib.index (s++([13,10]++t)) [13,10]=s.length
 | [],t,_=>by
  show Lib.index (13 :: 10 :: t) [13,10]=0
  unfold Lib.index
  rw [if_pos (by simp [List.isPrefixOf])]
 | b :: r,t,h=>by
  have hb:b≠13:=iG h b (List.mem_cons_self ..)
  have hr:BK r=true:=by
   unfold BK at *
   rw [List.all_cons,Bool.and_eq_true] at h
   exact h.2
  have ih:=O0 r t hr
  show Lib.index (b :: (r++([13,10]++t))) [13,10]=_
  unfold Lib.index
  rw [if_neg (by simp [List.isPrefixOf,Ne.symm hb]),ih]
  rw [if_neg (by first | (simp;done) | (simp;omega)),List.length_cons]
  omega
theorem ai {s:Ad}(t:Ad)(h:BK s=true):Lib.cut (s++([13,10]++t)) [13,10]=(s,t,true):=by
 unfold Lib.cut
 rw [O0 s t h,if_pos (by omega),Int.toNat_natCast]
 refine Prod.ext ?_ (Prod.ext ?_ rfl)
 ·exact List.take_left
 ·show(s++([13,10]++t)).drop (s.length+2)=t
  rw [← List.drop_drop,List.drop_left]
  rfl
theorem Yg {s:Ad}(r:List Ad)(h:BK s=true):Lib.cut (crlf (s :: r)) [13,10]=(s,crlf r,true):=by
 rw [RX];exact ai _ h
end Go.Ing
/- Four slices of one's own, by place: engine. -/
namespace Go.Ing
open Go
instance:Inhabited Hd:=⟨⟨none,0,0⟩⟩
abbrev T1 (T:Nat)(hs:Vector Hd 4)(ls:Vector (List Ad) 4)(k:Int):Ab:=Ab.own (hs.at k) T 1 ((ls.at k).flatMap A6)
def Iu (T:Nat)(hs:Vector Hd 4)(ls:Vector (List Ad) 4):List Ab:= [T1 T hs ls 0,T1 T hs ls 1,T1 T hs ls 2,T1 T hs ls 3]
def Ic (T:Nat)(k:Int)(hs:Vector Hd 4)(ls:Vector (List Ad) 4):List Ab:=
 if k=0 then [T1 T hs ls 1,T1 T hs ls 2,T1 T hs ls 3]
 else if k=1 then [T1 T hs ls 0,T1 T hs ls 2,T1 T hs ls 3]
 else if k=2 then [T1 T hs ls 0,T1 T hs ls 1,T1 T hs ls 3]
 else [T1 T hs ls 0,T1 T hs ls 1,T1 T hs ls 2]
theorem Qu (T:Nat){k:Int}(h0:0≤k)(h1:k < 4)(hs:Vector Hd 4)(ls:Vector (List Ad) 4):(Iu T hs ls).Perm (T1 T hs ls k :: Ic T k hs ls):=by
 unfold Iu Ic
 rcases four h0 h1 with e | e | e | e<;>subst e
 ·exact .refl _
 ·exact .swap ..
 ·exact((List.Perm.swap (T1 T hs ls 2) (T1 T hs ls 1) [T1 T hs ls 3]).cons (T1 T hs ls 0)).trans (.swap ..)
 ·exact(List.perm_append_comm (l₁:= [T1 T hs ls 0,T1 T hs ls 1,T1 T hs ls 2]) (l₂:= [T1 T hs ls 3]))
theorem Xs (T:Nat){k:Int}(h0:0≤k)(h1:k < 4)(hs:Vector Hd 4)(ls:Vector (List Ad) 4)(v:Hd)(l:List Ad):Ic T k (hs.put k v) (ls.put k l)=Ic T k hs ls:=by
 have hv:∀ i:Int,0≤i→i≠k→T1 T (hs.put k v) (ls.put k l) i=T1 T hs ls i:=fun i hi hn=>by
  unfold T1
  rw [Vector.EM h0 h1 hi hn,Vector.EM h0 h1 hi hn]
 unfold Ic
 rcases four h0 h1 with e | e | e | e<;>subst e
 ·rw [if_pos rfl,if_pos rfl,hv 1 (by decide) (by decide),hv 2 (by decide) (by decide),hv 3 (by decide) (by decide)]
 ·rw [if_neg (by decide),if_pos rfl,if_neg (by decide),if_pos rfl,hv 0 (by decide) (by decide),hv 2 (by decide) (by decide),hv 3 (by decide) (by decide)]
 ·rw [if_neg (by decide),if_neg (by decide),if_pos rfl,if_neg (by decide),if_neg (by decide),if_pos rfl,hv 0 (by decide) (by decide),hv 1 (by decide) (by decide),hv 3 (by decide) (by decide)]
 ·rw [if_neg (by decide),if_neg (by decide),if_neg (by decide),if_neg (by decide),if_neg (by decide),if_neg (by decide),hv 0 (by decide) (by decide),hv 1 (by decide) (by decide),hv 2 (by decide) (by decide)]
section
variable {P:Program} {n:Nat} {w0 w:World} {M:List Nat} {Q:Exit→Go.Act→World→Prop} {F:List (Nat × Value)} {L:List Ab} {cd:Code} {T:Nat} {hs:Vector Hd 4} {ls:Vector (List Ad) 4} {k:Int}
theorem St.gA (h0:0≤k)(h1:k < 4)(h:St w0 M w (Ab.DP (Iu T hs ls) :: L)):St w0 M w (T1 T hs ls k :: Ab.DP (Ic T k hs ls) :: L):=by
 have h2:=(h.WG).perm ((Qu T h0 h1 hs ls).append_right L)
 have h3:St w0 M w (Ic T k hs ls++(T1 T hs ls k :: L)):=h2.perm (H5 [T1 T hs ls k] (Ic T k hs ls) L)
 exact h3.Wi.perm (.swap ..)
theorem St.ed (h0:0≤k)(h1:k < 4){v:Hd}{l:List Ad}(h:St w0 M w (Ab.own v T 1 (l.flatMap A6) :: Ab.DP (Ic T k hs ls) :: L)):St w0 M w (Ab.DP (Iu T (hs.put k v) (ls.put k l)) :: L):=by
 have h2:St w0 M w (Ic T k hs ls++(Ab.own v T 1 (l.flatMap A6) :: L)):=(h.perm (.swap ..)).WG
 have h3:St w0 M w ((Ab.own v T 1 (l.flatMap A6) :: Ic T k hs ls)++L):=h2.perm (H5 (Ic T k hs ls) [Ab.own v T 1 (l.flatMap A6)] L)
 refine(h3.perm (List.Perm.append_right L ?_)).Wi
 have hp:=(Qu T h0 h1 (hs.put k v) (ls.put k l)).symm
 rw [Xs T h0 h1] at hp
 have e:T1 T (hs.put k v) (ls.put k l) k=Ab.own v T 1 (l.flatMap A6):=by
  unfold T1
  rw [Vector.CA h0 h1,Vector.CA h0 h1]
 rw [e] at hp
 exact hp
theorem cX (h0:0≤k)(h1:k < 4)(h:G P n w0 M cd Q F (T1 T hs ls k :: Ab.DP (Ic T k hs ls) :: L)):G P n w0 M cd Q F (Ab.DP (Iu T hs ls) :: L):=fun a w hF hS=>h a w hF (hS.gA h0 h1)
theorem Q6 {e:Exit}(h0:0≤k)(h1:k < 4){v:Hd}{l:List Ad}(h:GQ n w0 M Q e F (Ab.DP (Iu T (hs.put k v) (ls.put k l)) :: L)):GQ n w0 M Q e F (Ab.own v T 1 (l.flatMap A6) :: Ab.DP (Ic T k hs ls) :: L):=fun a w hF hS=>h a w hF (hS.ed h0 h1)
end
end Go.Ing
/- The look of TopTranscript, seat by seat: plain laws. -/
namespace Go.Ing
open Go
abbrev bN (V:AN)(a:Br)(r:Bl)(O:Vector Ad 4)(j:Int):Ad:=if (V.Ar.at j).state=0 then [] else if a.kind=3∧a.A3=j then O.at j++r.out else O.at j
abbrev Gj (V:AN)(ls:Vector BD 4)(A:Vector (List Ad) 4)(j:Int):List Ad:=if (V.Ar.at j).state=0 then [] else A.at j++(ls.at j).told
structure LO (V:AN)(ls:Vector BD 4)(ev:List Event)(a:Br)(r:Bl)(O:Vector Ad 4)(A:Vector (List Ad) 4):Prop where
 at_:∀ j:Int,0≤j→j < 4→AG.GN j (bN V a r O j) (Gj V ls A j) (A7 V ls ev)
 ol:∀ j:Int,0≤j→j < 4→((O.at j).length:Int)≤280000
 al:∀ j:Int,0≤j→j < 4→((A.at j).length:Int)≤400000
 rl:r.out.length≤700
theorem eu {H:AG}(hF:H.Hz)(hP:H.Plain)(c:H.B8 < 400){a:Br}{V:AN}{ls:Vector BD 4}{ev:List Event}(e:A7 V ls ev=(H.act a).1){r:Bl}(hr:r=(H.act a).2){O:Vector Ad 4}{A:Vector (List Ad) 4}(h:∀ j:Int,0≤j→j < 4→AG.GN j (O.at j) (A.at j) H):LO V ls ev a r O A where
 at_ j j0 j1:=by
  have:=AG.GN.act hF hP c a j0 j1 (h j j0 j1)
  rw [← e,← hr,CV _ _ _ j0 j1] at this
  exact this
 ol j j0 j1:=by have:=(h j j0 j1).ol;omega
 al j j0 j1:=by have:=(h j j0 j1).al;omega
 rl:=by rw [hr];exact AG.WC hF a
def PH (V:AN)(ls:Vector BD 4)(ev:List Event)(O O1:Vector Ad 4)(A A1:Vector (List Ad) 4)(k:Int):Prop:=∀ j:Int,0≤j→j < 4→(j < k→AG.GN j (O1.at j) (A1.at j) (A7 V ls ev))∧(k≤j→O1.at j=O.at j∧A1.at j=A.at j)
theorem PH.start (V:AN)(ls:Vector BD 4)(ev:List Event)(O:Vector Ad 4)(A:Vector (List Ad) 4):PH V ls ev O O A A 0:=fun j j0 _=>⟨fun h=>by omega,fun _=>⟨rfl,rfl⟩⟩
theorem PH.at {V:AN}{ls:Vector BD 4}{ev:List Event}{O O1:Vector Ad 4}{A A1:Vector (List Ad) 4}{k:Int}(h:PH V ls ev O O1 A A1 k)(k0:0≤k)(k1:k < 4):O1.at k=O.at k∧A1.at k=A.at k:=(h k k0 k1).2 (Int.le_refl k)
theorem PH.next {V:AN}{ls:Vector BD 4}{ev:List Event}{O O1:Vector Ad 4}{A A1:Vector (List Ad) 4}{k:Int}(h:PH V ls ev O O1 A A1 k)(k0:0≤k)(k1:k < 4){o:Ad}{l:List Ad}(hs:AG.GN k o l (A7 V ls ev)):PH V ls ev O (O1.put k o) A (A1.put k l) (k+1):=fun j j0 j1=>by
 rw [H3 _ _ _ _ k0 k1 j0,H3 _ _ _ _ k0 k1 j0]
 split
 ·rename_i q
  subst q
  exact⟨fun _=>hs,fun h=>by omega⟩
 ·exact⟨fun q=>(h j j0 j1).1 (by omega),fun q=>(h j j0 j1).2 (by omega)⟩
theorem PH.done {V:AN}{ls:Vector BD 4}{ev:List Event}{O O1:Vector Ad 4}{A A1:Vector (List Ad) 4}(h:PH V ls ev O O1 A A1 4):∀ j:Int,0≤j→j < 4→AG.GN j (O1.at j) (A1.at j) (A7 V ls ev):=fun j j0 j1=>(h j j0 j1).1 j1
end Go.Ing
/- strings.Cut at any separator, by the kit's shelf: engine. -/
namespace Go.Ing
open Go
def GI (g:Nat)(w:World):Prop:=∃ m:Int,GV g [.int .i64 m] w
section
variable {w0 w:World} {M:List Nat} {L A K:List Ab} {g:Nat}
theorem GI.st (h:GI g w0)(hS:St w0 [] w L):GI g w:=by
 obtain⟨m,h⟩:=h;exact⟨m,h.st hS⟩
theorem GI.stM (h:GI g w0)(hM:g ∉ M)(hS:St w0 M w L):GI g w:=by
 obtain⟨m,h⟩:=h;exact⟨m,h.stM hM hS⟩
theorem GI.pull (h:GI g w0)(hM:g ∉ M)(hS:St w0 M w L)(hp:Ax L A K):GI g w∧g ∉ Ch A:=by
 obtain⟨m,h⟩:=h;exact⟨⟨m,h.stM hM hS⟩,Mb h.lt hM hS hp⟩
theorem GI.cell (h:GI g w):∃ m:Int,w.cell? ⟨g,0,none⟩=some (.int .i64 m):=by
 obtain⟨m,t,fz,h⟩:=h
 exact⟨m,by simp [World.cell?,h]⟩
end
theorem VU (w:World)(n:Nat):CH w (w.drewN n):=⟨rfl,rfl,rfl,Nat.le_refl _,fun _ _=>rfl⟩
theorem cb {P:Program}{ρ:Shelf.Ren}(L:Proofs.Lays.n145 P ρ)(s sep:Ad)(hs:s.length < 4294967281)(w:World)(h1:GI (ρ.g 1) w) :
  Ev P (ρ.f 145) #[BW s,BW sep] w fun v w'=>v = .tuple #[BW (Lib.cut s sep).1,BW (Lib.cut s sep).2.1, .bool (Lib.cut s sep).2.2]∧CH w w':=by
 obtain⟨m,hm⟩:=h1.cell
 have hsz:(⟨s.toArray⟩:ByteArray).size=s.length:=by simp [ByteArray.size]
 have hl:(⟨s.toArray⟩:ByteArray).data.toList=s:=by simp
 have hp:(⟨sep.toArray⟩:ByteArray).data.toList=sep:=by simp
 refine Calls.mono (Proofs.Any.strings_Cut L ⟨s.toArray⟩ ⟨sep.toArray⟩ m w (by omega) hm) fun e w' ⟨e1,n,e2⟩=>?_
 subst e2
 rw [hl,hp] at e1
 exact⟨_,e1,rfl,VU w n⟩
end Go.Ing
/- Some int stands in a variable, by the shape of the world: engine. -/
namespace Go.Ing
open Go
theorem Tp {P:Program}{w:World}{g:Nat}{t:TypeId}{zero:Array Value}{v:Int}(h:w.ShapedOpen P)(hg:g < P.globals.size)
  (h0:((begin P (fun _ _=>0) default).world.heap[g]?).bind Obj.row?=some (zero,t)) (hz:zero=#[.int .i64 v])
  (hc:∃ m,w.cell? ⟨g,0,none⟩=some (.int .i64 m)):GI g w:=by
 obtain⟨cs,hh,hs,_⟩:=h.1 g zero t hg h0
 obtain⟨m,hm⟩:=hc
 have h1:cs.size=1:=by rw [hs,hz];rfl
 have e:cs=#[.int .i64 m]:=by
  have h2:0 < cs.size:=by omega
  have h3:cs[0] = .int .i64 m:=by simpa [World.cell?,hh,h2] using hm
  apply Array.ext
  ·simp [h1]
  ·intro i hi _
   have:i=0:=by omega
   subst this
   simpa using h3
 rw [e] at hh
 exact⟨m,t,_,hh⟩
end Go.Ing
/- The lines that are cut out of what a seat is sent: plain laws of the look of TopTranscript. -/
namespace Go.Ing
open Go
theorem LO.facts {V:AN}{ls:Vector BD 4}{ev:List Event}{a:Br}{r:Bl}{O:Vector Ad 4}{A:Vector (List Ad) 4}(h:LO V ls ev a r O A){k:Int}(k0:0≤k)(k1:k < 4)(hs:(V.Ar.at k).state≠0) :
  ∃ ps,E6 (if a.kind=3∧a.A3=k then O.at k++r.out else O.at k) (V.Ar.at k).out.ring (A.at k++(ls.at k).told) (ls.at k).wait ps:=by
 obtain⟨ps,f⟩:=(h.at_ k k0 k1).facts k0 k1 hs
 unfold bN Gj at f
 rw [if_neg hs,if_neg hs] at f
 exact⟨ps,f⟩
theorem LO.free {V:AN}{ls:Vector BD 4}{ev:List Event}{a:Br}{r:Bl}{O:Vector Ad 4}{A:Vector (List Ad) 4}(h:LO V ls ev a r O A){k:Int}(k0:0≤k)(k1:k < 4)(hs:(V.Ar.at k).state=0):AG.GN k [] [] (A7 V ls ev):=by
 have f:=h.at_ k k0 k1
 unfold bN Gj at f
 rw [if_pos hs,if_pos hs] at f
 exact f
theorem LO.busy {V:AN}{ls:Vector BD 4}{ev:List Event}{a:Br}{r:Bl}{O:Vector Ad 4}{A:Vector (List Ad) 4}(h:LO V ls ev a r O A){k:Int}(k0:0≤k)(k1:k < 4)(hs:(V.Ar.at k).state≠0):AG.GN k (if a.kind=3∧a.A3=k then O.at k++r.out else O.at k) (A.at k++(ls.at k).told) (A7 V ls ev):=by
 have f:=h.at_ k k0 k1
 unfold bN Gj at f
 rw [if_neg hs,if_neg hs] at f
 exact f
structure Nf (ps:List Piece)(rest got:List Ad):Prop where
 cl:∀ s∈rest,BK s=true
 eq:got++rest.filter (fun s=>!FL s)=Cy ps
theorem Nf.start {ps:List Piece}(h:∀ p∈ps,p.Ok):Nf ps (shown ps) []:=⟨Ii ps h,Ik ps h⟩
theorem Nf.more {ps:List Piece}{s:Ad}{r got:List Ad}(h:Nf ps (s :: r) got)(c:s=Kh):Nf ps r got:=by
 refine⟨fun u hu=>h.cl u (List.mem_cons_of_mem _ hu),?_⟩
 have e:=h.eq
 rw [List.filter_cons_of_neg (by rw [show FL s=true from decide_eq_true c];decide)] at e
 exact e
theorem Nf.line {ps:List Piece}{s:Ad}{r got:List Ad}(h:Nf ps (s :: r) got)(c:s≠Kh):Nf ps r (got ++ [s]):=by
 refine⟨fun u hu=>h.cl u (List.mem_cons_of_mem _ hu),?_⟩
 have e:=h.eq
 rw [List.filter_cons_of_pos (by rw [show FL s=false from decide_eq_false c];rfl)] at e
 rw [List.append_assoc]
 exact e
theorem Nf.done {ps:List Piece}{got:List Ad}(h:Nf ps [] got):got=Cy ps:=by
 have e:=h.eq
 rw [List.filter_nil,List.append_nil] at e
 exact e
theorem cZ {l:List Ad}(h:crlf l≠ []):∃ s r,l=s :: r:=by
 cases l with
 | nil=>exact absurd rfl h
 | cons s r=>exact⟨s,r,rfl⟩
theorem Z1 (s:Ad)(r:List Ad):(crlf (s :: r)).length=s.length+2+(crlf r).length:=by
 rw [RX]
 simp only [List.length_append,List.length_cons,List.length_nil]
 omega
theorem LO.bounds {V:AN}{ls:Vector BD 4}{ev:List Event}{a:Br}{r:Bl}{O:Vector Ad 4}{A:Vector (List Ad) 4}(h:LO V ls ev a r O A)(hA:(A7 V ls ev).Live){k:Int}(k0:0≤k)(k1:k < 4):(O.at k).length≤280000∧(A.at k).length≤400000∧r.out.length≤700∧(V.Ar.at k).out.ring.length≤700∧(ls.at k).wait.length≤60∧(ls.at k).told.length≤1000:=by
 have h1:=h.ol k k0 k1
 have h2:=h.al k k0 k1
 have h4:=(hA.M5 k k0 k1).ring
 rw [CV _ _ _ k0 k1] at h4
 have h5:=hA.fit.told k k0 k1
 rw [CV _ _ _ k0 k1] at h5
 have h6:=(hA.M5 k k0 k1).n
 rw [CV _ _ _ k0 k1] at h6
 exact⟨by omega,by omega,h.rl,h4,h6,h5⟩
theorem Od {H:Vector Hd 4}{v:Hd}{k:Int}(k0:0≤k)(k1:k < 4):Dh ((H.put k v).at k) = [v.val]:=by rw [Vector.CA k0 k1];rfl
theorem Sw {O:Vector Ad 4}{v:Ad}{k:Int}(k0:0≤k)(k1:k < 4):A6 ((O.put k v).at k) = [BW v]:=by rw [Vector.CA k0 k1];rfl
theorem RM {v:A4}:(Ei v).1=0↔v.state=0:=by
 unfold Ei
 split
 ·rename_i h
  rw [of_decide_eq_true h]
 ·exact Iff.rfl
theorem E6.rest {out ring:Ad}{all wait:List Ad}{ps:List Piece}(h:E6 out ring all wait ps){m n:Nat}(hm:m=all.length)(hn:n=wait.length):(!decide ((all.take m).drop ((m:Int) - (n:Int)).toNat=wait))=false:=by
 subst hm hn
 rw [List.take_length,h.drop]
 simp
theorem E6.front {out ring:Ad}{all wait:List Ad}{ps:List Piece}(h:E6 out ring all wait ps){m n:Nat}(hm:m=all.length)(hn:n=wait.length){got:List Ad}(hg:got=Cy ps):(!decide (got=(all.take ((m:Int) - (n:Int)).toNat).drop 0))=false:=by
 subst hm hn hg
 rw [h.take,List.drop_zero]
 simp
theorem Nf.len {ps:List Piece}{rest got:List Ad}(h:Nf ps rest got):got.length≤(Cy ps).length:=by
 rw [← h.eq,List.length_append];omega
theorem cM:∀ j:Int,0≤j→j < 4→AG.GN j ((Vector.replicate 4 (default:Ad)).at j) ((Vector.replicate 4 (default:List Ad)).at j) AG.new:=fun j j0 j1=>by
 have:=AG.GN.new j0 j1
 rcases four j0 j1 with e | e | e | e<;>subst e<;>exact this
theorem bD (T:Nat)(w:World):∀ r∈Iu T (Vector.replicate 4 default) (Vector.replicate 4 default),r=Ab.own ⟨none,0,0⟩ T 1 []:=by
 intro r hr
 unfold Iu at hr
 simp only [List.mem_cons,List.not_mem_nil,or_false] at hr
 rcases hr with e | e | e | e<;>subst e<;>rfl
section
variable {P:Program} {n:Nat} {w0 w:World} {M:List Nat} {Q:Exit→Go.Act→World→Prop} {F:List (Nat × Value)} {L:List Ab} {cd:Code}
theorem eZ (T:Nat)(h:G P n w0 M cd Q F (Ab.DP (Iu T (Vector.replicate 4 default) (Vector.replicate 4 default)) :: L)):G P n w0 M cd Q F L:=fun a w hF hS=>h a w hF (hS.Vx fun r hr=>by rw [bD T w r hr];exact⟨rfl, .inl ⟨rfl,rfl⟩⟩)
end
end Go.Ing

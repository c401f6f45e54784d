/- What the functions that the law of this seat reaches compute, and the plain laws of it. No condition. -/
import Derived.Test.YtoidpggbbfncpaaGreatDoorTopAloneEc3
import Derived.Test.YtoidpggbbfncpaaGreatDoorTopAloneRa1
import Derived.Test.YtoidpggbbfncpaaGreatDoorTopAloneRb1
set_option linter.unusedSimpArgs false
set_option linter.unusedVariables false
/- Who is far perceives nothing: plain laws. -/
namespace Go.Ing
open Go
namespace AI
theorem KW (w:AI)(e:Event):∀ n:Nat,(w.H5 e n).kind=e.kind∧(w.H5 e n).Dj=e.Dj∧(w.H5 e n).room=e.room∧(w.H5 e n).other=e.other∧(w.H5 e n).n=e.n∧(w.H5 e n).Hx=e.Hx∧(w.H5 e n).Eb=e.Eb∧(w.H5 e n).Bw=e.Bw∧(w.H5 e n).text=e.text
 | 0=>⟨rfl,rfl,rfl,rfl,rfl,rfl,rfl,rfl,rfl⟩
 | k+1=>KW w e k
end AI
namespace AF
section
variable {b c rc:Int} {S:Int→Prop} {T:AF}
section
variable (c0:0≤c) (c6:c < 6) (hn:c≠b)
include c0 c6 hn
end
end
end AF
end Go.Ing
/- What others are told is not empty: plain laws. -/
namespace Go.Ing
open Go
namespace AI
end AI
theorem P6 {α:Type}{d:α}{xs:List α}{i:Nat}(h:i < xs.length):xs.getD i d∈xs:=by
 rw [List.getD_eq_getElem?_getD,List.getElem?_eq_getElem h]
 exact List.getElem_mem h
namespace AF
theorem M6:∀(l:List Int) (T:AF),(T.DF l).out.length=T.out.length+l.length
 | [],T=>rfl
 | i :: r,T=>by rw [DF,M6 r,Fl];show T.out.length+1+r.length=_;rw [List.length_cons];omega
theorem Oy (v to:Int):∀(l:List Int) (T:AF),(T.Eu v to l).out.length≤T.out.length+l.length
 | [],T=>Nat.le_refl _
 | i :: r,T=>by
  have h1:=Oy v to r (T.Cs v to i)
  have h2:=T.Nx v to i
  rw [Eu,List.length_cons];omega
theorem Sd (T:AF){l:List Int}(hl:l.length≤9)(o:Order):(T.Kh l o).out.length≤T.out.length+10:=by
 have h:=(Ee T.w l o.nth o.name o.Bm).length_le
 unfold Kh
 rw [M6]
 split
 ·rw [CI];omega
 ·omega
theorem Y3 (T:AF)(o:Order):(T.get o).out.length≤T.out.length+11:=by
 have hb:=T.H8 o.second
 unfold get
 split
 ·split
  ·omega
  ·have:=Sd (T.box o.second).1 (AI.Ig (T.box o.second).1.w 2 (T.box o.second).2.1) o
   omega
 ·have:=Sd T T.I2 o
  omega
theorem VF (T:AF)(o:Order):(T.FP o).out.length≤T.out.length+11:=by
 have hb:=T.QC o
 unfold FP
 split
 ·omega
 ·unfold SI
  have h:=(Ee (T.Cv o).1.w (T.Cv o).1.own o.nth o.name o.Bm).length_le
  have h9:=(T.Cv o).1.KQ
  refine Nat.le_trans (Oy _ _ _ _) ?_
  split
  ·rw [CI];omega
  ·omega
theorem Vn (T:AF)(o:Order):(T.FB o).out.length≤T.out.length+2:=by
 unfold FB
 generalize (if (!decide (o.nth=1) || o.Bm)=true then [] else o.name)=nm
 have hs:=T.HI nm
 split
 ·omega
 ·refine Nat.le_trans (Nat.le_of_eq (CI _ _)) ?_
  split
  ·show(T.A9 nm).1.out.length+1≤_;omega
  ·show(T.A9 nm).1.out.length+1≤_;omega
theorem Nn (T:AF)(first:Bool)(i:Int)(v:Bool)(k:Int):(T.before first i v k).out.length=T.out.length+1:=by
 unfold before
 split
 ·rw [Fl];rfl
 ·exact Fl T k i
theorem Y5 (T:AF)(o:Order):(T.set o).out.length≤T.out.length+1:=by
 unfold set
 split
 ·unfold HB
  split
  ·rw [CI];exact Nat.le_refl _
  ·split
   ·rw [CI];exact Nat.le_refl _
   ·refine Nat.le_trans (Nat.le_of_eq (Cg _ _)) ?_
    split<;>exact Nat.le_refl _
 ·split
  ·rw [CI];exact Nat.le_refl _
  ·split
   ·rw [CI];exact Nat.le_refl _
   ·split
    ·exact Nat.le_of_eq (Nn T _ _ _ _)
    ·exact Nat.le_of_eq (Nn T _ _ _ _)
theorem YH (T:AF)(d:Int):(T.walk d).out.length≤T.out.length+11:=by
 unfold walk
 split
 ·rw [CI];omega
 ·split
  ·rw [CI];omega
  ·refine Nat.le_trans (KD _).2.2 ?_
   rw [Cg]
   show(T.out ++ [_]).length+1+9≤_
   simp
theorem Ul (T:AF)(o:Order):(T.act o).out.length≤T.out.length+11:=by
 unfold act
 split
 ·exact T.YH _
 ·split
  ·exact Nat.le_trans (T.KD).2.2 (by omega)
  ·split
   ·rw [(T.Hn _ _).2.2];omega
   ·split
    ·rw [Cg];omega
    ·split
     ·rw [(T.Oz).2.1,MB];omega
     ·split
      ·exact Nat.le_trans (T.Vn o) (by omega)
      ·split
       ·exact T.Y3 o
       ·split
        ·exact T.VF o
        ·exact Nat.le_trans (T.Y5 o) (by omega)
theorem W6.len {X:AI}{b:Int}{o:Order}(h:W6 X b o):(EH X b o).2.1.length≤11:=by rw [h.out];exact Ul ⟨X,b,[]⟩ o
end AF
end Go.Ing
/- A round of all fights: plain functions and laws. -/
namespace Go.Ing
open Go
theorem Ct (d:Int):-2≤d.tmod 3∧d.tmod 3≤2:=by
 have h1:=Int.tmod_lt_of_pos d (show(0:Int) < 3 by decide)
 have h2:=Int.tmod_lt_of_pos (-d) (show(0:Int) < 3 by decide)
 rw [Int.neg_tmod] at h2
 omega
namespace AF
def Fb (w:AI)(b:Int):AF:=⟨w.C4 b { w.AO.at b with BM:=1 },b,[]⟩
def GC (w:AI)(b:Int):AF:=((Fb w b).kind 15).FJ
def Je (w:AI)(b:Int):AF:=(GC w b).DY b { (GC w b).w.AO.at b with room:=0,BM:=10 }
def H2 (w:AI)(b:Int):AF:=if decide (b < 2)=true then(GC w b).DY b default else((Je w b).kind 17).look
def MA (draw b:Int):Int:=1+(draw.tmod 3+3+b).tmod 3
def CE (w:AI)(b B4 n:Int):AF:=(AF.BP ⟨w,b,[]⟩ { Fw 14 with other:=B4,n:=n }).DY B4 { w.AO.at B4 with BM:=max 0 ((w.AO.at B4).BM - n) }
def EP (draw b:Int)(s:AI × List Event):AI × List Event:=
 if (!(s.1.AO.at b).here || decide ((s.1.AO.at b).B4=0))=true then s
 else if (!(s.1.AO.at ((s.1.AO.at b).B4 - 1)).here || !decide ((s.1.AO.at ((s.1.AO.at b).B4 - 1)).room=(s.1.AO.at b).room))=true then(s.1.C4 b { s.1.AO.at b with B4:=0 },s.2)
 else if decide (((CE s.1 b ((s.1.AO.at b).B4 - 1) (MA draw b)).w.AO.at ((s.1.AO.at b).B4 - 1)).BM=0)=true then((H2 (CE s.1 b ((s.1.AO.at b).B4 - 1) (MA draw b)).w ((s.1.AO.at b).B4 - 1)).w,(s.2++(CE s.1 b ((s.1.AO.at b).B4 - 1) (MA draw b)).out)++(H2 (CE s.1 b ((s.1.AO.at b).B4 - 1) (MA draw b)).w ((s.1.AO.at b).B4 - 1)).out)
 else((CE s.1 b ((s.1.AO.at b).B4 - 1) (MA draw b)).w,s.2++(CE s.1 b ((s.1.AO.at b).B4 - 1) (MA draw b)).out)
def Dh (X:AI)(draw:Int):Nat→AI × List Event
 | 0=>(X,[])
 | k+1=>EP draw k (Dh X draw k)
def CY (X:AI)(draw:Int):AI × List Event × Int:=if (!X.Bj)=true then(X,[],2) else((Dh X draw 6).1,(Dh X draw 6).2,0)
theorem ID {X:AI}{draw k:Int}(h:0≤k):Dh X draw (k+1).toNat=EP draw k (Dh X draw k.toNat):=by
 obtain⟨m,rfl⟩:=Int.eq_ofNat_of_zero_le h
 rfl
theorem Le {draw b:Int}(h:0≤b):1≤MA draw b∧MA draw b≤3:=by
 unfold MA
 have:=Ct draw
 have h2:0≤draw.tmod 3+3+b:=by omega
 have h3:=Int.tmod_nonneg (a:=draw.tmod 3+3+b) 3 h2
 have h4:=Int.tmod_lt_of_pos (draw.tmod 3+3+b) (show(0:Int) < 3 by decide)
 omega
structure YS (x:An):Prop where
 room:0≤x.room∧x.room < 6
 BM:0≤x.BM∧x.BM≤10
 B4:0≤x.B4∧x.B4≤6
 off:x.here=false→x.B4=0
 alive:x.here=decide (0 < x.BM)
theorem cu {x:An}(h:AI.Du x=false):YS x:=by
 simp only [AI.Du,Bool.or_eq_false_iff,decide_eq_false_iff_not,Bool.and_eq_false_iff,Bool.not_eq_false',bne_eq_false_iff_eq] at h
 obtain⟨⟨⟨⟨⟨⟨⟨q1,q2⟩,q3⟩,q4⟩,q5⟩,q6⟩,q7⟩,q8⟩:=h
 refine⟨by omega,by omega,by omega,fun e=>?_,q8⟩
 rcases q7 with q | q
 ·rw [e] at q;cases q
 ·exact of_decide_eq_true q
theorem ch {x:An}(h:YS x):AI.Du x=false:=by
 have h1:=h.room;have h2:=h.BM;have h3:=h.B4
 simp only [AI.Du,Bool.or_eq_false_iff,decide_eq_false_iff_not,Bool.and_eq_false_iff,Bool.not_eq_false',bne_eq_false_iff_eq]
 refine⟨⟨⟨⟨⟨⟨⟨by omega,by omega⟩,by omega⟩,by omega⟩,by omega⟩,by omega⟩,?_⟩,h.alive⟩
 cases hh:x.here with
 | true=>exact .inl rfl
 | false=>exact .inr (decide_eq_true (h.off hh))
theorem HJ {X:AI}(h:X.Bj=true){b:Int}(h0:0≤b)(h6:b < 6):YS (X.AO.at b):=cu (AI.Fc h h0 h6)
theorem KG {X:AI}(h:X.Bj=true){b:Int}(h0:0≤b)(h6:b < 6){x:An}(hx:YS x)(hh:(X.AO.at b).here=true→x.here=true):(X.C4 b x).Bj=true:=
 AI.Iw h h0 h6 (ch hx) fun i i0 i9 e1 e2=>by
  rcases (AI.Hm h i0 i9).Cb with ⟨a,_⟩ | ⟨_,_,a⟩ | ⟨a,_⟩
  ·omega
  ·rw [e2] at a;exact hh a
  ·omega
theorem WH (X:AI)(b:Int)(x y:An):(X.C4 b x).C4 b y=X.C4 b y:=by
 unfold AI.C4
 show({ X with AO:=(X.AO.put b x).put b y }:AI)=_
 rw [Vector.EE]
section
variable {w:AI} {b B4 n:Int} (hg:w.Bj=true) (hw:w.DL) (f0:0≤B4) (f6:B4 < 6) (hh:(w.AO.at B4).here=true)
include hg hw f0 f6 hh
theorem K3:(Fb (CE w b B4 n).w B4).Fit:=by
 have e:(CE w b B4 n).w.C4 B4 { (CE w b B4 n).w.AO.at B4 with BM:=1 }=w.C4 B4 { w.AO.at B4 with BM:=1 }:=by
  show(w.C4 B4 _).C4 B4 { (w.C4 B4 _).AO.at B4 with BM:=1 }=_
  rw [WH,AI.EO f0 f6]
 have k:=HJ hg f0 f6
 refine⟨⟨f0,f6⟩,?_,?_,?_⟩
 ·show((CE w b B4 n).w.C4 B4 _).DL
  rw [e];exact Ey hw (hw.be B4)
 ·show((CE w b B4 n).w.C4 B4 _).Bj=true
  rw [e]
  exact KG hg f0 f6 ⟨k.room,⟨show(0:Int)≤1 by decide,show(1:Int)≤10 by decide⟩,k.B4,k.off,by rw [show({ w.AO.at B4 with BM:=1 }:An).here=true from hh];rfl⟩ fun _=>hh
 ·show(((CE w b B4 n).w.C4 B4 _).AO.at B4).here=true
  rw [e,AI.EO f0 f6];exact hh
theorem SL (hn:0 < (w.AO.at B4).BM - n)(h1:0≤n):(CE w b B4 n).w.Bj=true∧(CE w b B4 n).w.DL:=by
 have k:=HJ hg f0 f6
 have hk:=k.BM
 refine⟨KG hg f0 f6 ⟨k.room,⟨?_,?_⟩,k.B4,k.off,?_⟩ fun _=>hh,Ey hw (hw.be B4)⟩
 ·show 0≤max 0 ((w.AO.at B4).BM - n);omega
 ·show max 0 ((w.AO.at B4).BM - n)≤10;omega
 ·show(w.AO.at B4).here=decide (0 < max 0 ((w.AO.at B4).BM - n))
  rw [hh,decide_eq_true (by omega)]
end
theorem Jt (w:AI)(b:Int):(GC w b).b=b∧(GC w b).out=((Fb w b).kind 15).out:=Qe ((Fb w b).kind 15)
theorem Qg (w:AI)(b:Int):(Je w b).b=b∧(Je w b).out=((Fb w b).kind 15).out∧(Je w b).w=(GC w b).w.C4 b { (GC w b).w.AO.at b with room:=0,BM:=10 }:=by
 have h:=Jt w b
 unfold Je
 rw [(DB _ _ _).1,(DB _ _ _).2.1,(DB _ _ _).2.2]
 exact⟨h.1,h.2,rfl⟩
theorem Y4 (D:AI){b:Int}(hb:0≤b∧b < 6):({ D with AO:=(D.AO.put b { D.AO.at b with room:=0 }).put b { (D.AO.put b { D.AO.at b with room:=0 }).at b with BM:=10 } }:AI)=D.C4 b { D.AO.at b with room:=0,BM:=10 }:=by
 rw [Vector.CG hb.1 hb.2,Vector.EE];rfl
theorem Un {X F:AI}{b:Int}(h:F=((Fb X b).kind 15).FJ.w)(x:An):(GC X b).DY b x=⟨F.C4 b x,b,((Fb X b).kind 15).out⟩:=by
 subst h
 have e:=Jt X b
 have h1:=DB (GC X b) b x
 cases hT:(GC X b).DY b x with
 | mk w' b' o'=>
  rw [hT] at h1
  obtain⟨q1,q2,q3⟩:=h1
  simp only at q1 q2 q3
  rw [q1,q2,q3,e.1,e.2]
  rfl
theorem Ym {X F:AI}{b:Int}(h:F=((Fb X b).kind 15).FJ.w):Je X b=⟨F.C4 b { F.AO.at b with room:=0,BM:=10 },b,((Fb X b).kind 15).out⟩:=by
 have h':(GC X b).w=F:=h.symm
 unfold Je
 rw [h',Un h]
theorem Qp {w:AI}{b:Int}(h:(Fb w b).Fit):DJ (Fb w b) (GC w b)∧∀ j,0≤j→j < 9→¬ (((GC w b).w.AP.at j).Cb=1∧((GC w b).w.AP.at j).at_=b):=by
 have g1:DJ (Fb w b) ((Fb w b).kind 15):=h.goes.Ep rfl rfl
 obtain⟨g2,k⟩:=P2 g1.fit
 exact⟨g1.trans g2,k⟩
theorem Rx {w:AI}{b:Int}(h:(Fb w b).Fit):(Je w b).Fit:=by
 have g:=(Qp h).1.fit
 have hb:0≤b∧b < 6:=h.b
 have e:=Qg w b
 have eb:=(Jt w b).1
 have gb:=g.b
 have gh:=g.here
 rw [eb] at gb gh
 have k:=HJ g.gd hb.1 hb.2
 have gbr:=g.br
 have ggd:=g.gd
 obtain⟨e1,_,e3⟩:=e
 generalize hD:(GC w b).w=D at *
 have hx:(D.C4 b { D.AO.at b with room:=0,BM:=10 }).Bj=true:=KG ggd hb.1 hb.2 ⟨⟨Int.le_refl _,show(0:Int) < 6 by decide⟩,⟨show(0:Int)≤10 by decide,show(10:Int)≤10 by decide⟩,k.B4,k.off,gh⟩ fun _=>gh
 have hy:(D.C4 b { D.AO.at b with room:=0,BM:=10 }).DL:=Ey gbr (gbr.be b)
 have hz:((D.C4 b { D.AO.at b with room:=0,BM:=10 }).AO.at b).here=true:=by rw [AI.EO hb.1 hb.2];exact gh
 exact⟨by rw [e1];exact hb,by rw [e3];exact hy,by rw [e3];exact hx,by rw [e1,e3];exact hz⟩
theorem Pz {w:AI}{b:Int}(h:(Fb w b).Fit):(H2 w b).w.Bj=true∧(H2 w b).w.DL∧(H2 w b).out.length≤12:=by
 have hb:0≤b∧b < 6:=h.b
 obtain⟨g,hk⟩:=Qp h
 unfold H2
 split
 ·rw [(DB _ _ _).2.1,(DB _ _ _).2.2]
  refine⟨AI.Iw (X:=(GC w b).w) g.fit.gd hb.1 hb.2 (by decide) fun i i0 i9 e1 e2=>absurd ⟨e1,e2⟩ (hk i i0 i9),Ey (X:=(GC w b).w) g.fit.br (by decide),?_⟩
  rw [(Jt w b).2,MB]
  exact(by decide:(0:Nat)+1≤12)
 ·have f:=Rx h
  have hl:=KD ((Je w b).kind 17)
  refine⟨by rw [hl.1];exact f.gd,by rw [hl.1];exact f.br,?_⟩
  have h2:=hl.2.2
  rw [MB,(Qg w b).2.1,MB] at h2
  exact Nat.le_trans h2 (by decide:(0:Nat)+1+1+9≤12)
theorem Fi {s:AI × List Event}{draw b:Int}(hg:s.1.Bj=true)(hw:s.1.DL)(h0:0≤b)(h6:b < 6):(EP draw b s).1.Bj=true∧(EP draw b s).1.DL∧(EP draw b s).2.length≤s.2.length+13:=by
 have kb:=HJ hg h0 h6
 have hn:=Le (draw:=draw) h0
 unfold EP
 split
 ·exact⟨hg,hw,by omega⟩
 ·rename_i h1
  simp only [Bool.or_eq_true,Bool.not_eq_true',decide_eq_true_eq,not_or,Bool.not_eq_false] at h1
  have kf:=kb.B4
  split
  ·exact⟨KG hg h0 h6 ⟨kb.room,kb.BM,⟨Int.le_refl _,show(0:Int)≤6 by decide⟩,fun _=>rfl,kb.alive⟩ fun h=>h,Ey hw (hw.be b),Nat.le_add_right _ _⟩
  ·rename_i h2
   simp only [Bool.or_eq_true,Bool.not_eq_true',decide_eq_false_iff_not,not_or,Bool.not_eq_false,Decidable.not_not] at h2
   have hf:=K3 (b:=b) (n:=MA draw b) hg hw (B4:=(s.1.AO.at b).B4 - 1) (by omega) (by omega) h2.1
   have hso:(CE s.1 b ((s.1.AO.at b).B4 - 1) (MA draw b)).out.length=1:=rfl
   split
   ·obtain⟨d1,d2,d3⟩:=Pz hf
    refine⟨d1,d2,?_⟩
    show((s.2++_)++_).length≤_
    rw [List.length_append,List.length_append,hso];omega
   ·rename_i h3
    have h3':¬ ((CE s.1 b ((s.1.AO.at b).B4 - 1) (MA draw b)).w.AO.at ((s.1.AO.at b).B4 - 1)).BM=0:=fun e=>h3 (decide_eq_true e)
    have e:((CE s.1 b ((s.1.AO.at b).B4 - 1) (MA draw b)).w.AO.at ((s.1.AO.at b).B4 - 1))={ s.1.AO.at ((s.1.AO.at b).B4 - 1) with BM:=max 0 ((s.1.AO.at ((s.1.AO.at b).B4 - 1)).BM - MA draw b) }:=Vector.CG (by omega) (by omega)
    rw [e] at h3'
    have h3'':¬ max 0 ((s.1.AO.at ((s.1.AO.at b).B4 - 1)).BM - MA draw b)=0:=h3'
    obtain⟨d1,d2⟩:=SL (b:=b) (n:=MA draw b) hg hw (B4:=(s.1.AO.at b).B4 - 1) (by omega) (by omega) h2.1 (by omega) (by omega)
    refine⟨d1,d2,?_⟩
    show(s.2++_).length≤_
    rw [List.length_append,hso];omega
end AF
end Go.Ing
/- What a round takes: plain laws. -/
namespace Go.Ing
open Go
namespace AF
def QI (v:Vector Int 6)(e:Event):Vector Int 6:=if decide (e.kind=14)=true then v.put e.other (v.at e.other+e.n) else v
def QQ (v:Vector Bool 6)(e:Event):Vector Bool 6:=if decide (e.kind=15)=true then v.put e.Dj true else v
def EK (l:List Event):Vector Int 6:=l.foldl QI (Vector.replicate 6 default)
def Fk (l:List Event):Vector Bool 6:=l.foldl QQ (Vector.replicate 6 default)
theorem Oe (l:List Event)(e:Event):EK (l ++ [e])=QI (EK l) e:=by simp [EK]
theorem OQ (l:List Event)(e:Event):Fk (l ++ [e])=QQ (Fk l) e:=by simp [Fk]
def Quiet (q:List Event):Prop:=∀ e∈q,e.kind≠14∧e.kind≠15
theorem Oj:∀ {q:List Event} (v:Vector Int 6) (u:Vector Bool 6),Quiet q→q.foldl QI v=v∧q.foldl QQ u=u
 | [],_,_,_=>⟨rfl,rfl⟩
 | e :: r,v,u,h=>by
  have he:=h e (List.mem_cons_self ..)
  have hr:Quiet r:=fun x hx=>h x (List.mem_cons_of_mem _ hx)
  rw [List.foldl_cons,List.foldl_cons,QI,if_neg (by simp [he.1]),QQ,if_neg (by simp [he.2])]
  exact Oj v u hr
theorem Sl {l q:List Event}(h:Quiet q):EK (l++q)=EK l∧Fk (l++q)=Fk l:=by
 unfold EK Fk
 rw [List.foldl_append,List.foldl_append]
 exact Oj _ _ h
theorem IE (T:AF)(e:Event):∃ x:Event,(T.BP e).out=T.out ++ [x]∧x.kind=e.kind∧x.Dj=T.b∧x.other=e.other∧x.n=e.n:=by
 obtain⟨a1,a2,_,a4,a5,_⟩:=AI.KW T.w (T.Dx e) 6
 have e2:(T.Dx e).kind=e.kind∧(T.Dx e).Dj=T.b∧(T.Dx e).other=e.other∧(T.Dx e).n=e.n:=by
  unfold Dx
  split<;>exact⟨rfl,rfl,rfl,rfl⟩
 exact⟨_,rfl,a1.trans e2.1,a2.trans e2.2.1,a4.trans e2.2.2.1,a5.trans e2.2.2.2⟩
def NR (T T':AF):Prop:=∃ q,T'.out=T.out++q∧∀ e∈q,e.kind=16
theorem NR.refl (T:AF):NR T T:=⟨[],by simp,fun _ h=>by cases h⟩
theorem NR.tell {T T':AF}(h:NR T T')(s:Au):NR T (T'.tell s):=by
 obtain⟨q,e,k⟩:=h
 obtain⟨x,e2,k2,_⟩:=IE T' { Fw 16 with text:=s }
 refine⟨q ++ [x],?_,fun y hy=>?_⟩
 ·show(T'.BP _).out=_
  rw [e2,e,List.append_assoc]
 ·rcases List.mem_append.1 hy with hy | hy
  ·exact k y hy
  ·have:y=x:=by simpa using hy
   rw [this];exact k2
theorem NR.look {T T':AF}(h:NR T T'):NR T T'.look:=by
 have hk:∀ {T'':AF},NR T T''→∀ k:Nat,NR T (T''.Fh k):=fun {T''} h' k=>by
  induction k with
  | zero=>exact h'
  | succ k ih=>
   unfold Fh
   split
   ·exact ih.tell _
   ·exact ih
 unfold AF.look
 split
 ·exact h.tell _
 ·refine hk ?_ 6
  have ha:NR T T'.Jw:=(h.tell _).tell _
  unfold EG
  split
  ·exact ha.tell _
  ·exact ha
/-! #### who is struck, who dies -/
def calm (b:Int)(x:An):An:={ x with B4:=if x.B4=b+1 then 0 else x.B4 }
theorem Wu {b:Int}{x:An}(h:x.B4=b+1):calm b x={ x with B4:=0 }:=by unfold calm;rw [if_pos h]
theorem Wv {b:Int}{x:An}(h:¬ x.B4=b+1):calm b x=x:=by unfold calm;rw [if_neg h]
theorem R4 (T:AF)(hb:0≤T.b):∀ k:Nat,k≤6→∀ c:Int,0≤c→c < 6→(T.DZ k).w.AO.at c=if c < (k:Int) then calm T.b (T.w.AO.at c) else T.w.AO.at c
 | 0,_,c,c0,_=>by rw [if_neg (by omega)];rfl
 | k+1,hk,c,c0,c6=>by
  have ih:=R4 T hb k (by omega)
  have ihk:=ih k (by omega) (by omega)
  rw [if_neg (by omega)] at ihk
  have ihc:=ih c c0 c6
  unfold DZ
  rw [ihk]
  by_cases e:(T.w.AO.at (k:Int)).B4=T.b+1
  ·rw [if_pos (decide_eq_true e)]
   show(((T.DZ k).w.AO.put (k:Int) { (T.DZ k).w.AO.at (k:Int) with B4:=0 }).at c)=_
   rw [HC _ _ _ _ (by omega) (by omega) c0]
   by_cases ec:c=(k:Int)
   ·subst ec
    rw [if_pos rfl,if_pos (by omega),ihk,Wu e]
   ·rw [if_neg ec,ihc]
    by_cases hl:c < (k:Int)
    ·rw [if_pos hl,if_pos (by omega)]
    ·rw [if_neg hl,if_neg (by omega)]
  ·rw [if_neg (by simpa using e),ihc]
   by_cases hl:c < (k:Int)
   ·rw [if_pos hl,if_pos (by omega)]
   ·rw [if_neg hl]
    by_cases ec:c=(k:Int)
    ·subst ec
     rw [if_pos (by omega),Wv e]
    ·rw [if_neg (by omega)]
theorem PJ:∀(l:List Int) (T:AF),(T.Ce l).w.AO=T.w.AO
 | [],_=>rfl
 | i :: r,T=>(PJ r (T.E0 i)).trans rfl
theorem YV (T:AF)(hb:0≤T.b∧T.b < 6){c:Int}(c0:0≤c)(c6:c < 6):T.FJ.w.AO.at c=if c=T.b then { T.w.AO.at c with B4:=0 } else calm T.b (T.w.AO.at c):=by
 have hd:=PJ T.own T
 have hdb:=(I0 T.own T).1
 have hk:=R4 (T.Ce T.own) (by rw [hdb];exact hb.1) 6 (Nat.le_refl _)
 rw [hd,hdb] at hk
 rw [Lj]
 generalize (T.Ce T.own).DZ 6=D at *
 show(D.w.AO.put T.b { D.w.AO.at T.b with B4:=0 }).at c=_
 rw [HC _ _ _ _ hb.1 hb.2 c0]
 have hc:=hk c c0 c6
 rw [if_pos (by omega)] at hc
 by_cases e:c=T.b
 ·rw [if_pos e,if_pos e,← e,hc];rfl
 ·rw [if_neg e,if_neg e,hc]
structure cU (w w':AI)(f:Int):Prop where
 dA:∀ c,0≤c→c < 6→c≠f→(w'.AO.at c).BM=(w.AO.at c).BM∧(w'.AO.at c).room=(w.AO.at c).room∧(w'.AO.at c).here=(w.AO.at c).here∧((w'.AO.at c).B4=(w.AO.at c).B4∨(w'.AO.at c).B4=0)∧(w'.AO.at c).B4≠f+1
 here:(w'.AO.at f).here=decide (2≤f)
 B4:(w'.AO.at f).B4=0
theorem UP {w:AI}{f c:Int}(hf:0≤f∧f < 6)(c0:0≤c)(c6:c < 6):(GC w f).w.AO.at c=if c=f then { (Fb w f).w.AO.at c with B4:=0 } else calm f ((Fb w f).w.AO.at c):=YV ((Fb w f).kind 15) hf c0 c6
theorem Xw {w:AI}{f c:Int}(hf:0≤f∧f < 6)(c0:0≤c)(c6:c < 6)(hn:c≠f):(GC w f).w.AO.at c=calm f (w.AO.at c):=by
 have h0:(Fb w f).w.AO.at c=w.AO.at c:=AI.Gh hf.1 hf.2 c0 hn _
 rw [UP hf c0 c6,h0,if_neg hn]
theorem Yb (f:Int)(hf:0≤f)(x:An):(calm f x).BM=x.BM∧(calm f x).room=x.room∧(calm f x).here=x.here∧((calm f x).B4=x.B4∨(calm f x).B4=0)∧(calm f x).B4≠f+1:=by
 by_cases e:x.B4=f+1
 ·rw [Wu e]
  refine⟨rfl,rfl,rfl, .inr rfl,?_⟩
  show(0:Int)≠f+1
  omega
 ·rw [Wv e]
  exact⟨rfl,rfl,rfl, .inl rfl,e⟩
theorem UN {w w1 w':AI}{f:Int}(hf:0≤f∧f < 6)(ho:∀ c,0≤c→c < 6→c≠f→w1.AO.at c=calm f (w.AO.at c))(he:∀ c,0≤c→c < 6→c≠f→w'.AO.at c=w1.AO.at c)(h1:(w'.AO.at f).here=decide (2≤f))(h2:(w'.AO.at f).B4=0):cU w w' f:=by
 refine⟨fun c c0 c6 hn=>?_,h1,h2⟩
 rw [he c c0 c6 hn,ho c c0 c6 hn]
 exact Yb f hf.1 _
theorem Vz {w:AI}{f:Int}(h:(Fb w f).Fit):cU w (H2 w f).w f∧∃ x q,(H2 w f).out=x :: q∧x.kind=15∧x.Dj=f∧Quiet q:=by
 have hf:0≤f∧f < 6:=h.b
 have ho:∀ c,0≤c→c < 6→c≠f→(GC w f).w.AO.at c=calm f (w.AO.at c):=fun c c0 c6 hn=>Xw hf c0 c6 hn
 obtain⟨x,e1,k1,k2,_⟩:=IE (Fb w f) (Fw 15)
 have hout:((Fb w f).kind 15).out = [x]:=e1
 have g:=(Qp h).1.fit
 have gh:=g.here
 rw [(Jt w f).1] at gh
 have hme:=UP (w:=w) hf hf.1 hf.2
 rw [if_pos rfl] at hme
 have hfoe:((GC w f).w.AO.at f).B4=0:=by rw [hme]
 unfold H2
 split
 ·rename_i c2
  have c2':=of_decide_eq_true c2
  rw [(DB _ _ _).2.1,(DB _ _ _).2.2,(Jt w f).2,hout]
  generalize (GC w f).w=D at *
  refine⟨UN (w1:=D) hf ho (fun c c0 _ hn=>AI.Gh hf.1 hf.2 c0 hn _) ?_ ?_,x,[],rfl,k1,k2,fun e he=>by cases he⟩
  ·show((D.C4 f default).AO.at f).here=_
   rw [AI.EO hf.1 hf.2,decide_eq_false (by omega)];rfl
  ·show((D.C4 f default).AO.at f).B4=_
   rw [AI.EO hf.1 hf.2];rfl
 ·rename_i c2
  have c2':¬ f < 2:=fun e=>c2 (decide_eq_true e)
  have hl:=KD ((Je w f).kind 17)
  have e2:=Qg w f
  obtain⟨y,e3,k3,_⟩:=IE (Je w f) (Fw 17)
  obtain⟨q,e4,k4⟩:=(NR.refl ((Je w f).kind 17)).look
  have e3':((Je w f).kind 17).out = [x] ++ [y]:=by rw [show((Je w f).kind 17).out=_ from e3,e2.2.1,hout]
  rw [hl.1,e4,e3',show((Je w f).kind 17).w=(Je w f).w from rfl,e2.2.2]
  generalize (GC w f).w=D at *
  refine⟨UN (w1:=D) hf ho (fun c c0 _ hn=>AI.Gh hf.1 hf.2 c0 hn _) ?_ ?_,x,y :: q,rfl,k1,k2,fun e he=>?_⟩
  ·rw [AI.EO hf.1 hf.2,decide_eq_true (by omega)];exact gh
  ·rw [AI.EO hf.1 hf.2];exact hfoe
  ·rcases List.mem_cons.1 he with he | he
   ·rw [he,k3];exact⟨by decide,by decide⟩
   ·rw [k4 e he];exact⟨by decide,by decide⟩
/-! #### the count of a round -/
def dO (e:Event):Prop:=(e.kind=14→1≤e.n∧e.n≤3∧0≤e.other∧e.other < 6)∧(e.kind=15→0≤e.Dj∧e.Dj < 6)
structure TG (X:AI)(s:AI × List Event):Prop where
 ev:∀ e∈s.2,dO e
 un:∀ c,0≤c→c < 6→(Fk s.2).at c=false→(s.1.AO.at c).BM=(X.AO.at c).BM - (EK s.2).at c∧(s.1.AO.at c).room=(X.AO.at c).room∧(s.1.AO.at c).here=(X.AO.at c).here
 di:∀ c,0≤c→c < 6→(Fk s.2).at c=true→(X.AO.at c).BM≤(EK s.2).at c∧(s.1.AO.at c).here=decide (2≤c)∧(s.1.AO.at c).B4=0∧∀ a,0≤a→a < 6→(s.1.AO.at a).B4≠c+1
theorem Xk {α:Type}[Inhabited α](c:Int)(c0:0≤c)(c6:c < 6):(Vector.replicate 6 (default:α)).at c=default:=by
 have:c=0∨c=1∨c=2∨c=3∨c=4∨c=5:=by omega
 rcases this with rfl | rfl | rfl | rfl | rfl | rfl<;>rfl
theorem TG.start (X:AI):TG X (X,[]):=by
 have hh:∀ c,0≤c→c < 6→(EK []).at c=0:=fun c c0 c6=>Xk c c0 c6
 have hd:∀ c,0≤c→c < 6→(Fk []).at c=false:=fun c c0 c6=>Xk c c0 c6
 refine⟨fun _ h=>(by cases h),fun c c0 c6 _=>⟨?_,rfl,rfl⟩,fun c c0 c6 h=>?_⟩
 ·show(X.AO.at c).BM=(X.AO.at c).BM - (EK []).at c
  rw [hh c c0 c6];omega
 ·have h':(Fk []).at c=true:=h
  rw [hd c c0 c6] at h';cases h'
theorem TG.next {X:AI}{s:AI × List Event}{draw b:Int}(h:TG X s)(hg:s.1.Bj=true)(hw:s.1.DL)(h0:0≤b)(h6:b < 6):TG X (EP draw b s):=by
 have kb:=HJ hg h0 h6
 have hn:=Le (draw:=draw) h0
 unfold EP
 split
 ·exact h
 ·rename_i h1
  simp only [Bool.or_eq_true,Bool.not_eq_true',decide_eq_true_eq,not_or,Bool.not_eq_false] at h1
  have kf:=kb.B4
  split
  ·have hb:∀ c,0≤c→((s.1.C4 b { s.1.AO.at b with B4:=0 }).AO.at c).BM=(s.1.AO.at c).BM∧((s.1.C4 b { s.1.AO.at b with B4:=0 }).AO.at c).room=(s.1.AO.at c).room∧((s.1.C4 b { s.1.AO.at b with B4:=0 }).AO.at c).here=(s.1.AO.at c).here∧(((s.1.C4 b { s.1.AO.at b with B4:=0 }).AO.at c).B4=(s.1.AO.at c).B4∨((s.1.C4 b { s.1.AO.at b with B4:=0 }).AO.at c).B4=0):=fun c c0=>by
    by_cases e:c=b
    ·subst e;rw [AI.EO h0 h6];exact⟨rfl,rfl,rfl, .inr rfl⟩
    ·rw [AI.Gh h0 h6 c0 e];exact⟨rfl,rfl,rfl, .inl rfl⟩
   refine⟨h.ev,fun c c0 c6 hd=>?_,fun c c0 c6 hd=>?_⟩
   ·obtain⟨q1,q2,q3⟩:=h.un c c0 c6 hd
    obtain⟨r1,r2,r3,_⟩:=hb c c0
    exact⟨r1.trans q1,r2.trans q2,r3.trans q3⟩
   ·obtain⟨q1,q2,q3,q4⟩:=h.di c c0 c6 hd
    obtain⟨_,_,r3,r4⟩:=hb c c0
    refine⟨q1,r3.trans q2,?_,fun a a0 a6=>?_⟩
    ·rcases r4 with r4 | r4
     ·exact r4.trans q3
     ·exact r4
    ·have:=q4 a a0 a6
     rcases (hb a a0).2.2.2 with r | r
     ·rw [r];exact this
     ·rw [r];omega
  ·rename_i h2
   simp only [Bool.or_eq_true,Bool.not_eq_true',decide_eq_false_iff_not,not_or,Bool.not_eq_false,Decidable.not_not] at h2
   generalize hfo:(s.1.AO.at b).B4 - 1=f at *
   generalize MA draw b=n at *
   have f0:0≤f:=by omega
   have f6:f < 6:=by omega
   have hf:=K3 (b:=b) (n:=n) hg hw (B4:=f) f0 f6 h2.1
   have kf2:=(HJ hg f0 f6).BM
   obtain⟨x,ex,k1,k2,k3,k4⟩:=IE ⟨s.1,b,[]⟩ { Fw 14 with other:=f,n:=n }
   have hso:(CE s.1 b f n).out = [x]:=ex
   have hsw:(CE s.1 b f n).w=s.1.C4 f { s.1.AO.at f with BM:=max 0 ((s.1.AO.at f).BM - n) }:=rfl
   have k1':x.kind=14:=k1
   have k3':x.other=f:=k3
   have k4':x.n=n:=k4
   have hH:EK (s.2 ++ [x])=(EK s.2).put f ((EK s.2).at f+n):=by rw [Oe,QI,if_pos (decide_eq_true k1'),k3',k4']
   have hD:Fk (s.2 ++ [x])=Fk s.2:=by rw [OQ,QQ,if_neg (by rw [k1'];decide)]
   have hnd:(Fk s.2).at f=false:=by
    cases hh:(Fk s.2).at f with
    | false=>rfl
    | true=>exact absurd (by omega:(s.1.AO.at b).B4=f+1) ((h.di f f0 f6 hh).2.2.2 b h0 h6)
   have hfe:=h.un f f0 f6 hnd
   have hxe:dO x:=⟨fun _=>by rw [k3',k4'];omega,fun e=>by rw [k1'] at e;cases e⟩
   have hev:∀ e∈s.2 ++ [x],dO e:=fun e he=>by
    rcases List.mem_append.1 he with he | he
    ·exact h.ev e he
    ·have:e=x:=by simpa using he
     rw [this];exact hxe
   have hwc:∀ c,0≤c→c≠f→(CE s.1 b f n).w.AO.at c=s.1.AO.at c:=fun c c0 hne=>by rw [hsw];exact AI.Gh f0 f6 c0 hne _
   have hwf:(CE s.1 b f n).w.AO.at f={ s.1.AO.at f with BM:=max 0 ((s.1.AO.at f).BM - n) }:=by rw [hsw];exact AI.EO f0 f6 _
   have hwa:∀ a,0≤a→((CE s.1 b f n).w.AO.at a).B4=(s.1.AO.at a).B4:=fun a a0=>by
    by_cases e:a=f
    ·rw [e,hwf]
    ·rw [hwc a a0 e]
   have hHc:∀ c,0≤c→c≠f→((EK s.2).put f ((EK s.2).at f+n)).at c=(EK s.2).at c:=fun c c0 hne=>Vector.Ei f0 f6 c0 hne
   have hHf:((EK s.2).put f ((EK s.2).at f+n)).at f=(EK s.2).at f+n:=Vector.CG f0 f6
   split
   ·rename_i h3
    have h3':=of_decide_eq_true h3
    rw [hwf] at h3'
    have h3'':max 0 ((s.1.AO.at f).BM - n)=0:=h3'
    obtain⟨dd,y,q,e2,y1,y2,y3⟩:=Vz hf
    rw [e2,hso]
    generalize (H2 (CE s.1 b f n).w f).w=W at *
    have hA:EK (s.2 ++ [x]++y :: q)=(EK s.2).put f ((EK s.2).at f+n)∧Fk (s.2 ++ [x]++y :: q)=(Fk s.2).put f true:=by
     have hq:=Sl (l:=s.2 ++ [x] ++ [y]) y3
     rw [show s.2 ++ [x]++y :: q=s.2 ++ [x] ++ [y]++q by simp,hq.1,hq.2,Oe,OQ,hH,hD,QI,if_neg (by rw [y1];decide),QQ,if_pos (decide_eq_true y1),y2]
     exact⟨rfl,rfl⟩
    refine⟨fun e he=>?_,fun c c0 c6 hd=>?_,fun c c0 c6 hd=>?_⟩
    ·rcases List.mem_append.1 he with he | he
     ·exact hev e he
     ·rcases List.mem_cons.1 he with he | he
      ·rw [he];exact⟨fun e=>absurd (y1.symm.trans e) (by decide),fun _=>by rw [y2];exact⟨f0,f6⟩⟩
      ·exact⟨fun e'=>absurd e' (y3 e he).1,fun e'=>absurd e' (y3 e he).2⟩
    ·have hd':((Fk s.2).put f true).at c=false:=by rw [← hA.2];exact hd
     have hne:c≠f:=fun e=>by
      rw [e,Vector.CG f0 f6] at hd';cases hd'
     rw [Vector.Ei f0 f6 c0 hne] at hd'
     obtain⟨q1,q2,q3⟩:=h.un c c0 c6 hd'
     obtain⟨r1,r2,r3,_⟩:=dd.dA c c0 c6 hne
     rw [hwc c c0 hne] at r1 r2 r3
     show(W.AO.at c).BM=(X.AO.at c).BM - (EK (s.2 ++ [x]++y :: q)).at c∧_
     rw [hA.1,hHc c c0 hne]
     exact⟨r1.trans q1,r2.trans q2,r3.trans q3⟩
    ·have hd':((Fk s.2).put f true).at c=true:=by rw [← hA.2];exact hd
     show(X.AO.at c).BM≤(EK (s.2 ++ [x]++y :: q)).at c∧_
     rw [hA.1]
     by_cases hne:c=f
     ·subst hne
      rw [hHf]
      refine⟨by omega,dd.here,dd.B4,fun a a0 a6=>?_⟩
      by_cases ea:a=c
      ·rw [ea,dd.B4];omega
      ·exact(dd.dA a a0 a6 ea).2.2.2.2
     ·rw [Vector.Ei f0 f6 c0 hne] at hd'
      rw [hHc c c0 hne]
      obtain⟨q1,q2,q3,q4⟩:=h.di c c0 c6 hd'
      obtain⟨_,_,r3,r4,_⟩:=dd.dA c c0 c6 hne
      rw [hwc c c0 hne] at r3 r4
      refine⟨q1,r3.trans q2,?_,fun a a0 a6=>?_⟩
      ·rcases r4 with r4 | r4
       ·exact r4.trans q3
       ·exact r4
      ·by_cases ea:a=f
       ·rw [ea,dd.B4];omega
       ·have:=q4 a a0 a6
        have r:=(dd.dA a a0 a6 ea).2.2.2.1
        rw [hwc a a0 ea] at r
        rcases r with r | r
        ·rw [r];exact this
        ·rw [r];omega
   ·rename_i h3
    have h3':¬ ((CE s.1 b f n).w.AO.at f).BM=0:=fun e=>h3 (decide_eq_true e)
    rw [hwf] at h3'
    have h3'':¬ max 0 ((s.1.AO.at f).BM - n)=0:=h3'
    rw [hso]
    refine⟨hev,fun c c0 c6 hd=>?_,fun c c0 c6 hd=>?_⟩
    ·have hd':(Fk s.2).at c=false:=by rw [← hD];exact hd
     show((CE s.1 b f n).w.AO.at c).BM=(X.AO.at c).BM - (EK (s.2 ++ [x])).at c∧_
     rw [hH]
     by_cases hne:c=f
     ·subst hne
      rw [hHf,hwf]
      refine⟨?_,hfe.2.1,hfe.2.2⟩
      show max 0 ((s.1.AO.at c).BM - n)=_
      have:=hfe.1
      omega
     ·rw [hHc c c0 hne,hwc c c0 hne]
      exact h.un c c0 c6 hd'
    ·have hd':(Fk s.2).at c=true:=by rw [← hD];exact hd
     have hne:c≠f:=fun e=>by rw [e,hnd] at hd';cases hd'
     show(X.AO.at c).BM≤(EK (s.2 ++ [x])).at c∧_
     rw [hH,hHc c c0 hne]
     obtain⟨q1,q2,q3,q4⟩:=h.di c c0 c6 hd'
     refine⟨q1,by rw [hwc c c0 hne];exact q2,by rw [hwc c c0 hne];exact q3,fun a a0 a6=>by rw [hwa a a0];exact q4 a a0 a6⟩
theorem QR {X:AI}{draw:Int}(hg:X.Bj=true)(hw:X.DL):∀ k:Nat,k≤6→TG X (Dh X draw k)∧(Dh X draw k).1.Bj=true∧(Dh X draw k).1.DL∧(Dh X draw k).2.length≤13 * k
 | 0,_=>⟨.start X,hg,hw,Nat.le_refl _⟩
 | k+1,hk=>by
  obtain⟨h1,h2,h3,h4⟩:=QR hg hw k (by omega)
  obtain⟨g1,g2,g3⟩:=Fi (draw:=draw) (b:=(k:Int)) h2 h3 (by omega) (by omega)
  exact⟨h1.next h2 h3 (by omega) (by omega),g1,g2,by show(EP draw k (Dh X draw k)).2.length≤_;omega⟩
theorem Xa {X:AI}{draw:Int}(hw:X.DL)(h:(CY X draw).2.2=0):TG X ((CY X draw).1,(CY X draw).2.1)∧(CY X draw).1.Bj=true∧(CY X draw).2.1.length≤78:=by
 unfold CY at h ⊢
 split at h
 ·cases h
 ·rename_i h1
  rw [if_neg h1]
  obtain⟨q1,q2,_,q4⟩:=QR (draw:=draw) (by simpa using h1) hw 6 (Nat.le_refl _)
  generalize Dh X draw 6=S at *
  exact⟨q1,q2,Nat.le_trans q4 (by decide)⟩
end AF
end Go.Ing
/- The document's side of what beings do: plain functions and laws. -/
namespace Go.Ing
open Go
namespace AF
/-! #### names of players -/
def low (c:UInt8):Bool:=decide ((c.toNat:Int) < 97) || decide (122 < (c.toNat:Int))
def H0 (s:Au)(k:Nat):Bool:=(s.drop k).all fun c=>!low c
theorem Vs {s:Au}{k:Int}(h0:0≤k)(h1:k < s.length):H0 s k.toNat=(!low (s.getD k.toNat 0) && H0 s (k+1).toNat):=by
 have hk:k.toNat < s.length:=by omega
 unfold H0
 rw [List.drop_eq_getElem_cons hk,show(k+1).toNat=k.toNat+1 by omega,List.getD_eq_getElem?_getD,List.getElem?_eq_getElem hk]
 rfl
theorem XR (s:Au):H0 s (s.length:Int).toNat=true:=by
 unfold H0
 rw [show(s.length:Int).toNat=s.length by omega,List.drop_length];rfl
def X9:Au:= [115,111,109,101,111,110,101]
def eE:Au:= [121,111,117]
def FW (s:Au):Bool:=H0 s 0 && (decide (1≤(s.length:Int)) && decide ((s.length:Int)≤8) && !decide (s=X9) && !decide (s=eE))
/-! #### who enters -/
def Ij (X:AI)(s:Au)(k:Int):Bool:=(X.AO.at k).here && decide ((X.AO.at k).name=s)
def CP (X:AI):Nat→Int
 | 0=>-1
 | n+1=>if (!(X.AO.at ((5 - n:Nat):Int)).here && decide (2≤((5 - n:Nat):Int)))=true then((5 - n:Nat):Int) else CP X n
theorem OP {X:AI}{k:Int}(h0:0≤k)(h5:k≤5):CP X (5 - (k - 1)).toNat=if (!(X.AO.at k).here && decide (2≤k))=true then k else CP X (5 - k).toNat:=by
 have e:(5 - (k - 1)).toNat=(5 - k).toNat+1:=by omega
 rw [e,CP,show((5 - (5 - k).toNat:Nat):Int)=k by omega]
theorem Xp {X:AI}{k:Int}(h2:2≤k)(h5:k≤5)(h:(!(X.AO.at k).here)=false):CP X (5 - (k - 1)).toNat=CP X (5 - k).toNat:=by
 rw [OP (by omega) h5,h];rfl
theorem VX {X:AI}{k:Int}(h2:2≤k)(h5:k≤5)(h:(!(X.AO.at k).here)=true):CP X (5 - (k - 1)).toNat=k:=by
 rw [OP (by omega) h5,h,decide_eq_true h2];rfl
theorem Vm (X:AI):CP X 6=CP X 4:=by
 have h1:CP X 6=CP X 5:=by
  rw [CP,if_neg (by simp)]
 have h2:CP X 5=CP X 4:=by
  rw [CP,if_neg (by simp)]
 rw [h1,h2]
theorem Mq (X:AI):∀ n:Nat,n≤6→CP X n=-1∨(2≤CP X n∧CP X n≤5)
 | 0,_=> .inl rfl
 | n+1,h=>by
  unfold CP
  split
  ·rename_i c
   rw [Bool.and_eq_true] at c
   have:=of_decide_eq_true c.2
   exact .inr ⟨this,by omega⟩
  ·exact Mq X n (by omega)
def J0 (s:Au):An:={ (default:An) with name:=s,here:=true,BM:=10 }
def JI (X:AI)(s:Au)(b:Int):AF:=((⟨X.C4 b (J0 s),b,[]⟩:AF).kind 17).look
def BW (X:AI)(s:Au):AI × Int × List Event × Int:=
 if (!X.Bj)=true then(X,0,[],2)
 else if (!FW s)=true then(X,0,[],1)
 else if (!B7 6 (fun k=>!Ij X s k) 6)=true then(X,0,[],1)
 else if decide (CP X 6 < 0)=true then(X,0,[],4)
 else((JI X s (CP X 6)).w,CP X 6,(JI X s (CP X 6)).out,0)
theorem QP (X:AI)(s:Au):(BW X s).2.2.1.length≤10:=by
 unfold BW
 split
 ·exact Nat.zero_le _
 ·split
  ·exact Nat.zero_le _
  ·split
   ·exact Nat.zero_le _
   ·split
    ·exact Nat.zero_le _
    ·exact(KD _).2.2
theorem Pw {X:AI}{s:Au}{b:Int}(hg:X.Bj=true)(hw:X.DL)(hs:s.length≤140737488351232)(h0:0≤b)(h6:b < 6):Fit ⟨X.C4 b (J0 s),b,[]⟩:=
 ⟨⟨h0,h6⟩,Ey hw hs,KG hg h0 h6 ⟨⟨Int.le_refl _,show(0:Int) < 6 by decide⟩,⟨show(0:Int)≤10 by decide,show(10:Int)≤10 by decide⟩,⟨Int.le_refl _,show(0:Int)≤6 by decide⟩,fun _=>rfl,rfl⟩ fun _=>rfl,by
  show((X.C4 b (J0 s)).AO.at b).here=true
  rw [AI.EO h0 h6];rfl⟩
end AF
end Go.Ing
/- A round, as the document says it: plain laws. -/
namespace Go.Ing
open Go
theorem Ue {α:Type}[Inhabited α]{n:Nat}{v u:Vector α n}(h:∀ i:Int,0≤i→i < n→v.at i=u.at i):v=u:=by
 apply Vector.ext
 intro i hi
 have:=h (i:Int) (by omega) (by omega)
 unfold Vector.at at this
 rw [List.getD_eq_getElem?_getD,List.getD_eq_getElem?_getD] at this
 simpa [hi] using this
namespace AF
def pre (o:List Event)(T:AF):AF:=⟨T.w,T.b,o++T.out⟩
theorem RC (T:AF){i:Int}(h0:0≤i)(h9:i < 9)(c:decide ((((T.w.AP.put i { T.w.AP.at i with Cb:=0 }).put i { (T.w.AP.put i { T.w.AP.at i with Cb:=0 }).at i with at_:=(T.w.AO.at T.b).room }).at i).kind=2)=true):({ T.w with AP:=((T.w.AP.put i { T.w.AP.at i with Cb:=0 }).put i { (T.w.AP.put i { T.w.AP.at i with Cb:=0 }).at i with at_:=(T.w.AO.at T.b).room }).put i { ((T.w.AP.put i { T.w.AP.at i with Cb:=0 }).put i { (T.w.AP.put i { T.w.AP.at i with Cb:=0 }).at i with at_:=(T.w.AO.at T.b).room }).at i with on:=false } }:AI)=(T.E0 i).w:=by
 rw [Vector.CG h0 h9,Vector.CG h0 h9] at c
 rw [Vector.CG h0 h9,Vector.EE,Vector.CG h0 h9,Vector.EE]
 unfold E0
 rw [if_pos (show decide ((T.w.AP.at i).kind=2)=true from c)];rfl
theorem Ud (T:AF){i:Int}(h0:0≤i)(h9:i < 9)(c:decide ((((T.w.AP.put i { T.w.AP.at i with Cb:=0 }).put i { (T.w.AP.put i { T.w.AP.at i with Cb:=0 }).at i with at_:=(T.w.AO.at T.b).room }).at i).kind=2)=false):({ T.w with AP:=(T.w.AP.put i { T.w.AP.at i with Cb:=0 }).put i { (T.w.AP.put i { T.w.AP.at i with Cb:=0 }).at i with at_:=(T.w.AO.at T.b).room } }:AI)=(T.E0 i).w:=by
 rw [Vector.CG h0 h9,Vector.CG h0 h9] at c
 rw [Vector.CG h0 h9,Vector.EE]
 unfold E0
 rw [if_neg (show ¬ decide ((T.w.AP.at i).kind=2)=true from by rw [show decide ((T.w.AP.at i).kind=2)=false from c];decide)];rfl
theorem QX {X:AI}(hw:X.DL)(draw:Int):(CY X draw).2.1.length≤78:=by
 by_cases h:(CY X draw).2.2=0
 ·exact(Xa hw h).2.2
 ·unfold CY at h ⊢
  split
  ·exact Nat.zero_le _
  ·rename_i h1
   rw [if_neg h1] at h
   exact absurd rfl h
end AF
end Go.Ing
/- What beings do, as the document says it: plain laws. -/
namespace Go.Ing
open Go
namespace AF
def skip (w:AI)(u:Au)(i:Int):Bool:=!decide (u = []) && !decide (u=(w.AP.at i).name)
/-! #### what is taken -/
/-! #### what is set -/
/-! #### what is let go of -/
theorem U4 (T:AF)(o:Order):(T.Cv o).1.w=T.w∧(T.Cv o).1.b=T.b:=by
 unfold Cv
 split
 ·exact T.J6 o.second
 ·split
  ·exact T.JP o.second
  ·exact⟨rfl,rfl⟩
theorem QW (T:AF)(o:Order):0≤(T.Cv o).2.1∧(T.Cv o).2.1 < 9:=by
 unfold Cv
 split
 ·exact T.Yo o.second
 ·split
  ·have:=T.Lh o.second;omega
  ·exact⟨Int.le_refl 0,show(0:Int) < 9 by decide⟩
theorem We {T:AF}{o:Order}(hv:o.verb=8∨o.verb=9∨o.verb=10)(h:(T.Cv o).2.2=true):NJ (T.Cv o).1 o.verb (T.Cv o).2.1:=by
 unfold NJ
 rw [(T.U4 o).1]
 unfold Cv at h ⊢
 split at h
 ·rename_i h2
  rw [if_pos h2]
  obtain⟨a0,a9,hk,_⟩:=XO h
  have:=of_decide_eq_true h2
  exact .inr (.inr ⟨by omega,by omega,a0,a9,hk⟩)
 ·rename_i h2
  rw [if_neg h2]
  split at h
  ·rename_i h3
   rw [if_pos h3]
   obtain⟨a0,a6,_,hs⟩:=J2 h
   exact .inr (.inl ⟨of_decide_eq_true h3,a0,a6,(AI.HR (AI.LC hs).2.1).2.2⟩)
  ·rename_i h3
   rw [if_neg h3]
   refine .inl ?_
   rcases hv with e | e | e
   ·exact e
   ·exact absurd (decide_eq_true e) h2
   ·exact absurd (decide_eq_true e) h3
def LJ (T:AF)(o:Order):List Int:=BQ T.w T.own o.nth o.name o.Bm
def RJ (T:AF)(o:Order):AF:=if decide (((T.LJ o).length:Int)=0)=true then T.tell Nt else T
theorem Zz {T:AF}{o:Order}(h:decide (((T.LJ o).length:Int)=0)=true):T.RJ o=T.tell Nt:=if_pos h
theorem aM {T:AF}{o:Order}(h:decide (((T.LJ o).length:Int)=0)=false):T.RJ o=T:=if_neg (by rw [h];decide)
theorem aQ (T:AF)(o:Order):(T.RJ o).w=T.w∧(T.RJ o).b=T.b∧(T.RJ o).out.length≤T.out.length+1:=by
 unfold RJ
 split
 ·exact⟨rfl,rfl,by rw [CI];exact Nat.le_refl _⟩
 ·exact⟨rfl,rfl,Nat.le_succ _⟩
def Qu (T:AF)(to:Int)(o:Order)(k:Nat):AF:=(T.RJ o).Eu o.verb to ((T.LJ o).take k)
theorem Mz {v to:Int}:∀(l:List Int) (T:AF) (i:Int),T.Eu v to (l ++ [i])=(T.Eu v to l).Cs v to i
 | [],_,_=>rfl
 | _ :: r,_,i=>Mz r _ i
theorem Yz {l:List Int}{k:Int}(h0:0≤k)(h1:k < l.length):l.take (k+1).toNat=l.take k.toNat ++ [l.getD k.toNat 0]:=by
 obtain⟨m,rfl⟩:=Int.eq_ofNat_of_zero_le h0
 have hm:m < l.length:=by omega
 show l.take (m+1)=l.take m ++ [l.getD m 0]
 rw [List.take_add_one,List.getElem?_eq_getElem hm,List.getD_eq_getElem?_getD,List.getElem?_eq_getElem hm]
 rfl
theorem Ih {T:AF}{to:Int}{o:Order}{k:Int}(h0:0≤k)(h1:k < (T.LJ o).length):T.Qu to o (k+1).toNat=(T.Qu to o k.toNat).Cs o.verb to ((T.LJ o).getD k.toNat 0):=by
 unfold Qu
 rw [Yz h0 h1,Mz]
theorem Wz {T:AF}{to:Int}{o:Order}:T.Qu to o ((T.LJ o).length:Int).toNat=T.SI to o:=by
 unfold Qu
 rw [show((T.LJ o).length:Int).toNat=(T.LJ o).length by omega,List.take_length]
 rfl
theorem R7 {T:AF}{o:Order}:(∀ i∈T.LJ o,Iv T.w T.b i)∧(T.LJ o).Nodup∧(T.LJ o).length≤9:=
 ⟨fun _ hi=>(FU (D0 hi)).S4,List.Nodup.sublist (Ee ..) (AI.QL ..),Nat.le_trans (Ee ..).length_le (AF.KQ T)⟩
theorem O7 (v to:Int):∀(l:List Int) (T:AF),(T.Eu v to l).out.length≤T.out.length+l.length∧(T.Eu v to l).b=T.b
 | [],_=>⟨Nat.le_refl _,rfl⟩
 | i :: r,T=>by
  obtain⟨h1,h2⟩:=O7 v to r (T.Cs v to i)
  have h3:=T.Nx v to i
  rw [Eu,List.length_cons]
  exact⟨by omega,h2.trans (T.XL v to i)⟩
theorem XE (T:AF)(to:Int)(o:Order)(k:Nat):(T.Qu to o k).out.length≤T.out.length+10∧(T.Qu to o k).b=T.b:=by
 have hs:=T.aQ o
 obtain⟨h1,h2⟩:=O7 o.verb to ((T.LJ o).take k) (T.RJ o)
 have h3:=(R7 (T:=T) (o:=o)).2.2
 have h4:((T.LJ o).take k).length≤(T.LJ o).length:=(List.take_sublist ..).length_le
 unfold Qu
 exact⟨by omega,h2.trans hs.2.1⟩
theorem NJ.ef {T:AF}{v to:Int}(h:NJ T v to)(hv:v=10):to < 6:=by
 rcases h with h | ⟨_,_,h,_⟩ | ⟨_,h,_⟩<;>omega
theorem VP {T X:AF}{o:Order}{p:Bool}(hX:X=(T.Cv o).1)(hp:p=(T.Cv o).2.2)(h:(!p)=true):T.FP o=X:=by
 rw [hp] at h
 rw [hX]
 exact if_pos h
theorem S2 {T X:AF}{o:Order}{to:Int}{p:Bool}(hX:X=(T.Cv o).1)(ht:to=(T.Cv o).2.1)(hp:p=(T.Cv o).2.2)(h:(!p)=false):T.FP o=X.SI to o∧0≤to∧to < 9∧(o.verb=8∨o.verb=9∨o.verb=10→NJ X o.verb to):=by
 rw [hp] at h
 have h2:(T.Cv o).2.2=true:=by simpa using h
 rw [hX,ht]
 exact⟨if_neg (by rw [h];decide),(T.QW o).1,(T.QW o).2,fun hv=>We hv h2⟩
/-! #### what a being does -/
theorem GO {T:AF}{o:Order}(h:o.verb < 6):T.act o=T.walk o.verb:=by
 unfold act;rw [if_pos (decide_eq_true h)]
theorem Na (X:AI)(b:Int)(o:Order):(EH X b o).2.1.length≤11:=by
 unfold EH
 split
 ·exact Nat.zero_le _
 ·split
  ·exact Nat.zero_le _
  ·split
   ·exact Nat.zero_le _
   ·have:=Ul (⟨X,b,[]⟩:AF) o
    exact Nat.le_trans this (Nat.le_refl 11)
end AF
end Go.Ing
/- Engine: the same rules, said shorter. -/
namespace Go.Ing
open Go
section
variable {F:List (Nat × Value)} {v0 v1 v2 v3 v4 v5 v6 v7 v8 v9 v10 v11:Value}
theorem Sub.t1 (k0:Nat)(h0:lk k0 F=some v0:=by rfl):Sub F [(k0,v0)]:= .cons h0 (.nil _)
theorem Sub.t2 (k0 k1:Nat)(h0:lk k0 F=some v0:=by rfl)(h1:lk k1 F=some v1:=by rfl):Sub F [(k0,v0),(k1,v1)]:= .cons h0 (.cons h1 (.nil _))
theorem Sub.t3 (k0 k1 k2:Nat)(h0:lk k0 F=some v0:=by rfl)(h1:lk k1 F=some v1:=by rfl)(h2:lk k2 F=some v2:=by rfl):Sub F [(k0,v0),(k1,v1),(k2,v2)]:= .cons h0 (.cons h1 (.cons h2 (.nil _)))
theorem Sub.t4 (k0 k1 k2 k3:Nat)(h0:lk k0 F=some v0:=by rfl)(h1:lk k1 F=some v1:=by rfl)(h2:lk k2 F=some v2:=by rfl)(h3:lk k3 F=some v3:=by rfl):Sub F [(k0,v0),(k1,v1),(k2,v2),(k3,v3)]:= .cons h0 (.cons h1 (.cons h2 (.cons h3 (.nil _))))
theorem Sub.t5 (k0 k1 k2 k3 k4:Nat)(h0:lk k0 F=some v0:=by rfl)(h1:lk k1 F=some v1:=by rfl)(h2:lk k2 F=some v2:=by rfl)(h3:lk k3 F=some v3:=by rfl)(h4:lk k4 F=some v4:=by rfl):Sub F [(k0,v0),(k1,v1),(k2,v2),(k3,v3),(k4,v4)]:= .cons h0 (.cons h1 (.cons h2 (.cons h3 (.cons h4 (.nil _)))))
theorem Sub.t6 (k0 k1 k2 k3 k4 k5:Nat)(h0:lk k0 F=some v0:=by rfl)(h1:lk k1 F=some v1:=by rfl)(h2:lk k2 F=some v2:=by rfl)(h3:lk k3 F=some v3:=by rfl)(h4:lk k4 F=some v4:=by rfl)(h5:lk k5 F=some v5:=by rfl):Sub F [(k0,v0),(k1,v1),(k2,v2),(k3,v3),(k4,v4),(k5,v5)]:= .cons h0 (.cons h1 (.cons h2 (.cons h3 (.cons h4 (.cons h5 (.nil _))))))
theorem Sub.t7 (k0 k1 k2 k3 k4 k5 k6:Nat)(h0:lk k0 F=some v0:=by rfl)(h1:lk k1 F=some v1:=by rfl)(h2:lk k2 F=some v2:=by rfl)(h3:lk k3 F=some v3:=by rfl)(h4:lk k4 F=some v4:=by rfl)(h5:lk k5 F=some v5:=by rfl)(h6:lk k6 F=some v6:=by rfl):Sub F [(k0,v0),(k1,v1),(k2,v2),(k3,v3),(k4,v4),(k5,v5),(k6,v6)]:= .cons h0 (.cons h1 (.cons h2 (.cons h3 (.cons h4 (.cons h5 (.cons h6 (.nil _)))))))
theorem Sub.t8 (k0 k1 k2 k3 k4 k5 k6 k7:Nat)(h0:lk k0 F=some v0:=by rfl)(h1:lk k1 F=some v1:=by rfl)(h2:lk k2 F=some v2:=by rfl)(h3:lk k3 F=some v3:=by rfl)(h4:lk k4 F=some v4:=by rfl)(h5:lk k5 F=some v5:=by rfl)(h6:lk k6 F=some v6:=by rfl)(h7:lk k7 F=some v7:=by rfl):Sub F [(k0,v0),(k1,v1),(k2,v2),(k3,v3),(k4,v4),(k5,v5),(k6,v6),(k7,v7)]:= .cons h0 (.cons h1 (.cons h2 (.cons h3 (.cons h4 (.cons h5 (.cons h6 (.cons h7 (.nil _))))))))
theorem Sub.t9 (k0 k1 k2 k3 k4 k5 k6 k7 k8:Nat)(h0:lk k0 F=some v0:=by rfl)(h1:lk k1 F=some v1:=by rfl)(h2:lk k2 F=some v2:=by rfl)(h3:lk k3 F=some v3:=by rfl)(h4:lk k4 F=some v4:=by rfl)(h5:lk k5 F=some v5:=by rfl)(h6:lk k6 F=some v6:=by rfl)(h7:lk k7 F=some v7:=by rfl)(h8:lk k8 F=some v8:=by rfl):Sub F [(k0,v0),(k1,v1),(k2,v2),(k3,v3),(k4,v4),(k5,v5),(k6,v6),(k7,v7),(k8,v8)]:= .cons h0 (.cons h1 (.cons h2 (.cons h3 (.cons h4 (.cons h5 (.cons h6 (.cons h7 (.cons h8 (.nil _)))))))))
theorem Sub.t10 (k0 k1 k2 k3 k4 k5 k6 k7 k8 k9:Nat)(h0:lk k0 F=some v0:=by rfl)(h1:lk k1 F=some v1:=by rfl)(h2:lk k2 F=some v2:=by rfl)(h3:lk k3 F=some v3:=by rfl)(h4:lk k4 F=some v4:=by rfl)(h5:lk k5 F=some v5:=by rfl)(h6:lk k6 F=some v6:=by rfl)(h7:lk k7 F=some v7:=by rfl)(h8:lk k8 F=some v8:=by rfl)(h9:lk k9 F=some v9:=by rfl):Sub F [(k0,v0),(k1,v1),(k2,v2),(k3,v3),(k4,v4),(k5,v5),(k6,v6),(k7,v7),(k8,v8),(k9,v9)]:= .cons h0 (.cons h1 (.cons h2 (.cons h3 (.cons h4 (.cons h5 (.cons h6 (.cons h7 (.cons h8 (.cons h9 (.nil _))))))))))
theorem Sub.t11 (k0 k1 k2 k3 k4 k5 k6 k7 k8 k9 k10:Nat)(h0:lk k0 F=some v0:=by rfl)(h1:lk k1 F=some v1:=by rfl)(h2:lk k2 F=some v2:=by rfl)(h3:lk k3 F=some v3:=by rfl)(h4:lk k4 F=some v4:=by rfl)(h5:lk k5 F=some v5:=by rfl)(h6:lk k6 F=some v6:=by rfl)(h7:lk k7 F=some v7:=by rfl)(h8:lk k8 F=some v8:=by rfl)(h9:lk k9 F=some v9:=by rfl)(h10:lk k10 F=some v10:=by rfl):Sub F [(k0,v0),(k1,v1),(k2,v2),(k3,v3),(k4,v4),(k5,v5),(k6,v6),(k7,v7),(k8,v8),(k9,v9),(k10,v10)]:= .cons h0 (.cons h1 (.cons h2 (.cons h3 (.cons h4 (.cons h5 (.cons h6 (.cons h7 (.cons h8 (.cons h9 (.cons h10 (.nil _)))))))))))
end
section
variable {P:Program} {n:Nat} {w0:World} {M:List Nat} {Q:Exit→Go.Act→World→Prop} {F F':List (Nat × Value)} {L L' A K:List Ad} {ops:Array Oper} {rest l:List Oper} {d id:Nat} {op:Op} {T:TypeId} {pos:String} {Cn:Array Edge} {v v':Value} {x y:Code}
theorem Gs (h:GL P n w0 M l.toArray (Exit.then (y.wp P Q) Q) l F L):G P n w0 M (.seq (.region id l.toArray false) y) Q F L:=Aq (AJ h)
theorem CD {z:Code}(h:GL P n w0 M l.toArray (Exit.then (y.wp P (Exit.then (z.wp P Q) Q)) (Exit.then (z.wp P Q) Q)) l F L):G P n w0 M (.seq (.seq (.region id l.toArray false) y) z) Q F L:=Aq (Aq (AJ h))
theorem Gn (hs:Sub F F')(h:G P n w0 M y Q F' L):GL P n w0 M ops (Exit.then (y.wp P Q) Q) [] F L:=AQ (AB hs (AA h))
theorem Gt (h:PS P n w0 M op T F L v L')(k:GL P n w0 M ops Q rest ((d,v) :: F) L')(hd:Nat.blt d n=true:=by rfl):GL P n w0 M ops Q (⟨some d,op,T,pos,Cn,none⟩ :: rest) F L:=KO hd h k
theorem Gm {x:Operand}(h:ev F x=some v)(k:GL P n w0 M ops Q rest ((d,v) :: F) L)(hd:Nat.blt d n=true:=by rfl):GL P n w0 M ops Q (⟨some d, .move x,T,pos,Cn,none⟩ :: rest) F L:=KO hd (AD h) k
theorem Ga {x:Operand}(h:ev F x=some v)(k:GL P n w0 M ops Q rest ((d,v) :: F) L)(hd:Nat.blt d n=true:=by rfl):GL P n w0 M ops Q (⟨some d, .assign x,T,pos,Cn,none⟩ :: rest) F L:=KO hd (A2 h) k
theorem Bb {j:Nat}{z:Bool}(t:Nat)(hj:(ops[j]?).bind (·.dst)=some t)(hb:lk t F=some (.bool z))(h:z=true→PS P n w0 M op T F L v L)(k:GL P n w0 M ops Q rest ((d,cv z v) :: F) L)(hd:Nat.blt d n=true:=by rfl):GL P n w0 M ops Q (⟨some d,op,T,pos,Cn,some (j,true)⟩ :: rest) F L:=Zh hj hb hd h k
theorem Bg {j:Nat}{z:Bool}(t:Nat)(hj:(ops[j]?).bind (·.dst)=some t)(hb:lk t F=some (.bool z))(h:z=false→PS P n w0 M op T F L v L)(k:GL P n w0 M ops Q rest ((d,cv (!z) v) :: F) L)(hd:Nat.blt d n=true:=by rfl):GL P n w0 M ops Q (⟨some d,op,T,pos,Cn,some (j,false)⟩ :: rest) F L:=Zi hj hb hd h k
theorem Gc {c:Operand}{b:Bool}(ht:b=true→G P n w0 M x Q F L)(hf:b=false→G P n w0 M y Q F L)(hc:ev F c=some (.bool b):=by rfl):G P n w0 M (.cond c x y) Q F L:=O9 hc ht hf
end
section
variable {P:Program} {n:Nat} {w0:World} {M:List Nat} {Q:Exit→Go.Act→World→Prop} {l:List Oper} {Rs:List Nat} {F:List (Nat × Value)}
variable {k i j d:Nat} {V A:List Nat} {D:List (Nat × (Nat × Value))} {L:List Ad} {op:Op} {T:TypeId} {pos:String} {Cn:Array Edge} {v v':Value}
theorem Pf (i:Nat)(ho:l[i]?=some ⟨some d,op,T,pos,Cn,none⟩)(h:PS P n w0 M op T (EZ D Cn.toList++F) L v L)(k':JW P n w0 M Q l Rs F k (i :: V) (i :: A) ((i,(d,v)) :: D) L)(hc:Wb l V i Cn.toList=true:=by kernel_rfl)(hlk:TN F d v:=by first | exact .inl rfl | exact .inr rfl):JW P n w0 M Q l Rs F (k+1) V A D L:=
 Ab i ho rfl hc (Ln (Cu h)) k' hlk
theorem GB {j:Nat}{y:Bool}(i t:Nat)(ho:l[i]?=some ⟨some d,op,T,pos,Cn,some (j,false)⟩)(hj:(l.toArray[j]?).bind (·.dst)=some t)(hb:lk t (EZ D Cn.toList++F)=some (.bool y))(h:y=false→PS P n w0 M op T (EZ D Cn.toList++F) L v L)(k':JW P n w0 M Q l Rs F k (i :: V) (i :: A) ((i,(d,cv (!y) v)) :: D) L)(hc:Wb l V i Cn.toList=true:=by kernel_rfl)(hlk:TN F d (cv (!y) v):=by first | exact .inl rfl | exact .inr rfl):JW P n w0 M Q l Rs F (k+1) V A D L:=
 Ab i ho rfl hc (DE (t:=t) hj hb (fun q=>Cu (h q))) k' hlk
theorem Mo {j:Nat}{y:Bool}(i t:Nat)(ho:l[i]?=some ⟨some d,op,T,pos,Cn,some (j,true)⟩)(hj:(l.toArray[j]?).bind (·.dst)=some t)(hb:lk t (EZ D Cn.toList++F)=some (.bool y))(h:y=true→PS P n w0 M op T (EZ D Cn.toList++F) L v L)(k':JW P n w0 M Q l Rs F k (i :: V) (i :: A) ((i,(d,cv y v)) :: D) L)(hc:Wb l V i Cn.toList=true:=by kernel_rfl)(hlk:TN F d (cv y v):=by first | exact .inl rfl | exact .inr rfl):JW P n w0 M Q l Rs F (k+1) V A D L:=
 Ab i ho rfl hc (Sc (t:=t) hj hb (fun q=>Cu (h q))) k' hlk
theorem Pk (h:Jn P n w0 M Q l Rs F i D L A)(hr:reaches Rs i j=true:=by kernel_rfl):Jn P n w0 M Q l Rs F i D L (j :: A):=VT hr h
theorem Po (ho:l[j]?=some ⟨some d,op,T,pos,Cn,none⟩)(h:PS P n w0 M op T (EZ D Cn.toList++F) L v' L)(hl:NI j D=some (d,v))(e:v'=v)(k':Jn P n w0 M Q l Rs F i D L A):Jn P n w0 M Q l Rs F i D L (j :: A):=CQ ho (Ln (Cu h)) hl e k'
end
section
variable {P:Program} {n:Nat} {w0:World} {M:List Nat} {F:List (Nat × Value)} {L:List Ad}
theorem cF {x:Operand}{c:Bool}{v:Value}(h:ev F x=some (cv (!c) v))(q:c=false):ev F x=some v:=BX h (by rw [q];rfl)
theorem Aj {T U f off b o:Nat}{x:Operand}(hf:FA P T f off)(hx:ev F x=some (.pointer (some ⟨b,o,none⟩))):PS P n w0 M (.fieldAddr T x f) U F L (.pointer (some ⟨b,o+off,none⟩)) L:=Qt hf hx
theorem BV {T:TypeId}{x:Operand}{p:Addr}(hx:ev F x=some (.pointer (some p))):PS P n w0 M (.nilCheck x) T F L (.pointer (some p)) L:=SB hx
end
theorem AS.ar {α:Type}{n:Nat}[Inhabited α]{e:α→List Value}{sz:Nat}(fe:Flat e sz){i:Int}(h:0≤i∧i < (n:Int)):AS (CA (n:=n) e) e (i.toNat * sz) sz (fun v=>v.at i) (fun v y=>v.put i y):=AS.arr fe h.1 h.2
class Nz (a:Prop) (b:outParam Prop):Prop where
 h:a→b
theorem kz {a b:Prop}[i:Nz a b](h:a):b:=i.h h
section
variable {p:Prop} [Decidable p] {a b:Bool} {x y:Prop} {m n:Int}
instance (priority:=low):Nz p p:=⟨id⟩
instance:Nz (decide p=true) p:=⟨of_decide_eq_true⟩
instance (priority:=low):Nz (decide p=false) (¬ p):=⟨of_decide_eq_false⟩
instance:Nz (decide (m < n)=false) (n≤m):=⟨fun h=>Int.not_lt.1 (of_decide_eq_false h)⟩
instance:Nz (decide (m≤n)=false) (n < m):=⟨fun h=>Int.not_le.1 (of_decide_eq_false h)⟩
instance [i:Nz (a=false) x]:Nz ((!a)=true) x:=⟨fun h=>i.h (by simpa using h)⟩
instance [i:Nz (a=true) x]:Nz ((!a)=false) x:=⟨fun h=>i.h (by simpa using h)⟩
instance [i:Nz (a=true) x][j:Nz (b=true) y]:Nz ((a && b)=true) (x∧y):=⟨fun h=>⟨i.h (eY ▸ h).1,j.h (eY ▸ h).2⟩⟩
instance [i:Nz (a=false) x][j:Nz (b=false) y]:Nz ((a || b)=false) (x∧y):=⟨fun h=>⟨i.h (eS ▸ h).1,j.h (eS ▸ h).2⟩⟩
instance [i:Nz (a=true) x][j:Nz (b=true) y]:Nz ((a || b)=true) (x∨y):=⟨fun h=>(eZ ▸ h:a=true∨b=true).imp i.h j.h⟩
instance [i:Nz (a=false) x][j:Nz (b=false) y]:Nz ((a && b)=false) (x∨y):=⟨fun h=>(eg ▸ h:a=false∨b=false).imp i.h j.h⟩
end
section
variable {F:List (Nat × Value)} {P:Program} {L L' K rs:List Ad} {r r' s:Ad} {x:Operand} {v:Value} {xs:List Operand} {vs:List Value}
theorem LG.h:LG (r :: L) r r' (r' :: L):= .head
theorem LG.t (h:LG L r r' L'):LG (s :: L) r r' (s :: L'):= .tail h
theorem MM.h:MM (r :: L) r L:= .head
theorem MM.t (h:MM L r L'):MM (s :: L) r (s :: L'):= .tail h
theorem Ay.n:Ay L [] L:= .nil
theorem Ay.c (h:MM L r L')(hs:Ay L' rs K):Ay L (r :: rs) K:= .cons h hs
theorem Pl.n:Pl F [] []:= .nil
theorem Pl.c (h:ev F x=some v)(hs:Pl F xs vs):Pl F (x :: xs) (v :: vs):= .cons h hs
theorem Rs.n:Rs P F L [] []:= .nil
end
section
variable {α:Type} {a b c d e f g h i j:α} {l:List α}
theorem _root_.List.Mem.m0:List.Mem a (a :: l):= .head _
theorem _root_.List.Mem.m1:List.Mem a (b :: a :: l):= .tail _ .m0
theorem _root_.List.Mem.m2:List.Mem a (b :: c :: a :: l):= .tail _ .m1
theorem _root_.List.Mem.m3:List.Mem a (b :: c :: d :: a :: l):= .tail _ .m2
theorem _root_.List.Mem.m4:List.Mem a (b :: c :: d :: e :: a :: l):= .tail _ .m3
theorem _root_.List.Mem.m5:List.Mem a (b :: c :: d :: e :: f :: a :: l):= .tail _ .m4
theorem _root_.List.Mem.m6:List.Mem a (b :: c :: d :: e :: f :: g :: a :: l):= .tail _ .m5
theorem _root_.List.Mem.m7:List.Mem a (b :: c :: d :: e :: f :: g :: h :: a :: l):= .tail _ .m6
end
end Go.Ing
/- A house's data, in Lean, and their parts. -/
namespace Go.Ing
open Go
structure A3 where
 state:Int
 A0:Int
 D6:AR
 D4:A6
 out:Ap
 told:Hd
instance:Inhabited A3:=⟨⟨0,0,default,⟨[],false,false,⟨none,0,0⟩⟩,⟨⟨none,0,0⟩,0,false,[],false⟩,⟨none,0,0⟩⟩⟩
def A3.enc (x:A3):List Value:=Az x.state++Az x.A0++AR.enc x.D6++A6.enc x.D4++Ap.enc x.out++Eo x.told
theorem A3.fl:Flat A3.enc 22:=⟨fun x=>by simp [A3.enc,A6.fl.len,Ap.fl.len,AR.fl.len,PR.len,B1.len],fun x v hv=>by
 simp only [A3.enc,List.mem_append] at hv
 rcases hv with ((((h | h) | h) | h) | h) | h
 ·exact B1.one _ v h
 ·exact B1.one _ v h
 ·exact AR.fl.one _ v h
 ·exact A6.fl.one _ v h
 ·exact Ap.fl.one _ v h
 ·exact PR.one _ v h⟩
theorem A3.l0:AS A3.enc (Az) 0 1 (fun x=>x.state) (fun x y=>{ x with state:=y }):=
 AS.Er B1 (fun _=> []) (fun x=>Az x.A0++AR.enc x.D6++A6.enc x.D4++Ap.enc x.out++Eo x.told) (fun _=>rfl) (fun x=>by simp [A3.enc]) (fun x y=>by simp [A3.enc])
theorem A3.l1:AS A3.enc (Az) 1 1 (fun x=>x.A0) (fun x y=>{ x with A0:=y }):=
 AS.Er B1 (fun x=>Az x.state) (fun x=>AR.enc x.D6++A6.enc x.D4++Ap.enc x.out++Eo x.told) (fun x=>by simp [B1.len]) (fun x=>by simp [A3.enc]) (fun x y=>by simp [A3.enc])
theorem A3.l2:AS A3.enc (AR.enc) 2 10 (fun x=>x.D6) (fun x y=>{ x with D6:=y }):=
 AS.Er AR.fl (fun x=>Az x.state++Az x.A0) (fun x=>A6.enc x.D4++Ap.enc x.out++Eo x.told) (fun x=>by simp [B1.len]) (fun x=>by simp [A3.enc]) (fun x y=>by simp [A3.enc])
theorem A3.l3:AS A3.enc (A6.enc) 12 4 (fun x=>x.D4) (fun x y=>{ x with D4:=y }):=
 AS.Er A6.fl (fun x=>Az x.state++Az x.A0++AR.enc x.D6) (fun x=>Ap.enc x.out++Eo x.told) (fun x=>by simp [AR.fl.len,B1.len]) (fun x=>by simp [A3.enc]) (fun x y=>by simp [A3.enc])
theorem A3.l4:AS A3.enc (Ap.enc) 16 5 (fun x=>x.out) (fun x y=>{ x with out:=y }):=
 AS.Er Ap.fl (fun x=>Az x.state++Az x.A0++AR.enc x.D6++A6.enc x.D4) (fun x=>Eo x.told) (fun x=>by simp [A6.fl.len,AR.fl.len,B1.len]) (fun x=>by simp [A3.enc]) (fun x y=>by simp [A3.enc])
theorem A3.l5:AS A3.enc (Eo) 21 1 (fun x=>x.told) (fun x y=>{ x with told:=y }):=
 AS.Er PR (fun x=>Az x.state++Az x.A0++AR.enc x.D6++A6.enc x.D4++Ap.enc x.out) (fun _=> []) (fun x=>by simp [A6.fl.len,Ap.fl.len,AR.fl.len,B1.len]) (fun x=>by simp [A3.enc]) (fun x y=>by simp [A3.enc])
structure AM where
 w:AI
 As:SQ A3 4
 CH:Int
 last:Hd
def AM.enc (x:AM):List Value:=AI.enc x.w++CA A3.enc x.As++Az x.CH++Eo x.last
theorem AM.fl:Flat AM.enc 255:=⟨fun x=>by simp [AM.enc,(Ff A3.fl).len,AI.fl.len,PR.len,B1.len],fun x v hv=>by
 simp only [AM.enc,List.mem_append] at hv
 rcases hv with ((h | h) | h) | h
 ·exact AI.fl.one _ v h
 ·exact(Ff A3.fl).one _ v h
 ·exact B1.one _ v h
 ·exact PR.one _ v h⟩
theorem AM.l0:AS AM.enc (AI.enc) 0 165 (fun x=>x.w) (fun x y=>{ x with w:=y }):=
 AS.Er AI.fl (fun _=> []) (fun x=>CA A3.enc x.As++Az x.CH++Eo x.last) (fun _=>rfl) (fun x=>by simp [AM.enc]) (fun x y=>by simp [AM.enc])
theorem AM.l1:AS AM.enc (CA A3.enc) 165 88 (fun x=>x.As) (fun x y=>{ x with As:=y }):=
 AS.Er (Ff A3.fl) (fun x=>AI.enc x.w) (fun x=>Az x.CH++Eo x.last) (fun x=>by simp [AI.fl.len]) (fun x=>by simp [AM.enc]) (fun x y=>by simp [AM.enc])
theorem AM.l2:AS AM.enc (Az) 253 1 (fun x=>x.CH) (fun x y=>{ x with CH:=y }):=
 AS.Er B1 (fun x=>AI.enc x.w++CA A3.enc x.As) (fun x=>Eo x.last) (fun x=>by simp [(Ff A3.fl).len,AI.fl.len]) (fun x=>by simp [AM.enc]) (fun x y=>by simp [AM.enc])
theorem AM.l3:AS AM.enc (Eo) 254 1 (fun x=>x.last) (fun x y=>{ x with last:=y }):=
 AS.Er PR (fun x=>AI.enc x.w++CA A3.enc x.As++Az x.CH) (fun _=> []) (fun x=>by simp [(Ff A3.fl).len,AI.fl.len,B1.len]) (fun x=>by simp [AM.enc]) (fun x y=>by simp [AM.enc])
end Go.Ing
/- What a house does: plain functions. -/
namespace Go.Ing
open Go
structure Aw where
 state:Int
 A0:Int
 D6:AR
 now:Au
 Ci:Bool
 ret:Bool
 queue:List Au
 pg:Page.Pg
 wait:List Au
 told:List Au
instance:Inhabited Aw:=⟨⟨0,0,default,[],false,false,[],⟨0,false,[],false⟩,[],[]⟩⟩
structure AH where
 w:AI
 As:Vector Aw 4
 CH:Int
 last:List Event
namespace Aw
def Ll (s:Aw):Bool:=decide ((s.wait.length:Int)≤60) && decide ((s.pg.ring.length:Int)≤700) && decide (0≤s.pg.shown) && decide (s.pg.shown≤200)
def line (s:Aw)(u:Au):Aw:=
 if (!s.Ll)=true then s else if s.pg.cut=true then s
 else if decide (60≤(s.wait.length:Int))=true then { s with pg:={ s.pg with cut:=true } } else { s with wait:=s.wait ++ [u] }
def note (s:Aw)(u:Au):Aw:=if (!s.pg.cut)=true then { s with told:=s.told ++ [u] } else s
def tell (s:Aw)(u:Au):Aw:=(s.line u).note u
def send (s:Aw)(u:Au):Aw:=if (!s.Ll)=true then s else if s.pg.cut=true then s else { s with pg:=Page.put s.pg u }
def BZ (s:Aw):Aw:=
 if (!s.Ll || decide (s.D6.B5 < 0) || decide (200 < s.D6.B5))=true then s
 else { s with pg:=(Page.BZ s.D6.B5 s.wait s.pg).1,wait:=(Page.BZ s.D6.B5 s.wait s.pg).2 }
def F7 (s:Aw):Aw:={ s with pg:={ s.pg with shown:=0,Bv:=false } }
def bQ (s:Aw)(n:Int):Nat:=(max 0 (min n (s.pg.ring.length:Int))).toNat
def HZ (s:Aw)(n:Int):Aw:={ s with pg:={ s.pg with ring:=s.pg.ring.drop (s.bQ n) } }
def out (s:Aw)(n:Int):Au:=s.pg.ring.take (s.bQ n)
def LN (s:Aw):Bool:=
 !(decide (60 < (s.now.length:Int)) || decide (6 < (s.queue.length:Int)) || (s.Ci && decide (60 < (s.now.length:Int))) || (s.ret && (!decide (s.now = []) || s.Ci))) && (s.queue ++ [s.now]).all Bi.GG
def typed (s:Aw)(u:Au):Aw × Int:=
 if (!s.LN)=true then(s,0)
 else
  let x:=Bi.feed ⟨s.now,s.Ci,s.ret,s.queue,0⟩ u
  ({ s with now:=x.now,Ci:=x.Ci,ret:=x.ret,queue:=x.queue },x.lost)
def bytes (s:Aw)(u:Au):Aw × Au:=({ s with D6:=(s.D6.Dr u).1 }.send (s.D6.Dr u).2.2.1,(s.D6.Dr u).2.1)
def offer (s:Aw)(opt:Int):Aw:=
 if decide ((s.D6.DT opt).2.1 = [])=true then { s with D6:=((s.D6.DT opt).1.Ask opt).1 }.send ([]++((s.D6.DT opt).1.Ask opt).2.1)
 else { s with D6:=(s.D6.DT opt).1 }.send ((s.D6.DT opt).2.1 ++ [])
end Aw
namespace AH
def at_ (H:AH)(k:Int):Aw:=H.As.at k
def set (H:AH)(k:Int)(s:Aw):AH:={ H with As:=H.As.put k s }
def tell (H:AH)(k:Int)(u:Au):AH:=H.set k ((H.at_ k).tell u)
def Cc (e:Event)(H:AH):Nat→AH
 | 0=>H
 | k+1=>if (!decide (((Cc e H k).at_ k).state=2))=true then Cc e H k else if (AI.tell e ((Cc e H k).at_ k).A0).2=true then(Cc e H k).tell k (AI.tell e ((Cc e H k).at_ k).A0).1 else Cc e H k
def HV (H:AH)(l:List Event):AH:=l.foldl (fun X e=>Cc e X 4) H
def HE (H:AH)(l:List Event):AH:={ H with last:=H.last++l }.HV l
def EI:Order:={ (default:Order) with verb:=20 }
def TW (H:AH)(k:Int):AH:={ H with w:=(AF.EH H.w (H.at_ k).A0 EI).1 }
def leave (H:AH)(k:Int):AH:=
 (if (decide ((H.at_ k).state=2) && (H.w.AO.at (H.at_ k).A0).here)=true then((H.TW k).set k default).HE (AF.EH H.w (H.at_ k).A0 EI).2.1 else H).set k default
def B8 (H:AH):Nat→AH × Bool
 | 0=>(H,false)
 | k+1=>
  if decide (((B8 H k).1.at_ k).state=0)=true then B8 H k
  else if (((B8 H k).1.at_ k).BZ).pg.cut=true then(((B8 H k).1.set k (((B8 H k).1.at_ k).BZ)).leave k,true)
  else((B8 H k).1.set k (((B8 H k).1.at_ k).BZ),(B8 H k).2)
def Fu (H:AH):Nat→AH
 | 0=>H
 | n+1=>if (!(H.B8 4).2)=true then(H.B8 4).1 else(H.B8 4).1.Fu n
def BZ (H:AH):AH:=H.Fu 5
def Hx:Au:= [87,104,111,32,97,114,101,32,121,111,117,63]
def OG:Au:= [78,111,116,32,115,111,32,102,97,115,116,46]
def Zt:Au:= [87,104,97,116,63]
def Q2:Au:= [84,104,97,116,32,105,115,32,110,111,32,110,97,109,101,46]
def noRoom:Au:= [84,104,101,114,101,32,105,115,32,110,111,32,114,111,111,109,46]
def Kj (H:AH)(k:Int):AH:=((H.set k ((({ (default:Aw) with state:=1,A0:=-1 }).offer 3).offer 31)).tell k Hx).BZ
def named (H:AH)(k:Int)(u:Au):AH:=
 if decide ((AF.BW H.w u).2.2.2=0)=true then({ H with w:=(AF.BW H.w u).1 }.set k { H.at_ k with state:=2,A0:=(AF.BW H.w u).2.1 }).HE (AF.BW H.w u).2.2.1
 else if decide ((AF.BW H.w u).2.2.2=4)=true then H.tell k noRoom
 else H.tell k Q2
def order (H:AH)(k:Int)(u:Au):AH:=
 if (!decide ((Words.parse u).2=0))=true then H.tell k Zt
 else if decide ((Words.parse u).1.verb=20)=true then H.leave k
 else { H with w:=(AF.EH H.w (H.at_ k).A0 (Words.parse u).1).1 }.HE (AF.EH H.w (H.at_ k).A0 (Words.parse u).1).2.1
def Ea (H:AH)(k:Int):AH:=
 if decide ((H.at_ k).state=0)=true then H
 else match (H.at_ k).queue with
  | []=>H
  | q :: r=>
   let H1:=H.set k { H.at_ k with queue:=r }.F7
   if (H.at_ k).pg.Bv=true then H1
   else if decide ((H.at_ k).state=1)=true then H1.named k (Words.QU 32 (Words.Sb 32 q))
   else H1.order k q
def turns (H:AH):Nat→AH
 | 0=>H
 | k+1=>(turns H k).Ea k
def O2 (H:AH)(d:Int):AH:=
 let X:=H.turns 4
 ({ X with w:=(AF.CY X.w d).1 }.HE (AF.CY X.w d).2.1).BZ
def Ek (H:AH):Nat→AH
 | 0=>H
 | k+1=>(Ek H k).set k { (Ek H k).at_ k with told:= [] }
def begun (H:AH):AH:={ H with CH:=H.CH+1,last:= [] }.Ek 4
def ok:Bp:=⟨0,[]⟩
def byte (H:AH)(k:Int)(u:Au):AH:=
 let s1:=(H.at_ k).bytes u
 let s2:=s1.1.typed s1.2
 ((if decide (0 < s2.2)=true then(H.set k s2.1).tell k OG else H.set k s2.1)).BZ
def Dv (X:AH)(a:Bk):AH × Bp:=
 if decide (a.kind=5)=true then(X.O2 a.n,ok)
 else if (decide (a.kind < 1) || decide (5 < a.kind))=true then(X,⟨5,[]⟩)
 else if (decide (a.BB < 0) || decide (4≤a.BB))=true then(X,⟨2,[]⟩)
 else if (decide ((X.at_ a.BB).state=0) != decide (a.kind=1))=true then(X,⟨3,[]⟩)
 else if decide (a.kind=1)=true then(X.Kj a.BB,ok)
 else if decide (a.kind=2)=true then(X.byte a.BB a.bytes,ok)
 else if decide (a.kind=3)=true then((X.set a.BB ((X.at_ a.BB).HZ a.n)).BZ,⟨0,(X.at_ a.BB).out a.n⟩)
 else((X.leave a.BB).BZ,ok)
def act (H:AH)(a:Bk):AH × Bp:=if decide (400≤H.CH)=true then(H,⟨4,[]⟩) else H.begun.Dv a
def new:AH:=⟨AI.new,Vector.replicate 4 default,0,[]⟩
def run:AH→List Bk→AH × List Bp
 | H,[]=>(H,[])
 | H,a :: l=>((run (H.act a).1 l).1,(H.act a).2 :: (run (H.act a).1 l).2)
end AH
end Go.Ing
/- Engine: several slices together; a seat of a house. -/
namespace Go.Ing
open Go
def Ad.Da (l:List Ad):Ad where
 CX:=l.flatMap Ad.CX
 ok w:=(∀ r∈l,r.ok w)∧l.Pairwise fun r s=>∀ b:Nat,b∈r.CX→b ∉ s.CX
 loc w w' h hw:=⟨fun r hr=>r.loc w w' (fun b hb=>h b (List.mem_flatMap.2 ⟨r,hr,hb⟩)) (hw.1 r hr),hw.2⟩
section
variable {w0 w:World} {M:List Nat} {l L:List Ad}
theorem St.XN (h:St w0 M w (Ad.Da l :: L)):St w0 M w (l++L):=by
 have hm:∀ r∈l,∀ b∈r.CX,b∈(Ad.Da l).CX:=fun r hr b hb=>List.mem_flatMap.2 ⟨r,hr,hb⟩
 have hf:=h.ok (Ad.Da l) (List.mem_cons_self ..)
 refine⟨h.os,h.tape,h.output,h.size,h.Hv,fun r hr=>?_,fun r hr=>?_,List.pairwise_append.2 ⟨hf.2,(List.pairwise_cons.1 h.JD).2,fun r hr s hs b hb=>(List.pairwise_cons.1 h.JD).1 s hs b (hm r hr b hb)⟩⟩
 ·rcases List.mem_append.1 hr with hr | hr
  ·exact hf.1 r hr
  ·exact h.ok r (List.mem_cons_of_mem _ hr)
 ·rcases List.mem_append.1 hr with hr | hr
  ·exact fun b hb=>h.CX _ (List.mem_cons_self ..) b (hm r hr b hb)
  ·exact h.CX r (List.mem_cons_of_mem _ hr)
theorem St.XA (h:St w0 M w (l++L)):St w0 M w (Ad.Da l :: L):=by
 have hd:=List.pairwise_append.1 h.JD
 refine⟨h.os,h.tape,h.output,h.size,h.Hv,fun r hr=>?_,fun r hr=>?_,List.pairwise_cons.2 ⟨fun s hs b hb=>?_,hd.2.1⟩⟩
 ·rcases List.mem_cons.1 hr with rfl | hr
  ·exact⟨fun r hr=>h.ok r (List.mem_append_left _ hr),hd.1⟩
  ·exact h.ok r (List.mem_append_right _ hr)
 ·rcases List.mem_cons.1 hr with rfl | hr
  ·intro b hb
   obtain⟨r,hr,hb'⟩:=List.mem_flatMap.1 hb
   exact h.CX r (List.mem_append_left _ hr) b hb'
  ·exact h.CX r (List.mem_append_right _ hr)
 ·obtain⟨r,hr,hb'⟩:=List.mem_flatMap.1 hb
  exact hd.2.2 r hr s hs b hb'
end
structure BK where
 queue:List Au
 wait:List Au
 told:List Au
 deriving Inhabited
def Fp (T:Nat)(v:A3)(l:BK):List Ad:= [Ad.own v.D4.queue T 1 (l.queue.flatMap A8),Ad.own v.out.wait T 1 (l.wait.flatMap A8),Ad.own v.told T 1 (l.told.flatMap A8)]
def CL (T:Nat)(vs:Vector A3 4)(ls:Vector BK 4):List Ad:=Fp T (vs.at 0) (ls.at 0)++(Fp T (vs.at 1) (ls.at 1)++(Fp T (vs.at 2) (ls.at 2)++Fp T (vs.at 3) (ls.at 3)))
def Gz (T:Nat)(k:Int)(vs:Vector A3 4)(ls:Vector BK 4):List Ad:=
 if k=0 then Fp T (vs.at 1) (ls.at 1)++(Fp T (vs.at 2) (ls.at 2)++Fp T (vs.at 3) (ls.at 3))
 else if k=1 then Fp T (vs.at 0) (ls.at 0)++(Fp T (vs.at 2) (ls.at 2)++Fp T (vs.at 3) (ls.at 3))
 else if k=2 then Fp T (vs.at 0) (ls.at 0)++(Fp T (vs.at 1) (ls.at 1)++Fp T (vs.at 3) (ls.at 3))
 else Fp T (vs.at 0) (ls.at 0)++(Fp T (vs.at 1) (ls.at 1)++Fp T (vs.at 2) (ls.at 2))
theorem JN {α:Type}(a b c:List α):(a++(b++c)).Perm (b++(a++c)):=by
 rw [← List.append_assoc,← List.append_assoc]
 exact List.perm_append_comm.append_right c
theorem four {k:Int}(h0:0≤k)(h1:k < 4):k=0∨k=1∨k=2∨k=3:=by omega
theorem Px (T:Nat){k:Int}(h0:0≤k)(h1:k < 4)(vs:Vector A3 4)(ls:Vector BK 4):(CL T vs ls).Perm (Fp T (vs.at k) (ls.at k)++Gz T k vs ls):=by
 unfold CL Gz
 rcases four h0 h1 with e | e | e | e<;>subst e
 ·exact .refl _
 ·exact JN _ _ _
 ·exact((JN _ _ _).append_left _).trans (JN _ _ _)
 ·exact(((List.perm_append_comm).append_left _).append_left _).trans (((JN _ _ _).append_left _).trans (JN _ _ _))
theorem VG (T:Nat){k:Int}(h0:0≤k)(h1:k < 4)(vs:Vector A3 4)(ls:Vector BK 4)(v:A3)(l:BK):Gz T k (vs.put k v) (ls.put k l)=Gz T k vs ls:=by
 have hv:∀ i:Int,0≤i→i≠k→(vs.put k v).at i=vs.at i:=fun i hi hn=>Vector.Ei h0 h1 hi hn
 have hl:∀ i:Int,0≤i→i≠k→(ls.put k l).at i=ls.at i:=fun i hi hn=>Vector.Ei h0 h1 hi hn
 unfold Gz
 rcases four h0 h1 with e | e | e | e<;>subst e
 ·rw [if_pos rfl,if_pos rfl,hv 1 (by decide) (by decide),hv 2 (by decide) (by decide),hv 3 (by decide) (by decide),hl 1 (by decide) (by decide),hl 2 (by decide) (by decide),hl 3 (by decide) (by decide)]
 ·rw [if_neg (by decide),if_pos rfl,if_neg (by decide),if_pos rfl,hv 0 (by decide) (by decide),hv 2 (by decide) (by decide),hv 3 (by decide) (by decide),hl 0 (by decide) (by decide),hl 2 (by decide) (by decide),hl 3 (by decide) (by decide)]
 ·rw [if_neg (by decide),if_neg (by decide),if_pos rfl,if_neg (by decide),if_neg (by decide),if_pos rfl,hv 0 (by decide) (by decide),hv 1 (by decide) (by decide),hv 3 (by decide) (by decide),hl 0 (by decide) (by decide),hl 1 (by decide) (by decide),hl 3 (by decide) (by decide)]
 ·rw [if_neg (by decide),if_neg (by decide),if_neg (by decide),if_neg (by decide),if_neg (by decide),if_neg (by decide),hv 0 (by decide) (by decide),hv 1 (by decide) (by decide),hv 2 (by decide) (by decide),hl 0 (by decide) (by decide),hl 1 (by decide) (by decide),hl 2 (by decide) (by decide)]
def AM.BB (V:AM)(k:Int)(s:A3):AM:={ V with As:=V.As.put k s }
def J5 (V:AM)(k:Int)(s:A3):List Value:=(V.BB k s).enc
theorem AS.BB (V:AM){k:Int}(h0:0≤k)(h1:k < 4):AS (J5 V k) A3.enc (165+k.toNat * 22) 22 (fun s=>s) (fun _ y=>y):=by
 have hl:=AM.l1.comp (AS.arr (n:=4) A3.fl h0 h1)
 refine⟨fun x=>?_,hl.len,fun x=>hl.XH _,fun x y=>?_,hl.one⟩
 ·have:=hl.get (V.BB k x)
  rw [show((V.BB k x).As.at k)=x from Vector.CG h0 h1] at this
  exact this
 ·have:=hl.set (V.BB k x) y
  rw [show({ V.BB k x with As:=(V.BB k x).As.put k y }:AM)=V.BB k y from by unfold AM.BB;rw [Vector.EE]] at this
  exact this
theorem Vector.MF {α:Type}[Inhabited α]{n:Nat}(v:Vector α n){k:Int}(h0:0≤k)(h1:k < n):v.put k (v.at k)=v:=by
 apply Ue
 intro i i0 i1
 by_cases e:i=k
 ·subst e;rw [Vector.CG h0 h1]
 ·rw [Vector.Ei h0 h1 i0 e]
theorem AM.Kf (V:AM){k:Int}(h0:0≤k)(h1:k < 4):V.BB k (V.As.at k)=V:=by
 unfold AM.BB;rw [Vector.MF _ h0 h1]
def Cq (v:A3)(l:BK):Aw:=⟨v.state,v.A0,v.D6,v.D4.now,v.D4.Ci,v.D4.ret,l.queue,Page.of v.out,l.wait,l.told⟩
def A7 (V:AM)(ls:Vector BK 4)(ev:List Event):AH:=⟨V.w,Vector.ofFn fun i=>Cq (V.As.at ((i:Nat):Int)) (ls.at ((i:Nat):Int)),V.CH,ev⟩
theorem Ca (V:AM)(ls:Vector BK 4)(ev:List Event){k:Int}(h0:0≤k)(h1:k < 4):(A7 V ls ev).at_ k=Cq (V.As.at k) (ls.at k):=by
 rcases four h0 h1 with e | e | e | e<;>subst e<;>rfl
theorem Iq (V:AM)(ls:Vector BK 4)(ev:List Event){k:Int}(h0:0≤k)(h1:k < 4)(v:A3)(l:BK):A7 (V.BB k v) (ls.put k l) ev=(A7 V ls ev).set k (Cq v l):=by
 unfold A7 AH.set AM.BB
 congr 1
 apply Ue
 intro i i0 i1
 have hof:∀(f:Fin 4→Aw),(Vector.ofFn f).at i=f ⟨i.toNat,by omega⟩:=fun f=>by
  rcases four i0 i1 with e | e | e | e<;>subst e<;>rfl
 rw [hof]
 have hi:((i.toNat:Nat):Int)=i:=by omega
 by_cases e:i=k
 ·subst e
  rw [Vector.CG h0 h1]
  show Cq ((V.As.put i v).at ((i.toNat:Nat):Int)) ((ls.put i l).at ((i.toNat:Nat):Int))=_
  rw [hi,Vector.CG h0 h1,Vector.CG h0 h1]
 ·rw [Vector.Ei h0 h1 i0 e,hof]
  show Cq ((V.As.put k v).at ((i.toNat:Nat):Int)) ((ls.put k l).at ((i.toNat:Nat):Int))=Cq (V.As.at ((i.toNat:Nat):Int)) (ls.at ((i.toNat:Nat):Int))
  rw [hi,Vector.Ei h0 h1 i0 e,Vector.Ei h0 h1 i0 e]
section
variable {P:Program} {n:Nat} {w0 w:World} {M:List Nat} {Q:Exit→Go.Act→World→Prop} {F:List (Nat × Value)} {L K:List Ad} {cd:Code} {b T TS:Nat} {V:AM} {ls:Vector BK 4} {k:Int}
theorem St.bd (h0:0≤k)(h1:k < 4)(h:St w0 M w (Ad.box b T V.enc :: Ad.Da (CL TS V.As ls) :: K)) :
  St w0 M w (Ad.own (V.As.at k).D4.queue TS 1 ((ls.at k).queue.flatMap A8) :: Ad.own (V.As.at k).out.wait TS 1 ((ls.at k).wait.flatMap A8) :: Ad.own (V.As.at k).told TS 1 ((ls.at k).told.flatMap A8) :: Ad.box b T (J5 V k (V.As.at k)) :: Ad.Da (Gz TS k V.As ls) :: K):=by
 have h2:St w0 M w (CL TS V.As ls++(Ad.box b T V.enc :: K)):=(h.perm (List.Perm.swap ..)).XN
 have h3:=h2.perm ((Px TS h0 h1 V.As ls).append_right _)
 have h4:St w0 M w (Gz TS k V.As ls++(Fp TS (V.As.at k) (ls.at k)++(Ad.box b T V.enc :: K))):=by
  refine h3.perm ?_
  rw [List.append_assoc]
  exact JN _ _ _
 have h5:=h4.XA
 unfold J5
 rw [V.Kf h0 h1]
 refine h5.perm ?_
 exact(JN [Ad.Da (Gz TS k V.As ls)] (Fp TS (V.As.at k) (ls.at k) ++ [Ad.box b T V.enc]) K).trans (.of_eq (by simp [Fp]))
theorem St.close' (h0:0≤k)(h1:k < 4){s:A3}{qs ws ts:List Au}{q w' t:Hd}(hq:s.D4.queue=q)(hw:s.out.wait=w')(ht:s.told=t)
  (h:St w0 M w (Ad.own q TS 1 (qs.flatMap A8) :: Ad.own w' TS 1 (ws.flatMap A8) :: Ad.own t TS 1 (ts.flatMap A8) :: Ad.box b T (J5 V k s) :: Ad.Da (Gz TS k V.As ls) :: K)) :
  St w0 M w (Ad.box b T (V.BB k s).enc :: Ad.Da (CL TS (V.BB k s).As (ls.put k ⟨qs,ws,ts⟩)) :: K):=by
 subst hq hw ht
 have e1:(V.BB k s).As.at k=s:=Vector.CG h0 h1
 have e2:(ls.put k ⟨qs,ws,ts⟩).at k=⟨qs,ws,ts⟩:=Vector.CG h0 h1
 have hp:=Px TS h0 h1 (V.BB k s).As (ls.put k ⟨qs,ws,ts⟩)
 rw [e1,e2,show Gz TS k (V.BB k s).As (ls.put k ⟨qs,ws,ts⟩)=Gz TS k V.As ls from VG TS h0 h1 _ _ _ _] at hp
 have h2:St w0 M w (Ad.Da (Gz TS k V.As ls) :: (Fp TS s ⟨qs,ws,ts⟩++(Ad.box b T (V.BB k s).enc :: K))):=
  h.perm ((JN [Ad.Da (Gz TS k V.As ls)] (Fp TS s ⟨qs,ws,ts⟩ ++ [Ad.box b T (V.BB k s).enc]) K).symm.trans (.of_eq (by simp [Fp]))|>.symm.symm)
 have h3:=h2.XN
 have h4:St w0 M w ((Fp TS s ⟨qs,ws,ts⟩++Gz TS k V.As ls)++(Ad.box b T (V.BB k s).enc :: K)):=h3.perm (by rw [List.append_assoc];exact JN _ _ _)
 have h5:=(h4.perm (hp.symm.append_right _)).XA
 exact h5.perm (List.Perm.swap ..)
theorem FG (h0:0≤k)(h1:k < 4)(h:∀ s l,V.As.at k=s→ls.at k=l→(s.D4.queue.len=l.queue.length∧s.out.wait.len=l.wait.length∧s.told.len=l.told.length)→G P n w0 M cd Q F (Ad.own s.D4.queue TS 1 (l.queue.flatMap A8) :: Ad.own s.out.wait TS 1 (l.wait.flatMap A8) :: Ad.own s.told TS 1 (l.told.flatMap A8) :: Ad.box b T (J5 V k s) :: Ad.Da (Gz TS k V.As ls) :: K)) :
  G P n w0 M cd Q F (Ad.box b T V.enc :: Ad.Da (CL TS V.As ls) :: K):=fun a w hF hS=>
 have hO:=hS.bd h0 h1
 h _ _ rfl rfl ⟨(Kn.own (.head _) w hO).MC De (by decide),(Kn.own (.tail _ (.head _)) w hO).MC De (by decide),(Kn.own (.tail _ (.tail _ (.head _))) w hO).MC De (by decide)⟩ a w hF hO
theorem HH (h0:0≤k)(h1:k < 4){s:A3}{qs ws ts:List Au}{q w' t:Hd}(hq:s.D4.queue=q)(hw:s.out.wait=w')(ht:s.told=t)(h:G P n w0 M cd Q F (Ad.box b T (V.BB k s).enc :: Ad.Da (CL TS (V.BB k s).As (ls.put k ⟨qs,ws,ts⟩)) :: K)) :
  G P n w0 M cd Q F (Ad.own q TS 1 (qs.flatMap A8) :: Ad.own w' TS 1 (ws.flatMap A8) :: Ad.own t TS 1 (ts.flatMap A8) :: Ad.box b T (J5 V k s) :: Ad.Da (Gz TS k V.As ls) :: K):=fun a w hF hS=>h a w hF (hS.close' h0 h1 hq hw ht)
theorem Re {x:Exit}(h0:0≤k)(h1:k < 4){s:A3}{qs ws ts:List Au}{q w' t:Hd}(hq:s.D4.queue=q)(hw:s.out.wait=w')(ht:s.told=t)(h:GQ n w0 M Q x F (Ad.box b T (V.BB k s).enc :: Ad.Da (CL TS (V.BB k s).As (ls.put k ⟨qs,ws,ts⟩)) :: K)) :
  GQ n w0 M Q x F (Ad.own q TS 1 (qs.flatMap A8) :: Ad.own w' TS 1 (ws.flatMap A8) :: Ad.own t TS 1 (ts.flatMap A8) :: Ad.box b T (J5 V k s) :: Ad.Da (Gz TS k V.As ls) :: K):=fun a w hF hS=>h a w hF (hS.close' h0 h1 hq hw ht)
end
theorem Es {V:AM}{ls:Vector BK 4}{ev:List Event}{k:Int}(h0:0≤k)(h1:k < 4){s v:A3}{l l':BK}(hs:V.As.at k=s)(hl:ls.at k=l){f:Aw→Aw}(e:Cq v l'=f (Cq s l)):A7 (V.BB k v) (ls.put k l') ev=(A7 V ls ev).set k (f ((A7 V ls ev).at_ k)):=by
 rw [Iq V ls ev h0 h1,Ca V ls ev h0 h1,hs,hl,e]
theorem Jf {v:A3}{l:BK}(h:v.out.wait.len=l.wait.length):(Cq v l).Ll=Page.Bj v.out:=by
 unfold Aw.Ll Page.Bj
 rw [h];rfl
end Go.Ing
/- A house: plain laws for the walks. -/
namespace Go.Ing
open Go
theorem Wk {v:A3}{l:BK}{u:Au}(hw:v.out.wait.len=l.wait.length)(h:Page.Bj v.out=false):(Cq v l).line u=Cq v l:=if_pos (by rw [Jf hw,h];rfl)
theorem XJ {v:A3}{l:BK}{u:Au}(hw:v.out.wait.len=l.wait.length)(h:Page.Bj v.out=true)(c:v.out.cut=true):(Cq v l).line u=Cq v l:=(if_neg (by rw [Jf hw,h];decide)).trans (if_pos c)
theorem VU {v:A3}{l:BK}{u:Au}(hw:v.out.wait.len=l.wait.length)(h:Page.Bj v.out=true)(c:v.out.cut=false)(n:60≤l.wait.length):(Cq v l).line u=Cq { v with out:=⟨v.out.wait,v.out.shown,v.out.Bv,v.out.ring,true⟩ } l:=
 (if_neg (by rw [Jf hw,h];decide)).trans ((if_neg (by show ¬ v.out.cut=true;rw [c];decide)).trans (if_pos (decide_eq_true (show(60:Int)≤(l.wait.length:Int) by omega))))
theorem VR {v:A3}{l:BK}{u:Au}(hw:v.out.wait.len=l.wait.length)(h:Page.Bj v.out=true)(c:v.out.cut=false)(n:l.wait.length < 60)(w:Hd):(Cq v l).line u=Cq { v with out:=⟨w,v.out.shown,v.out.Bv,v.out.ring,v.out.cut⟩ } ⟨l.queue,l.wait ++ [u],l.told⟩:=
 (if_neg (by rw [Jf hw,h];decide)).trans ((if_neg (by show ¬ v.out.cut=true;rw [c];decide)).trans (if_neg (by rw [decide_eq_true_eq];show ¬ (60:Int)≤(l.wait.length:Int);omega)))
theorem ai {v:A3}{l:BK}{u:Au}(h:(!v.out.cut)=true)(t:Hd):(Cq v l).note u=Cq { v with told:=t } ⟨l.queue,l.wait,l.told ++ [u]⟩:=if_pos h
theorem Zx {v:A3}{l:BK}{u:Au}(h:(!v.out.cut)=false):(Cq v l).note u=Cq v l:=if_neg (by show ¬ (!v.out.cut)=true;rw [h];decide)
theorem AH.DA (H:AH){k j:Int}(h0:0≤k)(h1:k < 4)(j0:0≤j)(s:Aw):(H.set k s).at_ j=if j=k then s else H.at_ j:=by
 unfold AH.set AH.at_
 by_cases e:j=k
 ·subst e;rw [if_pos rfl];exact Vector.CG h0 h1
 ·rw [if_neg e];exact Vector.Ei h0 h1 j0 e
theorem CI (s:Aw)(u:Au):(s.tell u).told.length≤s.told.length+1:=by
 have h:(s.line u).told=s.told:=by
  unfold Aw.line;split
  ·rfl
  ·split
   ·rfl
   ·split<;>rfl
 unfold Aw.tell Aw.note
 split
 ·show((s.line u).told ++ [u]).length≤_
  rw [h,List.length_append];exact Nat.le_refl _
 ·rw [h];exact Nat.le_succ _
theorem LL {V V':AM}{ls ls':Vector BK 4}{ev ev':List Event}{k:Int}{u:Au}(h0:0≤k)(h1:k < 4)(e:A7 V' ls' ev'=(A7 V ls ev).tell k u){j:Int}(j0:0≤j)(j1:j < 4) :
  (ls'.at j).told.length≤(ls.at j).told.length+1∧(j≠k→(ls'.at j).told=(ls.at j).told):=by
 have h:=congrArg (fun H=>(AH.at_ H j).told) e
 simp only [AH.tell] at h
 rw [Ca _ _ _ j0 j1,AH.DA _ h0 h1 j0] at h
 have h':(ls'.at j).told=(if j=k then((A7 V ls ev).at_ k).tell u else(A7 V ls ev).at_ j).told:=h
 by_cases c:j=k
 ·subst c
  rw [if_pos rfl,Ca _ _ _ j0 j1] at h'
  exact⟨by rw [h'];exact CI _ _,fun hn=>absurd rfl hn⟩
 ·rw [if_neg c,Ca _ _ _ j0 j1] at h'
  exact⟨by rw [h'];exact Nat.le_succ _,fun _=>h'⟩
theorem K0 {V:AM}{ls:Vector BK 4}{ev:List Event}{e:Event}{X:AH}{i:Int}(h0:0≤i)(h1:i < 4)(h:A7 V ls ev=AH.Cc e X i.toNat):AH.Cc e X (i+1).toNat=if (!decide ((V.As.at i).state=2))=true then A7 V ls ev else if (AI.tell e (V.As.at i).A0).2=true then(A7 V ls ev).tell i (AI.tell e (V.As.at i).A0).1 else A7 V ls ev:=by
 obtain⟨m,rfl⟩:=Int.eq_ofNat_of_zero_le h0
 have ha:=Ca V ls ev h0 h1
 rw [show((m:Int)+1).toNat=m+1 by omega,AH.Cc]
 rw [show((m:Int)).toNat=m by omega] at h
 rw [← h,ha]
 rfl
theorem Tv {H:AH}{es:List Event}{k:Int}(h0:0≤k)(h1:k < es.length):H.HV (es.take (k+1).toNat)=AH.Cc (es.getD k.toNat default) (H.HV (es.take k.toNat)) 4:=by
 obtain⟨m,rfl⟩:=Int.eq_ofNat_of_zero_le h0
 have hm:m < es.length:=by omega
 show H.HV (es.take (m+1))=AH.Cc (es.getD m default) (H.HV (es.take m)) 4
 unfold AH.HV
 rw [List.take_add_one,List.getElem?_eq_getElem hm,List.foldl_append,List.getD_eq_getElem?_getD,List.getElem?_eq_getElem hm]
 rfl
def Xg (ls:Vector BK 4)(n:Nat):Prop:=∀ j:Int,0≤j→j < 4→(ls.at j).told.length≤n
theorem XP {H:AH}{ev es:List Event}(h:H.last=ev):AH.HE H es=({ H with last:=ev++es }:AH).HV es:=by subst h;rfl
end Go.Ing
/- What is said in a land of short names is short: plain laws. -/
namespace Go.Ing
open Go
namespace AI
structure La (w:AI):Prop where
 th:∀ i,(w.AP.at i).name.length≤100
 be:∀ i,(w.AO.at i).name.length≤100
 ro:∀ i,(w.BS.at i).name.length≤100
theorem La.IP {w:AI}(h:w.La):w.DL:=⟨fun i=>Nat.le_trans (h.th i) (by decide),fun i=>Nat.le_trans (h.be i) (by decide),fun i=>Nat.le_trans (h.ro i) (by decide)⟩
theorem Ww {X:AI}(h:X.La){i:Int}{t:Ao}(ht:t.name.length≤100):(X.Gr i t).La:=⟨fun j=>by
 rcases Vector.QB X.AP i j t with e | e
 ·show((X.AP.put i t).at j).name.length≤_;rw [e];exact ht
 ·show((X.AP.put i t).at j).name.length≤_;rw [e];exact h.th j,h.be,h.ro⟩
theorem Ik {X:AI}(h:X.La){i:Int}{t:An}(ht:t.name.length≤100):(X.C4 i t).La:=⟨h.th,fun j=>by
 rcases Vector.QB X.AO i j t with e | e
 ·show((X.AO.put i t).at j).name.length≤_;rw [e];exact ht
 ·show((X.AO.put i t).at j).name.length≤_;rw [e];exact h.be j,h.ro⟩
theorem XV {X:AI}(h:X.La){r d:Int}{v:Bool}:(X.ND r d v).La:=⟨h.th,h.be,fun j=>by
 rcases Vector.QB X.BS r j { X.BS.at r with shut:=(X.BS.at r).shut.put d v } with e | e
 ·show((X.BS.put r _).at j).name.length≤_;rw [e];exact h.ro r
 ·show((X.BS.put r _).at j).name.length≤_;rw [e];exact h.ro j⟩
end AI
namespace AF
structure Cy (T:AF):Prop where
 F5:T.w.La
 out:∀ e∈T.out,AI.Small e
theorem MS {w:AI}(hw:w.La):∀(l:List Int) (s:Au),(IG w s l).length≤s.length+l.length * 102
 | [],s=>by simp [IG]
 | i :: r,s=>by
  have hn:=hw.th i
  unfold IG
  split
  ·have:=MS hw r (s ++ [32]++(w.AP.at i).name ++ [42])
   simp only [List.length_append,List.length_cons,List.length_nil] at this ⊢
   omega
  ·have:=MS hw r (s ++ [32]++(w.AP.at i).name)
   simp only [List.length_append,List.length_cons,List.length_nil] at this ⊢
   omega
theorem M3:(default:An).name.length≤100:=by decide
section
variable {T:AF}
theorem Cy.BP (h:Cy T){e:Event}(h1:e.Bw.length≤1000000)(h2:e.text.length≤1000000)(h3:e.Eb.length≤1000000)(h4:-9223372036854775808≤e.n)(h5:e.n≤9223372036854775807):Cy (T.BP e):=by
 refine⟨h.F5,fun x hx=>?_⟩
 rcases List.mem_append.1 (show x∈T.out ++ [T.w.H5 (T.Dx e) 6] from hx) with hx | hx
 ·exact h.out x hx
 ·have hx':x=T.w.H5 (T.Dx e) 6:=by simpa using hx
  subst hx'
  obtain⟨a1,a2,a3,a4,a5,a6,a7,a8,a9⟩:=AI.KW T.w (T.Dx e) 6
  have e2:(T.Dx e).n=e.n∧(T.Dx e).Hx=T.me.name∧(T.Dx e).Eb.length≤1000000∧(T.Dx e).Bw=e.Bw∧(T.Dx e).text=e.text:=by
   unfold Dx
   split
   ·exact⟨rfl,rfl,Nat.le_trans (h.F5.be _) (by decide),rfl,rfl⟩
   ·exact⟨rfl,rfl,h3,rfl,rfl⟩
  obtain⟨b4,b5,b6,b7,b8⟩:=e2
  refine⟨?_,?_,?_,?_,?_,?_⟩
  ·rw [a6,b5];exact Nat.le_trans (h.F5.be T.b) (by decide)
  ·rw [a7];exact Nat.le_trans b6 (by decide)
  ·rw [a8,b7];exact Nat.le_trans h1 (by decide)
  ·rw [a9,b8];exact Nat.le_trans h2 (by decide)
  ·rw [a5,b4];exact h4
  ·rw [a5,b4];exact h5
theorem Cy.tell (h:Cy T){s:Au}(hs:s.length≤1000000):Cy (T.tell s):=h.BP (Nat.zero_le _) hs (Nat.zero_le _) (show(-9223372036854775808:Int)≤0 by decide) (show(0:Int)≤9223372036854775807 by decide)
theorem Cy.kind (h:Cy T)(k:Int):Cy (T.kind k):=h.BP (Nat.zero_le _) (Nat.zero_le _) (Nat.zero_le _) (show(-9223372036854775808:Int)≤0 by decide) (show(0:Int)≤9223372036854775807 by decide)
theorem Cy.Bw (h:Cy T)(k i:Int):Cy (T.Bw k i):=h.BP (Nat.le_trans (h.F5.th i) (by decide)) (Nat.zero_le _) (Nat.zero_le _) (show(-9223372036854775808:Int)≤0 by decide) (show(0:Int)≤9223372036854775807 by decide)
theorem Cy.land (h:Cy T){w':AI}(ht:w'.La):Cy { T with w:=w' }:=⟨ht,h.out⟩
theorem Cy.C9 (h:Cy T){i:Int}{t:Ao}(ht:t.name=(T.w.AP.at i).name):Cy (T.C9 i t):=h.land (w':=T.w.Gr i t) (AI.Ww h.F5 (by rw [ht];exact h.F5.th i))
theorem Cy.place (h:Cy T)(i Cb at_:Int):Cy (T.place i Cb at_):=h.C9 rfl
theorem Cy.Ck (h:Cy T)(k f:Int):Cy (T.Ck k f):=h.land (w':=T.w.C4 k { T.w.AO.at k with B4:=f }) (AI.Ik h.F5 (h.F5.be k))
theorem Cy.DY (h:Cy T)(k:Int){x:An}(hx:x.name.length≤100):Cy (T.DY k x):=h.land (w':=T.w.C4 k x) (AI.Ik h.F5 hx)
theorem Cy.C7 (h:Cy T)(r d:Int)(v:Bool):Cy (T.C7 r d v):=h.land (w':=T.w.ND r d v) (AI.XV h.F5)
theorem Cy.GF (h:Cy T)(r:Int):Cy (T.GF r):=h.land (w':=T.w.C4 T.b { T.me with room:=r,B4:=0 }) (AI.Ik h.F5 (h.F5.be T.b))
theorem Cy.list (h:Cy T){s:Au}(hs:s.length≤100){l:List Int}(hl:l.length≤9):Cy (T.list s l):=by
 refine h.tell ?_
 have:=MS h.F5 l s
 unfold SW
 split<;>simp only [List.length_append,List.length_cons,List.length_nil]<;>omega
theorem Cy.look (h:Cy T):Cy T.look:=by
 have hk:∀ {T':AF},Cy T'→∀ k:Nat,Cy (T'.Fh k):=fun {T'} h' k=>by
  induction k with
  | zero=>exact h'
  | succ k ih=>
   unfold Fh
   split
   ·exact ih.tell (by
     have:=ih.F5.be k
     have e:(T'.Fh k).w=T'.w:=(Ka T' k).1
     rw [e] at this
     simp only [List.length_append,List.length_cons,List.length_nil];omega)
   ·exact ih
 unfold AF.look
 split
 ·exact h.tell (by show([73,116,32,105,115,32,100,97,114,107,46]:Au).length≤_;decide)
 ·refine hk ?_ 6
  have ha:Cy T.Jw:=(h.tell (by
   have:=h.F5.ro T.me.room
   simp only [List.length_append,List.length_cons,List.length_nil];omega)).tell (by
   have:=Mh (T.w.BS.at T.me.room) 6
   omega)
  unfold EG
  split
  ·exact ha.list (by decide) (AI.Ig ..)
  ·exact ha
theorem Cy.walk (h:Cy T)(d:Int):Cy (T.walk d):=by
 unfold AF.walk
 split
 ·exact h.tell (by decide)
 ·split
  ·exact h.tell (by decide)
  ·have i1:Cy (T.BP { Fw 1 with dir:=d }):=h.BP (Nat.zero_le _) (Nat.zero_le _) (Nat.zero_le _) (show(-9223372036854775808:Int)≤0 by decide) (show(0:Int)≤9223372036854775807 by decide)
   exact((i1.GF _).BP (e:={ Fw 2 with dir:=AI.opposite d }) (Nat.zero_le _) (Nat.zero_le _) (Nat.zero_le _) (show(-9223372036854775808:Int)≤0 by decide) (show(0:Int)≤9223372036854775807 by decide)).look
theorem Cy.box (h:Cy T)(u:Au):Cy (T.box u).1:=by
 unfold AF.box
 split
 ·exact h.tell (by decide)
 ·split
  ·exact h.tell (by decide)
  ·exact h
theorem Cy.A9 (h:Cy T)(u:Au):Cy (T.A9 u).1:=by
 unfold AF.A9
 split
 ·split
  ·exact h
  ·exact h.tell (by decide)
 ·exact h.tell (by decide)
theorem Cy.DF (l:List Int):∀ {T':AF},Cy T'→Cy (T'.DF l):=by
 induction l with
 | nil=>exact fun h=>h
 | cons i r ih=>exact fun {T'} h=>ih ((h.place i 1 T'.b).Bw 3 i)
theorem Cy.Kh (h:Cy T)(l:List Int)(o:Order):Cy (T.Kh l o):=by
 unfold AF.Kh
 refine Cy.DF _ ?_
 split
 ·exact h.tell (by decide)
 ·exact h
theorem Cy.get (h:Cy T)(o:Order):Cy (T.get o):=by
 unfold AF.get
 split
 ·split
  ·exact h.box _
  ·exact(h.box _).Kh _ _
 ·exact h.Kh _ _
theorem Cy.Cs (h:Cy T)(v to i:Int):Cy (T.Cs v to i):=by
 unfold AF.Cs
 split
 ·exact h.tell (by decide)
 ·split
  ·exact(h.place _ _ _).Bw _ _
  ·split
   ·exact(h.place i 1 to).BP (e:={ Fw 6 with other:=to,Bw:=(T.w.AP.at i).name }) (Nat.le_trans (h.F5.th i) (by decide)) (Nat.zero_le _) (Nat.zero_le _) (show(-9223372036854775808:Int)≤0 by decide) (show(0:Int)≤9223372036854775807 by decide)
   ·split
    ·exact h.tell (by decide)
    ·exact(h.place i 2 to).BP (e:={ Fw 5 with Bw:=(T.w.AP.at i).name,text:=(T.w.AP.at to).name }) (Nat.le_trans (h.F5.th i) (by decide)) (Nat.le_trans (h.F5.th to) (by decide)) (Nat.zero_le _) (show(-9223372036854775808:Int)≤0 by decide) (show(0:Int)≤9223372036854775807 by decide)
theorem Cy.Eu {v to:Int}(l:List Int):∀ {T':AF},Cy T'→Cy (T'.Eu v to l):=by
 induction l with
 | nil=>exact fun h=>h
 | cons i r ih=>exact fun h=>ih (h.Cs v to i)
theorem Cy.FP (h:Cy T)(o:Order):Cy (T.FP o):=by
 have ht:Cy (T.Cv o).1:=by
  unfold Cv
  split
  ·exact h.box _
  ·split
   ·exact h.A9 _
   ·exact h
 unfold AF.FP
 split
 ·exact ht
 ·unfold SI
  refine Cy.Eu _ ?_
  split
  ·exact ht.tell (by decide)
  ·exact ht
theorem Cy.FB (h:Cy T)(o:Order):Cy (T.FB o):=by
 unfold AF.FB
 generalize (if (!decide (o.nth=1) || o.Bm)=true then [] else o.name)=nm
 have hs:=h.A9 nm
 split
 ·exact hs
 ·refine Cy.tell ?_ (by decide)
  split
  ·exact(hs.Ck _ _).Ck _ _
  ·exact hs.Ck _ _
theorem Cy.before (h:Cy T)(first:Bool)(i:Int)(v:Bool)(k:Int):Cy (T.before first i v k):=by
 unfold AF.before
 split
 ·exact(Cy.C9 h (i:=i) (t:={ T.w.AP.at i with on:=v }) rfl).Bw _ _
 ·exact(h.Bw k i).C9 rfl
theorem Cy.HB (h:Cy T)(d:Int)(on:Bool)(k:Int):Cy (T.HB d on k):=by
 unfold AF.HB
 split
 ·exact h.tell (by decide)
 ·split
  ·exact h.tell (by decide)
  ·refine Cy.BP ?_ (by show([100,111,111,114]:Au).length≤1000000;decide) (Nat.zero_le _) (Nat.zero_le _) (show(-9223372036854775808:Int)≤0 by decide) (show(0:Int)≤9223372036854775807 by decide)
   split
   ·exact(h.C7 _ _ _).C7 _ _ _
   ·exact h.C7 _ _ _
theorem Cy.set (h:Cy T)(o:Order):Cy (T.set o):=by
 unfold AF.set
 split
 ·exact h.HB _ _ _
 ·split
  ·exact h.tell (by decide)
  ·split
   ·exact h.tell (by decide)
   ·split
    ·exact h.before _ _ _ _
    ·exact h.before _ _ _ _
theorem Cy.Ce (l:List Int):∀ {T':AF},Cy T'→Cy (T'.Ce l):=by
 induction l with
 | nil=>exact fun h=>h
 | cons i r ih=>exact fun {T'} h=>ih (Cy.C9 h (i:=i) rfl)
theorem Cy.DZ (h:Cy T):∀ k:Nat,Cy (T.DZ k)
 | 0=>h
 | k+1=>by
  unfold AF.DZ
  split
  ·exact(Cy.DZ h k).Ck _ _
  ·exact Cy.DZ h k
theorem Cy.FJ (h:Cy T):Cy T.FJ:=by
 rw [Lj]
 exact((Cy.Ce _ h).DZ 6).Ck _ _
theorem Cy.Gq (h:Cy T):Cy T.Gq:=by
 have hf:=Cy.FJ (h.kind 18)
 unfold AF.Gq
 generalize (T.kind 18).FJ=F at *
 exact hf.DY T.b (x:=default) M3
theorem Cy.act (h:Cy T){o:Order}(hx:o.text.length≤1000000):Cy (T.act o):=by
 unfold AF.act
 split
 ·exact h.walk _
 ·split
  ·exact h.look
  ·split
   ·exact h.list (by decide) (AI.Ig ..)
   ·split
    ·exact h.BP (e:={ Fw 7 with text:=o.text }) (Nat.zero_le _) hx (Nat.zero_le _) (show(-9223372036854775808:Int)≤0 by decide) (show(0:Int)≤9223372036854775807 by decide)
    ·split
     ·exact h.Gq
     ·split
      ·exact h.FB _
      ·split
       ·exact h.get _
       ·split
        ·exact h.FP _
        ·exact h.set _
end
theorem KZ {X:AI}{b:Int}{o:Order}(hw:X.La)(hx:o.text.length≤1000000):(EH X b o).1.La∧∀ e∈(EH X b o).2.1,AI.Small e:=by
 unfold EH
 split
 ·exact⟨hw,fun e h=>by cases h⟩
 ·split
  ·exact⟨hw,fun e h=>by cases h⟩
  ·split
   ·exact⟨hw,fun e h=>by cases h⟩
   ·have:=Cy.act (T:=⟨X,b,[]⟩) ⟨hw,fun e h=>by cases h⟩ hx
    exact⟨this.F5,this.out⟩
theorem JM {X:AI}{s:Au}(hw:X.La):(BW X s).1.La∧∀ e∈(BW X s).2.2.1,AI.Small e:=by
 unfold BW
 split
 ·exact⟨hw,fun e h=>by cases h⟩
 ·split
  ·exact⟨hw,fun e h=>by cases h⟩
  ·rename_i h1
   split
   ·exact⟨hw,fun e h=>by cases h⟩
   ·split
    ·exact⟨hw,fun e h=>by cases h⟩
    ·have hn:s.length≤8:=by
      have h2:FW s=true:=by simpa using h1
      simp only [FW,Bool.and_eq_true,decide_eq_true_eq] at h2
      omega
     have h0:Cy ⟨X.C4 (CP X 6) (J0 s),CP X 6,[]⟩:=⟨AI.Ik hw (by show s.length≤100;omega),fun e h=>by cases h⟩
     have:=(h0.kind 17).look
     exact⟨this.F5,this.out⟩
theorem Tp {w:AI}{b B4 n:Int}(hw:w.La)(h0:1≤n)(h1:n≤3):Cy (CE w b B4 n):=by
 have hs:Cy ⟨w,b,[]⟩:=⟨hw,fun e h=>by cases h⟩
 unfold CE
 exact(hs.BP (e:={ Fw 14 with other:=B4,n:=n }) (Nat.zero_le _) (Nat.zero_le _) (Nat.zero_le _) (show -9223372036854775808≤n by omega) (show n≤9223372036854775807 by omega)).DY _ (hw.be B4)
theorem Cy.de {T:AF}(h:Cy T)(b:Int):Cy (T.DY b { T.w.AO.at b with room:=0,BM:=10 }):=h.DY b (h.F5.be b)
theorem XI {w:AI}{b:Int}(hw:w.La):Cy (H2 w b):=by
 have h0:Cy (Fb w b):=⟨AI.Ik hw (hw.be b),fun e h=>by cases h⟩
 have h1:Cy (GC w b):=by unfold GC;exact(h0.kind 15).FJ
 unfold H2
 split
 ·generalize GC w b=F at *
  exact h1.DY b (x:=default) M3
 ·have h2:Cy (Je w b):=by unfold Je;exact h1.de b
  exact(h2.kind 17).look
theorem UD {draw b:Int}(hb:0≤b){s:AI × List Event}(h:s.1.La∧∀ e∈s.2,AI.Small e):(EP draw b s).1.La∧∀ e∈(EP draw b s).2,AI.Small e:=by
 have hh:=Le (draw:=draw) hb
 unfold EP
 split
 ·exact h
 ·split
  ·exact⟨AI.Ik h.1 (h.1.be b),h.2⟩
  ·have hk:=Tp (b:=b) (B4:=(s.1.AO.at b).B4 - 1) h.1 hh.1 hh.2
   split
   ·have hd:=XI (b:=(s.1.AO.at b).B4 - 1) hk.F5
    refine⟨hd.F5,fun e he=>?_⟩
    rcases List.mem_append.1 he with he | he
    ·rcases List.mem_append.1 he with he | he
     ·exact h.2 e he
     ·exact hk.out e he
    ·exact hd.out e he
   ·refine⟨hk.F5,fun e he=>?_⟩
    rcases List.mem_append.1 he with he | he
    ·exact h.2 e he
    ·exact hk.out e he
theorem Nu {X:AI}{draw:Int}(hw:X.La):∀ k:Nat,(Dh X draw k).1.La∧∀ e∈(Dh X draw k).2,AI.Small e
 | 0=>⟨hw,fun e h=>by cases h⟩
 | k+1=>UD (by omega) (Nu hw k)
theorem K4 {X:AI}{draw:Int}(hw:X.La):(CY X draw).1.La∧∀ e∈(CY X draw).2.1,AI.Small e:=by
 unfold CY
 split
 ·exact⟨hw,fun e h=>by cases h⟩
 ·have h:=Nu (draw:=draw) hw 6
  generalize Dh X draw 6=r at *
  exact h
end AF
end Go.Ing
/- What a house keeps: plain laws. -/
namespace Go.Ing
open Go
namespace AH
def Z8 (q:List Au):Prop:=q.length≤6∧∀ s∈q,s.length≤60
structure Fit (H:AH)(n m:Nat):Prop where
 F5:H.w.La
 told:∀ k:Int,0≤k→k < 4→(H.at_ k).told.length≤n
 last:H.last.length≤m
 A0:∀ k:Int,0≤k→k < 4→(H.at_ k).state=2→0≤(H.at_ k).A0∧(H.at_ k).A0 < 6
 wait:∀ k:Int,0≤k→k < 4→∀ s∈(H.at_ k).wait,s.length≤70368744000000
 queue:∀ k:Int,0≤k→k < 4→Z8 (H.at_ k).queue
variable {H:AH} {n m:Nat}
theorem Fit.mono (h:H.Fit n m){n' m':Nat}(hn:n≤n')(hm:m≤m'):H.Fit n' m':=⟨h.F5,fun k a b=>Nat.le_trans (h.told k a b) hn,Nat.le_trans h.last hm,h.A0,h.wait,h.queue⟩
theorem Fit.set (h:H.Fit n m){k:Int}(h0:0≤k)(h1:k < 4){s:Aw}(ht:s.told.length≤n)(hb:s.state=2→0≤s.A0∧s.A0 < 6)(hw:∀ u∈s.wait,u.length≤70368744000000)(hq:Z8 s.queue):(H.set k s).Fit n m:=by
 have e:∀ j:Int,0≤j→(H.set k s).at_ j=if j=k then s else H.at_ j:=fun j j0=>AH.DA H h0 h1 j0 s
 refine⟨h.F5,fun j a b=>?_,h.last,fun j a b=>?_,fun j a b=>?_,fun j a b=>?_⟩<;>rw [e j a]<;>split
 ·exact ht
 ·exact h.told j a b
 ·exact hb
 ·exact h.A0 j a b
 ·exact hw
 ·exact h.wait j a b
 ·exact hq
 ·exact h.queue j a b
theorem Fit.land (h:H.Fit n m){w:AI}(hw:w.La):({ H with w:=w }:AH).Fit n m:=⟨hw,h.told,h.last,h.A0,h.wait,h.queue⟩
theorem Qa (s:Aw)(u:Au):(s.line u).wait=s.wait∨(s.line u).wait=s.wait ++ [u]:=by
 unfold Aw.line
 split
 ·exact .inl rfl
 ·split
  ·exact .inl rfl
  ·split
   ·exact .inl rfl
   ·exact .inr rfl
theorem VM (s:Aw)(u:Au):(s.line u).state=s.state∧(s.line u).A0=s.A0∧(s.line u).queue=s.queue∧(s.line u).told=s.told:=by
 unfold Aw.line
 split
 ·exact⟨rfl,rfl,rfl,rfl⟩
 ·split
  ·exact⟨rfl,rfl,rfl,rfl⟩
  ·split<;>exact⟨rfl,rfl,rfl,rfl⟩
theorem GU (s:Aw)(u:Au):(s.tell u).state=s.state∧(s.tell u).A0=s.A0∧(s.tell u).queue=s.queue∧(s.tell u).wait=(s.line u).wait:=by
 obtain⟨a,b,c,_⟩:=VM s u
 unfold Aw.tell Aw.note
 split
 ·exact⟨a,b,c,rfl⟩
 ·exact⟨a,b,c,rfl⟩
theorem Fit.tell (h:H.Fit n m){k:Int}(h0:0≤k)(h1:k < 4){u:Au}(hu:u.length≤70368744000000):(H.tell k u).Fit (n+1) m:=by
 obtain⟨a,b,c,d⟩:=GU (H.at_ k) u
 refine(h.mono (Nat.le_succ n) (Nat.le_refl m)).set h0 h1 (Nat.le_trans (CI _ _) (Nat.succ_le_succ (h.told k h0 h1))) (by rw [a,b];exact h.A0 k h0 h1) (fun s hs=>?_) (by rw [c];exact h.queue k h0 h1)
 rw [d] at hs
 rcases Qa (H.at_ k) u with e | e<;>rw [e] at hs
 ·exact h.wait k h0 h1 s hs
 ·rcases List.mem_append.1 hs with hs | hs
  ·exact h.wait k h0 h1 s hs
  ·rw [List.mem_singleton.1 hs];exact hu
theorem Yr {e:Event}(he:AI.Small e)(b:Int):(AI.tell e b).1.length≤70368744000000:=by
 unfold AI.tell
 split
 ·exact Nat.zero_le _
 ·split
  ·exact Nat.zero_le _
  ·refine Nat.le_trans (AI.Ni he (AI.P1 he b) (AI.PI he b) _ _) ?_
   have:=AI.O8 e b
   omega
theorem Ui {k j:Int}(h0:0≤k)(h1:k < 4)(j0:0≤j)(hn:j≠k)(u:Au):(H.tell k u).at_ j=H.at_ j:=by
 unfold AH.tell
 rw [AH.DA H h0 h1 j0,if_neg hn]
theorem LA (e:Event)(H:AH):∀ k:Nat,k≤4→∀ j:Int,(k:Int)≤j→j < 4→(Cc e H k).at_ j=H.at_ j
 | 0,_,_,_,_=>rfl
 | k+1,hk,j,h0,h1=>by
  have ih:=LA e H k (by omega) j (by omega) h1
  unfold Cc
  split
  ·exact ih
  ·split
   ·rw [Ui (by omega) (by omega) (by omega) (by omega)];exact ih
   ·exact ih
theorem O5 {e:Event}(he:AI.Small e)(h:H.Fit n m):∀ k:Nat,k≤4→(Cc e H k).Fit (n+1) m
 | 0,_=>h.mono (Nat.le_succ n) (Nat.le_refl m)
 | k+1,hk=>by
  have ih:=O5 he h k (by omega)
  unfold Cc
  split
  ·exact ih
  ·split
   ·have hr:=LA e H k (by omega) k (Int.le_refl _) (by omega)
    obtain⟨a,b,c,d⟩:=GU ((Cc e H k).at_ k) (AI.tell e ((Cc e H k).at_ k).A0).1
    unfold AH.tell
    refine ih.set (by omega) (by omega) ?_ (by rw [a,b];exact ih.A0 k (by omega) (by omega)) (fun s hs=>?_) (by rw [c];exact ih.queue k (by omega) (by omega))
    ·refine Nat.le_trans (CI _ _) ?_
     rw [hr];exact Nat.succ_le_succ (h.told k (by omega) (by omega))
    ·rw [d] at hs
     rcases Qa ((Cc e H k).at_ k) (AI.tell e ((Cc e H k).at_ k).A0).1 with q | q<;>rw [q] at hs
     ·exact ih.wait k (by omega) (by omega) s hs
     ·rcases List.mem_append.1 hs with hs | hs
      ·exact ih.wait k (by omega) (by omega) s hs
      ·rw [List.mem_singleton.1 hs];exact Yr he _
   ·exact ih
theorem QN:∀(es:List Event) {H:AH} {n:Nat},(∀ e∈es,AI.Small e)→H.Fit n m→(H.HV es).Fit (n+es.length) m
 | [],_,_,_,h=>h
 | e :: r,H,n,he,h=>by
  have h1:=O5 (he e (List.mem_cons_self ..)) h 4 (Nat.le_refl 4)
  have h2:=QN r (fun x hx=>he x (List.mem_cons_of_mem _ hx)) h1
  rw [List.length_cons,show n+(r.length+1)=n+1+r.length by omega]
  exact h2
theorem Fit.HE (h:H.Fit n m){es:List Event}(he:∀ e∈es,AI.Small e):(H.HE es).Fit (n+es.length) (m+es.length):=by
 refine QN (m:=m+es.length) es he ?_
 exact⟨h.F5,h.told,by show(H.last++es).length≤_;rw [List.length_append];exact Nat.add_le_add_right h.last _,h.A0,h.wait,h.queue⟩
theorem Fit.free (h:H.Fit n m){k:Int}(h0:0≤k)(h1:k < 4):(H.set k default).Fit n m:=
 h.set h0 h1 (Nat.zero_le _) (fun e=>absurd (show(0:Int)=2 from e) (by decide)) (fun u hu=>by cases hu) ⟨Nat.zero_le _,fun u hu=>by cases hu⟩
theorem Mj:EI.text.length≤1000000:=Nat.zero_le _
theorem Fit.leave (h:H.Fit n m){k:Int}(h0:0≤k)(h1:k < 4):(H.leave k).Fit (n+11) (m+11):=by
 unfold AH.leave
 refine Fit.free ?_ h0 h1
 split
 ·have hd:=AF.KZ (b:=(H.at_ k).A0) (o:=EI) h.F5 Mj
  have hl:=AF.Na H.w (H.at_ k).A0 EI
  exact(((h.land hd.1).free h0 h1).HE hd.2).mono (Nat.add_le_add_left hl n) (Nat.add_le_add_left hl m)
 ·exact h.mono (Nat.le_add_right ..) (Nat.le_add_right ..)
theorem SP (ht:Int):∀(l:List Au) (x:Page.Pg),∀ s∈(Page.BZ ht l x).2,s∈l
 | [],_,s,h=>h
 | q :: r,x,s,h=>by
  unfold Page.BZ at h
  split at h
  ·exact h
  ·split at h
   ·exact h
   ·exact List.mem_cons_of_mem _ (SP ht r _ s h)
theorem I3 (s:Aw):s.BZ.told=s.told∧s.BZ.state=s.state∧s.BZ.A0=s.A0∧s.BZ.queue=s.queue∧∀ u∈s.BZ.wait,u∈s.wait:=by
 unfold Aw.BZ
 split
 ·exact⟨rfl,rfl,rfl,rfl,fun _ h=>h⟩
 ·exact⟨rfl,rfl,rfl,rfl,SP _ _ _⟩
theorem Fit.YF (h:H.Fit n m){k:Int}(h0:0≤k)(h1:k < 4):(H.set k (H.at_ k).BZ).Fit n m:=by
 obtain⟨a,b,c,d,e⟩:=I3 (H.at_ k)
 exact h.set h0 h1 (by rw [a];exact h.told k h0 h1) (by rw [b,c];exact h.A0 k h0 h1) (fun u hu=>h.wait k h0 h1 u (e u hu)) (by rw [d];exact h.queue k h0 h1)
theorem MY (h:H.Fit n m):∀ k:Nat,k≤4→(H.B8 k).1.Fit (n+11 * k) (m+11 * k)
 | 0,_=>h
 | k+1,hk=>by
  have ih:=MY h k (by omega)
  unfold B8
  split
  ·exact ih.mono (by omega) (by omega)
  ·split
   ·exact((ih.YF (by omega) (by omega)).leave (by omega) (by omega)).mono (by omega) (by omega)
   ·exact(ih.YF (by omega) (by omega)).mono (by omega) (by omega)
theorem QG:∀(r:Nat) {H:AH} {n m:Nat},H.Fit n m→(H.Fu r).Fit (n+44 * r) (m+44 * r)
 | 0,_,_,_,h=>h
 | r+1,H,n,m,h=>by
  have h1:=MY h 4 (Nat.le_refl 4)
  unfold Fu
  split
  ·exact h1.mono (by omega) (by omega)
  ·exact(QG r h1).mono (by omega) (by omega)
theorem Fit.BZ (h:H.Fit n m):H.BZ.Fit (n+220) (m+220):=QG 5 h
end AH
end Go.Ing
/- A house: plain laws for the walks, on. -/
namespace Go.Ing
open Go
theorem I7 {V:AM}{ls:Vector BK 4}{ev:List Event}{k:Int}(h0:0≤k)(h1:k < 4):A7 (V.BB k default) (ls.put k ⟨[],[],[]⟩) ev=(A7 V ls ev).set k default:=Iq V ls ev h0 h1 _ _
theorem N6 {V:AM}{ls:Vector BK 4}{ev:List Event}{w:AI}:A7 { V with w:=w } ls ev={ A7 V ls ev with w:=w }:=rfl
theorem RC {V V4:AM}{ls ls4:Vector BK 4}{ev ev4:List Event}{k:Int}(h0:0≤k)(h1:k < 4)(c:(decide ((V.As.at k).state=2) && (V.w.AO.at (V.As.at k).A0).here)=true)
  (e:A7 V4 ls4 ev4=(A7 (AM.BB { V with w:=(AF.EH V.w (V.As.at k).A0 AH.EI).1 } k default) (ls.put k ⟨[],[],[]⟩) ev).HE (AF.EH V.w (V.As.at k).A0 AH.EI).2.1) :
  A7 (V4.BB k default) (ls4.put k ⟨[],[],[]⟩) ev4=(A7 V ls ev).leave k:=by
 rw [I7 h0 h1,e,I7 h0 h1,N6]
 have ha:=Ca V ls ev h0 h1
 unfold AH.leave AH.TW
 rw [ha]
 rw [if_pos (show(decide ((Cq (V.As.at k) (ls.at k)).state=2) && ((A7 V ls ev).w.AO.at (Cq (V.As.at k) (ls.at k)).A0).here)=true from c)]
 rfl
theorem Ud {V:AM}{ls:Vector BK 4}{ev:List Event}{k:Int}(h0:0≤k)(h1:k < 4)(c:(decide ((V.As.at k).state=2) && (V.w.AO.at (V.As.at k).A0).here)=false) :
  A7 (V.BB k default) (ls.put k ⟨[],[],[]⟩) ev=(A7 V ls ev).leave k:=by
 rw [I7 h0 h1]
 have ha:=Ca V ls ev h0 h1
 unfold AH.leave
 rw [ha]
 rw [if_neg (show ¬ (decide ((Cq (V.As.at k) (ls.at k)).state=2) && ((A7 V ls ev).w.AO.at (Cq (V.As.at k) (ls.at k)).A0).here)=true by rw [show(decide ((Cq (V.As.at k) (ls.at k)).state=2) && ((A7 V ls ev).w.AO.at (Cq (V.As.at k) (ls.at k)).A0).here)=false from c];decide)]
theorem Gx {V:AM}{ls:Vector BK 4}{ev:List Event}{n m:Nat}(h:(A7 V ls ev).Fit n m):Xg ls n:=fun j j0 j1=>by
 have:=h.told j j0 j1
 rw [Ca V ls ev j0 j1] at this
 exact this
theorem WS {V:AM}{ls:Vector BK 4}{ev:List Event}{n m:Nat}(h:(A7 V ls ev).Fit n m){k:Int}(h0:0≤k)(h1:k < 4):(V.As.at k).state≠2∨(0≤(V.As.at k).A0∧(V.As.at k).A0 < 6):=by
 have:=h.A0 k h0 h1
 rw [Ca V ls ev h0 h1] at this
 by_cases c:(V.As.at k).state=2
 ·exact .inr (this c)
 ·exact .inl c
theorem St.or {w0 w:World}{M:List Nat}{L:List Ad}{T TS:Nat}{h f g:Hd}{xs qs zs:List Au}(ho:au T h xs TS f qs TS g zs)(hS:St w0 M w (Ad.own g TS 1 (zs.flatMap A8) :: Ad.own f TS 1 (qs.flatMap A8) :: L)):St w0 M w (Ad.own h TS 1 (xs.flatMap A8) :: L):=by
 rcases ho with ⟨_,rfl,rfl,_,_⟩ | ⟨_,rfl,rfl⟩
 ·exact hS.sub (List.sublist_cons_self ..)
 ·exact hS.sub (List.Sublist.cons_cons _ (List.sublist_cons_self ..))
theorem cj {n:Nat}{w0:World}{M:List Nat}{Q:Exit→Go.Act→World→Prop}{F:List (Nat × Value)}{L:List Ad}{x:Exit}{T TS:Nat}{h f g:Hd}{xs qs zs:List Au}(ho:au T h xs TS f qs TS g zs)(k:GQ n w0 M Q x F (Ad.own h TS 1 (xs.flatMap A8) :: L)):GQ n w0 M Q x F (Ad.own g TS 1 (zs.flatMap A8) :: Ad.own f TS 1 (qs.flatMap A8) :: L):=fun a w hF hS=>k a w hF (St.or ho hS)
theorem L1 {v:A3}{l:BK}(hw:v.out.wait.len=l.wait.length)(h:(!Page.Bj v.out || decide (v.D6.B5 < 0) || decide (200 < v.D6.B5))=true):Cq v l=(Cq v l).BZ:=
 (if_pos (show(!(Cq v l).Ll || decide (v.D6.B5 < 0) || decide (200 < v.D6.B5))=true by rw [Jf hw];exact h)).symm
theorem Ye {v:A3}{l:BK}(hw:v.out.wait.len=l.wait.length)(h:(!Page.Bj v.out || decide (v.D6.B5 < 0) || decide (200 < v.D6.B5))=false)(w:Hd) :
  Cq { v with out:=⟨w,(Page.BZ v.D6.B5 l.wait (Page.of v.out)).1.shown,(Page.BZ v.D6.B5 l.wait (Page.of v.out)).1.Bv,(Page.BZ v.D6.B5 l.wait (Page.of v.out)).1.ring,(Page.BZ v.D6.B5 l.wait (Page.of v.out)).1.cut⟩ } ⟨l.queue,(Page.BZ v.D6.B5 l.wait (Page.of v.out)).2,l.told⟩=(Cq v l).BZ:=
 ((if_neg (show ¬ (!(Cq v l).Ll || decide (v.D6.B5 < 0) || decide (200 < v.D6.B5))=true by rw [Jf hw,h];decide)).trans rfl).symm
theorem LU {V:AM}{ls:Vector BK 4}{ev:List Event}{c:Bool}{H:AH}{i:Int}(h0:0≤i)(h1:i < 4)(h:(A7 V ls ev,c)=H.B8 i.toNat) :
  H.B8 (i+1).toNat=if decide ((V.As.at i).state=0)=true then(A7 V ls ev,c) else if (((A7 V ls ev).at_ i).BZ).pg.cut=true then(((A7 V ls ev).set i ((A7 V ls ev).at_ i).BZ).leave i,true) else((A7 V ls ev).set i ((A7 V ls ev).at_ i).BZ,c):=by
 obtain⟨m,rfl⟩:=Int.eq_ofNat_of_zero_le h0
 have ha:=Ca V ls ev h0 h1
 rw [show((m:Int)+1).toNat=m+1 by omega,AH.B8]
 rw [show((m:Int)).toNat=m by omega] at h
 rw [← h]
 rw [show decide (((A7 V ls ev).at_ (m:Int)).state=0)=decide ((V.As.at (m:Int)).state=0) by rw [ha];rfl]
theorem Uf {V V':AM}{ls ls':Vector BK 4}{ev ev':List Event}{i:Int}(h0:0≤i)(h1:i < 4){s:Aw}(e:A7 V' ls' ev'=(A7 V ls ev).set i s):(V'.As.at i).out.cut=s.pg.cut:=by
 have h:=congrArg (fun H=>(AH.at_ H i).pg.cut) e
 rw [Ca V' ls' ev' h0 h1,AH.DA _ h0 h1 h0,if_pos rfl] at h
 exact h
theorem OO {X:AH}{k:Int}(h0:0≤k)(h1:k < 5):X.Fu (5 - k).toNat=if (!(X.B8 4).2)=true then(X.B8 4).1 else(X.B8 4).1.Fu (5 - (k+1)).toNat:=by
 rw [show(5 - k).toNat=(5 - (k+1)).toNat+1 by omega,AH.Fu]
theorem P8 {H:AH}{n m:Nat}(h:H.Fit n m){V:AM}{ls:Vector BK 4}{ev:List Event}{c:Bool}{i:Int}(h0:0≤i)(h1:i≤4)(e:(A7 V ls ev,c)=H.B8 i.toNat):(A7 V ls ev).Fit (n+44) (m+44):=by
 have:=AH.MY h i.toNat (by omega)
 rw [← e] at this
 exact this.mono (by omega) (by omega)
theorem W5 {V:AM}{ls:Vector BK 4}{ev:List Event}{n m:Nat}(h:(A7 V ls ev).Fit n m){k:Int}(h0:0≤k)(h1:k < 4):∀ s∈(ls.at k).wait,s.length≤70368744000000:=by
 have:=h.wait k h0 h1
 rw [Ca V ls ev h0 h1] at this
 exact this
end Go.Ing
/- A house: who comes, and what is typed: plain laws for the walks. -/
namespace Go.Ing
open Go
namespace Words
def Nk (N:Nat)(o:Order):Prop:=o.name.length≤N∧o.second.length≤N∧o.text.length≤N
theorem Fm (N:Nat):Nk N default:=⟨Nat.zero_le _,Nat.zero_le _,Nat.zero_le _⟩
theorem XD (u p:Au):(NG u p).1.length≤u.length:=by
 unfold NG
 split
 ·exact Nat.le_refl _
 ·show(List.drop _ u).length≤_
  rw [List.length_drop];omega
theorem YN (u:Au):(ER u).2.1.length≤u.length:=by
 unfold ER
 split
 ·exact Nat.zero_le _
 ·split
  ·exact XD u _
  ·split
   ·split
    ·exact Nat.zero_le _
    ·exact Nat.le_refl _
   ·unfold Pm
    have:=(NV 46 u).2
    split
    ·split
     ·exact Nat.zero_le _
     ·exact this
    ·exact Nat.zero_le _
theorem YD {N:Nat}{o:Order}{j:Au × Bool}{W:List Au}{m:Nat}(h:Nk N o)(hw:(W.getD 0 []).length≤N):Nk N (Qc o j W m).1:=by
 unfold Qc
 split
 ·exact h
 ·split
  ·exact Fm N
  ·exact⟨h.1,hw,h.2.2⟩
theorem ae {N:Nat}{o:Order}{j:Au × Bool}{W:List Au}{m:Nat}(h:Nk N o)(hw:∀ i,(W.getD i []).length≤N):Nk N (TU o j W m).1:=by
 unfold TU
 split
 ·split
  ·exact Fm N
  ·refine YD h ?_
   have:=hw 1
   rw [List.getD_eq_getElem?_getD,List.getElem?_drop,← List.getD_eq_getElem?_getD]
   exact this
 ·exact YD h (hw 0)
theorem YG {N:Nat}{v:Int}{W:List Au}{m:Nat}(hw:∀ i,(W.getD i []).length≤N):Nk N (RE v W m).1:=by
 unfold RE
 split
 ·exact Fm N
 ·refine ae ⟨Nat.le_trans (YN _) (hw 0),Nat.zero_le _,Nat.zero_le _⟩ (fun i=>?_)
  rw [List.getD_eq_getElem?_getD,List.getElem?_drop,← List.getD_eq_getElem?_getD]
  exact hw (1+i)
theorem Sm (i:Nat):(AI.G1.getD i []).length≤20:=by
 rw [List.getD_eq_getElem?_getD]
 cases h:AI.G1[i]? with
 | none=>exact Nat.zero_le _
 | some w=>
  have hm:w∈AI.G1:=List.mem_of_getElem? h
  have:∀ w∈AI.G1,w.length≤20:=by decide
  exact this w hm
theorem J3 (s:Au):Nk (s.length+20) (parse s).1:=by
 have hw:∀ i,(((words s).drop 1).getD i []).length≤s.length+20:=fun i=>Nat.le_trans (MV s i 1) (by omega)
 unfold parse
 split
 ·exact Fm _
 ·split
  ·exact Fm _
  ·unfold Wr
   split
   ·split
    ·exact Fm _
    ·refine⟨Nat.zero_le _,Nat.zero_le _,?_⟩
     show(said s).length≤_
     unfold said
     have h1:=Lv 32 (Sb 32 (cut 32 (QU 32 s)).2.1)
     have h2:=RP 32 (cut 32 (QU 32 s)).2.1
     have h3:=(NV 32 (QU 32 s)).2
     have h4:=Lv 32 s
     omega
   ·split
    ·split
     ·exact Fm _
     ·exact⟨Nat.zero_le _,Nat.zero_le _,Nat.zero_le _⟩
    ·split
     ·exact Fm _
     ·split
      ·split
       ·exact⟨Nat.le_trans (Sm _) (by omega),Nat.zero_le _,Nat.zero_le _⟩
       ·exact YG hw
      ·exact YG hw
end Words
theorem Vc {V:AM}{ls:Vector BK 4}{ev:List Event}{n m:Nat}(h:(A7 V ls ev).Fit n m){k:Int}(h0:0≤k)(h1:k < 4):AH.Z8 (ls.at k).queue:=by
 have:=h.queue k h0 h1
 rw [Ca V ls ev h0 h1] at this
 exact this
theorem AH.L3 (H:AH){k:Int}(h0:0≤k)(h1:k < 4):H.set k (H.at_ k)=H:=by
 unfold AH.set AH.at_
 rw [Vector.MF _ h0 h1]
theorem Rw {X:AI}{s:Au}(h:(AF.BW X s).2.2.2=0):0≤(AF.BW X s).2.1∧(AF.BW X s).2.1 < 6:=by
 have hf:=AF.Mq X 6 (Nat.le_refl 6)
 unfold AF.BW at h ⊢
 split
 ·exact⟨Int.le_refl 0,show(0:Int) < 6 by decide⟩
 ·split
  ·exact⟨Int.le_refl 0,show(0:Int) < 6 by decide⟩
  ·split
   ·exact⟨Int.le_refl 0,show(0:Int) < 6 by decide⟩
   ·split
    ·rename_i h1 h2 h3 h4
     rw [if_neg h1,if_neg h2,if_neg h3,if_pos h4] at h
     exact absurd h (show ¬ (4:Int)=0 by decide)
    ·rename_i h4
     show 0≤AF.CP X 6∧AF.CP X 6 < 6
     rw [decide_eq_true_eq] at h4
     omega
namespace AH
variable {H:AH} {n m:Nat}
theorem Fit.enters (h:H.Fit n m){k:Int}(h0:0≤k)(h1:k < 4){u:Au}(c:(AF.BW H.w u).2.2.2=0):(({ H with w:=(AF.BW H.w u).1 }:AH).set k { H.at_ k with state:=2,A0:=(AF.BW H.w u).2.1 }).Fit n m:=by
 have hs:=AF.JM (s:=u) h.F5
 exact(h.land hs.1).set h0 h1 (h.told k h0 h1) (fun _=>Rw c) (h.wait k h0 h1) (h.queue k h0 h1)
theorem Fit.named (h:H.Fit n m){k:Int}(h0:0≤k)(h1:k < 4)(u:Au):(H.named k u).Fit (n+11) (m+11):=by
 unfold AH.named
 split
 ·rename_i c
  have hs:=AF.JM (s:=u) h.F5
  have hl:=AF.QP H.w u
  exact((h.enters h0 h1 (of_decide_eq_true c)).HE hs.2).mono (by omega) (by omega)
 ·split
  ·exact(h.tell h0 h1 (show noRoom.length≤_ by decide)).mono (by omega) (by omega)
  ·exact(h.tell h0 h1 (show Q2.length≤_ by decide)).mono (by omega) (by omega)
theorem Fit.order (h:H.Fit n m){k:Int}(h0:0≤k)(h1:k < 4){u:Au}(hu:u.length≤1000):(H.order k u).Fit (n+11) (m+11):=by
 unfold AH.order
 split
 ·exact(h.tell h0 h1 (show Zt.length≤_ by decide)).mono (by omega) (by omega)
 ·split
  ·exact h.leave h0 h1
  ·have hp:=Words.J3 u
   have hd:=AF.KZ (b:=(H.at_ k).A0) (o:=(Words.parse u).1) h.F5 (by have:=hp.2.2;omega)
   have hl:=AF.Na H.w (H.at_ k).A0 (Words.parse u).1
   exact((h.land hd.1).HE hd.2).mono (by omega) (by omega)
theorem Fit.F7 (h:H.Fit n m){k:Int}(h0:0≤k)(h1:k < 4){q:Au}{r:List Au}(e:(H.at_ k).queue=q :: r):(H.set k { H.at_ k with queue:=r }.F7).Fit n m:=
 h.set h0 h1 (h.told k h0 h1) (h.A0 k h0 h1) (h.wait k h0 h1) (by
  have hq:=h.queue k h0 h1
  rw [e] at hq
  exact⟨Nat.le_of_succ_le hq.1,fun u hu=>hq.2 u (List.mem_cons_of_mem _ hu)⟩)
theorem Fit.Ea (h:H.Fit n m){k:Int}(h0:0≤k)(h1:k < 4):(H.Ea k).Fit (n+11) (m+11):=by
 unfold AH.Ea
 split
 ·exact h.mono (by omega) (by omega)
 ·split
  ·exact h.mono (by omega) (by omega)
  ·rename_i q r e
   have ht:=h.F7 h0 h1 e
   have hq:=(h.queue k h0 h1).2 q (by rw [e];exact List.mem_cons_self ..)
   simp only []
   split
   ·exact ht.mono (by omega) (by omega)
   ·split
    ·exact ht.named h0 h1 _
    ·exact ht.order h0 h1 (by omega)
theorem Kc (h:H.Fit n m):∀ k:Nat,k≤4→(H.turns k).Fit (n+11 * k) (m+11 * k)
 | 0,_=>h
 | k+1,hk=>by
  have ih:=Kc h k (by omega)
  unfold AH.turns
  exact(ih.Ea (by omega) (by omega)).mono (by omega) (by omega)
end AH
theorem Y8 {V V3 V4:AM}{ls ls3 ls4:Vector BK 4}{ev ev4:List Event}{k:Int}{u:Au}(c:decide ((AF.BW V.w u).2.2.2=0)=true)
  (e3:A7 V3 ls3 ev=({ A7 V ls ev with w:=(AF.BW V.w u).1 }:AH).set k { (A7 V ls ev).at_ k with state:=2,A0:=(AF.BW V.w u).2.1 })
  (e:A7 V4 ls4 ev4=(A7 V3 ls3 ev).HE (AF.BW V.w u).2.2.1):A7 V4 ls4 ev4=(A7 V ls ev).named k u:=by
 rw [e,e3]
 exact(if_pos c).symm
theorem Y9 {V V4:AM}{ls ls4:Vector BK 4}{ev ev4:List Event}{k:Int}{u:Au}(c:decide ((AF.BW V.w u).2.2.2=0)=false)(c2:decide ((AF.BW V.w u).2.2.2=4)=true)
  (e:A7 V4 ls4 ev4=(A7 V ls ev).tell k AH.noRoom):A7 V4 ls4 ev4=(A7 V ls ev).named k u:=e.trans ((if_neg (by show ¬ decide ((AF.BW V.w u).2.2.2=0)=true;rw [c];decide)).trans (if_pos c2)).symm
theorem Yn {V V4:AM}{ls ls4:Vector BK 4}{ev ev4:List Event}{k:Int}{u:Au}(c:decide ((AF.BW V.w u).2.2.2=0)=false)(c2:decide ((AF.BW V.w u).2.2.2=4)=false)
  (e:A7 V4 ls4 ev4=(A7 V ls ev).tell k AH.Q2):A7 V4 ls4 ev4=(A7 V ls ev).named k u:=e.trans ((if_neg (by show ¬ decide ((AF.BW V.w u).2.2.2=0)=true;rw [c];decide)).trans (if_neg (by show ¬ decide ((AF.BW V.w u).2.2.2=4)=true;rw [c2];decide))).symm
theorem UK {V V4:AM}{ls ls4:Vector BK 4}{ev ev4:List Event}{k:Int}{u:Au}(h0:0≤k)(h1:k < 4)(c:(!decide ((Words.parse u).2=0))=false)(c2:decide ((Words.parse u).1.verb=20)=false)
  (e:A7 V4 ls4 ev4=(A7 { V with w:=(AF.EH V.w (V.As.at k).A0 (Words.parse u).1).1 } ls ev).HE (AF.EH V.w (V.As.at k).A0 (Words.parse u).1).2.1):A7 V4 ls4 ev4=(A7 V ls ev).order k u:=by
 rw [e,N6]
 have ha:=Ca V ls ev h0 h1
 unfold AH.order
 rw [if_neg (by rw [c];decide),if_neg (by rw [c2];decide),ha]
 rfl
theorem WR {V:AM}{ls:Vector BK 4}{ev:List Event}{k:Int}(h0:0≤k)(h1:k < 4)(c:decide ((V.As.at k).state=0)=true):A7 V ls ev=(A7 V ls ev).Ea k:=by
 have ha:=Ca V ls ev h0 h1
 exact(if_pos (show decide (((A7 V ls ev).at_ k).state=0)=true by rw [ha];exact c)).symm
theorem Vh {V:AM}{ls:Vector BK 4}{ev:List Event}{k:Int}(h0:0≤k)(h1:k < 4){sv:A3}{sl:BK}(hs:V.As.at k=sv)(hl:ls.at k=sl)(hq:sl.queue = [])(c:decide ((V.As.at k).state=0)=false) :
  A7 (V.BB k sv) (ls.put k ⟨sl.queue,sl.wait,sl.told⟩) ev=(A7 V ls ev).Ea k:=by
 have ha:=Ca V ls ev h0 h1
 rw [Es h0 h1 hs hl (f:=fun x=>x) rfl,AH.L3 _ h0 h1]
 unfold AH.Ea
 rw [if_neg (show ¬ decide (((A7 V ls ev).at_ k).state=0)=true by rw [ha];show ¬ decide ((V.As.at k).state=0)=true;rw [c];decide)]
 have e:((A7 V ls ev).at_ k).queue = []:=by rw [ha,hl];exact hq
 split
 ·rfl
 ·rename_i q r e2;rw [e] at e2;cases e2
theorem Dq {V:AM}{ls:Vector BK 4}{ev:List Event}{k:Int}(h0:0≤k)(h1:k < 4){sv:A3}{sl:BK}(hs:V.As.at k=sv)(hl:ls.at k=sl){q:Au}{r:List Au}(hq:sl.queue=q :: r)(c:decide ((V.As.at k).state=0)=false)(h':Hd) :
  A7 (V.BB k { sv with D4:=⟨sv.D4.now,sv.D4.Ci,sv.D4.ret,h'⟩,out:=⟨sv.out.wait,0,false,sv.out.ring,sv.out.cut⟩ }) (ls.put k ⟨r,sl.wait,sl.told⟩) ev=(A7 V ls ev).set k { (A7 V ls ev).at_ k with queue:=r }.F7∧((A7 V ls ev).at_ k).queue=q :: r ∧
  (A7 V ls ev).Ea k=if sv.out.Bv=true then(A7 V ls ev).set k { (A7 V ls ev).at_ k with queue:=r }.F7 else if decide (sv.state=1)=true then((A7 V ls ev).set k { (A7 V ls ev).at_ k with queue:=r }.F7).named k (Words.QU 32 (Words.Sb 32 q)) else((A7 V ls ev).set k { (A7 V ls ev).at_ k with queue:=r }.F7).order k q:=by
 have ha:=Ca V ls ev h0 h1
 have e:((A7 V ls ev).at_ k).queue=q :: r:=by rw [ha,hl];exact hq
 refine⟨Es h0 h1 hs hl (f:=fun x=>{ x with queue:=r }.F7) rfl,e,?_⟩
 unfold AH.Ea
 rw [if_neg (show ¬ decide (((A7 V ls ev).at_ k).state=0)=true by rw [ha];show ¬ decide ((V.As.at k).state=0)=true;rw [c];decide)]
 split
 ·rename_i e2;rw [e] at e2;cases e2
 ·rename_i q' r' e2
  rw [e] at e2
  obtain⟨rfl,rfl⟩:=List.cons.inj e2
  have e3:((A7 V ls ev).at_ k).pg.Bv=sv.out.Bv:=by rw [ha,hs];rfl
  have e4:((A7 V ls ev).at_ k).state=sv.state:=by rw [ha,hs];rfl
  simp only [e3,e4]
theorem S6 {H:AH}{i:Int}(h0:0≤i):H.turns (i+1).toNat=(H.turns i.toNat).Ea i:=by
 obtain⟨m,rfl⟩:=Int.eq_ofNat_of_zero_le h0
 rfl
end Go.Ing
/- A house: who comes, bytes that come: plain laws for the walks. -/
namespace Go.Ing
open Go
def ZI:Hd:=⟨none,0,0⟩
def EV (t:AR)(g:Page.Pg):A3:=⟨1,-1,t,⟨[],false,false,ZI⟩,⟨ZI,g.shown,g.Bv,g.ring,g.cut⟩,ZI⟩
def Yy:BK:=⟨[],[],[]⟩
theorem SF {v:A3}{l:BK}{u:Au}(hw:v.out.wait.len=l.wait.length):(Cq v l).send u=Cq { v with out:=⟨v.out.wait,(Page.send v.out u).1.shown,(Page.send v.out u).1.Bv,(Page.send v.out u).1.ring,(Page.send v.out u).1.cut⟩ } l:=by
 unfold Aw.send Page.send
 rw [Jf hw]
 cases h:Page.Bj v.out with
 | false=>rfl
 | true=>
  have e:(Cq v l).pg.cut=v.out.cut:=rfl
  cases hc:v.out.cut with
  | true=>rw [e,hc];show Cq v l=Cq { v with out:=⟨v.out.wait,v.out.shown,v.out.Bv,v.out.ring,v.out.cut⟩ } l;rfl
  | false=>rw [e,hc];rfl
def IW (t:AR)(opt:Int):AR:=if decide ((t.DT opt).2.1 = [])=true then((t.DT opt).1.Ask opt).1 else(t.DT opt).1
def Mb (t:AR)(opt:Int):Au:=if decide ((t.DT opt).2.1 = [])=true then(t.DT opt).2.1++((t.DT opt).1.Ask opt).2.1 else(t.DT opt).2.1 ++ []
def K6 (t:AR)(g:Page.Pg)(opt:Int):Page.Pg:=(Page.send ⟨ZI,g.shown,g.Bv,g.ring,g.cut⟩ (Mb t opt)).1
theorem My (t:AR)(g:Page.Pg)(opt:Int):(Cq (EV t g) Yy).offer opt=Cq (EV (IW t opt) (K6 t g opt)) Yy:=by
 have h:=SF (v:=EV (IW t opt) g) (l:=Yy) (u:=Mb t opt) rfl
 unfold Aw.offer
 have e:(Cq (EV t g) Yy).D6=t:=rfl
 rw [e]
 by_cases c:decide ((t.DT opt).2.1 = [])=true
 ·rw [if_pos c]
  have e1:IW t opt=((t.DT opt).1.Ask opt).1:=if_pos c
  have e2:Mb t opt = []++((t.DT opt).1.Ask opt).2.1:=(if_pos c).trans (by rw [of_decide_eq_true c])
  rw [← e1,← e2]
  exact h
 ·rw [if_neg c]
  have e1:IW t opt=(t.DT opt).1:=if_neg c
  have e2:Mb t opt=(t.DT opt).2.1 ++ []:=if_neg c
  rw [← e1,← e2]
  exact h
def D1 (j:Int):Int:=(((Vector.replicate 2 (default:Int)).put 0 3).put 1 31).at j
def E7:Nat→AR × Page.Pg
 | 0=>(default,⟨0,false,[],false⟩)
 | j+1=>(IW (E7 j).1 (D1 j),K6 (E7 j).1 (E7 j).2 (D1 j))
theorem HP {j:Int}(h0:0≤j):E7 (j+1).toNat=(IW (E7 j.toNat).1 (D1 j),K6 (E7 j.toNat).1 (E7 j.toNat).2 (D1 j)):=by
 obtain⟨m,rfl⟩:=Int.eq_ofNat_of_zero_le h0
 rfl
theorem OJ:Cq (EV (E7 2).1 (E7 2).2) Yy=(({ (default:Aw) with state:=1,A0:=-1 }).offer 3).offer 31:=by
 have h0:({ (default:Aw) with state:=1,A0:=-1 }:Aw)=Cq (EV (E7 0).1 (E7 0).2) Yy:=rfl
 rw [h0,My,My]
 rfl
theorem Fg (t:AR)(opt:Int):(t.DT opt).2.1.length≤3:=by
 unfold AR.DT
 split
 ·exact Nat.zero_le _
 ·split
  ·exact Nat.zero_le _
  ·split
   ·exact Nat.zero_le _
   ·exact Nat.le_refl 3
theorem IM (t:AR)(opt:Int):(t.Ask opt).2.1.length≤3:=by
 unfold AR.Ask
 split
 ·exact Nat.zero_le _
 ·split
  ·exact Nat.zero_le _
  ·split
   ·exact Nat.zero_le _
   ·exact Nat.le_refl 3
theorem AH.Fit.comes {H:AH}{n m:Nat}(h:H.Fit n m){k:Int}(h0:0≤k)(h1:k < 4)(t:AR)(g:Page.Pg):(H.set k (Cq (EV t g) Yy)).Fit n m:=
 h.set h0 h1 (Nat.zero_le _) (fun e=>absurd (show(1:Int)=2 from e) (by decide)) (fun u hu=>by cases hu) ⟨Nat.zero_le _,fun u hu=>by cases hu⟩
theorem AH.Fit.Kj {H:AH}{n m:Nat}(h:H.Fit n m){k:Int}(h0:0≤k)(h1:k < 4):(H.Kj k).Fit (n+221) (m+220):=by
 unfold AH.Kj
 rw [← OJ]
 exact((h.comes h0 h1 _ _).tell h0 h1 (show AH.Hx.length≤_ by decide)).BZ.mono (by omega) (by omega)
end Go.Ing
/- A house: an act: plain laws for the walks. -/
namespace Go.Ing
open Go
theorem QA {v:A3}{l:BK}(h:v.D4.queue.len=l.queue.length):(Cq v l).LN=Bi.Bj v.D4 l.queue:=by
 unfold Aw.LN Bi.Bj Bi.JG
 rw [h];rfl
theorem VY {v:A3}{l:BK}{u:Au}(h:v.D4.queue.len=l.queue.length)(c:Bi.Bj v.D4 l.queue=false):(Cq v l).typed u=(Cq v l,0):=if_pos (by rw [QA h,c];rfl)
theorem XU {v:A3}{l:BK}{u:Au}(h:v.D4.queue.len=l.queue.length)(c:Bi.Bj v.D4 l.queue=true)(q:Hd) :
  (Cq v l).typed u=(Cq { v with D4:=⟨(Bi.feed (Bi.start v.D4 l.queue) u).now,(Bi.feed (Bi.start v.D4 l.queue) u).Ci,(Bi.feed (Bi.start v.D4 l.queue) u).ret,q⟩ } ⟨(Bi.feed (Bi.start v.D4 l.queue) u).queue,l.wait,l.told⟩,(Bi.feed (Bi.start v.D4 l.queue) u).lost):=
 (if_neg (by rw [QA h,c];decide)).trans rfl
theorem Rr (s:Aw)(u:Au):(s.typed u).1.told=s.told∧(s.typed u).1.state=s.state∧(s.typed u).1.A0=s.A0∧(s.typed u).1.wait=s.wait∧(AH.Z8 s.queue→AH.Z8 (s.typed u).1.queue):=by
 unfold Aw.typed
 split
 ·exact⟨rfl,rfl,rfl,rfl,fun h=>h⟩
 ·rename_i c
  refine⟨rfl,rfl,rfl,rfl,fun _=>?_⟩
  have hg:Bi.Bj ⟨s.now,s.Ci,s.ret,⟨none,s.queue.length,0⟩⟩ s.queue=true:=by
   have:s.LN=true:=by simpa using c
   exact this
  have ho:=Bi.Uu u ((Bi.Hl (l:=⟨s.now,s.Ci,s.ret,⟨none,s.queue.length,0⟩⟩) rfl).1 hg)
  exact⟨ho.len,fun q hq=>((Bi.GJ q).1 (ho.queue q hq)).1⟩
theorem OV (s:Aw)(u:Au):(s.send u).told=s.told∧(s.send u).state=s.state∧(s.send u).A0=s.A0∧(s.send u).wait=s.wait∧(s.send u).queue=s.queue:=by
 unfold Aw.send
 split
 ·exact⟨rfl,rfl,rfl,rfl,rfl⟩
 ·split<;>exact⟨rfl,rfl,rfl,rfl,rfl⟩
def C5 (s:Aw)(u:Au):Aw × Int:=(s.bytes u).1.typed (s.bytes u).2
theorem Ft (s:Aw)(u:Au):(C5 s u).1.told=s.told∧(C5 s u).1.state=s.state∧(C5 s u).1.A0=s.A0∧(C5 s u).1.wait=s.wait∧(AH.Z8 s.queue→AH.Z8 (C5 s u).1.queue):=by
 have h1:=Rr (s.bytes u).1 (s.bytes u).2
 have h2:=OV { s with D6:=(s.D6.Dr u).1 } (s.D6.Dr u).2.2.1
 obtain⟨a,b,c,d,e⟩:=h1
 obtain⟨a',b',c',d',e'⟩:=h2
 exact⟨a.trans a',b.trans b',c.trans c',d.trans d',fun hq=>e (by rw [show(s.bytes u).1.queue=s.queue from e'];exact hq)⟩
theorem Hi (H:AH)(k:Int)(u:Au):H.byte k u=(if decide (0 < (C5 (H.at_ k) u).2)=true then(H.set k (C5 (H.at_ k) u).1).tell k AH.OG else H.set k (C5 (H.at_ k) u).1).BZ:=rfl
def heard (v:A3)(u:Au):A3:={ v with D6:=(v.D6.Dr u).1,out:=⟨v.out.wait,(Page.send v.out (v.D6.Dr u).2.2.1).1.shown,(Page.send v.out (v.D6.Dr u).2.2.1).1.Bv,(Page.send v.out (v.D6.Dr u).2.2.1).1.ring,(Page.send v.out (v.D6.Dr u).2.2.1).1.cut⟩ }
theorem QV {v:A3}{l:BK}{u:Au}(hw:v.out.wait.len=l.wait.length):(Cq v l).bytes u=(Cq (heard v u) l,(v.D6.Dr u).2.1):=by
 unfold Aw.bytes
 exact congrArg (fun x=>(x,_)) (SF (v:={ v with D6:=(v.D6.Dr u).1 }) (l:=l) (u:=(v.D6.Dr u).2.2.1) hw)
theorem HU {v:A3}{l:BK}{u:Au}(hw:v.out.wait.len=l.wait.length)(h:v.D4.queue.len=l.queue.length)(c:Bi.Bj v.D4 l.queue=false):C5 (Cq v l) u=(Cq (heard v u) l,0):=by
 unfold C5
 rw [QV hw]
 exact VY (v:=heard v u) h c
theorem I1 {v:A3}{l:BK}{u:Au}(hw:v.out.wait.len=l.wait.length)(h:v.D4.queue.len=l.queue.length)(c:Bi.Bj v.D4 l.queue=true)(q:Hd) :
  C5 (Cq v l) u=(Cq { heard v u with D4:=⟨(Bi.feed (Bi.start v.D4 l.queue) (v.D6.Dr u).2.1).now,(Bi.feed (Bi.start v.D4 l.queue) (v.D6.Dr u).2.1).Ci,(Bi.feed (Bi.start v.D4 l.queue) (v.D6.Dr u).2.1).ret,q⟩ } ⟨(Bi.feed (Bi.start v.D4 l.queue) (v.D6.Dr u).2.1).queue,l.wait,l.told⟩,(Bi.feed (Bi.start v.D4 l.queue) (v.D6.Dr u).2.1).lost):=by
 unfold C5
 rw [QV hw]
 exact XU (v:=heard v u) h c q
namespace AH
variable {H:AH} {n m:Nat}
theorem RK {i:Int}(h0:0≤i):H.Ek (i+1).toNat=(H.Ek i.toNat).set i { (H.Ek i.toNat).at_ i with told:= [] }:=by
 obtain⟨k,rfl⟩:=Int.eq_ofNat_of_zero_le h0
 rfl
theorem HK:∀ k:Nat,(H.Ek k).w=H.w∧(H.Ek k).last=H.last∧(H.Ek k).CH=H.CH
 | 0=>⟨rfl,rfl,rfl⟩
 | k+1=>HK k
theorem OK:∀ k:Nat,k≤4→∀ j:Int,0≤j→j < 4→(H.Ek k).at_ j=if j < k then { H.at_ j with told:= [] } else H.at_ j
 | 0,_,j,j0,_=>by rw [if_neg (by omega)];rfl
 | k+1,hk,j,j0,j1=>by
  have ih:=OK k (by omega)
  show(((H.Ek k).set k _).at_ j)=_
  rw [DA _ (by omega) (by omega) j0]
  by_cases c:j=(k:Int)
  ·subst c
   rw [if_pos rfl,if_pos (by omega),ih _ j0 j1,if_neg (by omega)]
  ·rw [if_neg c,ih j j0 j1]
   by_cases c2:j < (k:Int)
   ·rw [if_pos c2,if_pos (by omega)]
   ·rw [if_neg c2,if_neg (by omega)]
theorem Gj {j:Int}(j0:0≤j)(j1:j < 4):H.begun.at_ j={ H.at_ j with told:= [] }:=by
 have:=OK (H:={ H with CH:=H.CH+1,last:= [] }) 4 (Nat.le_refl 4) j j0 j1
 rw [if_pos (by omega)] at this
 exact this
theorem Fit.begun (h:H.Fit n m):H.begun.Fit 0 0:=by
 have hs:=HK (H:={ H with CH:=H.CH+1,last:= [] }) 4
 refine⟨by show(Ek _ 4).w.La;rw [hs.1];exact h.F5,fun j a b=>?_,by show(Ek _ 4).last.length≤0;rw [hs.2.1];exact Nat.le_refl 0,fun j a b=>?_,fun j a b=>?_,fun j a b=>?_⟩<;>rw [Gj a b]
 ·exact Nat.le_refl 0
 ·exact h.A0 j a b
 ·exact h.wait j a b
 ·exact h.queue j a b
theorem Fit.typed (h:H.Fit n m){k:Int}(h0:0≤k)(h1:k < 4)(u:Au):(H.set k (C5 (H.at_ k) u).1).Fit n m:=by
 obtain⟨a,b,c,d,e⟩:=Ft (H.at_ k) u
 exact h.set h0 h1 (by rw [a];exact h.told k h0 h1) (by rw [b,c];exact h.A0 k h0 h1) (by rw [d];exact h.wait k h0 h1) (e (h.queue k h0 h1))
theorem Fit.HZ (h:H.Fit n m){k:Int}(h0:0≤k)(h1:k < 4)(z:Int):(H.set k ((H.at_ k).HZ z)).Fit n m:=
 h.set h0 h1 (h.told k h0 h1) (h.A0 k h0 h1) (h.wait k h0 h1) (h.queue k h0 h1)
theorem Fit.O2 (h:H.Fit n m)(d:Int):(H.O2 d).Fit (n+400) (m+400):=by
 have h1:=Kc h 4 (Nat.le_refl 4)
 have hr:=AF.K4 (draw:=d) h1.F5
 have hl:=AF.QX h1.F5.IP d
 exact(((h1.land hr.1).HE hr.2).BZ).mono (by omega) (by omega)
theorem Fit.byte (h:H.Fit 0 0){k:Int}(h0:0≤k)(h1:k < 4)(u:Au):(H.byte k u).Fit 1000 1000:=by
 rw [Hi]
 refine(Fit.BZ (n:=1) (m:=0) ?_).mono (by omega) (by omega)
 split
 ·exact(h.typed h0 h1 _).tell h0 h1 (show OG.length≤_ by decide)
 ·exact(h.typed h0 h1 _).mono (by omega) (by omega)
theorem JY (P:AH→Prop)(h0:P H)(hp:∀ d,P (H.O2 d))(hc:∀ k,0≤k→k < 4→P (H.Kj k))(hb:∀ k u,0≤k→k < 4→P (H.byte k u))(ht:∀ k z,0≤k→k < 4→P ((H.set k ((H.at_ k).HZ z)).BZ))(hl:∀ k,0≤k→k < 4→P (H.leave k).BZ)(a:Bk):P (H.Dv a).1:=by
 unfold AH.Dv
 split
 ·dsimp only;exact hp a.n
 ·split
  ·dsimp only;exact h0
  ·split
   ·dsimp only;exact h0
   ·rename_i c
    have hs:0≤a.BB∧a.BB < 4:=by simp only [Bool.or_eq_true,decide_eq_true_eq] at c;omega
    split
    ·dsimp only;exact h0
    ·split
     ·dsimp only;exact hc _ hs.1 hs.2
     ·split
      ·dsimp only;exact hb _ _ hs.1 hs.2
      ·split
       ·dsimp only;exact ht _ _ hs.1 hs.2
       ·dsimp only;exact hl _ hs.1 hs.2
theorem Fit.Dv (h:H.Fit 0 0)(a:Bk):(H.Dv a).1.Fit 1000 1000:=
 JY (fun X=>X.Fit 1000 1000) (h.mono (by omega) (by omega)) (fun d=>(h.O2 d).mono (by omega) (by omega)) (fun k h0 h1=>(h.Kj h0 h1).mono (by omega) (by omega)) (fun k u h0 h1=>h.byte h0 h1 u)
  (fun k z h0 h1=>((h.HZ h0 h1 z).BZ).mono (by omega) (by omega)) (fun k h0 h1=>((h.leave h0 h1).BZ).mono (by omega) (by omega)) a
theorem Fit.act (h:H.Fit n m)(a:Bk):(H.act a).1.Fit (n+1000) (m+1000):=by
 unfold AH.act
 split
 ·exact h.mono (by omega) (by omega)
 ·exact(h.begun.Dv a).mono (by omega) (by omega)
theorem GO {H:AH}(c:decide (400≤H.CH)=false)(a:Bk):H.act a=H.begun.Dv a:=if_neg (by rw [c];decide)
end AH
theorem Gp (V:AM)(ls:Vector BK 4)(ev:List Event){k:Int}(h0:0≤k)(h1:k < 4):decide (((A7 V ls ev).at_ k).state=0)=decide ((V.As.at k).state=0):=by rw [Ca V ls ev h0 h1];rfl
theorem FN {V:AM}{ls:Vector BK 4}{ev:List Event}{k:Int}(h0:0≤k)(h1:k < 4){sv v:A3}{sl l:BK}(hs:V.As.at k=sv)(hl:ls.at k=sl){u:Au}{z:Int}(e:C5 (Cq sv sl) u=(Cq v l,z)) :
  A7 (V.BB k v) (ls.put k l) ev=(A7 V ls ev).set k (C5 ((A7 V ls ev).at_ k) u).1∧(C5 ((A7 V ls ev).at_ k) u).2=z:=by
 have ha:C5 ((A7 V ls ev).at_ k) u=(Cq v l,z):=by rw [Ca V ls ev h0 h1,hs,hl];exact e
 rw [Iq V ls ev h0 h1,ha]
 exact⟨rfl,rfl⟩
theorem Im {V V2:AM}{ls ls2:Vector BK 4}{ev:List Event}{k:Int}(h0:0≤k)(h1:k < 4){u:Au}{z:Int}(e:A7 V2 ls2 ev=(A7 V ls ev).set k (C5 ((A7 V ls ev).at_ k) u).1∧(C5 ((A7 V ls ev).at_ k) u).2=z)(hF:(A7 V ls ev).Fit 0 0):(A7 V2 ls2 ev).Fit 0 0:=by
 rw [e.1];exact hF.typed h0 h1 u
theorem Ld {V V2 V3 V4:AM}{ls ls2 ls3 ls4:Vector BK 4}{ev ev3 ev4:List Event}{k:Int}(_:0≤k)(_:k < 4){u:Au}{z:Int}(e:A7 V2 ls2 ev=(A7 V ls ev).set k (C5 ((A7 V ls ev).at_ k) u).1∧(C5 ((A7 V ls ev).at_ k) u).2=z)
  (e3:(decide (0 < z)=true∧A7 V3 ls3 ev3=(A7 V2 ls2 ev).tell k AH.OG)∨(decide (0 < z)=false∧A7 V3 ls3 ev3=A7 V2 ls2 ev)) (e4:A7 V4 ls4 ev4=(A7 V3 ls3 ev3).BZ):A7 V4 ls4 ev4=(A7 V ls ev).byte k u:=by
 rw [e4,Hi,e.2]
 rcases e3 with ⟨c,e3⟩ | ⟨c,e3⟩
 ·rw [e3,if_pos c,e.1]
 ·rw [e3,if_neg (by rw [c];decide),e.1]
theorem XB (V:AM)(ls:Vector BK 4)(ev:List Event){k:Int}(h0:0≤k)(h1:k < 4){sv:A3}(hs:V.As.at k=sv)(n:Int):sv.out.ring.take (max 0 (min n (sv.out.ring.length:Int))).toNat=((A7 V ls ev).at_ k).out n:=by
 rw [Ca V ls ev h0 h1,hs];rfl
theorem WO (t:AR)(u:Au):(t.Dr u).2.1.length≤u.length:=by
 unfold AR.Dr
 split
 ·exact Nat.zero_le _
 ·exact(AR.W2 u t).1
end Go.Ing
/- A house, from outside: plain laws for the walks. -/
namespace Go.Ing
open Go
namespace AH
def JJ (H:AH)(i:Int):Int × Int:=if decide ((H.at_ i).state=2)=true then(2,(H.at_ i).A0) else((H.at_ i).state,-1)
theorem SV:∀(l:List Bk) (H:AH) (a:Bk),run H (l ++ [a])=(((run H l).1.act a).1,(run H l).2 ++ [((run H l).1.act a).2])
 | [],_,_=>rfl
 | b :: r,H,a=>by
  have ih:=SV r (H.act b).1 a
  show((run (H.act b).1 (r ++ [a])).1,(H.act b).2 :: (run (H.act b).1 (r ++ [a])).2)=_
  rw [ih];rfl
theorem XK {H:AH}{xs:List Bk}{k:Int}(h0:0≤k)(h1:k < xs.length):run H (xs.take (k+1).toNat)=(((run H (xs.take k.toNat)).1.act (xs.getD k.toNat default)).1,(run H (xs.take k.toNat)).2 ++ [((run H (xs.take k.toNat)).1.act (xs.getD k.toNat default)).2]):=by
 obtain⟨m,rfl⟩:=Int.eq_ofNat_of_zero_le h0
 have hm:m < xs.length:=by omega
 show run H (xs.take (m+1))=(((run H (xs.take m)).1.act (xs.getD m default)).1,(run H (xs.take m)).2 ++ [((run H (xs.take m)).1.act (xs.getD m default)).2])
 rw [List.take_add_one,List.getElem?_eq_getElem hm,List.getD_eq_getElem?_getD,List.getElem?_eq_getElem hm]
 exact SV _ _ _
def Fits (H:AH):Prop:=∃ n m,H.Fit n m
theorem Fits.act {H:AH}(h:H.Fits)(a:Bk):(H.act a).1.Fits:=by
 obtain⟨n,m,h⟩:=h
 exact⟨_,_,h.act a⟩
theorem Fits.run:∀(l:List Bk) {H:AH},H.Fits→(run H l).1.Fits
 | [],_,h=>h
 | a :: r,_,h=>Fits.run r (h.act a)
theorem Uy:AI.new.La:=by
 refine⟨fun i=>?_,fun i=>?_,fun i=>?_⟩
 ·rcases Vector.N7 AI.new.AP i with e | ⟨j,j0,j1,e⟩
  ·rw [e];exact Nat.zero_le _
  ·rw [e]
   have:j=0∨j=1∨j=2∨j=3∨j=4∨j=5∨j=6∨j=7∨j=8:=by omega
   rcases this with h | h | h | h | h | h | h | h | h<;>subst h<;>decide
 ·rcases Vector.N7 AI.new.AO i with e | ⟨j,j0,j1,e⟩
  ·rw [e];exact Nat.zero_le _
  ·rw [e]
   have:j=0∨j=1∨j=2∨j=3∨j=4∨j=5:=by omega
   rcases this with h | h | h | h | h | h<;>subst h<;>decide
 ·rcases Vector.N7 AI.new.BS i with e | ⟨j,j0,j1,e⟩
  ·rw [e];exact Nat.zero_le _
  ·rw [e]
   have:j=0∨j=1∨j=2∨j=3∨j=4∨j=5:=by omega
   rcases this with h | h | h | h | h | h<;>subst h<;>decide
theorem OX {k:Int}(h0:0≤k)(h1:k < 4):AH.new.at_ k=default:=by
 rcases four h0 h1 with e | e | e | e<;>subst e<;>rfl
theorem ZL:AH.new.Fit 0 0:=by
 refine⟨Uy,fun k a b=>?_,Nat.le_refl 0,fun k a b=>?_,fun k a b=>?_,fun k a b=>?_⟩<;>rw [OX a b]
 ·exact Nat.le_refl 0
 ·exact fun e=>absurd (show(0:Int)=2 from e) (by decide)
 ·exact fun u hu=>by cases hu
 ·exact⟨Nat.zero_le _,fun u hu=>by cases hu⟩
end AH
theorem St.U8 {w0 w:World}{M:List Nat}{L l:List Ad}(h:St w0 M w L)(hl:∀ r∈l,r.CX = []∧r.ok w):St w0 M w (Ad.Da l :: L):=by
 have hf:(Ad.Da l).CX = []:=by
  show l.flatMap Ad.CX = []
  rw [List.flatMap_eq_nil_iff]
  exact fun r hr=>(hl r hr).1
 refine⟨h.os,h.tape,h.output,h.size,h.Hv,fun r hr=>?_,fun r hr=>?_,List.pairwise_cons.2 ⟨fun s hs b hb=>?_,h.JD⟩⟩
 ·rcases List.mem_cons.1 hr with rfl | hr
  ·refine⟨fun r hr=>(hl r hr).2,?_⟩
   refine List.Pairwise.imp_of_mem (R:=fun _ _=>True) (fun {a b} ha hb _ x hx=>?_) (List.pairwise_of_forall (fun _ _=>trivial))
   rw [(hl a ha).1] at hx;cases hx
  ·exact h.ok r hr
 ·rcases List.mem_cons.1 hr with rfl | hr
  ·rw [hf];exact fun b hb=>by cases hb
  ·exact h.CX r hr
 ·rw [hf] at hb;cases hb
def NZ:Vector A3 4:=Vector.replicate 4 default
def NW:Vector BK 4:=Vector.replicate 4 ⟨[],[],[]⟩
theorem XW (T:Nat)(w:World):∀ r∈CL T NZ NW,r.CX = []∧r.ok w:=by
 have hs:∀ r∈Fp T default ⟨[],[],[]⟩,r.CX = []∧r.ok w:=fun r hr=>by
  unfold Fp at hr
  simp only [List.mem_cons,List.mem_nil_iff,or_false] at hr
  rcases hr with rfl | rfl | rfl<;>exact⟨rfl, .inl ⟨rfl,rfl⟩⟩
 intro r hr
 have e:CL T NZ NW=Fp T default ⟨[],[],[]⟩++(Fp T default ⟨[],[],[]⟩++(Fp T default ⟨[],[],[]⟩++Fp T default ⟨[],[],[]⟩)):=rfl
 rw [e] at hr
 simp only [List.mem_append] at hr
 rcases hr with h | h | h | h<;>exact hs r h
def DS (v:A3):Int × Int:=if decide (v.state=2)=true then(2,v.A0) else(v.state,-1)
theorem Qs (V:AM)(ls:Vector BK 4)(ev:List Event){i:Int}(h0:0≤i)(h1:i < 4):DS (V.As.at i)=(A7 V ls ev).JJ i:=by
 unfold AH.JJ
 rw [Ca V ls ev h0 h1]
 rfl
end Go.Ing
/- Engine: calls of closures that read what they are handed; slices that are only read, beside boxes. -/
namespace Go.Ing
open Go
section
variable {P:Program} {n:Nat} {w0:World} {M:List Nat} {Q:Exit→Go.Act→World→Prop} {F:List (Nat × Value)} {L:List Ad} {ops:Array Oper} {rest:List Oper}
def eN (w:World)(M:List Nat)(h:Hd)(T sz:Nat)(cs:List Value):Prop:=Rd w h T sz cs∧(cs≠ []→∀ b o,h.a=some ⟨b,o,none⟩→b ∉ M)
theorem Kn.YU {h:Hd}{T sz:Nat}{cs:List Value}(hr:eN w0 M h T sz cs):Kn w0 M L h T sz cs:=fun w hS=>by
 by_cases hc:cs = []
 ·subst hc;exact⟨hr.1.1,fun h=>absurd rfl h⟩
 ·exact hS.en hr.1 (hr.2 hc)
end
theorem Rd.pull {w0 w:World}{L A K:List Ad}{h:Hd}{T sz:Nat}{cs:List Value}(hr:Rd w0 h T sz cs)(hS:St w0 [] w L)(hp:Ay L A K):eN w (Cj A) h T sz cs:=
 ⟨hS.rd hr,fun hne b o e=>by
  obtain⟨b',o',C,fz,h1,h2,_⟩:=hr.2 hne
  rw [e] at h1
  injection h1 with h1
  injection h1 with h1
  subst h1
  exact PM h2 (by simp) hS hp⟩
instance:Inhabited AM:=⟨⟨default,Vector.replicate 4 default,0,⟨none,0,0⟩⟩⟩
end Go.Ing
/- Engine: the texts in a slice of acts that came in, and how much they can take. -/
namespace Go.Ing
open Go Go.RowKit Go.ChangeShapes Go.WideShapes Go.ChangeAt
section
variable {H:Type} {enc:TypeId × Value→H} {P:Program} {w:World}
theorem M8 {e:TypeId}{d:DataW H}:∀ {l:List (DataW H)},d∈l→∀ n∈d.weights P e,n∈DataW.weightsAll P e l
 | [],h,_,_=>by cases h
 | x :: r,h,n,hn=>by
  simp only [DataW.weightsAll]
  rcases List.mem_cons.1 h with rfl | h
  ·exact List.mem_append_left _ hn
  ·exact List.mem_append_right _ (M8 h n hn)
theorem TF {t E TS:TypeId}{fs:Array Field}{h:Hd}{d:DataW H}{p:List MemPlace}{T0:Nat}{xs:List Bk}(hT:P.underlying t=some (.slice E))(hE:P.underlying E=some (.struct fs))(hf:(fs[3]?).map (fun f=>(f.type,f.offset))=some (TS,3))(hS:P.underlying TS=some .string)(zE:P.cellsOf E=4)(zS:P.cellsOf TS=1)
  (hd:DataW.Trod enc P w 0 (fun _=>true) true t h.val d p) (hr:Rd w h T0 4 (xs.flatMap Bk.enc)) (hw:∀ n∈d.weights P t,n≤reachBytes):∀ a∈xs,a.bytes.length≤140737488351232:=by
 have hlen:h.len=xs.length:=hr.MC Bk.fl (by decide)
 intro a ha
 obtain⟨i,hi,rfl⟩:=List.getElem_of_mem ha
 have hb:∃ b o,h.a=some ⟨b,o,none⟩:=by
  have hne:xs.flatMap Bk.enc≠ []:=fun e=>by
   have:=congrArg List.length e
   rw [C1 Bk.fl.len] at this
   simp only [List.length_nil] at this
   omega
  obtain⟨b,o,_,_,e,_⟩:=hr.2 hne
  exact⟨b,o,e⟩
 obtain⟨b,o,hb⟩:=hb
 obtain⟨fuel,hfu⟩:=hd
 have hv:h.val = .slice (some ⟨b,o,none⟩) h.len h.cap:=by rw [← hb];rfl
 have hcs:h.val.cells.toList = [.slice (some ⟨b,o,none⟩) h.len h.cap]:=by rw [hv];rfl
 rw [hcs] at hfu
 rcases DataW.trod_slice hT hfu with ⟨h3,_⟩ | ⟨a',len,cap,elems,rest,m,_,h3,h4,_,hlc,_,h5,hel,_⟩
 ·simp at h3
 ·simp at h3
  obtain⟨rfl,rfl,rfl⟩:=h3
  have hd':d = .slice (elems.map (·.1)) (rest.map (·.1)):=congrArg Prod.fst h4
  have h6:=hel i (by omega)
  have hi':i < elems.length:=by omega
  rw [List.getElem?_eq_getElem hi',Option.bind_eq_some_iff] at h6
  obtain⟨c,h7,h9⟩:=h6
  obtain⟨ys,q,_,hx,hl,hlen',hfl⟩:=DataW.trod_struct hE h9
  cases hf3:fs[3]? with
  | none=>rw [hf3] at hf;cases hf
  | some f=>
   rw [hf3] at hf
   simp at hf
   obtain⟨rfl,hoff⟩:=hf
   have h1:=hfl 3 f hf3
   have h3s:3 < fs.size:=by
    rcases Nat.lt_or_ge 3 fs.size with h' | h'
    ·exact h'
    ·rw [Array.getElem?_eq_none h'] at hf3;cases hf3
   have h2:ys[3]?=some (ys[3]'(by omega)):=List.getElem?_eq_getElem (by omega)
   rw [h2,zS,hoff] at h1
   obtain⟨s,e1,e2,_⟩:=DataW.trod_string hS h1
   have hc:=World.cells?_some h7
   rw [zE] at hc
   have h10:=hc.2.2 3 (by omega)
   have h11:c[3]?=some (.string s):=by
    have:=congrArg (fun l=>l[0]?) e1
    simp only [List.getElem?_take,List.getElem?_drop] at this
    simpa using this
   obtain⟨b',o',C,fz,k1,k2,k3,k4⟩:=PE Bk.fl Bk.l3 hr hi (by decide)
   have k1':(some ⟨b,o,none⟩:Option Addr)=some ⟨b',o',none⟩:=hb.symm.trans k1
   injection k1' with k1'
   injection k1' with kb ko
   subst kb;subst ko
   rw [Eg,Eg] at h10
   unfold World.cell? at h10
   simp only [k2] at h10
   have k5:C[o+i * 4+3]?=some (BT xs[i].bytes):=by
    have:=congrArg (fun l=>l[0]?) k4
    simp only [List.getElem?_take,List.getElem?_drop] at this
    simpa [A8] using this
   have k6:BT xs[i].bytes = .string s:=by
    rw [h11] at h10
    have:C[o+i * 4+3]?=some (Value.string s):=by simpa using h10
    rw [k5] at this
    injection this
   have k7:s.data.toList=xs[i].bytes:=by
    simp [BT] at k6
    rw [← k6]
   have hmem:xs[i].bytes.length∈d.weights P t:=by
    rw [hd']
    simp only [DataW.weights,hT]
    refine List.mem_cons_of_mem _ (List.mem_append_left _ (M8 (d:=elems[i].1) (List.mem_map.2 ⟨elems[i],List.getElem_mem _,rfl⟩) _ ?_))
    have hx':elems[i].1 = .agg (ys.map (·.1)):=congrArg Prod.fst hx
    rw [hx']
    simp only [DataW.weights,hE]
    refine DataW.weights_mem_each (j:=3) (t:=f.type) (d:=(ys[3]'(by omega)).1) ?_ ?_ _ ?_
    ·rw [List.getElem?_map];simp [hf3]
    ·rw [List.getElem?_map,h2];rfl
    ·rw [e2,k7];simp [DataW.weights]
   exact hw _ hmem
theorem Vl {t TS:TypeId}{fs:Array Field}{i o:Nat}{v:Value}{d:DataW H}{p:List MemPlace}{s:Au}(hu:P.underlying t=some (.struct fs))(hfi:(fs[i]?).map (fun f=>(f.type,f.offset))=some (TS,o))(hS:P.underlying TS=some .string)(zS:P.cellsOf TS=1)
  (hd:DataW.Trod enc P w 0 (fun _=>true) true t v d p) (hh:(v.cells.toList.drop o).take 1 = [BT s]) (hw:∀ n∈d.weights P t,n≤reachBytes):s.length≤140737488351232:=by
 obtain⟨fuel,hf⟩:=hd
 obtain⟨xs,n,_,hx,hl,hlen,hfl⟩:=DataW.trod_struct hu hf
 cases hfi':fs[i]? with
 | none=>rw [hfi'] at hfi;cases hfi
 | some f=>
  rw [hfi'] at hfi
  simp at hfi
  obtain⟨rfl,rfl⟩:=hfi
  have h1:=hfl i f hfi'
  have hi:i < fs.size:=by
   rcases Nat.lt_or_ge i fs.size with h' | h'
   ·exact h'
   ·rw [Array.getElem?_eq_none h'] at hfi';cases hfi'
  have h2:xs[i]?=some (xs[i]'(by omega)):=List.getElem?_eq_getElem (by omega)
  rw [h2,zS,hh] at h1
  obtain⟨s',e1,e2,_⟩:=DataW.trod_string hS h1
  have hs':s'.data.toList=s:=by
   have e3:BT s = .string s':=by simpa using e1
   simp [BT] at e3
   rw [← e3]
  have hxd:d = .agg (xs.map (·.1)):=congrArg Prod.fst hx
  refine hw _ ?_
  rw [hxd]
  simp only [DataW.weights,hu]
  refine DataW.weights_mem_each (j:=i) (t:=f.type) (d:=(xs[i]'(by omega)).1) ?_ ?_ _ ?_
  ·rw [List.getElem?_map];simp [hfi']
  ·rw [List.getElem?_map,h2];rfl
  ·rw [e2,hs'];simp [DataW.weights]
end
end Go.Ing
/- What every turn keeps: a principle. -/
namespace Go.Ing
open Go
namespace AF
inductive S8 (w:AI):Au→Prop
 | word {s:Au}:s∈ [Mc,Xm,Tc,KU,Nt,Oh,bK,ZY,aI,RS]→S8 w s
 | room (r:Int):S8 w ([84,104,101,32]++(w.BS.at r).name ++ [46])
 | ways (r:Room):S8 w (It r 6)
 | list {s:Au} (l:List Int):s∈ [[72,101,114,101,32,105,115],[89,111,117,32,104,97,118,101]]→S8 w (SW w s l ++ [46])
 | seen (k:Int):S8 w ((w.AO.at k).name ++ [32,105,115,32,104,101,114,101,46])
inductive Shape (x:Au)(w:AI):Event→Prop
 | cb {s:Au}:S8 w s→Shape x w { Fw 16 with text:=s }
 | said:Shape x w { Fw 7 with text:=x }
 | kind {k:Int}:k=15∨k=17→Shape x w (Fw k)
 | dir {k d:Int}:k=1∨k=2→Shape x w { Fw k with dir:=d }
 | Bw {k i:Int}:k=3∨k=4∨(8≤k∧k≤13)→Shape x w { Fw k with Bw:=(w.AP.at i).name }
 | HB {k:Int}:k=8∨k=9→Shape x w { Fw k with Bw:=P4 }
 | bb {i to:Int}:Shape x w { Fw 6 with other:=to,Bw:=(w.AP.at i).name }
 | WY {i to:Int}:Shape x w { Fw 5 with Bw:=(w.AP.at i).name,text:=(w.AP.at to).name }
 | CE {B4 n:Int}:1≤n→n≤3→Shape x w { Fw 14 with other:=B4,n:=n }
def ev (w:AI)(b:Int)(e:Event):Event:=w.H5 (Dx ⟨w,b,[]⟩ e) 6
theorem Nf (T:AF)(e:Event):(T.BP e).out=T.out ++ [ev T.w T.b e]:=rfl
structure Rel (x:Au)(q:Prop)(b:Int)(R:AI→List Event→AI→Prop):Prop where
 refl:∀ w,R w [] w
 trans:∀ {X l Y m Z},R X l Y→R Y m Z→R X (l++m) Z
 bO:∀ {w e},Shape x w e→R w [ev w b e] w
 Bw:∀ {w:AI} {i:Int} {t:Ao},t.name=(w.AP.at i).name→t.kind=(w.AP.at i).kind→R w [] (w.Gr i t)
 B4:∀ {w:AI} {k f:Int},R w [] (w.C4 k { w.AO.at k with B4:=f })
 shut:∀ {w:AI} {r d:Int} {v:Bool},R w [] (w.ND r d v)
 GF:∀ {w:AI} {d r:Int},R w [ev w b { Fw 1 with dir:=d }] (w.C4 b { w.AO.at b with room:=r,B4:=0 })
 Gq:q→∀ {w},R w [ev w b (Fw 18)] w
 gone:∀ {X l w},R X l w→(∃ e∈l,(e.kind=18∨(e.kind=15∧b < 2))∧e.Dj=b)→R X l (w.C4 b default)
structure On (R:AI→List Event→AI→Prop)(X:AI)(b:Int)(T:AF):Prop where
 b:T.b=b
 r:R X T.out T.w
theorem Of (T:AF)(i j Cb at_:Int):((T.place i Cb at_).w.AP.at j).name=(T.w.AP.at j).name:=by
 show((T.w.AP.put i { T.w.AP.at i with Cb:=Cb,at_:=at_ }).at j).name=_
 unfold Vector.put Vector.at
 rw [List.getD_eq_getElem?_getD,List.getD_eq_getElem?_getD,List.getD_eq_getElem?_getD]
 simp only [Vector.toList_setIfInBounds]
 rw [List.getElem?_set]
 split
 ·rename_i h1
  split
  ·rw [h1];rfl
  ·rename_i h2
   rw [← h1,List.getElem?_eq_none (by omega)]
 ·rfl
theorem HL (w:AI)(b:Int)(e:Event):(ev w b e).kind=e.kind∧(ev w b e).Dj=b:=by
 obtain⟨a1,a2,_⟩:=AI.KW w (Dx ⟨w,b,[]⟩ e) 6
 refine⟨a1.trans ?_,a2.trans ?_⟩
 ·unfold Dx;split<;>rfl
 ·unfold Dx;split<;>rfl
section
variable {x:Au} {q:Prop} {b:Int} {R:AI→List Event→AI→Prop} (K:Rel x q b R) {X:AI} {T:AF}
include K
theorem On.start (X:AI):On R X b ⟨X,b,[]⟩:=⟨rfl,K.refl X⟩
theorem On.land (h:On R X b T){w':AI}(hr:R T.w [] w'):On R X b { T with w:=w' }:=⟨h.b,by have:=K.trans h.r hr;rwa [List.append_nil] at this⟩
theorem On.BP (h:On R X b T){e:Event}(he:Shape x T.w e):On R X b (T.BP e):=⟨h.b,by rw [Nf,h.b];exact K.trans h.r (K.bO he)⟩
theorem On.tell (h:On R X b T){s:Au}(hs:S8 T.w s):On R X b (T.tell s):=h.BP K (.cb hs)
theorem On.kind (h:On R X b T){k:Int}(hk:k=15∨k=17):On R X b (T.kind k):=h.BP K (.kind hk)
theorem On.dD (h:On R X b T){k:Int}(i:Int)(hk:k=3∨k=4∨(8≤k∧k≤13)):On R X b (T.Bw k i):=h.BP K (.Bw hk)
theorem On.C9 (h:On R X b T){i:Int}{t:Ao}(hn:t.name=(T.w.AP.at i).name)(hk:t.kind=(T.w.AP.at i).kind):On R X b (T.C9 i t):=h.land K (w':=T.w.Gr i t) (K.Bw hn hk)
theorem On.place (h:On R X b T)(i Cb at_:Int):On R X b (T.place i Cb at_):=h.C9 K rfl rfl
theorem On.Ck (h:On R X b T)(k f:Int):On R X b (T.Ck k f):=h.land K (w':=T.w.C4 k { T.w.AO.at k with B4:=f }) K.B4
theorem On.C7 (h:On R X b T)(r d:Int)(v:Bool):On R X b (T.C7 r d v):=h.land K (w':=T.w.ND r d v) K.shut
theorem On.list (h:On R X b T){s:Au}(hs:s∈ [[72,101,114,101,32,105,115],[89,111,117,32,104,97,118,101]])(l:List Int):On R X b (T.list s l):=h.tell K (.list l hs)
theorem On.look (h:On R X b T):On R X b T.look:=by
 have hk:∀ {T':AF},On R X b T'→∀ k:Nat,On R X b (T'.Fh k):=fun {T'} h' k=>by
  induction k with
  | zero=>exact h'
  | succ k ih=>
   unfold Fh
   split
   ·refine ih.tell K ?_
    rw [(Ka T' k).1]
    exact .seen k
   ·exact ih
 unfold AF.look
 split
 ·exact h.tell K (.word (by simp))
 ·refine hk ?_ 6
  have ha:On R X b T.Jw:=(h.tell K (.room _)).tell K (.ways _)
  unfold EG
  split
  ·exact ha.list K (by simp) _
  ·exact ha
theorem On.walk (h:On R X b T)(d:Int):On R X b (T.walk d):=by
 unfold AF.walk
 split
 ·exact h.tell K (.word (by simp))
 ·split
  ·exact h.tell K (.word (by simp))
  ·have i1:On R X b ((T.BP { Fw 1 with dir:=d }).GF ((T.w.BS.at T.me.room).CR.at d - 1)):=⟨h.b,by
    have:=K.trans h.r (K.GF (w:=T.w) (d:=d) (r:=(T.w.BS.at T.me.room).CR.at d - 1))
    rw [← h.b] at this
    exact this⟩
   exact(i1.BP K (.dir (.inr rfl))).look K
theorem On.box (h:On R X b T)(u:Au):On R X b (T.box u).1:=by
 unfold AF.box
 split
 ·exact h.tell K (.word (by simp))
 ·split
  ·exact h.tell K (.word (by simp))
  ·exact h
theorem On.A9 (h:On R X b T)(u:Au):On R X b (T.A9 u).1:=by
 unfold AF.A9
 split
 ·split
  ·exact h
  ·exact h.tell K (.word (by simp))
 ·exact h.tell K (.word (by simp))
theorem On.DF (l:List Int):∀ {T':AF},On R X b T'→On R X b (T'.DF l):=by
 induction l with
 | nil=>exact fun h=>h
 | cons i r ih=>exact fun {T'} h=>ih ((h.place K i 1 T'.b).dD K i (.inl rfl))
theorem On.Kh (h:On R X b T)(l:List Int)(o:Order):On R X b (T.Kh l o):=by
 unfold AF.Kh
 refine On.DF K _ ?_
 split
 ·exact h.tell K (.word (by simp))
 ·exact h
theorem On.get (h:On R X b T)(o:Order):On R X b (T.get o):=by
 unfold AF.get
 split
 ·split
  ·exact h.box K _
  ·exact(h.box K _).Kh K _ _
 ·exact h.Kh K _ _
theorem On.Cs (h:On R X b T)(v to i:Int):On R X b (T.Cs v to i):=by
 unfold AF.Cs
 split
 ·exact h.tell K (.word (by simp))
 ·split
  ·exact(h.place K _ _ _).dD K _ (.inr (.inl rfl))
  ·split
   ·refine(h.place K i 1 to).BP K ?_
    rw [← Of T i i 1 to]
    exact .bb
   ·split
    ·exact h.tell K (.word (by simp))
    ·refine(h.place K i 2 to).BP K ?_
     rw [← Of T i i 2 to,← Of T i to 2 to]
     exact .WY
theorem On.Eu {v to:Int}(l:List Int):∀ {T':AF},On R X b T'→On R X b (T'.Eu v to l):=by
 induction l with
 | nil=>exact fun h=>h
 | cons i r ih=>exact fun h=>ih (h.Cs K v to i)
theorem On.FP (h:On R X b T)(o:Order):On R X b (T.FP o):=by
 have ht:On R X b (T.Cv o).1:=by
  unfold Cv
  split
  ·exact h.box K _
  ·split
   ·exact h.A9 K _
   ·exact h
 unfold AF.FP
 split
 ·exact ht
 ·unfold SI
  refine On.Eu K _ ?_
  split
  ·exact ht.tell K (.word (by simp))
  ·exact ht
theorem On.FB (h:On R X b T)(o:Order):On R X b (T.FB o):=by
 unfold AF.FB
 generalize (if (!decide (o.nth=1) || o.Bm)=true then [] else o.name)=nm
 have hs:=h.A9 K nm
 split
 ·exact hs
 ·refine On.tell K ?_ (.word (by simp))
  split
  ·exact(hs.Ck K _ _).Ck K _ _
  ·exact hs.Ck K _ _
theorem On.before (h:On R X b T)(first:Bool)(i:Int)(v:Bool){k:Int}(hk:k=3∨k=4∨(8≤k∧k≤13)):On R X b (T.before first i v k):=by
 unfold AF.before
 split
 ·exact(On.C9 K h (i:=i) (t:={ T.w.AP.at i with on:=v }) rfl rfl).dD K _ hk
 ·exact(h.dD K i hk).C9 K rfl rfl
theorem On.HB (h:On R X b T)(d:Int)(on:Bool){k:Int}(hk:k=8∨k=9):On R X b (T.HB d on k):=by
 unfold AF.HB
 split
 ·exact h.tell K (.word (by simp))
 ·split
  ·exact h.tell K (.word (by simp))
  ·refine On.BP K ?_ (.HB hk)
   split
   ·exact(h.C7 K _ _ _).C7 K _ _ _
   ·exact h.C7 K _ _ _
theorem On.set (h:On R X b T){o:Order}(h0:12≤o.verb)(h1:o.verb≤17):On R X b (T.set o):=by
 unfold AF.set
 split
 ·rename_i c
  rw [Bool.and_eq_true] at c
  have h3:=of_decide_eq_true c.2
  have:o.verb=12∨o.verb=13:=by
   unfold setKind at h3
   split at h3
   ·omega
   ·split at h3
    ·omega
    ·rename_i c1 c2
     simp only [Bool.or_eq_true,decide_eq_true_eq,not_or] at c1 c2
     omega
  exact h.HB K _ _ (by unfold Nj;omega)
 ·split
  ·exact h.tell K (.word (by simp))
  ·split
   ·exact h.tell K (.word (by simp))
   ·split
    ·exact h.before K _ _ _ (by unfold Nj;omega)
    ·exact h.before K _ _ _ (by unfold Nj;omega)
theorem On.Ce (l:List Int):∀ {T':AF},On R X b T'→On R X b (T'.Ce l):=by
 induction l with
 | nil=>exact fun h=>h
 | cons i r ih=>exact fun {T'} h=>ih (On.C9 K h (i:=i) rfl rfl)
theorem On.DZ (h:On R X b T):∀ k:Nat,On R X b (T.DZ k)
 | 0=>h
 | k+1=>by
  unfold AF.DZ
  split
  ·exact(On.DZ h k).Ck K _ _
  ·exact On.DZ h k
theorem On.FJ (h:On R X b T):On R X b T.FJ:=by
 rw [Lj]
 exact((On.Ce K _ h).DZ K 6).Ck K _ _
theorem On.Gq (h:On R X b T)(hq:q):On R X b T.Gq:=by
 have h18:On R X b (T.kind 18):=⟨h.b,by show R X (T.BP (Fw 18)).out _;rw [Nf,h.b];exact K.trans h.r (K.Gq hq)⟩
 have hf:=On.FJ K h18
 have hb:=T.Oz
 refine⟨hb.1.trans h.b,?_⟩
 rw [hb.2.1,hb.2.2]
 have h2:=hf.r
 rw [(Qe (T.kind 18)).2] at h2
 have:=K.gone h2 ⟨ev T.w T.b (Fw 18),by show _∈T.out ++ [_];exact List.mem_append_right _ (List.mem_cons_self ..), .inl (HL ..).1,(HL ..).2.trans h.b⟩
 rw [← h.b] at this
 exact this
theorem On.act (h:On R X b T){o:Order}(hx:o.text=x)(hq:o.verb=20→q)(h0:0≤o.verb)(h20:o.verb≤20):On R X b (T.act o):=by
 unfold AF.act
 split
 ·exact h.walk K _
 ·split
  ·exact h.look K
  ·split
   ·exact h.list K (by simp) _
   ·split
    ·refine h.BP K ?_;rw [hx];exact .said
    ·split
     ·rename_i c;exact h.Gq K (hq (of_decide_eq_true c))
     ·split
      ·exact h.FB K _
      ·split
       ·exact h.get K _
       ·split
        ·exact h.FP K _
        ·rename_i c1 c2 c3 c4 c5 c6 c7 c8
         simp only [Bool.or_eq_true,decide_eq_true_eq,not_or] at c1 c2 c3 c4 c5 c6 c7 c8
         exact h.set K (by omega) (by omega)
theorem RD {o:Order}(hx:o.text=x)(hq:o.verb=20→q):R X (EH X b o).2.1 (EH X b o).1:=by
 unfold EH
 split
 ·exact K.refl X
 ·split
  ·exact K.refl X
  ·split
   ·exact K.refl X
   ·rename_i c
    simp only [Bool.or_eq_true,decide_eq_true_eq,not_or] at c
    exact((On.start K X).act K hx hq (by omega) (by omega)).r
end
end AF
end Go.Ing
/- What every round of fights keeps, and every coming in: a principle. -/
namespace Go.Ing
open Go
namespace AF
structure Yl (R:AI→List Event→AI→Prop):Prop where
 all:∀ b,0≤b→b < 6→Rel [] False b R
 cC:∀ {w:AI} {k h:Int},R w [] (w.C4 k { w.AO.at k with BM:=h })
 dh:∀ {X l w} {b:Int},2≤b→R X l w→(∃ e∈l,e.kind=15∧e.Dj=b)→R X l (w.C4 b { w.AO.at b with room:=0,BM:=10 })
section
variable {R:AI→List Event→AI→Prop} (K:Yl R)
include K
theorem Uj {X:AI}:R X [] X:=(K.all 0 (Int.le_refl _) (by decide)).refl X
theorem rel_trans {X Y Z:AI}{l m:List Event}(h:R X l Y)(k:R Y m Z):R X (l++m) Z:=(K.all 0 (Int.le_refl _) (by decide)).trans h k
theorem TB {w:AI}{b B4 n:Int}(b0:0≤b)(b6:b < 6)(h1:1≤n)(h3:n≤3):R w (CE w b B4 n).out (CE w b B4 n).w:=by
 have a:=(On.start (K.all b b0 b6) w).BP (K.all b b0 b6) (e:={ Fw 14 with other:=B4,n:=n }) (.CE h1 h3)
 have:=rel_trans K a.r (K.cC (k:=B4) (h:=max 0 ((w.AO.at B4).BM - n)))
 rw [List.append_nil] at this
 exact this
theorem ZF {w:AI}{b:Int}(b0:0≤b)(b6:b < 6):R w (H2 w b).out (H2 w b).w:=by
 have KB:=K.all b b0 b6
 have h0:On R w b (Fb w b):=⟨rfl,K.cC⟩
 have h1:=On.FJ KB (h0.kind KB (k:=15) (.inl rfl))
 have e1:((Fb w b).kind 15).FJ=GC w b:=rfl
 have hm:∃ e∈(GC w b).out,e.kind=15∧e.Dj=b:=by
  rw [(Jt w b).2]
  exact⟨ev (Fb w b).w b (Fw 15),List.mem_append_right _ (List.mem_cons_self ..),(HL ..).1,(HL ..).2⟩
 rw [e1] at h1
 clear e1
 unfold H2
 split
 ·rename_i c
  have c2:=of_decide_eq_true c
  rw [(DB _ _ _).2.1,(DB _ _ _).2.2]
  obtain⟨e,he,hk,ha⟩:=hm
  exact KB.gone h1.r ⟨e,he, .inr ⟨hk,c2⟩,ha⟩
 ·rename_i c
  have h2:On R w b (Je w b):=by
   obtain⟨d1,d2,d3⟩:=Qg w b
   refine⟨d1,?_⟩
   rw [d3,d2,← (Jt w b).2]
   have hb2:2≤b:=Int.not_lt.1 fun e=>c (decide_eq_true e)
   exact K.dh (b:=b) hb2 h1.r hm
  exact((h2.kind KB (k:=17) (.inr rfl)).look KB).r
theorem Ts {X:AI}{s:AI × List Event}{draw b:Int}(b0:0≤b)(b6:b < 6)(hg:s.1.Bj=true)(h:R X s.2 s.1):R X (EP draw b s).2 (EP draw b s).1:=by
 have hh:=Le (draw:=draw) b0
 have kb:=(HJ hg b0 b6).B4
 unfold EP
 split
 ·exact h
 ·rename_i c0
  simp only [Bool.or_eq_true,Bool.not_eq_true',decide_eq_true_eq,not_or,Bool.not_eq_false] at c0
  split
  ·have:=rel_trans K h ((K.all b b0 b6).B4 (k:=b) (f:=0))
   rw [List.append_nil] at this
   exact this
  ·have hk:=TB K (w:=s.1) (b:=b) (B4:=(s.1.AO.at b).B4 - 1) b0 b6 hh.1 hh.2
   split
   ·exact rel_trans K (rel_trans K h hk) (ZF K (by omega) (by omega))
   ·exact rel_trans K h hk
theorem LK {X:AI}{draw:Int}(hg:X.Bj=true)(hw:X.DL):∀ k:Nat,k≤6→R X (Dh X draw k).2 (Dh X draw k).1∧(Dh X draw k).1.Bj=true∧(Dh X draw k).1.DL
 | 0,_=>⟨Uj K,hg,hw⟩
 | k+1,hk=>by
  obtain⟨a,b,c⟩:=LK hg hw k (by omega)
  have:=Fi (draw:=draw) (b:=k) b c (by omega) (by omega)
  exact⟨Ts K (by omega) (by omega) b a,this.1,this.2.1⟩
theorem P7 {X:AI}{draw:Int}(hw:X.DL):R X (CY X draw).2.1 (CY X draw).1:=by
 unfold CY
 split
 ·exact Uj K
 ·rename_i c
  have h:=(LK K (draw:=draw) (show X.Bj=true by simpa using c) hw 6 (Nat.le_refl 6)).1
  generalize Dh X draw 6=r at *
  exact h
omit K in
theorem SR (X:AI)(s:Au):((BW X s).2.2.2≠0∧(BW X s).1=X∧(BW X s).2.2.1 = [])∨(BW X s=((JI X s (CP X 6)).w,CP X 6,(JI X s (CP X 6)).out,0)∧2≤CP X 6∧CP X 6≤5∧FW s=true∧X.Bj=true∧∀ k,0≤k→k < 6→Ij X s k=false):=by
 have bad:∀ z:Int,z≠0→BW X s=(X,0,[],z)→(BW X s).2.2.2≠0∧(BW X s).1=X∧(BW X s).2.2.1 = []:=fun z hz e=>by rw [e];exact⟨hz,rfl,rfl⟩
 cases c1:X.Bj with
 | false=>exact .inl (bad 2 (by decide) (if_pos (by rw [c1];rfl)))
 | true=>
  have e1:BW X s=if (!FW s)=true then(X,0,[],1) else if (!B7 6 (fun k=>!Ij X s k) 6)=true then(X,0,[],1) else if decide (CP X 6 < 0)=true then(X,0,[],4) else((JI X s (CP X 6)).w,CP X 6,(JI X s (CP X 6)).out,0):=if_neg (by rw [c1];decide)
  cases c2:FW s with
  | false=>exact .inl (bad 1 (by decide) (e1.trans (if_pos (by rw [c2];rfl))))
  | true=>
   have e2:=e1.trans (if_neg (by rw [c2];decide))
   cases c3:B7 6 (fun k=>!Ij X s k) 6 with
   | false=>exact .inl (bad 1 (by decide) (e2.trans (if_pos (by rw [c3];rfl))))
   | true=>
    have e3:=e2.trans (if_neg (by rw [c3];decide))
    cases c4:decide (CP X 6 < 0) with
    | true=>exact .inl (bad 4 (by decide) (e3.trans (if_pos c4)))
    | false=>
     have e4:=e3.trans (if_neg (by rw [c4];decide))
     have hf:2≤CP X 6∧CP X 6≤5:=by
      rcases Mq X 6 (Nat.le_refl 6) with e | e
      ·exact absurd (show CP X 6 < 0 by omega) (of_decide_eq_false c4)
      ·exact e
     refine .inr ⟨e4,hf.1,hf.2,rfl,rfl,fun k k0 k6=>?_⟩
     have:=(Dp 6).1 c3 k (by omega) k6
     simpa using this
end
end AF
end Go.Ing
/- What happens within an act of a house, in small steps. -/
namespace Go.Ing
open Go
namespace Aw
def Cc (s:Aw)(e:Event):Aw:=if (AI.tell e s.A0).2=true then s.tell (AI.tell e s.A0).1 else s
def Fx (s:Aw)(es:List Event):Aw:=if s.state=2 then es.foldl Cc s else s
end Aw
theorem lt_next {j:Int}{k:Nat}(c:¬ j=(k:Int)):(j < ((k+1:Nat):Int))=(j < (k:Int)):=propext ⟨fun _=>by omega,fun _=>by omega⟩
namespace AH
theorem Kx (e:Event)(H:AH):∀ k:Nat,k≤4→∀ j:Int,0≤j→j < 4→(Cc e H k).at_ j=if j < k∧(H.at_ j).state=2 then(H.at_ j).Cc e else H.at_ j
 | 0,_,j,h0,_=>by rw [if_neg (by omega)];rfl
 | k+1,hk,j,h0,h1=>by
  have ih:=Kx e H k (by omega) j h0 h1
  have ihk:=LA e H k (by omega) k (Int.le_refl _) (by omega)
  by_cases c:j=(k:Int)
  ·subst c
   unfold Cc
   rw [ihk]
   split
   ·rename_i c1
    rw [if_neg (by simp at c1;exact fun h=>c1 h.2)];exact ihk
   ·rename_i c1
    have hr:(if (k:Int) < ((k+1:Nat):Int)∧(H.at_ k).state=2 then(H.at_ k).Cc e else H.at_ k)=if (AI.tell e (H.at_ k).A0).2=true then(H.at_ k).tell (AI.tell e (H.at_ k).A0).1 else H.at_ k:=if_pos ⟨by omega,by simpa using c1⟩
    rw [hr]
    by_cases c2:(AI.tell e (H.at_ k).A0).2=true
    ·rw [if_pos c2,if_pos c2]
     unfold AH.tell
     rw [AH.DA _ (by omega) (by omega) h0,if_pos rfl,ihk]
    ·rw [if_neg c2,if_neg c2];exact ihk
  ·have e2:(Cc e H (k+1)).at_ j=(Cc e H k).at_ j:=by
    rw [Cc.eq_2]
    split
    ·rfl
    ·split
     ·exact Ui (by omega) (by omega) h0 c _
     ·rfl
   rw [e2,ih];simp only [lt_next c]
theorem Ov (e:Event)(H:AH):∀ k:Nat,(Cc e H k).w=H.w∧(Cc e H k).last=H.last∧(Cc e H k).CH=H.CH
 | 0=>⟨rfl,rfl,rfl⟩
 | k+1=>by
  have ih:=Ov e H k
  rw [Cc.eq_2]
  split
  ·exact ih
  ·split
   ·exact ih
   ·exact ih
theorem Uh (s:Aw)(e:Event):(s.Cc e).state=s.state∧(s.Cc e).A0=s.A0:=by
 unfold Aw.Cc
 split
 ·exact⟨(GU _ _).1,(GU _ _).2.1⟩
 ·exact⟨rfl,rfl⟩
theorem Rg {j:Int}(j0:0≤j)(j1:j < 4):∀(es:List Event) (H:AH),(H.HV es).at_ j=(H.at_ j).Fx es
 | [],H=>by show H.at_ j=_;unfold Aw.Fx;split<;>rfl
 | e :: r,H=>by
  have ih:=Rg j0 j1 r (Cc e H 4)
  show((Cc e H 4).HV r).at_ j=_
  have h1:=Kx e H 4 (Nat.le_refl 4) j j0 j1
  rw [ih,h1]
  by_cases c:(H.at_ j).state=2
  ·rw [if_pos ⟨by omega,c⟩]
   unfold Aw.Fx
   rw [if_pos c,if_pos (by rw [(Uh _ e).1];exact c)]
   rfl
  ·rw [if_neg (fun h=>c h.2)]
   unfold Aw.Fx
   rw [if_neg c,if_neg c]
theorem ON:∀(es:List Event) (H:AH),(H.HV es).w=H.w∧(H.HV es).last=H.last∧(H.HV es).CH=H.CH
 | [],H=>⟨rfl,rfl,rfl⟩
 | e :: r,H=>by
  have ih:=ON r (Cc e H 4)
  have h1:=Ov e H 4
  exact⟨ih.1.trans h1.1,ih.2.1.trans h1.2.1,ih.2.2.trans h1.2.2⟩
theorem Uo (H:AH)(es:List Event){j:Int}(j0:0≤j)(j1:j < 4):(H.HE es).at_ j=(H.at_ j).Fx es:=Rg j0 j1 es _
theorem WI (H:AH)(es:List Event):(H.HE es).w=H.w∧(H.HE es).last=H.last++es∧(H.HE es).CH=H.CH:=ON es _
def Xc:List Au:= [Hx,OG,Zt,Q2,noRoom]
inductive DJ (U:Au→Prop)(H:AH):Int→AI→Aw→List Event→Prop
 | left {k:Int}:(H.at_ k).state=2→(H.w.AO.at (H.at_ k).A0).here=true→DJ U H k (AF.EH H.w (H.at_ k).A0 EI).1 default (AF.EH H.w (H.at_ k).A0 EI).2.1
 | Ql {k:Int} {u:Au}:(H.at_ k).state=1→(AF.BW H.w u).2.2.2=0→DJ U H k (AF.BW H.w u).1 { H.at_ k with state:=2,A0:=(AF.BW H.w u).2.1 } (AF.BW H.w u).2.2.1
 | dB {k:Int} {q:Au}:U q→(H.at_ k).state≠0→(H.at_ k).state≠1→(Words.parse q).1.verb≠20→DJ U H k (AF.EH H.w (H.at_ k).A0 (Words.parse q).1).1 (H.at_ k) (AF.EH H.w (H.at_ k).A0 (Words.parse q).1).2.1
 | round {d:Int}:DJ U H 0 (AF.CY H.w d).1 (H.at_ 0) (AF.CY H.w d).2.1
def He (H:AH)(k:Int)(w:AI)(s:Aw)(es:List Event):AH:=({ H with w:=w }.set k s).HE es
inductive Step (U:Au→Prop)(H:AH):AH→Prop
 | told {k:Int} {u:Au}:0≤k→k < 4→(H.at_ k).state≠0→u∈Xc→Step U H (H.tell k u)
 | BZ {k:Int}:0≤k→k < 4→(H.at_ k).state≠0→Step U H (H.set k (H.at_ k).BZ)
 | goes {k:Int} {w:AI} {s:Aw} {es:List Event}:0≤k→k < 4→DJ U H k w s es→Step U H (H.He k w s es)
 | free {k:Int}:0≤k→k < 4→¬ ((H.at_ k).state=2∧(H.w.AO.at (H.at_ k).A0).here=true)→Step U H (H.set k default)
inductive Steps (U:Au→Prop)(H:AH):AH→Prop
 | refl:Steps U H H
 | tail {X Y:AH}:Steps U H X→Step U X Y→Steps U H Y
section
variable {U:Au→Prop} {H X Y:AH}
theorem Step.one (h:Step U H X):Steps U H X:= .tail .refl h
theorem Steps.trans (h:Steps U H X)(k:Steps U X Y):Steps U H Y:=by
 induction k with
 | refl=>exact h
 | tail _ s ih=>exact ih.tail s
theorem Steps.Kq {P:AH→Prop}(hs:∀ {H X:AH},P H→Step U H X→P X)(h:P H)(k:Steps U H X):P X:=by
 induction k with
 | refl=>exact h
 | tail _ s ih=>exact hs ih s
theorem IB (H:AH){k:Int}(h0:0≤k)(h1:k < 4)(w:AI)(s:Aw)(es:List Event){j:Int}(j0:0≤j)(j1:j < 4):(H.He k w s es).at_ j=(if j=k then s else H.at_ j).Fx es:=by
 unfold He
 rw [Uo _ _ j0 j1,DA _ h0 h1 j0]
 rfl
theorem MQ (H:AH)(k:Int)(w:AI)(s:Aw)(es:List Event):(H.He k w s es).w=w∧(H.He k w s es).last=H.last++es∧(H.He k w s es).CH=H.CH:=WI _ es
theorem N3 (es:List Event):(default:Aw).Fx es=default:=if_neg (show ¬ (0:Int)=2 by decide)
theorem Gy (H:AH){k:Int}(h0:0≤k)(h1:k < 4):Steps U H (H.leave k):=by
 unfold AH.leave
 split
 ·rename_i c
  rw [Bool.and_eq_true,decide_eq_true_eq] at c
  have s:Step U H (H.He k (AF.EH H.w (H.at_ k).A0 EI).1 default (AF.EH H.w (H.at_ k).A0 EI).2.1):= .goes h0 h1 (.left c.1 c.2)
  have e:(((H.TW k).set k default).HE (AF.EH H.w (H.at_ k).A0 EI).2.1).set k default=H.He k (AF.EH H.w (H.at_ k).A0 EI).1 default (AF.EH H.w (H.at_ k).A0 EI).2.1:=by
   show(H.He k _ default _).set k default=_
   have:=IB H h0 h1 (AF.EH H.w (H.at_ k).A0 EI).1 default (AF.EH H.w (H.at_ k).A0 EI).2.1 h0 h1
   rw [if_pos rfl,N3] at this
   have h2:=L3 (H.He k (AF.EH H.w (H.at_ k).A0 EI).1 default (AF.EH H.w (H.at_ k).A0 EI).2.1) h0 h1
   rw [this] at h2
   exact h2
  rw [e]
  exact s.one
 ·rename_i c
  exact(Step.free h0 h1 (fun h=>c (by rw [Bool.and_eq_true,decide_eq_true_eq];exact h))).one
theorem H9 (H:AH):∀ k:Nat,k≤4→Steps U H (H.B8 k).1
 | 0,_=> .refl
 | k+1,hk=>by
  have ih:=H9 H k (by omega)
  unfold B8
  split
  ·exact ih
  ·rename_i c
   have s:Step U (H.B8 k).1 ((H.B8 k).1.set k (((H.B8 k).1.at_ k).BZ)):= .BZ (by omega) (by omega) (by simpa using c)
   split
   ·exact(ih.tail s).trans (Gy _ (by omega) (by omega))
   ·exact ih.tail s
theorem M0:∀(n:Nat) (H:AH),Steps U H (H.Fu n)
 | 0,_=> .refl
 | n+1,H=>by
  unfold Fu
  split
  ·exact H9 H 4 (Nat.le_refl 4)
  ·exact(H9 H 4 (Nat.le_refl 4)).trans (M0 n _)
theorem Oa (H:AH):Steps U H H.BZ:=M0 5 H
theorem So (H:AH){k:Int}(h0:0≤k)(h1:k < 4)(hs:(H.at_ k).state=1)(u:Au):Steps U H (H.named k u):=by
 unfold AH.named
 split
 ·rename_i c
  exact(Step.goes h0 h1 (.Ql hs (of_decide_eq_true c))).one
 ·have hn:(H.at_ k).state≠0:=by omega
  split
  ·exact(Step.told h0 h1 hn (by simp [Xc])).one
  ·exact(Step.told h0 h1 hn (by simp [Xc])).one
theorem Sj (H:AH){k:Int}(h0:0≤k)(h1:k < 4)(hs:(H.at_ k).state≠0)(h2:(H.at_ k).state≠1){u:Au}(hu:U u):Steps U H (H.order k u):=by
 unfold AH.order
 split
 ·exact(Step.told h0 h1 hs (by simp [Xc])).one
 ·split
  ·exact Gy H h0 h1
  ·rename_i c
   have:=(Step.goes (H:=H) h0 h1 (.dB hu hs h2 (fun e=>c (decide_eq_true e)))).one
   unfold He at this
   rw [show({ H with w:=(AF.EH H.w (H.at_ k).A0 (Words.parse u).1).1 }:AH).set k (H.at_ k)={ H with w:=(AF.EH H.w (H.at_ k).A0 (Words.parse u).1).1 } from L3 { H with w:=(AF.EH H.w (H.at_ k).A0 (Words.parse u).1).1 } h0 h1] at this
   exact this
theorem KM (H:AH)(d:Int):Steps U H ({ H with w:=(AF.CY H.w d).1 }.HE (AF.CY H.w d).2.1):=by
 have:=(Step.goes (U:=U) (H:=H) (Int.le_refl 0) (by decide) (.round (d:=d))).one
 unfold He at this
 rw [show({ H with w:=(AF.CY H.w d).1 }:AH).set 0 (H.at_ 0)={ H with w:=(AF.CY H.w d).1 } from L3 { H with w:=(AF.CY H.w d).1 } (Int.le_refl 0) (by decide)] at this
 exact this
def next (H:AH)(k:Int)(r:List Au):AH:=H.set k { H.at_ k with queue:=r }.F7
theorem N5 (H:AH){k:Int}(h0:0≤k)(h1:k < 4)(hU:∀ q∈(H.at_ k).queue,U q):(((H.at_ k).state=0∨(H.at_ k).queue = [])∧H.Ea k=H)∨∃ q r,(H.at_ k).state≠0∧(H.at_ k).queue=q :: r∧Steps U (H.next k r) (H.Ea k):=by
 unfold AH.Ea
 split
 ·rename_i c;exact .inl ⟨.inl (of_decide_eq_true c),rfl⟩
 ·rename_i c
  have c':(H.at_ k).state≠0:=fun e=>c (decide_eq_true e)
  split
  ·rename_i e;exact .inl ⟨.inr e,rfl⟩
  ·rename_i q r e
   refine .inr ⟨q,r,c',e,?_⟩
   have ha:(H.next k r).at_ k={ H.at_ k with queue:=r }.F7:=by unfold next;rw [DA _ h0 h1 h0,if_pos rfl]
   have hst:((H.next k r).at_ k).state=(H.at_ k).state:=by rw [ha];rfl
   show Steps U (H.next k r) (if (H.at_ k).pg.Bv=true then H.next k r else if decide ((H.at_ k).state=1)=true then(H.next k r).named k (Words.QU 32 (Words.Sb 32 q)) else(H.next k r).order k q)
   split
   ·exact .refl
   ·split
    ·rename_i c2
     exact So _ h0 h1 (by rw [hst];exact of_decide_eq_true c2) _
    ·rename_i c2
     exact Sj _ h0 h1 (by rw [hst];exact c') (by rw [hst];exact fun e=>c2 (decide_eq_true e)) (hU q (by rw [e];exact List.mem_cons_self ..))
end
end AH
end Go.Ing
/- What a seat is behind every act: plain laws. -/
namespace Go.Ing
open Go
namespace Page
theorem QJ (ht:Int):∀(l:List Au) (x:Pg),BZ ht (BZ ht l x).2 (BZ ht l x).1=BZ ht l x
 | [],x=>rfl
 | s :: r,x=>by
  by_cases c1:(x.Bv || x.cut)=true
  ·have e:BZ ht (s :: r) x=(x,s :: r):=by rw [BZ,if_pos c1]
   rw [e];exact e
  ·by_cases c2:(decide (0 < ht) && decide (ht≤x.shown))=true
   ·have e:BZ ht (s :: r) x=(put { x with Bv:=true } Ua,s :: r):=by rw [BZ,if_neg c1,if_pos c2]
    rw [e]
    have ha:(put { x with Bv:=true } Ua).Bv=true:=by
     unfold put;split
     ·rfl
     ·split<;>rfl
    rw [BZ,if_pos (by rw [ha];rfl)]
   ·have e:BZ ht (s :: r) x=BZ ht r (put { x with shown:=min (x.shown+1) 200 } (escape s ++ [13,10])):=by rw [BZ,if_neg c1,if_neg c2]
    rw [e]
    exact QJ ht r _
theorem OH (ht:Int):∀(l:List Au) (x:Pg),x.ring.length≤700→0≤x.shown→x.shown≤200→(BZ ht l x).1.ring.length≤700∧0≤(BZ ht l x).1.shown∧(BZ ht l x).1.shown≤200
 | [],x,h1,h2,h3=>⟨h1,h2,h3⟩
 | s :: r,x,h1,h2,h3=>by
  unfold BZ
  split
  ·exact⟨h1,h2,h3⟩
  ·split
   ·refine⟨L0 h1,?_,?_⟩<;>rw [HS]
    ·exact h2
    ·exact h3
   ·refine OH ht r _ (L0 h1) ?_ ?_<;>rw [HS]
    ·show 0≤min (x.shown+1) 200;omega
    ·show min (x.shown+1) 200≤200;omega
end Page
namespace Aw
structure Ok (s:Aw):Prop where
 st:0≤s.state∧s.state≤2
 n:s.wait.length≤60
 ring:s.pg.ring.length≤700
 s0:0≤s.pg.shown
 s1:s.pg.shown≤200
 ln:Bi.Ok ⟨s.now,s.Ci,s.ret,s.queue,0⟩
theorem X8 (s:Aw):s.Ll=true↔s.wait.length≤60∧s.pg.ring.length≤700∧0≤s.pg.shown∧s.pg.shown≤200:=by
 simp only [Ll,Bool.and_eq_true,decide_eq_true_eq];omega
theorem aK (s:Aw):s.LN=true↔Bi.Ok ⟨s.now,s.Ci,s.ret,s.queue,0⟩:=
 Bi.Hl (l:=⟨s.now,s.Ci,s.ret,⟨none,s.queue.length,0⟩⟩) (qs:=s.queue) rfl
variable {s:Aw}
theorem Ok.Ll (h:s.Ok):s.Ll=true:=(X8 s).2 ⟨h.n,h.ring,h.s0,h.s1⟩
theorem Ok.LN (h:s.Ok):s.LN=true:=(aK s).2 h.ln
theorem DQ:(default:Aw).Ok:=⟨⟨Int.le_refl 0,by decide⟩,Nat.zero_le _,Nat.zero_le _,Int.le_refl 0,by decide,(⟨Bi.Mg,(fun s hs=>by cases hs),Nat.zero_le _,(fun h=>by cases h)⟩:Bi.Ok ⟨[],false,false,[],0⟩)⟩
theorem Ok.line (h:s.Ok)(u:Au):(s.line u).Ok:=by
 unfold Aw.line
 split
 ·exact h
 ·split
  ·exact h
  ·split
   ·exact⟨h.st,h.n,h.ring,h.s0,h.s1,h.ln⟩
   ·rename_i c
    refine⟨h.st,?_,h.ring,h.s0,h.s1,h.ln⟩
    have hn:=h.n
    have c':¬ (60:Int)≤s.wait.length:=fun e=>c (decide_eq_true e)
    show(s.wait ++ [u]).length≤60
    rw [List.length_append,List.length_singleton];omega
theorem Ok.tell (h:s.Ok)(u:Au):(s.tell u).Ok:=by
 have:=h.line u
 unfold Aw.tell Aw.note
 split
 ·exact⟨this.st,this.n,this.ring,this.s0,this.s1,this.ln⟩
 ·exact this
theorem Ok.BZ (h:s.Ok):s.BZ.Ok:=by
 unfold Aw.BZ
 split
 ·exact h
 ·have hk:=Page.OH s.D6.B5 s.wait s.pg h.ring h.s0 h.s1
  exact⟨h.st,Nat.le_trans (Page.ZC _ _ _) h.n,hk.1,hk.2.1,hk.2.2,h.ln⟩
theorem Ok.send (h:s.Ok)(u:Au):(s.send u).Ok:=by
 unfold Aw.send
 split
 ·exact h
 ·split
  ·exact h
  ·exact⟨h.st,h.n,Page.L0 h.ring,by show 0≤(Page.put s.pg u).shown;rw [Page.HS];exact h.s0,by show(Page.put s.pg u).shown≤200;rw [Page.HS];exact h.s1,h.ln⟩
theorem Ok.D6 (h:s.Ok)(t:AR):({ s with D6:=t }:Aw).Ok:=⟨h.st,h.n,h.ring,h.s0,h.s1,h.ln⟩
theorem Ok.offer (h:s.Ok)(opt:Int):(s.offer opt).Ok:=by
 unfold Aw.offer
 split
 ·exact(h.D6 _).send _
 ·exact(h.D6 _).send _
theorem Ok.HZ (h:s.Ok)(n:Int):(s.HZ n).Ok:=⟨h.st,h.n,by show(s.pg.ring.drop _).length≤700;rw [List.length_drop];have:=h.ring;omega,h.s0,h.s1,h.ln⟩
theorem Ok.next (h:s.Ok){q:Au}{r:List Au}(e:s.queue=q :: r):({ s with queue:=r }:Aw).F7.Ok:=
 ⟨h.st,h.n,h.ring,Int.le_refl 0,show(0:Int)≤200 by decide,⟨h.ln.now,fun x hx=>h.ln.queue x (by show x∈s.queue;rw [e];exact List.mem_cons_of_mem _ hx),by
  have:=h.ln.len
  have h2:s.queue.length≤6:=this
  rw [e,List.length_cons] at h2
  show r.length≤6;omega,h.ln.ret⟩⟩
theorem Ok.typed (h:s.Ok)(u:Au):(C5 s u).1.Ok:=by
 have h1:(s.bytes u).1.Ok:=(h.D6 _).send _
 unfold C5 Aw.typed
 split
 ·exact h1
 ·have ho:=Bi.Uu (s.bytes u).2 h1.ln
  exact⟨h1.st,h1.n,h1.ring,h1.s0,h1.s1,⟨ho.now,ho.queue,ho.len,ho.ret⟩⟩
theorem Ok.Ql (h:s.Ok)(b:Int):({ s with state:=2,A0:=b }:Aw).Ok:=⟨⟨show(0:Int)≤2 by decide,show(2:Int)≤2 by decide⟩,h.n,h.ring,h.s0,h.s1,h.ln⟩
theorem Ok.Cc (h:s.Ok)(e:Event):(s.Cc e).Ok:=by
 unfold Aw.Cc;split
 ·exact h.tell _
 ·exact h
theorem UJ:∀(es:List Event) {s:Aw},s.Ok→(es.foldl Aw.Cc s).Ok
 | [],_,h=>h
 | e :: r,_,h=>UJ r (h.Cc e)
theorem Ok.Fx (h:s.Ok)(es:List Event):(s.Fx es).Ok:=by
 unfold Aw.Fx
 split
 ·exact UJ es h
 ·exact h
theorem Ok.heard (h:s.Ok):({ s with told:= [] }:Aw).Ok:=⟨h.st,h.n,h.ring,h.s0,h.s1,h.ln⟩
theorem FL (s:Aw)(es:List Event):(s.Fx es).state=s.state∧(s.Fx es).A0=s.A0:=by
 unfold Aw.Fx
 split
 ·induction es generalizing s with
  | nil=>exact⟨rfl,rfl⟩
  | cons e r ih=>
   rename_i c
   have h1:=AH.Uh s e
   have:=ih (s.Cc e) (by rw [h1.1];exact c)
   exact⟨this.1.trans h1.1,this.2.trans h1.2⟩
 ·exact⟨rfl,rfl⟩
structure Still (s:Aw):Prop where
 fl:s.BZ=s
 cut:s.pg.cut=false
theorem Py (s:Aw)(h:s.wait.length≤60∧s.pg.ring.length≤700∧0≤s.pg.shown∧s.pg.shown≤200)(c:(decide (s.D6.B5 < 0) || decide (200 < s.D6.B5))=false):s.BZ={ s with pg:=(Page.BZ s.D6.B5 s.wait s.pg).1,wait:=(Page.BZ s.D6.B5 s.wait s.pg).2 }:=by
 unfold Aw.BZ
 rw [if_neg]
 rw [(X8 s).2 h]
 simpa using c
theorem L1 (s:Aw)(c:(decide (s.D6.B5 < 0) || decide (200 < s.D6.B5))=true):s.BZ=s:=by
 unfold Aw.BZ
 rw [if_pos]
 rw [Bool.or_assoc,c,Bool.or_true]
theorem Ok.idem (h:s.Ok):s.BZ.BZ=s.BZ:=by
 cases c:(decide (s.D6.B5 < 0) || decide (200 < s.D6.B5)) with
 | true=>rw [L1 s c,L1 s c]
 | false=>
  have e:=Py s ⟨h.n,h.ring,h.s0,h.s1⟩ c
  have hk:=h.BZ
  rw [e] at hk ⊢
  rw [Py _ ⟨hk.n,hk.ring,hk.s0,hk.s1⟩ c]
  have:=Page.QJ s.D6.B5 s.wait s.pg
  dsimp only
  rw [this]
end Aw
namespace AH
def Hq (H:AH):Prop:=∀ k,0≤k→k < 4→(H.at_ k).Ok
section
variable {U:Au→Prop} {H X:AH}
theorem Hq.set (h:H.Hq){k:Int}(h0:0≤k)(h1:k < 4){s:Aw}(hs:s.Ok):(H.set k s).Hq:=fun j j0 j1=>by
 rw [DA _ h0 h1 j0];split
 ·exact hs
 ·exact h j j0 j1
theorem Hq.step (h:H.Hq)(s:Step U H X):X.Hq:=by
 cases s with
 | told h0 h1 _ _=>exact h.set h0 h1 ((h _ h0 h1).tell _)
 | BZ h0 h1 _=>exact h.set h0 h1 (h _ h0 h1).BZ
 | free h0 h1 _=>exact h.set h0 h1 Aw.DQ
 | goes h0 h1 g=>
  intro j j0 j1
  rw [IB H h0 h1 _ _ _ j0 j1]
  refine Aw.Ok.Fx ?_ _
  split
  ·cases g with
   | left _ _=>exact Aw.DQ
   | Ql _ _=>exact(h _ h0 h1).Ql _
   | dB _ _ _ _=>exact h _ h0 h1
   | round=>exact h _ (Int.le_refl 0) (by decide)
  ·exact h j j0 j1
theorem Hq.steps (h:H.Hq)(s:Steps U H X):X.Hq:=Steps.Kq (P:=Hq) (fun h s=>h.step s) h s
/-! #### nobody is cut off behind all that flows -/
def busy (H:AH)(k:Int):Nat:=if (H.at_ k).state=0 then 0 else 1
def Oo (H:AH):Nat:=H.busy 0+H.busy 1+H.busy 2+H.busy 3
theorem ZJ {H X:AH}(h:∀ j,0≤j→j < 4→(H.at_ j).state=0→(X.at_ j).state=0):X.Oo≤H.Oo∧∀ k,0≤k→k < 4→(H.at_ k).state≠0→(X.at_ k).state=0→X.Oo < H.Oo:=by
 have hb:∀ j,0≤j→j < 4→X.busy j≤H.busy j∧H.busy j≤1∧((H.at_ j).state≠0→(X.at_ j).state=0→X.busy j < H.busy j):=fun j j0 j1=>by
  have:=h j j0 j1
  unfold busy
  refine⟨?_,?_,?_⟩
  ·split
   ·exact Nat.zero_le _
   ·rename_i c
    rw [if_neg (fun e=>c (this e))];exact Nat.le_refl _
  ·split<;>omega
  ·intro a b
   rw [if_pos b,if_neg a];decide
 have b0:=hb 0 (by decide) (by decide);have b1:=hb 1 (by decide) (by decide);have b2:=hb 2 (by decide) (by decide);have b3:=hb 3 (by decide) (by decide)
 unfold Oo
 refine⟨by omega,fun k k0 k1 a b=>?_⟩
 rcases four k0 k1 with e | e | e | e<;>subst e
 ·have:=b0.2.2 a b;omega
 ·have:=b1.2.2 a b;omega
 ·have:=b2.2.2 a b;omega
 ·have:=b3.2.2 a b;omega
theorem Jr (H:AH){k:Int}(h0:0≤k)(h1:k < 4){j:Int}(j0:0≤j)(j1:j < 4):(H.leave k).at_ j=if j=k then default else(H.at_ j).Fx (if decide ((H.at_ k).state=2) && (H.w.AO.at (H.at_ k).A0).here then(AF.EH H.w (H.at_ k).A0 EI).2.1 else []):=by
 unfold AH.leave
 rw [DA _ h0 h1 j0]
 split
 ·rfl
 ·rename_i c
  split
  ·rw [Uo _ _ j0 j1,DA _ h0 h1 j0,if_neg c]
   rfl
  ·unfold Aw.Fx;split<;>rfl
theorem JV (H:AH):∀ k:Nat,k≤4→∀ j,0≤j→j < 4→(H.at_ j).state=0→((H.B8 k).1.at_ j).state=0
 | 0,_,_,_,_,h=>h
 | k+1,hk,j,j0,j1,h=>by
  have ih:=JV H k (by omega) j j0 j1 h
  have hf:(((H.B8 k).1.set k (((H.B8 k).1.at_ k).BZ)).at_ j).state=0:=by
   rw [DA _ (by omega) (by omega) j0]
   split
   ·rename_i e;subst e;rw [(I3 _).2.1];exact ih
   ·exact ih
  unfold B8
  split
  ·exact ih
  ·split
   ·show(AH.at_ (AH.leave _ _) j).state=0
    rw [Jr _ (by omega) (by omega) j0 j1]
    split
    ·rfl
    ·rw [(Aw.FL _ _).1];exact hf
   ·exact hf
theorem QO (H:AH):∀ k:Nat,k≤4→(H.B8 k).2=true→∃ j,0≤j∧j < 4∧(H.at_ j).state≠0∧((H.B8 k).1.at_ j).state=0
 | 0,_,h=>by cases h
 | k+1,hk,h=>by
  have ih:=QO H k (by omega)
  have hn:(((H.B8 k).1.at_ k).state≠0)→(H.at_ k).state≠0:=fun c e=>c (JV H k (by omega) k (by omega) (by omega) e)
  unfold B8 at h ⊢
  split at h
  ·rename_i c
   rw [if_pos c];exact ih h
  ·rename_i c
   have c':((H.B8 k).1.at_ k).state≠0:=by simpa using c
   rw [if_neg c]
   split at h
   ·rename_i c2
    rw [if_pos c2]
    refine⟨k,by omega,by omega,hn c',?_⟩
    show(AH.at_ (AH.leave _ _) k).state=0
    rw [Jr _ (by omega) (by omega) (by omega) (by omega),if_pos rfl];rfl
   ·rename_i c2
    rw [if_neg c2]
    obtain⟨j,j0,j1,a,b⟩:=ih h
    refine⟨j,j0,j1,a,?_⟩
    show(AH.at_ (AH.set _ _ _) j).state=0
    rw [DA _ (by omega) (by omega) j0]
    split
    ·rename_i e;subst e;exact absurd b c'
    ·exact b
theorem Hp (H:AH):∀ k:Nat,k≤4→(H.B8 k).2=false→(H.B8 k).1.w=H.w∧(H.B8 k).1.last=H.last∧(H.B8 k).1.CH=H.CH∧∀ j,0≤j→j < 4→(H.B8 k).1.at_ j=(if j < k∧(H.at_ j).state≠0 then(H.at_ j).BZ else H.at_ j)∧(j < k→(H.at_ j).state≠0→(H.at_ j).BZ.pg.cut=false)
 | 0,_,_=>⟨rfl,rfl,rfl,fun j j0 _=>⟨by rw [if_neg (by omega)];rfl,fun h=>by omega⟩⟩
 | k+1,hk,h=>by
  have ih:=Hp H k (by omega)
  unfold B8 at h ⊢
  split at h
  ·rename_i c
   rw [if_pos c]
   obtain⟨a1,a2,a3,a4⟩:=ih h
   have hk0:=(a4 k (by omega) (by omega)).1
   rw [if_neg (by omega)] at hk0
   rw [hk0] at c
   have c':(H.at_ k).state=0:=of_decide_eq_true c
   refine⟨a1,a2,a3,fun j j0 j1=>⟨?_,fun hj hs=>?_⟩⟩
   ·rw [(a4 j j0 j1).1]
    by_cases e:j=(k:Int)
    ·subst e;rw [if_neg (fun h=>h.2 c'),if_neg (fun h=>h.2 c')]
    ·simp only [lt_next e]
   ·by_cases e:j=(k:Int)
    ·subst e;exact absurd c' hs
    ·exact(a4 j j0 j1).2 (by omega) hs
  ·rename_i c
   split at h
   ·cases h
   ·rename_i c2
    rw [if_neg c,if_neg c2]
    obtain⟨a1,a2,a3,a4⟩:=ih h
    have hk0:=(a4 k (by omega) (by omega)).1
    rw [if_neg (by omega)] at hk0
    rw [hk0] at c c2
    have c':(H.at_ k).state≠0:=by simpa using c
    refine⟨a1,a2,a3,fun j j0 j1=>⟨?_,fun hj hs=>?_⟩⟩
    ·show(AH.at_ (AH.set _ _ _) j)=_
     rw [DA _ (by omega) (by omega) j0]
     by_cases e:j=(k:Int)
     ·subst e;rw [if_pos rfl,if_pos ⟨by omega,c'⟩,hk0]
     ·rw [if_neg e,(a4 j j0 j1).1];simp only [lt_next e]
    ·by_cases e:j=(k:Int)
     ·subst e;simpa using c2
     ·exact(a4 j j0 j1).2 (by omega) hs
theorem M7:∀(n:Nat) (H:AH),H.Hq→H.Oo < n→∀ j,0≤j→j < 4→((H.Fu n).at_ j).state≠0→((H.Fu n).at_ j).Still
 | 0,_,_,h,_,_,_,_=>absurd h (Nat.not_lt_zero _)
 | n+1,H,hk,hb,j,j0,j1,hs=>by
  unfold Fu at hs ⊢
  split at hs
  ·rename_i c
   rw [if_pos c]
   obtain⟨_,_,_,a⟩:=Hp H 4 (Nat.le_refl 4) (by simpa using c)
   have a:=a j j0 j1
   by_cases e:(H.at_ j).state=0
   ·rw [a.1,if_neg (fun h=>h.2 e)] at hs;exact absurd e hs
   ·rw [a.1,if_pos ⟨by omega,e⟩]
    exact⟨(hk j j0 j1).idem,a.2 (by omega) e⟩
  ·rename_i c
   rw [if_neg c]
   obtain⟨i,i0,i1,a,b⟩:=QO H 4 (Nat.le_refl 4) (by simpa using c)
   have hl:=(ZJ (JV H 4 (Nat.le_refl 4))).2 i i0 i1 a b
   exact M7 n _ (hk.steps (U:=fun _=>True) (H9 H 4 (Nat.le_refl 4))) (by omega) j j0 j1 hs
theorem Te (h:H.Hq){j:Int}(j0:0≤j)(j1:j < 4)(hs:(H.BZ.at_ j).state≠0):(H.BZ.at_ j).Still:=
 M7 5 H h (by
  have hb:∀ j,H.busy j≤1:=fun j=>by unfold busy;split<;>omega
  have:=hb 0;have:=hb 1;have:=hb 2;have:=hb 3
  unfold Oo;omega) j j0 j1 hs
end
end AH
end Go.Ing
/- Acts that are played: plain laws. -/
namespace Go.Ing
open Go
namespace AR
def HA (t:AR):Nat:=if t.at_=2 then 2 else if t.at_=1 then 1 else 0
theorem WD (t:AR)(b:UInt8):(t.step b).2.2.length+(t.step b).1.HA≤1+t.HA:=by
 unfold step;dsimp only
 split
 ·rename_i c;have c':=of_decide_eq_true c
  have hp:t.HA=0:=by unfold HA;rw [if_neg (by omega),if_neg (by omega)]
  split
  ·exact Nat.le_add_right 1 _
  ·show 0+t.HA≤1+t.HA;omega
 ·split
  ·rename_i c;have c':=of_decide_eq_true c
   have hp:t.HA=1:=by unfold HA;rw [if_neg (by omega),if_pos c']
   rw [hp]
   split
   ·exact Nat.zero_le _
   ·split
    ·exact Nat.zero_le _
    ·split
     ·exact Nat.le_refl 2
     ·exact Nat.zero_le _
  ·split
   ·rename_i c;have c':=of_decide_eq_true c
    have hp:t.HA=2:=by unfold HA;rw [if_pos c']
    rw [hp]
    exact IY _ _ _
   ·split
    ·rename_i c;have c':=of_decide_eq_true c
     split
     ·exact Nat.zero_le _
     ·show 0+(t.collect b).HA≤_
      have:(t.collect b).at_=t.at_:=by unfold collect;split<;>rfl
      unfold HA;rw [this];rw [if_neg (by omega),if_neg (by omega)];omega
    ·split
     ·rename_i c;have c':=of_decide_eq_true c
      split
      ·show 0+(collect { t with at_:=3 } b).HA≤_
       have:(collect { t with at_:=3 } b).at_=3:=by unfold collect;split<;>rfl
       unfold HA;rw [this];rw [if_neg (by decide),if_neg (by decide)];omega
      ·split
       ·show 0+HA { t.measure with at_:=0,sub:= [] }≤_;exact Nat.zero_le _
       ·exact Nat.zero_le _
     ·show 0+t.HA≤_;omega
theorem MP:∀(s:Au) (t:AR),(t.feed s).2.2.length≤s.length+t.HA
 | [],t=>Nat.zero_le _
 | b :: s,t=>by
  have h1:=WD t b
  have h2:=MP s (t.step b).1
  show((t.step b).2.2++((t.step b).1.feed s).2.2).length≤s.length+1+t.HA
  rw [List.length_append];omega
theorem Uq (t:AR):t.HA≤2:=by unfold HA;split;exact Nat.le_refl 2;split<;>decide
theorem KJ.yb {X t:AR}{u x y:Au}{k:Int}(h:KJ X u k t x y):y.length≤u.length+2:=by
 have h1:=MP u X
 have h2:=Uq X
 rw [h.e3,List.length_append] at h1
 omega
theorem Vk (t:AR)(u:Au):(t.Dr u).2.2.1.length≤u.length+2:=by
 unfold Dr
 split
 ·exact Nat.zero_le _
 ·have h1:=MP u t
  have h2:=Uq t
  show(t.feed u).2.2.length≤_
  omega
end AR
namespace AH
section
variable {H:AH}
theorem Hq.tell (h:H.Hq){k:Int}(h0:0≤k)(h1:k < 4)(u:Au):(H.tell k u).Hq:=h.set h0 h1 ((h k h0 h1).tell u)
theorem Hq.BZ (h:H.Hq):H.BZ.Hq:=h.steps (U:=fun _=>True) (Oa H)
theorem Hq.Ea (h:H.Hq){k:Int}(h0:0≤k)(h1:k < 4):(H.Ea k).Hq:=by
 rcases N5 (U:=fun _=>True) H h0 h1 (fun _ _=>trivial) with ⟨_,e⟩ | ⟨q,r,_,e,s⟩
 ·rw [e];exact h
 ·exact Hq.steps (h.set h0 h1 ((h k h0 h1).next e)) s
theorem Hq.turns (h:H.Hq):∀ k:Nat,k≤4→(H.turns k).Hq
 | 0,_=>h
 | k+1,hk=>(Hq.turns h k (by omega)).Ea (by omega) (by omega)
theorem Hq.begun (h:H.Hq):H.begun.Hq:=fun k h0 h1=>by rw [Gj h0 h1];exact(h k h0 h1).heard
theorem Hq.Dv (h:H.Hq)(a:Bk):(H.Dv a).1.Hq:=
 JY (fun X=>X.Hq) h (fun d=>((h.turns 4 (Nat.le_refl 4)).steps (U:=fun _=>True) (KM _ d)).BZ)
  (fun k h0 h1=>((h.set h0 h1 (((show({ (default:Aw) with state:=1,A0:=-1 }:Aw).Ok from⟨⟨show(0:Int)≤1 by decide,show(1:Int)≤2 by decide⟩,Aw.DQ.n,Aw.DQ.ring,Aw.DQ.s0,Aw.DQ.s1,Aw.DQ.ln⟩).offer 3).offer 31)).tell h0 h1 Hx).BZ)
  (fun k u h0 h1=>by
   rw [Hi]
   refine Hq.BZ ?_
   have hs:=h.set h0 h1 ((h k h0 h1).typed u)
   split
   ·exact hs.tell h0 h1 OG
   ·exact hs)
  (fun k z h0 h1=>(h.set h0 h1 ((h k h0 h1).HZ z)).BZ) (fun k h0 h1=>(h.steps (U:=fun _=>True) (Gy H h0 h1)).BZ) a
theorem Hq.act (h:H.Hq)(a:Bk):(H.act a).1.Hq:=by
 unfold AH.act
 split
 ·exact h
 ·exact h.begun.Dv a
end
structure Live (H:AH):Prop where
 fit:H.Fit 1000 1000
 CH:0≤H.CH
 Ow:H.Hq
theorem Live.fits {H:AH}(h:H.Live):H.Fits:=⟨_,_,h.fit⟩
theorem Uw:AH.new.Hq:=fun k h0 h1=>by rw [OX h0 h1];exact Aw.DQ
theorem Lg:AH.new.Live:=⟨ZL.mono (by decide) (by decide),Int.le_refl 0,Uw⟩
section
variable {H X:AH}
theorem N8 (e:Event)(H:AH):∀ k:Nat,(Cc e H k).CH=H.CH
 | 0=>rfl
 | k+1=>by
  have ih:=N8 e H k
  rw [Cc.eq_2]
  split
  ·exact ih
  ·split<;>exact ih
theorem OR:∀(es:List Event) (H:AH),(H.HV es).CH=H.CH
 | [],_=>rfl
 | e :: r,H=>(OR r _).trans (N8 e H 4)
theorem Kg (H:AH)(es:List Event):(H.HE es).CH=H.CH:=OR es _
theorem K9 (H:AH)(k:Int):(H.leave k).CH=H.CH:=by
 unfold AH.leave
 split
 ·exact Kg _ _
 ·rfl
theorem K7 (H:AH):∀ k:Nat,(H.B8 k).1.CH=H.CH
 | 0=>rfl
 | k+1=>by
  have ih:=K7 H k
  unfold B8
  split
  ·exact ih
  ·split
   ·exact(K9 _ _).trans ih
   ·exact ih
theorem Ns:∀(n:Nat) (H:AH),(H.Fu n).CH=H.CH
 | 0,_=>rfl
 | n+1,H=>by
  unfold Fu
  split
  ·exact K7 H 4
  ·exact(Ns n _).trans (K7 H 4)
theorem I4 (H:AH):H.BZ.CH=H.CH:=Ns 5 H
theorem TX (H:AH)(k:Int):(H.Ea k).CH=H.CH:=by
 unfold AH.Ea
 split
 ·rfl
 ·split
  ·rfl
  ·dsimp only
   split
   ·rfl
   ·split
    ·unfold AH.named
     split
     ·exact Kg _ _
     ·split<;>rfl
    ·unfold AH.order
     split
     ·rfl
     ·split
      ·exact K9 _ _
      ·exact Kg _ _
theorem No (H:AH):∀ k:Nat,(H.turns k).CH=H.CH
 | 0=>rfl
 | k+1=>(TX _ _).trans (No H k)
theorem WN (X:AH)(a:Bk):(X.Dv a).1.CH=X.CH:=
 JY (fun Y=>Y.CH=X.CH) rfl (fun d=>(I4 _).trans ((Kg _ _).trans (No X 4))) (fun k _ _=>I4 _) (fun k u _ _=>by rw [Hi,I4];split<;>rfl) (fun k z _ _=>I4 _) (fun k _ _=>(I4 _).trans (K9 _ _)) a
theorem UE (H:AH):H.begun.CH=H.CH+1:=(HK (H:={ H with CH:=H.CH+1,last:= [] }) 4).2.2
theorem Si (H:AH)(a:Bk):(H.act a).1.CH=if 400≤H.CH then H.CH else H.CH+1:=by
 unfold AH.act
 by_cases c:400≤H.CH
 ·rw [if_pos (decide_eq_true c),if_pos c]
 ·rw [if_neg (fun e=>c (of_decide_eq_true e)),if_neg c]
  exact(WN _ _).trans (UE H)
theorem Live.act (h:H.Live)(a:Bk):(H.act a).1.Live:=⟨by
 unfold AH.act
 split
 ·exact h.fit
 ·exact(h.fit.begun).Dv a,by rw [Si];have:=h.CH;split<;>omega,h.Ow.act a⟩
theorem Live.run:∀(l:List Bk) {H:AH},H.Live→(H.run l).1.Live
 | [],_,h=>h
 | a :: r,_,h=>Live.run r (h.act a)
theorem Ri:∀(l:List Bk) {H:AH},H.CH+l.length≤400→(H.run l).1.CH=H.CH+l.length
 | [],H,_=>by show H.CH=_;simp
 | a :: r,H,h=>by
  rw [List.length_cons] at h
  have h1:(H.act a).1.CH=H.CH+1:=by rw [Si,if_neg (by omega)]
  have:=Ri r (H:=(H.act a).1) (by rw [h1];omega)
  show((H.act a).1.run r).1.CH=_
  rw [this,h1,List.length_cons];omega
end
def Nc (xs:List Bk):AH:=(AH.new.run (xs.take 150)).1
theorem DK (xs:List Bk):(Nc xs).Live:=Live.run _ Lg
theorem Mt (xs:List Bk):(Nc xs).CH=min (xs.length:Int) 150:=by
 unfold Nc
 have hl:(xs.take 150).length=min 150 xs.length:=List.length_take ..
 rw [Ri _ (by show(0:Int)+_≤400;rw [hl];omega),hl]
 show(0:Int)+_=_
 omega
theorem XS {xs:List Bk}{k:Int}(h0:0≤k)(h1:k < xs.length)(H:AH):(H.run (xs.take (k+1).toNat)).1=((H.run (xs.take k.toNat)).1.act (xs.getD k.toNat default)).1:=by rw [XK h0 h1]
theorem S3 {xs:List Bk}{k:Int}(h0:0≤k)(h1:k≤xs.length)(h2:k≤150)(h:k=xs.length∨k=150):AH.new.run (xs.take k.toNat)=AH.new.run (xs.take 150):=by
 rcases h with h | h
 ·rw [h,show(xs.length:Int).toNat=xs.length by omega,List.take_length,List.take_of_length_le (by omega)]
 ·rw [h];rfl
/-! #### does a house answer at all? -/
def P3:Bk:=⟨1,2,0,[]⟩
def type2:Bk:=⟨2,2,0,[97,110,110,13,10]⟩
def Ti:Bk:=⟨5,0,0,[]⟩
theorem eR:AH.new.Live:=Lg
theorem eW:(AH.new.act P3).1.Live:=eR.act _
theorem eQ:((AH.new.act P3).1.act type2).1.Live:=eW.act _
def cy:AH:=(((AH.new.act P3).1.act type2).1.act Ti).1
theorem Wl:cy.Live:=eQ.act _
theorem dp:(AH.new.act P3).2.code=0:=by kernel_rfl
theorem eF:(((AH.new.act P3).1.act type2).1.act Ti).2.code=0:=by kernel_rfl
theorem eL:cy.JJ 2=(2,2):=by kernel_rfl
theorem db:decide (2 < ((cy.at_ 2).told.length:Int))=true:=by kernel_rfl
theorem Live.told {V:AM}{ls:Vector BK 4}{ev:List Event}(h:(A7 V ls ev).Live){k:Int}(h0:0≤k)(h1:k < 4):(ls.at k).told.length≤1000000:=by
 have:=h.fit.told k h0 h1
 rw [Ca _ _ _ h0 h1] at this
 exact Nat.le_trans this (by decide)
theorem Live.wait {V:AM}{ls:Vector BK 4}{ev:List Event}(h:(A7 V ls ev).Live){k:Int}(h0:0≤k)(h1:k < 4):(ls.at k).wait.length≤1000000:=by
 have:=(h.Ow k h0 h1).n
 rw [Ca _ _ _ h0 h1] at this
 exact Nat.le_trans this (by decide)
theorem Live.queue {V:AM}{ls:Vector BK 4}{ev:List Event}(h:(A7 V ls ev).Live){k:Int}(h0:0≤k)(h1:k < 4):(ls.at k).queue.length≤1000000:=by
 have:=(h.Ow k h0 h1).ln.len
 rw [Ca _ _ _ h0 h1] at this
 exact Nat.le_trans this (by decide)
theorem Live.last {V:AM}{ls:Vector BK 4}{ev:List Event}(h:(A7 V ls ev).Live):ev.length≤1000000:=Nat.le_trans h.fit.last (by decide)
/-! #### do two houses stand alike? -/
def aB (s t:Aw):Bool:=decide (s.wait=t.wait) && decide (s.pg.shown=t.pg.shown) && (s.pg.Bv == t.pg.Bv) && decide (s.pg.ring=t.pg.ring) && (s.pg.cut == t.pg.cut)
def aV (s t:Aw):Bool:=decide (s.now=t.now) && (s.Ci == t.Ci) && (s.ret == t.ret) && decide (s.queue=t.queue)
def sameAt (H K:AH)(k:Int):Bool:=!(!decide ((H.JJ k).1=(K.JJ k).1) || !decide ((H.JJ k).2=(K.JJ k).2) || !aB (H.at_ k) (K.at_ k) || !aV (H.at_ k) (K.at_ k))
def same (H K:AH):Bool:=B7 4 (sameAt H K) 4 && decide (H.w=K.w)
end AH
end Go.Ing
/- What beings do keeps: things, people, and who is far. -/
namespace Go.Ing
open Go
theorem FT {α β:Type}[Inhabited α]{n:Nat}(f:α→β)(v:Vector α n){k:Int}{x:α}(hx:f x=f (v.at k))(i:Int):f ((v.put k x).at i)=f (v.at i):=by
 unfold Vector.put Vector.at at *
 rw [List.getD_eq_getElem?_getD] at hx ⊢
 rw [List.getD_eq_getElem?_getD]
 simp only [Vector.toList_setIfInBounds]
 rw [List.getElem?_set]
 split
 ·rename_i h1
  split
  ·rw [← h1,← hx];rfl
  ·rename_i h2
   rw [← h1,List.getElem?_eq_none (by omega)]
 ·rfl
namespace AF
/-! #### things stay what they are -/
def Zk (X:AI)(_:List Event)(Y:AI):Prop:=∀ i,(Y.AP.at i).name=(X.AP.at i).name∧(Y.AP.at i).kind=(X.AP.at i).kind
theorem ab (x:Au)(q:Prop)(b:Int):Rel x q b Zk where
 refl _:=fun _=>⟨rfl,rfl⟩
 trans h k:=fun i=>⟨(k i).1.trans (h i).1,(k i).2.trans (h i).2⟩
 bO _:=fun _=>⟨rfl,rfl⟩
 Bw {w i t} hn hk:=fun j=>⟨FT Ao.name w.AP hn j,FT Ao.kind w.AP hk j⟩
 B4:=fun _=>⟨rfl,rfl⟩
 shut:=fun _=>⟨rfl,rfl⟩
 GF:=fun _=>⟨rfl,rfl⟩
 Gq _:=fun _=>⟨rfl,rfl⟩
 gone h _:=h
theorem Yi:Yl Zk:=⟨fun b _ _=>ab [] False b,fun _=>⟨rfl,rfl⟩,fun _ h _=>h⟩
/-! #### who is there -/
def cY (l:List Event)(c:Int):Prop:=∃ e∈l,e.kind=18∧e.Dj=c
def Zb (X:AI)(l:List Event)(Y:AI):Prop:=∀ c,0≤c→c < 6→((Y.AO.at c).here=true→(X.AO.at c).here=true∧(Y.AO.at c).name=(X.AO.at c).name)∧(2≤c→¬ cY l c→(Y.AO.at c).here=(X.AO.at c).here)
theorem Gi {X Y:AI}{l:List Event}(h:∀ c,(Y.AO.at c).here=(X.AO.at c).here∧(Y.AO.at c).name=(X.AO.at c).name):Zb X l Y:=fun c _ _=>⟨fun e=>⟨by rw [← (h c).1];exact e,(h c).2⟩,fun _ _=>(h c).1⟩
theorem Vo {X Y Z:AI}{l m:List Event}(h:Zb X l Y)(k:Zb Y m Z):Zb X (l++m) Z:=fun c c0 c6=>⟨fun e=>by
  obtain⟨a,b⟩:=(k c c0 c6).1 e
  obtain⟨d,f⟩:=(h c c0 c6).1 a
  exact⟨d,b.trans f⟩,fun c2 hn=>((k c c0 c6).2 c2 fun⟨e,he,h1⟩=>hn ⟨e,List.mem_append_right _ he,h1⟩).trans ((h c c0 c6).2 c2 fun⟨e,he,h1⟩=>hn ⟨e,List.mem_append_left _ he,h1⟩)⟩
theorem XQ (x:Au)(q:Prop){b:Int}(b0:0≤b)(b6:b < 6):Rel x q b Zb where
 refl _:=Gi fun _=>⟨rfl,rfl⟩
 trans:=Vo
 bO _:=Gi fun _=>⟨rfl,rfl⟩
 Bw _ _:=Gi fun _=>⟨rfl,rfl⟩
 B4 {w k f}:=Gi fun c=>⟨FT An.here w.AO (k:=k) (x:={ w.AO.at k with B4:=f }) rfl c,FT An.name w.AO (k:=k) (x:={ w.AO.at k with B4:=f }) rfl c⟩
 shut:=Gi fun _=>⟨rfl,rfl⟩
 GF {w d r}:=Gi fun c=>⟨FT An.here w.AO (k:=b) (x:={ w.AO.at b with room:=r,B4:=0 }) rfl c,FT An.name w.AO (k:=b) (x:={ w.AO.at b with room:=r,B4:=0 }) rfl c⟩
 Gq _ {w}:=Gi fun _=>⟨rfl,rfl⟩
 gone {X l w} h hg:=fun c c0 c6=>by
  by_cases e:c=b
  ·subst e
   rw [AI.EO c0 c6]
   refine⟨fun e=>(by cases e),fun c2 hn=>?_⟩
   obtain⟨e,he,hk,ha⟩:=hg
   rcases hk with hk | ⟨_,hk⟩
   ·exact absurd ⟨e,he,hk,ha⟩ hn
   ·omega
  ·rw [AI.Gh b0 b6 c0 e];exact h c c0 c6
theorem bE:Yl Zb:=⟨fun b b0 b6=>XQ [] False b0 b6,fun {w k h}=>Gi fun c=>⟨FT An.here w.AO (k:=k) (x:={ w.AO.at k with BM:=h }) rfl c,FT An.name w.AO (k:=k) (x:={ w.AO.at k with BM:=h }) rfl c⟩,
 fun {X l w b} _ h _=>fun c c0 c6=>by
  have e1:=FT An.here w.AO (k:=b) (x:={ w.AO.at b with room:=0,BM:=10 }) rfl c
  have e2:=FT An.name w.AO (k:=b) (x:={ w.AO.at b with room:=0,BM:=10 }) rfl c
  have:=h c c0 c6
  rw [← e1,← e2] at this
  exact this⟩
def Still (_:AI)(l:List Event)(_:AI):Prop:=∀ e∈l,e.kind≠18
theorem TZ {x:Au}{w:AI}{e:Event}(h:Shape x w e):e.kind≠18:=by
 cases h with
 | cb _=>show(16:Int)≠18;decide
 | said=>show(7:Int)≠18;decide
 | @kind k h=>show k≠18;omega
 | @dir k d h=>show k≠18;omega
 | @Bw k i h=>show k≠18;omega
 | @HB k h=>show k≠18;omega
 | bb=>show(6:Int)≠18;decide
 | WY=>show(5:Int)≠18;decide
 | CE _ _=>show(14:Int)≠18;decide
theorem U1 (x:Au)(b:Int):Rel x False b Still where
 refl _:=fun _ h=>by cases h
 trans h k:=fun e he=>(List.mem_append.1 he).elim (h e) (k e)
 bO {w e} h:=fun y hy=>by rw [List.mem_singleton.1 hy,(HL w b e).1];exact TZ h
 Bw _ _:=fun _ h=>by cases h
 B4:=fun _ h=>by cases h
 shut:=fun _ h=>by cases h
 GF {w d r}:=fun y hy=>by rw [List.mem_singleton.1 hy,(HL w b _).1];show(1:Int)≠18;decide
 Gq h:=h.elim
 gone h _:=h
theorem Yd:Yl Still:=⟨fun b _ _=>U1 [] b,fun _ h=>(by cases h),fun _ h _=>h⟩
def By (b:Int)(_:AI)(l:List Event)(_:AI):Prop:=∀ e∈l,e.Dj=b
theorem dq (x:Au)(q:Prop)(b:Int):Rel x q b (By b) where
 refl _:=fun _ h=>by cases h
 trans h k:=fun e he=>(List.mem_append.1 he).elim (h e) (k e)
 bO {w e} _:=fun y hy=>by rw [List.mem_singleton.1 hy,(HL w b e).2]
 Bw _ _:=fun _ h=>by cases h
 B4:=fun _ h=>by cases h
 shut:=fun _ h=>by cases h
 GF {w d r}:=fun y hy=>by rw [List.mem_singleton.1 hy,(HL w b _).2]
 Gq _ {w}:=fun y hy=>by rw [List.mem_singleton.1 hy,(HL w b _).2]
 gone h _:=h
/-! #### who stays in a room -/
end AF
end Go.Ing
/- What a house keeps through every act: people and pages. -/
namespace Go.Ing
open Go
namespace AF
theorem Wi (X:AI)(s:Au)(b:Int):(JI X s b).w=X.C4 b (J0 s):=(KD _).1
theorem Pv (X:AI):∀ n:Nat,n≤6→2≤CP X n→(X.AO.at (CP X n)).here=false
 | 0,_,h=>by have:CP X 0=-1:=rfl;omega
 | n+1,hn,h=>by
  unfold CP at h ⊢
  split
  ·rename_i c
   rw [Bool.and_eq_true] at c
   simpa using c.1
  ·rename_i c
   rw [if_neg c] at h
   exact Pv X n (by omega) h
theorem Z7 {X:AI}{b:Int}{o:Order}(hg:X.Bj=true)(b0:0≤b)(b6:b < 6)(hh:(X.AO.at b).here=true)(h0:0≤o.verb)(h1:o.verb≤20):(EH X b o)=((AF.act ⟨X,b,[]⟩ o).w,(AF.act ⟨X,b,[]⟩ o).out,0):=by
 unfold EH
 rw [if_neg (by rw [hg];decide),if_neg (by rw [decide_eq_false (by omega:¬ b < 0),decide_eq_false (by omega:¬ 6≤b),hh];decide),if_neg (by rw [decide_eq_false (by omega:¬ o.verb < 0),decide_eq_false (by omega:¬ 20 < o.verb)];decide)]
theorem UZ {X:AI}{b:Int}{o:Order}(hg:X.Bj=true)(hw:X.DL):(EH X b o).1.Bj=true:=by
 by_cases h:(EH X b o).2.2=0
 ·exact(keeps hw h).1
 ·have:(EH X b o).1=X:=by
   unfold EH at h ⊢
   split
   ·rfl
   ·split
    ·rfl
    ·split
     ·rfl
     ·rename_i c1 c2 c3
      rw [if_neg c1,if_neg c2,if_neg c3] at h
      exact absurd rfl h
  rw [this];exact hg
theorem aR {X:AI}{b:Int}(hg:X.Bj=true)(b0:0≤b)(b6:b < 6)(hh:(X.AO.at b).here=true):((EH X b AH.EI).1.AO.at b).here=false:=by
 rw [Z7 hg b0 b6 hh (by decide) (by decide)]
 have e:AF.act ⟨X,b,[]⟩ AH.EI=AF.Gq ⟨X,b,[]⟩:=rfl
 rw [e]
 have hf:=Oz ⟨X,b,[]⟩
 show((AF.Gq ⟨X,b,[]⟩).w.AO.at b).here=false
 rw [hf.2.2]
 show(((((⟨X,b,[]⟩:AF).kind 18).FJ.w.AO).put b default).at b).here=false
 rw [Vector.CG b0 b6];rfl
theorem Rm {X:AI}{d:Int}(hg:X.Bj=true)(hw:X.DL):(CY X d).1.Bj=true:=by
 unfold CY
 rw [if_neg (by rw [hg];decide)]
 have h:=(LK Yi (draw:=d) hg hw 6 (Nat.le_refl 6)).2.1
 generalize Dh X d 6=r at *
 exact h
end AF
namespace AH
structure Tm (U:Au→Prop)(P:AH→Prop):Prop where
 lines:∀ {H k},P H→0≤k→k < 4→∀ q∈(H.at_ k).queue,U q
 begun:∀ {H},P H→P H.begun
 step:∀ {H X},P H→Step U H X→P X
 next:∀ {H k q r},P H→0≤k→k < 4→(H.at_ k).state≠0→(H.at_ k).queue=q :: r→P (H.next k r)
 Kj:∀ {H k},P H→0≤k→k < 4→(H.at_ k).state=0→P (H.set k ((({ (default:Aw) with state:=1,A0:=-1 }:Aw).offer 3).offer 31))
 byte:∀ {H k u},P H→0≤k→k < 4→(H.at_ k).state≠0→P (H.set k (C5 (H.at_ k) u).1)
 HZ:∀ {H k n},P H→0≤k→k < 4→(H.at_ k).state≠0→P (H.set k ((H.at_ k).HZ n))
theorem Fj (s:Aw)(o:Int):(s.offer o).state=s.state:=by
 unfold Aw.offer;split<;>exact(OV _ _).2.1
structure Qj (U:Au→Prop)(Z:AH)(P:AH→Prop):Prop where
 lines:∀ {H k},P H→0≤k→k < 4→∀ q∈(H.at_ k).queue,U q
 step:∀ {H X},P H→Step U H X→P X
 next:∀ {H k q r},P H→0≤k→k < 4→(H.at_ k).state≠0→(H.at_ k).queue=q :: r→P (H.next k r)
 Kj:∀ {k},0≤k→k < 4→(Z.at_ k).state=0→P (Z.set k ((({ (default:Aw) with state:=1,A0:=-1 }:Aw).offer 3).offer 31))
 byte:∀ {k u},0≤k→k < 4→(Z.at_ k).state≠0→P (Z.set k (C5 (Z.at_ k) u).1)
 HZ:∀ {k n},0≤k→k < 4→(Z.at_ k).state≠0→P (Z.set k ((Z.at_ k).HZ n))
section
variable {U:Au→Prop} {P:AH→Prop} {H X Z:AH} (K:Qj U Z P)
include K
theorem Qj.steps (h:P H)(s:Steps U H X):P X:=Steps.Kq (fun h s=>K.step h s) h s
theorem Qj.Ea (h:P H){k:Int}(h0:0≤k)(h1:k < 4):P (H.Ea k):=by
 rcases N5 (U:=U) H h0 h1 (K.lines h h0 h1) with ⟨_,e⟩ | ⟨q,r,hs,e,s⟩
 ·rw [e];exact h
 ·exact K.steps (K.next h h0 h1 hs e) s
theorem Qj.turns (h:P H):∀ k:Nat,k≤4→P (H.turns k)
 | 0,_=>h
 | k+1,hk=>K.Ea (Qj.turns h k (by omega)) (by omega) (by omega)
theorem Qj.BZ (h:P H):P H.BZ:=K.steps h (Oa H)
theorem Qj.told (h:P H){k:Int}(h0:0≤k)(h1:k < 4)(hs:(H.at_ k).state≠0){u:Au}(hu:u∈Xc):P (H.tell k u):=K.step h (.told h0 h1 hs hu)
theorem Qj.Dv (h:P Z)(a:Bk):P (Z.Dv a).1:=by
 unfold AH.Dv
 split
 ·have hp:=K.BZ (K.steps (K.turns h 4 (Nat.le_refl 4)) (KM (Z.turns 4) a.n))
  dsimp only
  unfold AH.O2
  exact hp
 ·split
  ·exact h
  ·split
   ·exact h
   ·rename_i c
    have hs:0≤a.BB∧a.BB < 4:=by simp only [Bool.or_eq_true,decide_eq_true_eq] at c;omega
    split
    ·exact h
    ·rename_i c2
     have c2':decide ((Z.at_ a.BB).state=0)=decide (a.kind=1):=by simpa using c2
     split
     ·rename_i c3
      have hz:(Z.at_ a.BB).state=0:=of_decide_eq_true (c2'.trans c3)
      have h1:=K.Kj hs.1 hs.2 hz
      have h2:=K.BZ (K.told (u:=Hx) h1 hs.1 hs.2 (by
       rw [DA _ hs.1 hs.2 hs.1,if_pos rfl,Fj,Fj]
       exact(by decide:(1:Int)≠0)) (List.mem_cons_self ..))
      dsimp only
      unfold AH.Kj
      exact h2
     ·rename_i c3
      have hz:(Z.at_ a.BB).state≠0:=fun e=>c3 (by rw [← c2'];exact decide_eq_true e)
      split
      ·have h1:=K.byte hs.1 hs.2 hz (u:=a.bytes)
       have h2:=K.BZ h1
       have h3:=K.BZ (K.told (u:=OG) h1 hs.1 hs.2 (by rw [DA _ hs.1 hs.2 hs.1,if_pos rfl,(Ft _ _).2.1];exact hz) (List.mem_cons_of_mem _ (List.mem_cons_self ..)))
       dsimp only
       rw [Hi]
       split
       ·exact h3
       ·exact h2
      ·split
       ·have h1:=K.BZ (K.HZ (n:=a.n) hs.1 hs.2 hz)
        dsimp only
        exact h1
       ·have h1:=K.BZ (K.steps h (Gy Z hs.1 hs.2))
        dsimp only
        exact h1
end
section
variable {U:Au→Prop} {P:AH→Prop} (K:Tm U P) {H X:AH}
include K
theorem Tm.Dv (h:P X)(a:Bk):P (X.Dv a).1:=Qj.Dv ⟨K.lines,K.step,K.next,K.Kj h,K.byte h,K.HZ h⟩ h a
theorem Tm.act (h:P H)(a:Bk):P (H.act a).1:=by
 unfold AH.act
 split
 ·exact h
 ·exact K.Dv (K.begun h) a
theorem Tm.run:∀(l:List Bk) {H:AH},P H→P (H.run l).1
 | [],_,h=>h
 | a :: r,_,h=>Tm.run r (K.act h a)
end
structure Home (H:AH):Prop where
 gd:H.w.Bj=true
 F5:H.w.La
 Ow:H.Hq
 me:∀ k,0≤k→k < 4→(H.at_ k).state=2→2≤(H.at_ k).A0∧(H.at_ k).A0≤5∧(H.w.AO.at (H.at_ k).A0).here=true
 one:∀ j k,0≤j→j < 4→0≤k→k < 4→(H.at_ j).state=2→(H.at_ k).state=2→(H.at_ j).A0=(H.at_ k).A0→j=k
 all:∀ b,2≤b→b≤5→(H.w.AO.at b).here=true→∃ k,0≤k∧k < 4∧(H.at_ k).state=2∧(H.at_ k).A0=b
 named:∀ b,2≤b→b≤5→(H.w.AO.at b).here=true→AF.FW (H.w.AO.at b).name=true
 diff:∀ b c,2≤b→b≤5→0≤c→c≤5→(H.w.AO.at b).here=true→(H.w.AO.at c).here=true→(H.w.AO.at c).name=(H.w.AO.at b).name→c=b
section
variable {H X:AH}
theorem Home.of (h:H.Home)(hw:X.w=H.w)(hs:∀ j,0≤j→j < 4→(X.at_ j).state=(H.at_ j).state∧(X.at_ j).A0=(H.at_ j).A0)(ho:X.Hq):X.Home:=
 ⟨by rw [hw];exact h.gd,by rw [hw];exact h.F5,ho,fun k k0 k1 e=>by
  obtain⟨a,b⟩:=hs k k0 k1
  rw [hw,b];exact h.me k k0 k1 (a ▸ e),fun j k j0 j1 k0 k1 e1 e2 e3=>by
  obtain⟨a,b⟩:=hs k k0 k1
  obtain⟨c,d⟩:=hs j j0 j1
  exact h.one j k j0 j1 k0 k1 (c ▸ e1) (a ▸ e2) (by rw [← d,← b];exact e3),fun b b0 b1 e=>by
  rw [hw] at e
  obtain⟨k,k0,k1,e1,e2⟩:=h.all b b0 b1 e
  obtain⟨c,d⟩:=hs k k0 k1
  exact⟨k,k0,k1,c.trans e1,d.trans e2⟩,by rw [hw];exact h.named,by rw [hw];exact h.diff⟩
theorem Home.put (h:H.Home){k:Int}(k0:0≤k)(k1:k < 4)(hn:(H.at_ k).state≠2){s:Aw}(hs:s.state≠2)(ho:s.Ok):(H.set k s).Home:=by
 have e:∀ j,0≤j→(H.set k s).at_ j=if j=k then s else H.at_ j:=fun j j0=>DA H k0 k1 j0 s
 refine⟨h.gd,h.F5,h.Ow.set k0 k1 ho,fun j j0 j1=>?_,fun i j i0 i1 j0 j1=>?_,fun b b0 b1 hb=>?_,h.named,h.diff⟩
 ·rw [e j j0];split
  ·exact fun q=>absurd q hs
  ·exact h.me j j0 j1
 ·rw [e i i0,e j j0];split
  ·exact fun q=>absurd q hs
  ·split
   ·exact fun _ q=>absurd q hs
   ·exact h.one i j i0 i1 j0 j1
 ·obtain⟨j,j0,j1,e1,e2⟩:=h.all b b0 b1 hb
  refine⟨j,j0,j1,?_⟩
  rw [e j j0,if_neg (fun q=>by subst q;exact hn e1)]
  exact⟨e1,e2⟩
theorem Home.land (h:H.Home){k:Int}(k0:0≤k)(k1:k < 4){w:AI}{es:List Event}(hg:w.Bj=true)(hw:w.La)(hr:AF.Zb H.w es w)(hn:AF.Still H.w es w):(H.He k w (H.at_ k) es).Home:=by
 have hat:∀ j,0≤j→j < 4→((H.He k w (H.at_ k) es).at_ j).state=(H.at_ j).state∧((H.He k w (H.at_ k) es).at_ j).A0=(H.at_ j).A0:=fun j j0 j1=>by
  rw [IB H k0 k1 _ _ _ j0 j1]
  have e:(if j=k then H.at_ k else H.at_ j)=H.at_ j:=by
   split
   ·rename_i q;rw [q]
   ·rfl
  rw [e];exact Aw.FL _ _
 have hok:(H.He k w (H.at_ k) es).Hq:=fun j j0 j1=>by
  rw [IB H k0 k1 _ _ _ j0 j1]
  exact Aw.Ok.Fx (by split;exact h.Ow k k0 k1;exact h.Ow j j0 j1) es
 have hkeep:=MQ H k w (H.at_ k) es
 have hgone:∀ c,¬ AF.cY es c:=fun c ⟨e,he,h1,_⟩=>hn e he h1
 refine Home.of (H:={ H with w:=w }) ⟨hg,hw,h.Ow,fun j j0 j1 e=>?_,h.one,fun b b0 b1 e=>h.all b b0 b1 ((hr b (by omega) (by omega)).1 e).1,fun b b0 b1 e=>?_,fun b c b0 b1 c0 c1 e1 e2 e3=>?_⟩ hkeep.1 hat hok
 ·obtain⟨a,b,c⟩:=h.me j j0 j1 e
  exact⟨a,b,((hr _ (by omega) (by omega)).2 a (hgone _)).trans c⟩
 ·obtain⟨p,q⟩:=(hr b (by omega) (by omega)).1 e
  show AF.FW (w.AO.at b).name=true
  rw [q];exact h.named b b0 b1 p
 ·obtain⟨p,q⟩:=(hr b (by omega) (by omega)).1 e1
  obtain⟨p',q'⟩:=(hr c (by omega) (by omega)).1 e2
  exact h.diff b c b0 b1 c0 c1 p p' (by rw [← q,← q'];exact e3)
theorem Home.left (h:H.Home){k:Int}(k0:0≤k)(k1:k < 4)(hs:(H.at_ k).state=2):(H.He k (AF.EH H.w (H.at_ k).A0 EI).1 default (AF.EH H.w (H.at_ k).A0 EI).2.1).Home:=by
 obtain⟨b2,b5,hh⟩:=h.me k k0 k1 hs
 have hr:AF.Zb H.w (AF.EH H.w (H.at_ k).A0 EI).2.1 (AF.EH H.w (H.at_ k).A0 EI).1:=AF.RD (AF.XQ [] True (by omega) (by omega)) rfl (fun _=>trivial)
 have hb:AF.By (H.at_ k).A0 H.w (AF.EH H.w (H.at_ k).A0 EI).2.1 (AF.EH H.w (H.at_ k).A0 EI).1:=AF.RD (AF.dq [] True _) rfl (fun _=>trivial)
 have hq:=AF.aR h.gd (show 0≤(H.at_ k).A0 by omega) (by omega) hh
 have hg:=AF.UZ (b:=(H.at_ k).A0) (o:=EI) h.gd h.F5.IP
 have hw:=(AF.KZ (b:=(H.at_ k).A0) (o:=EI) h.F5 Mj).1
 generalize hd:AF.EH H.w (H.at_ k).A0 EI=D at *
 have hkeep:=MQ H k D.1 default D.2.1
 have hat:=fun j j0 j1=>IB H k0 k1 D.1 default D.2.1 (j:=j) j0 j1
 have st:∀ j,0≤j→j < 4→((H.He k D.1 default D.2.1).at_ j).state=2→j≠k∧(H.at_ j).state=2∧((H.He k D.1 default D.2.1).at_ j).A0=(H.at_ j).A0:=fun j j0 j1 e=>by
  rw [hat j j0 j1] at e ⊢
  rw [(Aw.FL _ _).1] at e
  rw [(Aw.FL _ _).2]
  by_cases q:j=k
  ·rw [if_pos q] at e;exact absurd (show(0:Int)=2 from e) (by decide)
  ·rw [if_neg q] at e ⊢;exact⟨q,e,rfl⟩
 refine⟨by rw [hkeep.1];exact hg,by rw [hkeep.1];exact hw,fun j j0 j1=>?_,fun j j0 j1 e=>?_,fun i j i0 i1 j0 j1 e1 e2 e3=>?_,fun b b0 b1 e=>?_,fun b b0 b1 e=>?_,fun b c b0 b1 c0 c1 e1 e2 e3=>?_⟩
 ·rw [hat j j0 j1]
  exact Aw.Ok.Fx (by split;exact Aw.DQ;exact h.Ow j j0 j1) _
 ·obtain⟨q,e1,e2⟩:=st j j0 j1 e
  obtain⟨a,b,c⟩:=h.me j j0 j1 e1
  rw [hkeep.1,e2]
  refine⟨a,b,((hr _ (by omega) (by omega)).2 a fun⟨y,hy,_,ha⟩=>?_).trans c⟩
  exact q (h.one j k j0 j1 k0 k1 e1 hs (ha.symm.trans (hb y hy)))
 ·obtain⟨_,a1,a2⟩:=st i i0 i1 e1
  obtain⟨_,c1,c2⟩:=st j j0 j1 e2
  exact h.one i j i0 i1 j0 j1 a1 c1 (by rw [← a2,← c2];exact e3)
 ·rw [hkeep.1] at e
  obtain⟨p,_⟩:=(hr b (by omega) (by omega)).1 e
  obtain⟨j,j0,j1,a1,a2⟩:=h.all b b0 b1 p
  have hjk:j≠k:=fun q=>by subst q;rw [a2,e] at hq;cases hq
  refine⟨j,j0,j1,?_⟩
  rw [hat j j0 j1,(Aw.FL _ _).1,(Aw.FL _ _).2,if_neg hjk]
  exact⟨a1,a2⟩
 ·rw [hkeep.1] at e ⊢
  obtain⟨p,q⟩:=(hr b (by omega) (by omega)).1 e
  rw [q];exact h.named b b0 b1 p
 ·rw [hkeep.1] at e1 e2 e3
  obtain⟨p,q⟩:=(hr b (by omega) (by omega)).1 e1
  obtain⟨p',q'⟩:=(hr c (by omega) (by omega)).1 e2
  exact h.diff b c b0 b1 c0 c1 p p' (by rw [← q,← q'];exact e3)
theorem Home.Ql (h:H.Home){k:Int}{u:Au}(k0:0≤k)(k1:k < 4)(hs:(H.at_ k).state=1)(he:(AF.BW H.w u).2.2.2=0):(H.He k (AF.BW H.w u).1 { H.at_ k with state:=2,A0:=(AF.BW H.w u).2.1 } (AF.BW H.w u).2.2.1).Home:=by
 rcases AF.SR H.w u with ⟨hn,_⟩ | ⟨e,f2,f5,hn,_,ht⟩
 ·exact absurd he hn
 have hw:=(AF.JM (s:=u) h.F5).1
 have hf:=AF.Pv H.w 6 (Nat.le_refl 6) f2
 have hlen:u.length≤8:=by
  have h2:=hn
  simp only [AF.FW,Bool.and_eq_true,decide_eq_true_eq] at h2
  omega
 have hfit:=AF.Pw (b:=AF.CP H.w 6) h.gd h.F5.IP (s:=u) (by omega) (by omega) (by omega)
 have hwe:=AF.Wi H.w u (AF.CP H.w 6)
 rw [e] at hw ⊢
 generalize AF.CP H.w 6=f at *
 generalize (AF.JI H.w u f).out=es
 generalize (AF.JI H.w u f).w=w at *
 show(H.He k w { H.at_ k with state:=2,A0:=f } es).Home
 have hw2:w.La:=hw
 have hg:w.Bj=true:=by rw [hwe];exact hfit.gd
 have bf:w.AO.at f=AF.J0 u:=by rw [hwe];exact AI.EO (by omega) (by omega) _
 have bn:∀ c,0≤c→c≠f→w.AO.at c=H.w.AO.at c:=fun c c0 hc=>by rw [hwe];exact AI.Gh (by omega) (by omega) c0 hc _
 have hkeep:=MQ H k w { H.at_ k with state:=2,A0:=f } es
 have hat:∀ j,0≤j→j < 4→((H.He k w { H.at_ k with state:=2,A0:=f } es).at_ j).state=(if j=k then 2 else(H.at_ j).state)∧((H.He k w { H.at_ k with state:=2,A0:=f } es).at_ j).A0=(if j=k then f else(H.at_ j).A0):=fun j j0 j1=>by
  rw [IB H k0 k1 _ _ _ j0 j1,(Aw.FL _ _).1,(Aw.FL _ _).2]
  split<;>exact⟨rfl,rfl⟩
 have out:∀ j,0≤j→j < 4→(H.at_ j).state=2→(H.at_ j).A0≠f:=fun j j0 j1 e q=>by
  have:=(h.me j j0 j1 e).2.2
  rw [q,hf] at this;cases this
 refine⟨by rw [hkeep.1];exact hg,by rw [hkeep.1];exact hw2,fun j j0 j1=>?_,fun j j0 j1=>?_,fun i j i0 i1 j0 j1=>?_,fun b b0 b1 e=>?_,fun b b0 b1 e=>?_,fun b c b0 b1 c0 c1 e1 e2 e3=>?_⟩
 ·rw [IB H k0 k1 _ _ _ j0 j1]
  exact Aw.Ok.Fx (by split;exact(h.Ow k k0 k1).Ql f;exact h.Ow j j0 j1) _
 ·rw [(hat j j0 j1).1,(hat j j0 j1).2,hkeep.1]
  split
  ·intro _;rw [bf];exact⟨by omega,by omega,rfl⟩
  ·intro e
   obtain⟨a,b,c⟩:=h.me j j0 j1 e
   exact⟨a,b,by rw [bn _ (by omega) (out j j0 j1 e)];exact c⟩
 ·rw [(hat i i0 i1).1,(hat i i0 i1).2,(hat j j0 j1).1,(hat j j0 j1).2]
  split
  ·rename_i q1
   split
   ·rename_i q2;intro _ _ _;rw [q1,q2]
   ·intro _ e q;exact absurd q.symm (out j j0 j1 e)
  ·split
   ·intro e _ q;exact absurd q (out i i0 i1 e)
   ·exact h.one i j i0 i1 j0 j1
 ·rw [hkeep.1] at e
  by_cases q:b=f
  ·exact⟨k,k0,k1,by rw [(hat k k0 k1).1,if_pos rfl],by rw [(hat k k0 k1).2,if_pos rfl,q]⟩
  ·rw [bn b (by omega) q] at e
   obtain⟨j,j0,j1,a1,a2⟩:=h.all b b0 b1 e
   have hjk:j≠k:=fun q=>by subst q;omega
   exact⟨j,j0,j1,by rw [(hat j j0 j1).1,if_neg hjk];exact a1,by rw [(hat j j0 j1).2,if_neg hjk];exact a2⟩
 ·rw [hkeep.1] at e ⊢
  by_cases q:b=f
  ·rw [q,bf];exact hn
  ·rw [bn b (by omega) q] at e ⊢;exact h.named b b0 b1 e
 ·rw [hkeep.1] at e1 e2 e3
  have hfree:∀ c,0≤c→c≤5→(H.w.AO.at c).here=true→(H.w.AO.at c).name≠u:=fun c c0 c1 hc q=>by
   have:=ht c c0 (by omega)
   unfold AF.Ij at this
   rw [hc,q] at this
   simp at this
  by_cases q1:b=f
  ·by_cases q2:c=f
   ·rw [q1,q2]
   ·rw [bn c (by omega) q2] at e2 e3
    rw [q1,bf] at e3
    exact absurd e3 (hfree c c0 c1 e2)
  ·rw [bn b (by omega) q1] at e1 e3
   by_cases q2:c=f
   ·rw [q2,bf] at e3
    exact absurd e3.symm (hfree b (by omega) b1 e1)
   ·rw [bn c (by omega) q2] at e2 e3
    exact h.diff b c b0 b1 c0 c1 e1 e2 e3
theorem SM (q:Au)(hq:q.length≤1000):(Words.parse q).1.text.length≤1000000:=by
 have:=(Words.J3 q).2.2
 omega
theorem Home.step (h:H.Home)(hu:True){U:Au→Prop}(hU:∀ q,U q→q.length≤1000)(s:Step U H X):X.Home:=by
 cases s with
 | @told k u h0 h1 hs _=>
  refine h.of rfl (fun j j0 j1=>?_) (h.Ow.step (U:=U) (.told h0 h1 hs ‹_›))
  unfold AH.tell
  rw [DA _ h0 h1 j0]
  split
  ·rename_i q;subst q;exact⟨(GU _ _).1,(GU _ _).2.1⟩
  ·exact⟨rfl,rfl⟩
 | @BZ k h0 h1 hs=>
  refine h.of rfl (fun j j0 j1=>?_) (h.Ow.step (U:=U) (.BZ h0 h1 hs))
  rw [DA _ h0 h1 j0]
  split
  ·rename_i q;subst q;exact⟨(I3 _).2.1,(I3 _).2.2.1⟩
  ·exact⟨rfl,rfl⟩
 | @free k h0 h1 hn=>exact h.put h0 h1 (fun e=>hn ⟨e,(h.me k h0 h1 e).2.2⟩) (show(0:Int)≠2 by decide) Aw.DQ
 | @goes k w s es h0 h1 g=>
  cases g with
  | left hs _=>exact h.left h0 h1 hs
  | Ql hs he=>exact h.Ql h0 h1 hs he
  | dB hq hn0 hn1 hv=>
   have hst:=(h.Ow k h0 h1).st
   obtain⟨b2,b5,hh⟩:=h.me k h0 h1 (by omega)
   exact h.land h0 h1 (AF.UZ h.gd h.F5.IP) (AF.KZ h.F5 (SM _ (hU _ hq))).1 (AF.RD (AF.XQ _ False (by omega) (by omega)) rfl (fun e=>hv e)) (AF.RD (AF.U1 _ _) rfl (fun e=>hv e))
  | round=>exact h.land h0 h1 (AF.Rm h.gd h.F5.IP) (AF.K4 h.F5).1 (AF.P7 AF.bE h.F5.IP) (AF.P7 AF.Yd h.F5.IP)
end
end AH
end Go.Ing
/- An act that is refused, and acts behind the last: plain laws. -/
namespace Go.Ing
open Go
theorem YZ {α:Type}(a b c:α) : [a,b,c].Perm [c,b,a]:=List.reverse_perm [c,b,a]
namespace AH
theorem UF (H:AH):H.begun.w=H.w∧H.begun.last = []∧H.begun.CH=H.CH+1:=HK (H:={ H with CH:=H.CH+1,last:= [] }) 4
def zero:Bk:=⟨0,0,0,[]⟩
end AH
end Go.Ing
/- Behind each act: people and pages. -/
namespace Go.Ing
open Go
namespace Aw
theorem Still.heard {s:Aw}(h:s.Still):({ s with told:= [] }:Aw).Still:=by
 refine⟨?_,h.cut⟩
 have e:({ s with told:= [] }:Aw).BZ={ s.BZ with told:= [] }:=by
  unfold Aw.BZ
  by_cases c:(!s.Ll || decide (s.D6.B5 < 0) || decide (200 < s.D6.B5))=true
  ·rw [if_pos c,if_pos (show(!({ s with told:= [] }:Aw).Ll || decide (({ s with told:= [] }:Aw).D6.B5 < 0) || decide (200 < ({ s with told:= [] }:Aw).D6.B5))=true from c)]
  ·rw [if_neg c,if_neg (show ¬ (!({ s with told:= [] }:Aw).Ll || decide (({ s with told:= [] }:Aw).D6.B5 < 0) || decide (200 < ({ s with told:= [] }:Aw).D6.B5))=true from c)]
 rw [e,h.fl]
end Aw
namespace AH
theorem Home.CH:Tm (fun q=>q.length≤1000) Home where
 lines {H k} h h0 h1 q hq:=by
  have:=((Bi.GJ q).1 ((h.Ow k h0 h1).ln.queue q hq)).1
  omega
 begun {H} h:=h.of (UF H).1 (fun j j0 j1=>by rw [Gj j0 j1];exact⟨rfl,rfl⟩) h.Ow.begun
 step h s:=h.step trivial (fun _ h=>h) s
 next {H k q r} h h0 h1 _ e:=h.of rfl (fun j j0 j1=>by
  unfold AH.next;rw [DA _ h0 h1 j0];split
  ·rename_i q;subst q;exact⟨rfl,rfl⟩
  ·exact⟨rfl,rfl⟩) (h.Ow.set h0 h1 ((h.Ow k h0 h1).next e))
 Kj {H k} h h0 h1 hz:=h.put h0 h1 (by rw [hz];decide) (by rw [Fj,Fj];exact(by decide:(1:Int)≠2)) (((show({ (default:Aw) with state:=1,A0:=-1 }:Aw).Ok from⟨⟨show(0:Int)≤1 by decide,show(1:Int)≤2 by decide⟩,Aw.DQ.n,Aw.DQ.ring,Aw.DQ.s0,Aw.DQ.s1,Aw.DQ.ln⟩).offer 3).offer 31)
 byte {H k u} h h0 h1 _:=h.of rfl (fun j j0 j1=>by
  rw [DA _ h0 h1 j0];split
  ·rename_i q;subst q;exact⟨(Ft _ _).2.1,(Ft _ _).2.2.1⟩
  ·exact⟨rfl,rfl⟩) (h.Ow.set h0 h1 ((h.Ow k h0 h1).typed u))
 HZ {H k n} h h0 h1 _:=h.of rfl (fun j j0 j1=>by
  rw [DA _ h0 h1 j0];split
  ·rename_i q;subst q;exact⟨rfl,rfl⟩
  ·exact⟨rfl,rfl⟩) (h.Ow.set h0 h1 ((h.Ow k h0 h1).HZ n))
def Zero (H:AH):Prop:=∀ k,0≤k→k < 4→(H.at_ k).state=0→H.at_ k=default
theorem Zero.set {H:AH}(h:H.Zero){k:Int}(h0:0≤k)(h1:k < 4){s:Aw}(hs:s.state=0→s=default):(H.set k s).Zero:=fun j j0 j1=>by
 rw [DA _ h0 h1 j0];split
 ·exact hs
 ·exact h j j0 j1
theorem Zero.CH:Tm (fun _=>True) Zero where
 lines _ _ _ _ _:=trivial
 begun {H} h:=fun k h0 h1=>by
  rw [Gj h0 h1]
  intro e
  rw [h k h0 h1 e];rfl
 step {H X} h s:=by
  cases s with
  | told h0 h1 hs _=>exact h.set h0 h1 (fun e=>absurd ((GU _ _).1.symm.trans e) hs)
  | BZ h0 h1 hs=>exact h.set h0 h1 (fun e=>absurd ((I3 _).2.1.symm.trans e) hs)
  | free h0 h1 _=>exact h.set h0 h1 (fun _=>rfl)
  | @goes k w s es h0 h1 g=>
   have hs:s.state=0→s=default:=by
    cases g with
    | left _ _=>exact fun _=>rfl
    | Ql _ _=>exact fun e=>absurd (show(2:Int)=0 from e) (by decide)
    | dB _ hn _ _=>exact fun e=>absurd e hn
    | round=>exact h 0 (Int.le_refl 0) (by decide)
   intro j j0 j1
   rw [IB H h0 h1 _ _ _ j0 j1]
   intro e
   rw [(Aw.FL _ _).1] at e
   have e2:(if j=k then s else H.at_ j)=default:=by
    split at e
    ·rename_i q;rw [if_pos q];exact hs e
    ·rename_i q;rw [if_neg q];exact h j j0 j1 e
   rw [e2];exact N3 es
 next {H k q r} h h0 h1 hs _:=h.set h0 h1 (fun e=>absurd e hs)
 Kj {H k} h h0 h1 _:=h.set h0 h1 (fun e=>by rw [Fj,Fj] at e;exact absurd (show(1:Int)=0 from e) (by decide))
 byte {H k u} h h0 h1 hs:=h.set h0 h1 (fun e=>absurd ((Ft _ _).2.1.symm.trans e) hs)
 HZ {H k n} h h0 h1 hs:=h.set h0 h1 (fun e=>absurd e hs)
def Calm (H:AH):Prop:=∀ k,0≤k→k < 4→(H.at_ k).state≠0→(H.at_ k).Still
theorem UB (X:AH)(h:X.Hq)(a:Bk):(X.Dv a).1=X∨∃ Y:AH,Y.Hq∧(X.Dv a).1=Y.BZ:=
 JY (fun Z=>Z=X∨∃ Y:AH,Y.Hq∧Z=Y.BZ) (.inl rfl) (fun d=> .inr ⟨_,(h.turns 4 (Nat.le_refl 4)).steps (U:=fun _=>True) (KM _ d),rfl⟩)
  (fun k h0 h1=> .inr ⟨_,(h.set h0 h1 (((show({ (default:Aw) with state:=1,A0:=-1 }:Aw).Ok from⟨⟨show(0:Int)≤1 by decide,show(1:Int)≤2 by decide⟩,Aw.DQ.n,Aw.DQ.ring,Aw.DQ.s0,Aw.DQ.s1,Aw.DQ.ln⟩).offer 3).offer 31)).tell h0 h1 Hx,rfl⟩)
  (fun k u h0 h1=> .inr ⟨_,by
   have hs:=h.set h0 h1 ((h k h0 h1).typed u)
   exact(show(if decide (0 < (C5 (X.at_ k) u).2)=true then(X.set k (C5 (X.at_ k) u).1).tell k OG else X.set k (C5 (X.at_ k) u).1).Hq by
    split
    ·exact hs.tell h0 h1 OG
    ·exact hs),Hi X k u⟩)
  (fun k z h0 h1=> .inr ⟨_,h.set h0 h1 ((h k h0 h1).HZ z),rfl⟩) (fun k h0 h1=> .inr ⟨_,h.steps (U:=fun _=>True) (Gy X h0 h1),rfl⟩) a
theorem Calm.act {H:AH}(h:H.Calm)(ho:H.Hq)(a:Bk):(H.act a).1.Calm:=by
 unfold AH.act
 split
 ·exact h
 ·rcases UB H.begun ho.begun a with e | ⟨Y,hy,e⟩
  ·rw [e]
   intro k h0 h1
   rw [Gj h0 h1]
   exact fun hs=>(h k h0 h1 hs).heard
  ·rw [e]
   exact fun k h0 h1 hs=>Te hy h0 h1 hs
theorem Wn:AH.new.Home:=by
 have hb:∀ b:Int,2≤b→b≤5→(AH.new.w.AO.at b).here=true→False:=fun b b0 b1=>by
  have:b=2∨b=3∨b=4∨b=5:=by omega
  rcases this with e | e | e | e<;>subst e<;>decide
 have hs:∀ k,0≤k→k < 4→(AH.new.at_ k).state=2→False:=fun k h0 h1 e=>by
  rw [OX h0 h1] at e
  exact absurd (show(0:Int)=2 from e) (by decide)
 exact⟨AI.YO,Uy,Uw,fun k h0 h1 e=>(hs k h0 h1 e).elim,fun j k j0 j1 k0 k1 e=>(hs j j0 j1 e).elim,fun b b0 b1 e=>(hb b b0 b1 e).elim,fun b b0 b1 e=>(hb b b0 b1 e).elim,fun b c b0 b1 c0 c1 e=>(hb b b0 b1 e).elim⟩
theorem Wg:AH.new.Zero:=fun k h0 h1 _=>OX h0 h1
theorem Xv:AH.new.Calm:=fun k h0 h1 e=>absurd (by rw [OX h0 h1];rfl) e
structure JB (H:AH):Prop where
 home:H.Home
 zero:H.Zero
 calm:H.Calm
 live:H.Live
theorem W9:AH.new.JB:=⟨Wn,Wg,Xv,Lg⟩
theorem JB.act {H:AH}(h:H.JB)(a:Bk):(H.act a).1.JB:=⟨Home.CH.act h.home a,Zero.CH.act h.zero a,h.calm.act h.home.Ow a,h.live.act a⟩
theorem JB.run:∀(l:List Bk) {H:AH},H.JB→(H.run l).1.JB
 | [],_,h=>h
 | a :: r,_,h=>JB.run r (h.act a)
theorem JB.cut {H:AH}(h:H.JB){k:Int}(h0:0≤k)(h1:k < 4):(H.at_ k).pg.cut=false:=by
 by_cases e:(H.at_ k).state=0
 ·rw [h.zero k h0 h1 e];rfl
 ·exact(h.calm k h0 h1 e).cut
end AH
section
variable {V:AM} {ls:Vector BK 4} {ev:List Event} {k:Int}
variable (hF:(A7 V ls ev).JB)
include hF
end
end Go.Ing
/- What one does leaves the others' pages alone: plain laws. -/
namespace Go.Ing
open Go
namespace AH
section
variable {H X Y:AH}
theorem Xi {k:Int}(k0:0≤k)(k1:k < 4)(hs:∀ i,0≤i→i < 4→i≠k→(Y.at_ i).state≠0→(Y.at_ i).Still):∀ n:Nat,n≤4→(Y.B8 n).2=false∨((Y.B8 n).1.at_ k).state=0
 | 0,_=> .inl rfl
 | n+1,hn=>by
  rcases Xi k0 k1 hs n (by omega) with ih | ih
  ·have hc:=(Hp Y n (by omega) ih).2.2.2 n (by omega) (by omega)
   have hk:=hc.1
   rw [if_neg (by omega)] at hk
   unfold B8
   split
   ·exact .inl ih
   ·rename_i c
    rw [hk] at c
    have c':(Y.at_ n).state≠0:=by simpa using c
    split
    ·rename_i c2
     rw [hk] at c2
     by_cases e:(n:Int)=k
     ·right
      show(AH.at_ (AH.leave _ _) k).state=0
      rw [Jr _ (by omega) (by omega) k0 k1,if_pos e.symm];rfl
     ·have:=hs n (by omega) (by omega) e c'
      rw [this.fl,this.cut] at c2
      cases c2
    ·exact .inl ih
  ·right
   unfold B8
   split
   ·exact ih
   ·rename_i c
    have c':((Y.B8 n).1.at_ n).state≠0:=by simpa using c
    have e:k≠(n:Int):=fun e=>c' (by rw [← e];exact ih)
    have hf:(AH.at_ (AH.set (Y.B8 n).1 n ((Y.B8 n).1.at_ n).BZ) k).state=0:=by rw [DA _ (by omega) (by omega) k0,if_neg e];exact ih
    split
    ·show(AH.at_ (AH.leave _ _) k).state=0
     rw [Jr _ (by omega) (by omega) k0 k1,if_neg e,(Aw.FL _ _).1];exact hf
    ·exact hf
theorem SH (hs:∀ i,0≤i→i < 4→(Y.at_ i).state≠0→(Y.at_ i).BZ.pg.cut=false):∀ n:Nat,n≤4→(Y.B8 n).2=false
 | 0,_=>rfl
 | n+1,hn=>by
  have ih:=SH hs n (by omega)
  have hk:=((Hp Y n (by omega) ih).2.2.2 n (by omega) (by omega)).1
  rw [if_neg (by omega)] at hk
  unfold B8
  split
  ·exact ih
  ·rename_i c
   rw [hk] at c
   split
   ·rename_i c2
    rw [hk,hs n (by omega) (by omega) (by simpa using c)] at c2
    cases c2
   ·exact ih
theorem QE (h:(Y.B8 4).2=false){i:Int}(i0:0≤i)(i1:i < 4)(hs:(Y.at_ i).state≠0→(Y.at_ i).Still):Y.BZ.at_ i=Y.at_ i:=by
 have e:Y.BZ=(Y.B8 4).1:=by
  show(if (!(Y.B8 4).2)=true then(Y.B8 4).1 else _)=_
  rw [h];rfl
 rw [e,((Hp Y 4 (Nat.le_refl 4) h).2.2.2 i i0 i1).1]
 split
 ·rename_i c;exact(hs c.2).fl
 ·rfl
theorem LQ:∀(n:Nat) (Z:AH) {k:Int},0≤k→k < 4→(Z.at_ k).state=0→((Z.Fu n).at_ k).state=0
 | 0,_,_,_,_,h=>h
 | n+1,Z,k,k0,k1,h=>by
  have h1:=JV Z 4 (Nat.le_refl 4) k k0 k1 h
  unfold Fu
  split
  ·exact h1
  ·exact LQ n _ k0 k1 h1
theorem TM {k:Int}(k0:0≤k)(k1:k < 4)(hs:∀ i,0≤i→i < 4→i≠k→(Y.at_ i).state≠0→(Y.at_ i).Still):(Y.BZ.at_ k).state=0∨∀ i,0≤i→i < 4→i≠k→Y.BZ.at_ i=Y.at_ i:=by
 rcases Xi k0 k1 hs 4 (Nat.le_refl 4) with h | h
 ·exact .inr fun i i0 i1 e=>QE h i0 i1 (hs i i0 i1 e)
 ·left
  show((Y.Fu 5).at_ k).state=0
  unfold Fu
  split
  ·exact h
  ·exact LQ 4 _ k0 k1 h
theorem Xl:(((({ (default:Aw) with state:=1,A0:=-1 }:Aw).offer 3).offer 31).tell Hx).BZ.pg.cut=false:=by decide
theorem TL {Z:AH}(hst:∀ i,0≤i→i < 4→(Z.at_ i).state≠0→(Z.at_ i).Still)(a:Bk)(hp:a.kind≠5) :
  (0≤a.BB∧a.BB < 4∧(Z.at_ a.BB).state≠0∧((Z.Dv a).1.at_ a.BB).state=0)∨∀ i,0≤i→i < 4→i≠a.BB→(Z.Dv a).1.at_ i=Z.at_ i:=by
 unfold AH.Dv
 split
 ·rename_i c;exact absurd (of_decide_eq_true c) hp
 ·split
  ·exact .inr fun _ _ _ _=>rfl
  ·split
   ·exact .inr fun _ _ _ _=>rfl
   ·rename_i c
    have hs:0≤a.BB∧a.BB < 4:=by simp only [Bool.or_eq_true,decide_eq_true_eq] at c;omega
    have other:∀(s:Aw),∀ i,0≤i→i < 4→i≠a.BB→(Z.set a.BB s).at_ i=Z.at_ i:=fun s i i0 _ e=>by rw [DA _ hs.1 hs.2 i0,if_neg e]
    have go:∀(s:Aw) ,(Z.at_ a.BB).state≠0→(0≤a.BB∧a.BB < 4∧(Z.at_ a.BB).state≠0∧((Z.set a.BB s).BZ.at_ a.BB).state=0)∨∀ i,0≤i→i < 4→i≠a.BB→(Z.set a.BB s).BZ.at_ i=Z.at_ i:=fun s hz=>by
     rcases TM (Y:=Z.set a.BB s) hs.1 hs.2 (fun i i0 i1 e=>by rw [other s i i0 i1 e];exact hst i i0 i1) with h | h
     ·exact .inl ⟨hs.1,hs.2,hz,h⟩
     ·exact .inr fun i i0 i1 e=>(h i i0 i1 e).trans (other s i i0 i1 e)
    split
    ·exact .inr fun _ _ _ _=>rfl
    ·rename_i c2
     have c2':decide ((Z.at_ a.BB).state=0)=decide (a.kind=1):=by simpa using c2
     split
     ·rename_i c3
      right
      intro i i0 i1 e
      dsimp only
      unfold AH.Kj AH.tell
      rw [DA _ hs.1 hs.2 hs.1,if_pos rfl,show ∀ s t,(Z.set a.BB s).set a.BB t=Z.set a.BB t from fun s t=>by unfold AH.set;rw [Vector.EE]]
      refine(QE (SH (fun j j0 j1 hj=>?_) 4 (Nat.le_refl 4)) i0 i1 ?_).trans (other _ i i0 i1 e)
      ·rw [DA _ hs.1 hs.2 j0] at hj ⊢
       split
       ·exact Xl
       ·rename_i q
        rw [if_neg q] at hj
        have:=hst j j0 j1 hj
        rw [this.fl];exact this.cut
      ·rw [other _ i i0 i1 e];exact hst i i0 i1
     ·rename_i c3
      have hz:(Z.at_ a.BB).state≠0:=fun e=>c3 (by rw [← c2'];exact decide_eq_true e)
      split
      ·dsimp only
       rw [Hi]
       split
       ·unfold AH.tell
        rw [show ∀ s t,(Z.set a.BB s).set a.BB t=Z.set a.BB t from fun s t=>by unfold AH.set;rw [Vector.EE]]
        exact go _ hz
       ·exact go _ hz
      ·split
       ·exact go _ hz
       ·left
        refine⟨hs.1,hs.2,hz,?_⟩
        have h1:((Z.leave a.BB).at_ a.BB).state=0:=by rw [Jr _ hs.1 hs.2 hs.1 hs.2,if_pos rfl];rfl
        have h2:=LQ 5 _ hs.1 hs.2 h1
        dsimp only
        unfold AH.BZ
        exact h2
theorem alone {H:AH}(h:H.JB)(c:H.CH < 400)(a:Bk)(hp:a.kind≠5) :
  (0≤a.BB∧a.BB < 4∧(H.at_ a.BB).state≠0∧((H.act a).1.at_ a.BB).state=0)∨∀ i,0≤i→i < 4→i≠a.BB→(H.act a).1.at_ i={ H.at_ i with told:= [] }:=by
 rw [GO (decide_eq_false (by omega)) a]
 rcases TL (Z:=H.begun) (fun i i0 i1 hs=>by
  rw [Gj i0 i1] at hs ⊢
  exact(h.calm i i0 i1 hs).heard) a hp with ⟨a0,a1,a2,a3⟩ | h2
 ·rw [Gj a0 a1] at a2
  exact .inl ⟨a0,a1,a2,a3⟩
 ·exact .inr fun i i0 i1 e=>by rw [h2 i i0 i1 e,Gj i0 i1]
end
end AH
section
variable {w0:World} {M:List Nat} {L rs:List Ad}
theorem St.ZH {w:World}{r s:Ad}(h:St w0 M w (r :: s :: Ad.Da rs :: L)):St w0 M w (Ad.Da (r :: s :: rs) :: L):=by
 have h1:St w0 M w (Ad.Da rs :: r :: s :: L):=h.perm (List.perm_middle (l₁:= [r,s]) (l₂:=L) (a:=Ad.Da rs))
 have h2:=h1.XN
 have h3:St w0 M w ((r :: s :: rs)++L):=h2.perm (by
  rw [show rs++r :: s :: L=rs ++ [r,s]++L by simp,show(r :: s :: rs)++L = [r,s]++rs++L by simp]
  exact List.Perm.append_right L List.perm_append_comm)
 exact h3.XA
theorem Kn.Da {h:Hd}{T sz:Nat}{cs:List Value}(hm:Ad.own h T sz cs∈rs)(hp:Ad.Da rs∈L):Kn w0 M L h T sz cs:=fun _ hS=>Ad.RQ ((hS.ok _ hp).1 _ hm)
theorem Xt {n:Nat}{P:Program}{c:Code}{Q:Exit→Act→World→Prop}{F:List (Nat × Value)}(h:G P n w0 M c Q F (Ad.Da [] :: L)):G P n w0 M c Q F L:=fun a w hF hS=>h a w hF (hS.U8 (fun _ hr=>by cases hr))
theorem Sx {n:Nat}{e:Exit}{Q:Exit→Act→World→Prop}{F:List (Nat × Value)}{r s:Ad}(h:GQ n w0 M Q e F (Ad.Da (r :: s :: rs) :: L)):GQ n w0 M Q e F (r :: s :: Ad.Da rs :: L):=fun a w hF hS=>h a w hF hS.ZH
end
instance:Inhabited Ap:=⟨⟨⟨none,0,0⟩,0,false,[],false⟩⟩
instance:Inhabited A6:=⟨⟨[],false,false,⟨none,0,0⟩⟩⟩
structure KeptAt (T:Nat)(s:A3)(l:BK)(p:Ap)(q:A6)(z:Int)(rs:List Ad):Prop where
 pm:Ad.own p.wait T 1 (l.wait.flatMap A8)∈rs
 qm:Ad.own q.queue T 1 (l.queue.flatMap A8)∈rs
 p1:p.shown=s.out.shown
 p2:p.Bv=s.out.Bv
 p3:p.ring=s.out.ring
 p4:p.cut=s.out.cut
 q1:q.now=s.D4.now
 q2:q.Ci=s.D4.Ci
 q3:q.ret=s.D4.ret
 st:z=(DS s).1
def Kept (T:Nat)(V:AM)(ls:Vector BK 4)(P:Vector Ap 4)(Q:Vector A6 4)(S:Vector Int 4)(rs:List Ad)(k:Int):Prop:=∀ j:Int,0≤j→j < k→KeptAt T (V.As.at j) (ls.at j) (P.at j) (Q.at j) (S.at j) rs
theorem Kept.start (T:Nat)(V:AM)(ls:Vector BK 4)(P:Vector Ap 4)(Q:Vector A6 4)(S:Vector Int 4)(rs:List Ad):Kept T V ls P Q S rs 0:=fun j j0 j1=>by omega
theorem Kept.next {T:Nat}{V:AM}{ls:Vector BK 4}{P:Vector Ap 4}{Q:Vector A6 4}{S:Vector Int 4}{rs:List Ad}{k z:Int}{p:Ap}{q:A6}{a b:Ad}(h:Kept T V ls P Q S rs k)(k0:0≤k)(k1:k < 4)(hp:KeptAt T (V.As.at k) (ls.at k) p q z (a :: b :: rs)):Kept T V ls (P.put k p) (Q.put k q) (S.put k z) (a :: b :: rs) (k+1):=fun j j0 j1=>by
 rw [HC _ _ _ _ k0 k1 j0,HC _ _ _ _ k0 k1 j0,HC _ _ _ _ k0 k1 j0]
 split
 ·rename_i e;subst e;exact hp
 ·have e:=h j j0 (by omega)
  exact⟨List.mem_cons_of_mem _ (List.mem_cons_of_mem _ e.pm),List.mem_cons_of_mem _ (List.mem_cons_of_mem _ e.qm),e.p1,e.p2,e.p3,e.p4,e.q1,e.q2,e.q3,e.st⟩
def UO (V W:AM)(ls ms:Vector BK 4)(z:Int):Prop:=∀ i:Int,0≤i→i < 4→i≠z→(DS (W.As.at i)).1=(DS (V.As.at i)).1∧(W.As.at i).out.shown=(V.As.at i).out.shown∧(W.As.at i).out.Bv=(V.As.at i).out.Bv∧(W.As.at i).out.ring=(V.As.at i).out.ring∧(W.As.at i).out.cut=(V.As.at i).out.cut∧(W.As.at i).D4.now=(V.As.at i).D4.now∧(W.As.at i).D4.Ci=(V.As.at i).D4.Ci∧(W.As.at i).D4.ret=(V.As.at i).D4.ret∧(ms.at i).wait=(ls.at i).wait∧(ms.at i).queue=(ls.at i).queue
theorem Su {V W:AM}{ls ms:Vector BK 4}{ev fv:List Event}{a:Bk}(h:(A7 V ls ev).JB)(c:(A7 V ls ev).CH < 400)(e:A7 W ms fv=((A7 V ls ev).act a).1)(hp:a.kind≠5)(hn:¬ (0≤a.BB∧a.BB < 4∧(DS (V.As.at a.BB)).1≠0∧(DS (W.As.at a.BB)).1=0)):UO V W ls ms a.BB:=by
 rcases AH.alone h c a hp with ⟨a0,a1,a2,a3⟩ | h2
 ·exfalso
  refine hn ⟨a0,a1,?_,?_⟩
  ·rw [Ca _ _ _ a0 a1] at a2
   intro q
   unfold DS at q
   split at q
   ·exact absurd (show(2:Int)=0 from q) (by decide)
   ·exact a2 q
  ·rw [← e,Ca _ _ _ a0 a1] at a3
   unfold DS
   rw [if_neg (by rw [decide_eq_true_eq];intro d;exact absurd (a3.symm.trans d) (by decide))]
   exact a3
 ·intro i i0 i1 hi
  have h3:=h2 i i0 i1 hi
  rw [← e,Ca _ _ _ i0 i1,Ca _ _ _ i0 i1] at h3
  have f1:=congrArg Aw.state h3
  have f2:=congrArg Aw.A0 h3
  have f3:=congrArg Aw.pg h3
  refine⟨?_,congrArg Page.Pg.shown f3,congrArg Page.Pg.Bv f3,congrArg Page.Pg.ring f3,congrArg Page.Pg.cut f3,congrArg Aw.now h3,congrArg Aw.Ci h3,congrArg Aw.ret h3,congrArg Aw.wait h3,congrArg Aw.queue h3⟩
  unfold DS
  rw [show(W.As.at i).state=(V.As.at i).state from f1]
  split<;>rfl
theorem AH.Mu (l:List Bk):(AH.Nc l).JB:=AH.JB.run _ AH.W9
theorem XZ {z:Int}{p q:Prop}(h:(decide (0≤z) && decide (z < 4))=false):¬ (0≤z∧z < 4∧p∧q):=fun⟨a,b,_⟩=>by
 rw [decide_eq_true a,decide_eq_true b] at h;cases h
theorem X5 {z x y w:Int}(e:x=y)(h:(decide (w=0) && !decide (x=0))=false):¬ (0≤z∧z < 4∧y≠0∧w=0):=fun⟨_,_,a,b⟩=>by
 rw [decide_eq_true b,e,decide_eq_false a] at h;cases h
theorem Wa {X:Prop}{b:Bool}(h1:b=true→X)(h2:b=false→X):X:=by
 cases b
 ·exact h2 rfl
 ·exact h1 rfl
section
variable {T:Nat} {V W:AM} {ls ms:Vector BK 4} {i z x:Int} {p:Ap} {q:A6} {rs:List Ad} (h:UO V W ls ms z) (hk:KeptAt T (V.As.at i) (ls.at i) p q x rs) (i0:0≤i) (i1:i < 4) (hi:(!decide (i=z))=true)
include h hk i0 i1 hi
theorem U9:(!decide ((DS (W.As.at i)).1=x))=false:=by
 have:=(h i i0 i1 (by simpa using hi)).1
 rw [this,hk.st,decide_eq_true rfl];rfl
theorem Uc:(!(decide ((ls.at i).wait=(ms.at i).wait) && decide (p.shown=(W.As.at i).out.shown) && (p.Bv == (W.As.at i).out.Bv) && decide (p.ring=(W.As.at i).out.ring) && (p.cut == (W.As.at i).out.cut)))=false:=by
 obtain⟨_,a1,a2,a3,a4,_,_,_,a8,_⟩:=h i i0 i1 (by simpa using hi)
 rw [a1,a2,a3,a4,a8,hk.p1,hk.p2,hk.p3,hk.p4,decide_eq_true rfl,decide_eq_true rfl,decide_eq_true rfl,beq_self_eq_true,beq_self_eq_true];rfl
theorem UH:(!(decide (q.now=(W.As.at i).D4.now) && (q.Ci == (W.As.at i).D4.Ci) && (q.ret == (W.As.at i).D4.ret) && decide ((ls.at i).queue=(ms.at i).queue)))=false:=by
 obtain⟨_,_,_,_,_,a5,a6,a7,_,a9⟩:=h i i0 i1 (by simpa using hi)
 rw [a5,a6,a7,a9,hk.q1,hk.q2,hk.q3,decide_eq_true rfl,decide_eq_true rfl,beq_self_eq_true,beq_self_eq_true];rfl
end
end Go.Ing

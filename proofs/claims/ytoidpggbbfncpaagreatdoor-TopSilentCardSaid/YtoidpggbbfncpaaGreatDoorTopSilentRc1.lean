/- What the functions that the law of this seat reaches compute, and the plain laws of it. No condition. -/
import Derived.Test.YtoidpggbbfncpaaGreatDoorTopSilentEc3
import Derived.Test.YtoidpggbbfncpaaGreatDoorTopSilentRa1
import Derived.Test.YtoidpggbbfncpaaGreatDoorTopSilentRb1
set_option linter.unusedSimpArgs false
set_option linter.unusedVariables false
/- Who is far perceives nothing: plain laws. -/
namespace Go.Ing
open Go
namespace AI
theorem Kd (w:AI)(e:Event):∀ n:Nat,(w.H2 e n).kind=e.kind∧(w.H2 e n).Dj=e.Dj∧(w.H2 e n).room=e.room∧(w.H2 e n).other=e.other∧(w.H2 e n).n=e.n∧(w.H2 e n).HZ=e.HZ∧(w.H2 e n).Ea=e.Ea∧(w.H2 e n).Bw=e.Bw∧(w.H2 e n).text=e.text
 | 0=>⟨rfl,rfl,rfl,rfl,rfl,rfl,rfl,rfl,rfl⟩
 | k+1=>Kd w e k
end AI
namespace AF
section
variable {b c rc:Int} {S:Int→Prop} {T:AF}
section
variable (c0:0≤c) (c6:c < 6) (hn:c≠b)
include c0 c6 hn
end
end
end AF
end Go.Ing
/- What others are told is not empty: plain laws. -/
namespace Go.Ing
open Go
namespace AI
end AI
theorem Fm {α:Type}{d:α}{xs:List α}{i:Nat}(h:i < xs.length):xs.getD i d∈xs:=by
 rw [List.getD_eq_getElem?_getD,List.getElem?_eq_getElem h]
 exact List.getElem_mem h
namespace AF
theorem NB:∀(l:List Int) (T:AF),(T.DI l).out.length=T.out.length+l.length
 | [],T=>rfl
 | i :: r,T=>by rw [DI,NB r,Fk];show T.out.length+1+r.length=_;rw [List.length_cons];omega
theorem Nu (v to:Int):∀(l:List Int) (T:AF),(T.Eu v to l).out.length≤T.out.length+l.length
 | [],T=>Nat.le_refl _
 | i :: r,T=>by
  have h1:=Nu v to r (T.Cu v to i)
  have h2:=T.O3 v to i
  rw [Eu,List.length_cons];omega
theorem SH (T:AF){l:List Int}(hl:l.length≤9)(o:Order):(T.Ku l o).out.length≤T.out.length+10:=by
 have h:=(Ed T.w l o.nth o.name o.Bn).length_le
 unfold Ku
 rw [NB]
 split
 ·rw [CI];omega
 ·omega
theorem Zn (T:AF)(o:Order):(T.get o).out.length≤T.out.length+11:=by
 have hb:=T.IF o.second
 unfold get
 split
 ·split
  ·omega
  ·have:=SH (T.box o.second).1 (AI.IX (T.box o.second).1.w 2 (T.box o.second).2.1) o
   omega
 ·have:=SH T T.Ix o
  omega
theorem V7 (T:AF)(o:Order):(T.FM o).out.length≤T.out.length+11:=by
 have hb:=T.QP o
 unfold FM
 split
 ·omega
 ·unfold SG
  have h:=(Ed (T.Cx o).1.w (T.Cx o).1.own o.nth o.name o.Bn).length_le
  have h9:=(T.Cx o).1.KW
  refine Nat.le_trans (Nu _ _ _ _) ?_
  split
  ·rw [CI];omega
  ·omega
theorem V5 (T:AF)(o:Order):(T.FC o).out.length≤T.out.length+2:=by
 unfold FC
 generalize (if (!decide (o.nth=1) || o.Bn)=true then [] else o.name)=nm
 have hs:=T.HT nm
 split
 ·omega
 ·refine Nat.le_trans (Nat.le_of_eq (CI _ _)) ?_
  split
  ·show(T.BA nm).1.out.length+1≤_;omega
  ·show(T.BA nm).1.out.length+1≤_;omega
theorem Nw (T:AF)(first:Bool)(i:Int)(v:Bool)(k:Int):(T.before first i v k).out.length=T.out.length+1:=by
 unfold before
 split
 ·rw [Fk];rfl
 ·exact Fk T k i
theorem Y3 (T:AF)(o:Order):(T.set o).out.length≤T.out.length+1:=by
 unfold set
 split
 ·unfold G7
  split
  ·rw [CI];exact Nat.le_refl _
  ·split
   ·rw [CI];exact Nat.le_refl _
   ·refine Nat.le_trans (Nat.le_of_eq (Cf _ _)) ?_
    split<;>exact Nat.le_refl _
 ·split
  ·rw [CI];exact Nat.le_refl _
  ·split
   ·rw [CI];exact Nat.le_refl _
   ·split
    ·exact Nat.le_of_eq (Nw T _ _ _ _)
    ·exact Nat.le_of_eq (Nw T _ _ _ _)
theorem XE (T:AF)(d:Int):(T.walk d).out.length≤T.out.length+11:=by
 unfold walk
 split
 ·rw [CI];omega
 ·split
  ·rw [CI];omega
  ·refine Nat.le_trans (Jz _).2.2 ?_
   rw [Cf]
   show(T.out ++ [_]).length+1+9≤_
   simp
theorem Uc (T:AF)(o:Order):(T.act o).out.length≤T.out.length+11:=by
 unfold act
 split
 ·exact T.XE _
 ·split
  ·exact Nat.le_trans (T.Jz).2.2 (by omega)
  ·split
   ·rw [(T.Hk _ _).2.2];omega
   ·split
    ·rw [Cf];omega
    ·split
     ·rw [(T.PW).2.1,MS];omega
     ·split
      ·exact Nat.le_trans (T.V5 o) (by omega)
      ·split
       ·exact T.Zn o
       ·split
        ·exact T.V7 o
        ·exact Nat.le_trans (T.Y3 o) (by omega)
theorem W8.len {X:AI}{b:Int}{o:Order}(h:W8 X b o):(Dr X b o).2.1.length≤11:=by rw [h.out];exact Uc ⟨X,b,[]⟩ o
end AF
end Go.Ing
/- A round of all fights: plain functions and laws. -/
namespace Go.Ing
open Go
theorem Cw (d:Int):-2≤d.tmod 3∧d.tmod 3≤2:=by
 have h1:=Int.tmod_lt_of_pos d (show(0:Int) < 3 by decide)
 have h2:=Int.tmod_lt_of_pos (-d) (show(0:Int) < 3 by decide)
 rw [Int.neg_tmod] at h2
 omega
namespace AF
def Fc (w:AI)(b:Int):AF:=⟨w.C7 b { w.AN.at b with BP:=1 },b,[]⟩
def GJ (w:AI)(b:Int):AF:=((Fc w b).kind 15).FH
def JJ (w:AI)(b:Int):AF:=(GJ w b).DX b { (GJ w b).w.AN.at b with room:=0,BP:=10 }
def H5 (w:AI)(b:Int):AF:=if decide (b < 2)=true then(GJ w b).DX b default else((JJ w b).kind 17).look
def ML (draw b:Int):Int:=1+(draw.tmod 3+3+b).tmod 3
def CC (w:AI)(b B2 n:Int):AF:=(AF.BS ⟨w,b,[]⟩ { F8 14 with other:=B2,n:=n }).DX B2 { w.AN.at B2 with BP:=max 0 ((w.AN.at B2).BP - n) }
def EN (draw b:Int)(s:AI × List Event):AI × List Event:=
 if (!(s.1.AN.at b).here || decide ((s.1.AN.at b).B2=0))=true then s
 else if (!(s.1.AN.at ((s.1.AN.at b).B2 - 1)).here || !decide ((s.1.AN.at ((s.1.AN.at b).B2 - 1)).room=(s.1.AN.at b).room))=true then(s.1.C7 b { s.1.AN.at b with B2:=0 },s.2)
 else if decide (((CC s.1 b ((s.1.AN.at b).B2 - 1) (ML draw b)).w.AN.at ((s.1.AN.at b).B2 - 1)).BP=0)=true then((H5 (CC s.1 b ((s.1.AN.at b).B2 - 1) (ML draw b)).w ((s.1.AN.at b).B2 - 1)).w,(s.2++(CC s.1 b ((s.1.AN.at b).B2 - 1) (ML draw b)).out)++(H5 (CC s.1 b ((s.1.AN.at b).B2 - 1) (ML draw b)).w ((s.1.AN.at b).B2 - 1)).out)
 else((CC s.1 b ((s.1.AN.at b).B2 - 1) (ML draw b)).w,s.2++(CC s.1 b ((s.1.AN.at b).B2 - 1) (ML draw b)).out)
def Dg (X:AI)(draw:Int):Nat→AI × List Event
 | 0=>(X,[])
 | k+1=>EN draw k (Dg X draw k)
def CD (X:AI)(draw:Int):AI × List Event × Int:=if (!X.Bk)=true then(X,[],2) else((Dg X draw 6).1,(Dg X draw 6).2,0)
theorem H9 {X:AI}{draw k:Int}(h:0≤k):Dg X draw (k+1).toNat=EN draw k (Dg X draw k.toNat):=by
 obtain⟨m,rfl⟩:=Int.eq_ofNat_of_zero_le h
 rfl
theorem L8 {draw b:Int}(h:0≤b):1≤ML draw b∧ML draw b≤3:=by
 unfold ML
 have:=Cw draw
 have h2:0≤draw.tmod 3+3+b:=by omega
 have h3:=Int.tmod_nonneg (a:=draw.tmod 3+3+b) 3 h2
 have h4:=Int.tmod_lt_of_pos (draw.tmod 3+3+b) (show(0:Int) < 3 by decide)
 omega
structure ZY (x:An):Prop where
 room:0≤x.room∧x.room < 6
 BP:0≤x.BP∧x.BP≤10
 B2:0≤x.B2∧x.B2≤6
 off:x.here=false→x.B2=0
 alive:x.here=decide (0 < x.BP)
theorem dE {x:An}(h:AI.Dq x=false):ZY x:=by
 simp only [AI.Dq,Bool.or_eq_false_iff,decide_eq_false_iff_not,Bool.and_eq_false_iff,Bool.not_eq_false',bne_eq_false_iff_eq] at h
 obtain⟨⟨⟨⟨⟨⟨⟨q1,q2⟩,q3⟩,q4⟩,q5⟩,q6⟩,q7⟩,q8⟩:=h
 refine⟨by omega,by omega,by omega,fun e=>?_,q8⟩
 rcases q7 with q | q
 ·rw [e] at q;cases q
 ·exact of_decide_eq_true q
theorem cC {x:An}(h:ZY x):AI.Dq x=false:=by
 have h1:=h.room;have h2:=h.BP;have h3:=h.B2
 simp only [AI.Dq,Bool.or_eq_false_iff,decide_eq_false_iff_not,Bool.and_eq_false_iff,Bool.not_eq_false',bne_eq_false_iff_eq]
 refine⟨⟨⟨⟨⟨⟨⟨by omega,by omega⟩,by omega⟩,by omega⟩,by omega⟩,by omega⟩,?_⟩,h.alive⟩
 cases hh:x.here with
 | true=>exact .inl rfl
 | false=>exact .inr (decide_eq_true (h.off hh))
theorem HN {X:AI}(h:X.Bk=true){b:Int}(h0:0≤b)(h6:b < 6):ZY (X.AN.at b):=dE (AI.Fa h h0 h6)
theorem Jr {X:AI}(h:X.Bk=true){b:Int}(h0:0≤b)(h6:b < 6){x:An}(hx:ZY x)(hh:(X.AN.at b).here=true→x.here=true):(X.C7 b x).Bk=true:=
 AI.Iz h h0 h6 (cC hx) fun i i0 i9 e1 e2=>by
  rcases (AI.Hw h i0 i9).Ca with ⟨a,_⟩ | ⟨_,_,a⟩ | ⟨a,_⟩
  ·omega
  ·rw [e2] at a;exact hh a
  ·omega
theorem Vi (X:AI)(b:Int)(x y:An):(X.C7 b x).C7 b y=X.C7 b y:=by
 unfold AI.C7
 show({ X with AN:=(X.AN.put b x).put b y }:AI)=_
 rw [Vector.Ep]
section
variable {w:AI} {b B2 n:Int} (hg:w.Bk=true) (hw:w.DL) (f0:0≤B2) (f6:B2 < 6) (hh:(w.AN.at B2).here=true)
include hg hw f0 f6 hh
theorem Ld:(Fc (CC w b B2 n).w B2).Fit:=by
 have e:(CC w b B2 n).w.C7 B2 { (CC w b B2 n).w.AN.at B2 with BP:=1 }=w.C7 B2 { w.AN.at B2 with BP:=1 }:=by
  show(w.C7 B2 _).C7 B2 { (w.C7 B2 _).AN.at B2 with BP:=1 }=_
  rw [Vi,AI.EO f0 f6]
 have k:=HN hg f0 f6
 refine⟨⟨f0,f6⟩,?_,?_,?_⟩
 ·show((CC w b B2 n).w.C7 B2 _).DL
  rw [e];exact Ev hw (hw.be B2)
 ·show((CC w b B2 n).w.C7 B2 _).Bk=true
  rw [e]
  exact Jr hg f0 f6 ⟨k.room,⟨show(0:Int)≤1 by decide,show(1:Int)≤10 by decide⟩,k.B2,k.off,by rw [show({ w.AN.at B2 with BP:=1 }:An).here=true from hh];rfl⟩ fun _=>hh
 ·show(((CC w b B2 n).w.C7 B2 _).AN.at B2).here=true
  rw [e,AI.EO f0 f6];exact hh
theorem Sx (hn:0 < (w.AN.at B2).BP - n)(h1:0≤n):(CC w b B2 n).w.Bk=true∧(CC w b B2 n).w.DL:=by
 have k:=HN hg f0 f6
 have hk:=k.BP
 refine⟨Jr hg f0 f6 ⟨k.room,⟨?_,?_⟩,k.B2,k.off,?_⟩ fun _=>hh,Ev hw (hw.be B2)⟩
 ·show 0≤max 0 ((w.AN.at B2).BP - n);omega
 ·show max 0 ((w.AN.at B2).BP - n)≤10;omega
 ·show(w.AN.at B2).here=decide (0 < max 0 ((w.AN.at B2).BP - n))
  rw [hh,decide_eq_true (by omega)]
end
theorem J4 (w:AI)(b:Int):(GJ w b).b=b∧(GJ w b).out=((Fc w b).kind 15).out:=Rg ((Fc w b).kind 15)
theorem RF (w:AI)(b:Int):(JJ w b).b=b∧(JJ w b).out=((Fc w b).kind 15).out∧(JJ w b).w=(GJ w b).w.C7 b { (GJ w b).w.AN.at b with room:=0,BP:=10 }:=by
 have h:=J4 w b
 unfold JJ
 rw [(DD _ _ _).1,(DD _ _ _).2.1,(DD _ _ _).2.2]
 exact⟨h.1,h.2,rfl⟩
theorem Zh (D:AI){b:Int}(hb:0≤b∧b < 6):({ D with AN:=(D.AN.put b { D.AN.at b with room:=0 }).put b { (D.AN.put b { D.AN.at b with room:=0 }).at b with BP:=10 } }:AI)=D.C7 b { D.AN.at b with room:=0,BP:=10 }:=by
 rw [Vector.CG hb.1 hb.2,Vector.Ep];rfl
theorem VG {X F:AI}{b:Int}(h:F=((Fc X b).kind 15).FH.w)(x:An):(GJ X b).DX b x=⟨F.C7 b x,b,((Fc X b).kind 15).out⟩:=by
 subst h
 have e:=J4 X b
 have h1:=DD (GJ X b) b x
 cases hT:(GJ X b).DX b x with
 | mk w' b' o'=>
  rw [hT] at h1
  obtain⟨q1,q2,q3⟩:=h1
  simp only at q1 q2 q3
  rw [q1,q2,q3,e.1,e.2]
  rfl
theorem Yy {X F:AI}{b:Int}(h:F=((Fc X b).kind 15).FH.w):JJ X b=⟨F.C7 b { F.AN.at b with room:=0,BP:=10 },b,((Fc X b).kind 15).out⟩:=by
 have h':(GJ X b).w=F:=h.symm
 unfold JJ
 rw [h',VG h]
theorem RE {w:AI}{b:Int}(h:(Fc w b).Fit):DH (Fc w b) (GJ w b)∧∀ j,0≤j→j < 9→¬ (((GJ w b).w.AP.at j).Ca=1∧((GJ w b).w.AP.at j).at_=b):=by
 have g1:DH (Fc w b) ((Fc w b).kind 15):=h.goes.Em rfl rfl
 obtain⟨g2,k⟩:=QU g1.fit
 exact⟨g1.trans g2,k⟩
theorem S2 {w:AI}{b:Int}(h:(Fc w b).Fit):(JJ w b).Fit:=by
 have g:=(RE h).1.fit
 have hb:0≤b∧b < 6:=h.b
 have e:=RF w b
 have eb:=(J4 w b).1
 have gb:=g.b
 have gh:=g.here
 rw [eb] at gb gh
 have k:=HN g.gd hb.1 hb.2
 have gbr:=g.br
 have ggd:=g.gd
 obtain⟨e1,_,e3⟩:=e
 generalize hD:(GJ w b).w=D at *
 have hx:(D.C7 b { D.AN.at b with room:=0,BP:=10 }).Bk=true:=Jr ggd hb.1 hb.2 ⟨⟨Int.le_refl _,show(0:Int) < 6 by decide⟩,⟨show(0:Int)≤10 by decide,show(10:Int)≤10 by decide⟩,k.B2,k.off,gh⟩ fun _=>gh
 have hy:(D.C7 b { D.AN.at b with room:=0,BP:=10 }).DL:=Ev gbr (gbr.be b)
 have hz:((D.C7 b { D.AN.at b with room:=0,BP:=10 }).AN.at b).here=true:=by rw [AI.EO hb.1 hb.2];exact gh
 exact⟨by rw [e1];exact hb,by rw [e3];exact hy,by rw [e3];exact hx,by rw [e1,e3];exact hz⟩
theorem P1 {w:AI}{b:Int}(h:(Fc w b).Fit):(H5 w b).w.Bk=true∧(H5 w b).w.DL∧(H5 w b).out.length≤12:=by
 have hb:0≤b∧b < 6:=h.b
 obtain⟨g,hk⟩:=RE h
 unfold H5
 split
 ·rw [(DD _ _ _).2.1,(DD _ _ _).2.2]
  refine⟨AI.Iz (X:=(GJ w b).w) g.fit.gd hb.1 hb.2 (by decide) fun i i0 i9 e1 e2=>absurd ⟨e1,e2⟩ (hk i i0 i9),Ev (X:=(GJ w b).w) g.fit.br (by decide),?_⟩
  rw [(J4 w b).2,MS]
  exact(by decide:(0:Nat)+1≤12)
 ·have f:=S2 h
  have hl:=Jz ((JJ w b).kind 17)
  refine⟨by rw [hl.1];exact f.gd,by rw [hl.1];exact f.br,?_⟩
  have h2:=hl.2.2
  rw [MS,(RF w b).2.1,MS] at h2
  exact Nat.le_trans h2 (by decide:(0:Nat)+1+1+9≤12)
theorem Fp {s:AI × List Event}{draw b:Int}(hg:s.1.Bk=true)(hw:s.1.DL)(h0:0≤b)(h6:b < 6):(EN draw b s).1.Bk=true∧(EN draw b s).1.DL∧(EN draw b s).2.length≤s.2.length+13:=by
 have kb:=HN hg h0 h6
 have hn:=L8 (draw:=draw) h0
 unfold EN
 split
 ·exact⟨hg,hw,by omega⟩
 ·rename_i h1
  simp only [Bool.or_eq_true,Bool.not_eq_true',decide_eq_true_eq,not_or,Bool.not_eq_false] at h1
  have kf:=kb.B2
  split
  ·exact⟨Jr hg h0 h6 ⟨kb.room,kb.BP,⟨Int.le_refl _,show(0:Int)≤6 by decide⟩,fun _=>rfl,kb.alive⟩ fun h=>h,Ev hw (hw.be b),Nat.le_add_right _ _⟩
  ·rename_i h2
   simp only [Bool.or_eq_true,Bool.not_eq_true',decide_eq_false_iff_not,not_or,Bool.not_eq_false,Decidable.not_not] at h2
   have hf:=Ld (b:=b) (n:=ML draw b) hg hw (B2:=(s.1.AN.at b).B2 - 1) (by omega) (by omega) h2.1
   have hso:(CC s.1 b ((s.1.AN.at b).B2 - 1) (ML draw b)).out.length=1:=rfl
   split
   ·obtain⟨d1,d2,d3⟩:=P1 hf
    refine⟨d1,d2,?_⟩
    show((s.2++_)++_).length≤_
    rw [List.length_append,List.length_append,hso];omega
   ·rename_i h3
    have h3':¬ ((CC s.1 b ((s.1.AN.at b).B2 - 1) (ML draw b)).w.AN.at ((s.1.AN.at b).B2 - 1)).BP=0:=fun e=>h3 (decide_eq_true e)
    have e:((CC s.1 b ((s.1.AN.at b).B2 - 1) (ML draw b)).w.AN.at ((s.1.AN.at b).B2 - 1))={ s.1.AN.at ((s.1.AN.at b).B2 - 1) with BP:=max 0 ((s.1.AN.at ((s.1.AN.at b).B2 - 1)).BP - ML draw b) }:=Vector.CG (by omega) (by omega)
    rw [e] at h3'
    have h3'':¬ max 0 ((s.1.AN.at ((s.1.AN.at b).B2 - 1)).BP - ML draw b)=0:=h3'
    obtain⟨d1,d2⟩:=Sx (b:=b) (n:=ML draw b) hg hw (B2:=(s.1.AN.at b).B2 - 1) (by omega) (by omega) h2.1 (by omega) (by omega)
    refine⟨d1,d2,?_⟩
    show(s.2++_).length≤_
    rw [List.length_append,hso];omega
end AF
end Go.Ing
/- What a round takes: plain laws. -/
namespace Go.Ing
open Go
namespace AF
def P5 (v:Vector Int 6)(e:Event):Vector Int 6:=if decide (e.kind=14)=true then v.put e.other (v.at e.other+e.n) else v
def Qg (v:Vector Bool 6)(e:Event):Vector Bool 6:=if decide (e.kind=15)=true then v.put e.Dj true else v
def EJ (l:List Event):Vector Int 6:=l.foldl P5 (Vector.replicate 6 default)
def Fu (l:List Event):Vector Bool 6:=l.foldl Qg (Vector.replicate 6 default)
theorem N6 (l:List Event)(e:Event):EJ (l ++ [e])=P5 (EJ l) e:=by simp [EJ]
theorem OM (l:List Event)(e:Event):Fu (l ++ [e])=Qg (Fu l) e:=by simp [Fu]
def Quiet (q:List Event):Prop:=∀ e∈q,e.kind≠14∧e.kind≠15
theorem ON:∀ {q:List Event} (v:Vector Int 6) (u:Vector Bool 6),Quiet q→q.foldl P5 v=v∧q.foldl Qg u=u
 | [],_,_,_=>⟨rfl,rfl⟩
 | e :: r,v,u,h=>by
  have he:=h e (List.mem_cons_self ..)
  have hr:Quiet r:=fun x hx=>h x (List.mem_cons_of_mem _ hx)
  rw [List.foldl_cons,List.foldl_cons,P5,if_neg (by simp [he.1]),Qg,if_neg (by simp [he.2])]
  exact ON v u hr
theorem SO {l q:List Event}(h:Quiet q):EJ (l++q)=EJ l∧Fu (l++q)=Fu l:=by
 unfold EJ Fu
 rw [List.foldl_append,List.foldl_append]
 exact ON _ _ h
theorem IE (T:AF)(e:Event):∃ x:Event,(T.BS e).out=T.out ++ [x]∧x.kind=e.kind∧x.Dj=T.b∧x.other=e.other∧x.n=e.n:=by
 obtain⟨a1,a2,_,a4,a5,_⟩:=AI.Kd T.w (T.Du e) 6
 have e2:(T.Du e).kind=e.kind∧(T.Du e).Dj=T.b∧(T.Du e).other=e.other∧(T.Du e).n=e.n:=by
  unfold Du
  split<;>exact⟨rfl,rfl,rfl,rfl⟩
 exact⟨_,rfl,a1.trans e2.1,a2.trans e2.2.1,a4.trans e2.2.2.1,a5.trans e2.2.2.2⟩
def Nc (T T':AF):Prop:=∃ q,T'.out=T.out++q∧∀ e∈q,e.kind=16
theorem Nc.refl (T:AF):Nc T T:=⟨[],by simp,fun _ h=>by cases h⟩
theorem Nc.tell {T T':AF}(h:Nc T T')(s:As):Nc T (T'.tell s):=by
 obtain⟨q,e,k⟩:=h
 obtain⟨x,e2,k2,_⟩:=IE T' { F8 16 with text:=s }
 refine⟨q ++ [x],?_,fun y hy=>?_⟩
 ·show(T'.BS _).out=_
  rw [e2,e,List.append_assoc]
 ·rcases List.mem_append.1 hy with hy | hy
  ·exact k y hy
  ·have:y=x:=by simpa using hy
   rw [this];exact k2
theorem Nc.look {T T':AF}(h:Nc T T'):Nc T T'.look:=by
 have hk:∀ {T'':AF},Nc T T''→∀ k:Nat,Nc T (T''.Fq k):=fun {T''} h' k=>by
  induction k with
  | zero=>exact h'
  | succ k ih=>
   unfold Fq
   split
   ·exact ih.tell _
   ·exact ih
 unfold AF.look
 split
 ·exact h.tell _
 ·refine hk ?_ 6
  have ha:Nc T T'.KH:=(h.tell _).tell _
  unfold EF
  split
  ·exact ha.tell _
  ·exact ha
/-! #### who is struck, who dies -/
def calm (b:Int)(x:An):An:={ x with B2:=if x.B2=b+1 then 0 else x.B2 }
theorem YD {b:Int}{x:An}(h:x.B2=b+1):calm b x={ x with B2:=0 }:=by unfold calm;rw [if_pos h]
theorem Xa {b:Int}{x:An}(h:¬ x.B2=b+1):calm b x=x:=by unfold calm;rw [if_neg h]
theorem SM (T:AF)(hb:0≤T.b):∀ k:Nat,k≤6→∀ c:Int,0≤c→c < 6→(T.DW k).w.AN.at c=if c < (k:Int) then calm T.b (T.w.AN.at c) else T.w.AN.at c
 | 0,_,c,c0,_=>by rw [if_neg (by omega)];rfl
 | k+1,hk,c,c0,c6=>by
  have ih:=SM T hb k (by omega)
  have ihk:=ih k (by omega) (by omega)
  rw [if_neg (by omega)] at ihk
  have ihc:=ih c c0 c6
  unfold DW
  rw [ihk]
  by_cases e:(T.w.AN.at (k:Int)).B2=T.b+1
  ·rw [if_pos (decide_eq_true e)]
   show(((T.DW k).w.AN.put (k:Int) { (T.DW k).w.AN.at (k:Int) with B2:=0 }).at c)=_
   rw [JT _ _ _ _ (by omega) (by omega) c0]
   by_cases ec:c=(k:Int)
   ·subst ec
    rw [if_pos rfl,if_pos (by omega),ihk,YD e]
   ·rw [if_neg ec,ihc]
    by_cases hl:c < (k:Int)
    ·rw [if_pos hl,if_pos (by omega)]
    ·rw [if_neg hl,if_neg (by omega)]
  ·rw [if_neg (by simpa using e),ihc]
   by_cases hl:c < (k:Int)
   ·rw [if_pos hl,if_pos (by omega)]
   ·rw [if_neg hl]
    by_cases ec:c=(k:Int)
    ·subst ec
     rw [if_pos (by omega),Xa e]
    ·rw [if_neg (by omega)]
theorem Om:∀(l:List Int) (T:AF),(T.Cd l).w.AN=T.w.AN
 | [],_=>rfl
 | i :: r,T=>(Om r (T.E8 i)).trans rfl
theorem Y2 (T:AF)(hb:0≤T.b∧T.b < 6){c:Int}(c0:0≤c)(c6:c < 6):T.FH.w.AN.at c=if c=T.b then { T.w.AN.at c with B2:=0 } else calm T.b (T.w.AN.at c):=by
 have hd:=Om T.own T
 have hdb:=(Im T.own T).1
 have hk:=SM (T.Cd T.own) (by rw [hdb];exact hb.1) 6 (Nat.le_refl _)
 rw [hd,hdb] at hk
 rw [Ln]
 generalize (T.Cd T.own).DW 6=D at *
 show(D.w.AN.put T.b { D.w.AN.at T.b with B2:=0 }).at c=_
 rw [JT _ _ _ _ hb.1 hb.2 c0]
 have hc:=hk c c0 c6
 rw [if_pos (by omega)] at hc
 by_cases e:c=T.b
 ·rw [if_pos e,if_pos e,← e,hc];rfl
 ·rw [if_neg e,if_neg e,hc]
structure dM (w w':AI)(f:Int):Prop where
 dn:∀ c,0≤c→c < 6→c≠f→(w'.AN.at c).BP=(w.AN.at c).BP∧(w'.AN.at c).room=(w.AN.at c).room∧(w'.AN.at c).here=(w.AN.at c).here∧((w'.AN.at c).B2=(w.AN.at c).B2∨(w'.AN.at c).B2=0)∧(w'.AN.at c).B2≠f+1
 here:(w'.AN.at f).here=decide (2≤f)
 B2:(w'.AN.at f).B2=0
theorem Ud {w:AI}{f c:Int}(hf:0≤f∧f < 6)(c0:0≤c)(c6:c < 6):(GJ w f).w.AN.at c=if c=f then { (Fc w f).w.AN.at c with B2:=0 } else calm f ((Fc w f).w.AN.at c):=Y2 ((Fc w f).kind 15) hf c0 c6
theorem XG {w:AI}{f c:Int}(hf:0≤f∧f < 6)(c0:0≤c)(c6:c < 6)(hn:c≠f):(GJ w f).w.AN.at c=calm f (w.AN.at c):=by
 have h0:(Fc w f).w.AN.at c=w.AN.at c:=AI.Gp hf.1 hf.2 c0 hn _
 rw [Ud hf c0 c6,h0,if_neg hn]
theorem Zp (f:Int)(hf:0≤f)(x:An):(calm f x).BP=x.BP∧(calm f x).room=x.room∧(calm f x).here=x.here∧((calm f x).B2=x.B2∨(calm f x).B2=0)∧(calm f x).B2≠f+1:=by
 by_cases e:x.B2=f+1
 ·rw [YD e]
  refine⟨rfl,rfl,rfl, .inr rfl,?_⟩
  show(0:Int)≠f+1
  omega
 ·rw [Xa e]
  exact⟨rfl,rfl,rfl, .inl rfl,e⟩
theorem VI {w w1 w':AI}{f:Int}(hf:0≤f∧f < 6)(ho:∀ c,0≤c→c < 6→c≠f→w1.AN.at c=calm f (w.AN.at c))(he:∀ c,0≤c→c < 6→c≠f→w'.AN.at c=w1.AN.at c)(h1:(w'.AN.at f).here=decide (2≤f))(h2:(w'.AN.at f).B2=0):dM w w' f:=by
 refine⟨fun c c0 c6 hn=>?_,h1,h2⟩
 rw [he c c0 c6 hn,ho c c0 c6 hn]
 exact Zp f hf.1 _
theorem VY {w:AI}{f:Int}(h:(Fc w f).Fit):dM w (H5 w f).w f∧∃ x q,(H5 w f).out=x :: q∧x.kind=15∧x.Dj=f∧Quiet q:=by
 have hf:0≤f∧f < 6:=h.b
 have ho:∀ c,0≤c→c < 6→c≠f→(GJ w f).w.AN.at c=calm f (w.AN.at c):=fun c c0 c6 hn=>XG hf c0 c6 hn
 obtain⟨x,e1,k1,k2,_⟩:=IE (Fc w f) (F8 15)
 have hout:((Fc w f).kind 15).out = [x]:=e1
 have g:=(RE h).1.fit
 have gh:=g.here
 rw [(J4 w f).1] at gh
 have hme:=Ud (w:=w) hf hf.1 hf.2
 rw [if_pos rfl] at hme
 have hfoe:((GJ w f).w.AN.at f).B2=0:=by rw [hme]
 unfold H5
 split
 ·rename_i c2
  have c2':=of_decide_eq_true c2
  rw [(DD _ _ _).2.1,(DD _ _ _).2.2,(J4 w f).2,hout]
  generalize (GJ w f).w=D at *
  refine⟨VI (w1:=D) hf ho (fun c c0 _ hn=>AI.Gp hf.1 hf.2 c0 hn _) ?_ ?_,x,[],rfl,k1,k2,fun e he=>by cases he⟩
  ·show((D.C7 f default).AN.at f).here=_
   rw [AI.EO hf.1 hf.2,decide_eq_false (by omega)];rfl
  ·show((D.C7 f default).AN.at f).B2=_
   rw [AI.EO hf.1 hf.2];rfl
 ·rename_i c2
  have c2':¬ f < 2:=fun e=>c2 (decide_eq_true e)
  have hl:=Jz ((JJ w f).kind 17)
  have e2:=RF w f
  obtain⟨y,e3,k3,_⟩:=IE (JJ w f) (F8 17)
  obtain⟨q,e4,k4⟩:=(Nc.refl ((JJ w f).kind 17)).look
  have e3':((JJ w f).kind 17).out = [x] ++ [y]:=by rw [show((JJ w f).kind 17).out=_ from e3,e2.2.1,hout]
  rw [hl.1,e4,e3',show((JJ w f).kind 17).w=(JJ w f).w from rfl,e2.2.2]
  generalize (GJ w f).w=D at *
  refine⟨VI (w1:=D) hf ho (fun c c0 _ hn=>AI.Gp hf.1 hf.2 c0 hn _) ?_ ?_,x,y :: q,rfl,k1,k2,fun e he=>?_⟩
  ·rw [AI.EO hf.1 hf.2,decide_eq_true (by omega)];exact gh
  ·rw [AI.EO hf.1 hf.2];exact hfoe
  ·rcases List.mem_cons.1 he with he | he
   ·rw [he,k3];exact⟨by decide,by decide⟩
   ·rw [k4 e he];exact⟨by decide,by decide⟩
/-! #### the count of a round -/
def ep (e:Event):Prop:=(e.kind=14→1≤e.n∧e.n≤3∧0≤e.other∧e.other < 6)∧(e.kind=15→0≤e.Dj∧e.Dj < 6)
structure TZ (X:AI)(s:AI × List Event):Prop where
 ev:∀ e∈s.2,ep e
 un:∀ c,0≤c→c < 6→(Fu s.2).at c=false→(s.1.AN.at c).BP=(X.AN.at c).BP - (EJ s.2).at c∧(s.1.AN.at c).room=(X.AN.at c).room∧(s.1.AN.at c).here=(X.AN.at c).here
 di:∀ c,0≤c→c < 6→(Fu s.2).at c=true→(X.AN.at c).BP≤(EJ s.2).at c∧(s.1.AN.at c).here=decide (2≤c)∧(s.1.AN.at c).B2=0∧∀ a,0≤a→a < 6→(s.1.AN.at a).B2≠c+1
theorem YQ {α:Type}[Inhabited α](c:Int)(c0:0≤c)(c6:c < 6):(Vector.replicate 6 (default:α)).at c=default:=by
 have:c=0∨c=1∨c=2∨c=3∨c=4∨c=5:=by omega
 rcases this with rfl | rfl | rfl | rfl | rfl | rfl<;>rfl
theorem TZ.start (X:AI):TZ X (X,[]):=by
 have hh:∀ c,0≤c→c < 6→(EJ []).at c=0:=fun c c0 c6=>YQ c c0 c6
 have hd:∀ c,0≤c→c < 6→(Fu []).at c=false:=fun c c0 c6=>YQ c c0 c6
 refine⟨fun _ h=>(by cases h),fun c c0 c6 _=>⟨?_,rfl,rfl⟩,fun c c0 c6 h=>?_⟩
 ·show(X.AN.at c).BP=(X.AN.at c).BP - (EJ []).at c
  rw [hh c c0 c6];omega
 ·have h':(Fu []).at c=true:=h
  rw [hd c c0 c6] at h';cases h'
theorem TZ.next {X:AI}{s:AI × List Event}{draw b:Int}(h:TZ X s)(hg:s.1.Bk=true)(hw:s.1.DL)(h0:0≤b)(h6:b < 6):TZ X (EN draw b s):=by
 have kb:=HN hg h0 h6
 have hn:=L8 (draw:=draw) h0
 unfold EN
 split
 ·exact h
 ·rename_i h1
  simp only [Bool.or_eq_true,Bool.not_eq_true',decide_eq_true_eq,not_or,Bool.not_eq_false] at h1
  have kf:=kb.B2
  split
  ·have hb:∀ c,0≤c→((s.1.C7 b { s.1.AN.at b with B2:=0 }).AN.at c).BP=(s.1.AN.at c).BP∧((s.1.C7 b { s.1.AN.at b with B2:=0 }).AN.at c).room=(s.1.AN.at c).room∧((s.1.C7 b { s.1.AN.at b with B2:=0 }).AN.at c).here=(s.1.AN.at c).here∧(((s.1.C7 b { s.1.AN.at b with B2:=0 }).AN.at c).B2=(s.1.AN.at c).B2∨((s.1.C7 b { s.1.AN.at b with B2:=0 }).AN.at c).B2=0):=fun c c0=>by
    by_cases e:c=b
    ·subst e;rw [AI.EO h0 h6];exact⟨rfl,rfl,rfl, .inr rfl⟩
    ·rw [AI.Gp h0 h6 c0 e];exact⟨rfl,rfl,rfl, .inl rfl⟩
   refine⟨h.ev,fun c c0 c6 hd=>?_,fun c c0 c6 hd=>?_⟩
   ·obtain⟨q1,q2,q3⟩:=h.un c c0 c6 hd
    obtain⟨r1,r2,r3,_⟩:=hb c c0
    exact⟨r1.trans q1,r2.trans q2,r3.trans q3⟩
   ·obtain⟨q1,q2,q3,q4⟩:=h.di c c0 c6 hd
    obtain⟨_,_,r3,r4⟩:=hb c c0
    refine⟨q1,r3.trans q2,?_,fun a a0 a6=>?_⟩
    ·rcases r4 with r4 | r4
     ·exact r4.trans q3
     ·exact r4
    ·have:=q4 a a0 a6
     rcases (hb a a0).2.2.2 with r | r
     ·rw [r];exact this
     ·rw [r];omega
  ·rename_i h2
   simp only [Bool.or_eq_true,Bool.not_eq_true',decide_eq_false_iff_not,not_or,Bool.not_eq_false,Decidable.not_not] at h2
   generalize hfo:(s.1.AN.at b).B2 - 1=f at *
   generalize ML draw b=n at *
   have f0:0≤f:=by omega
   have f6:f < 6:=by omega
   have hf:=Ld (b:=b) (n:=n) hg hw (B2:=f) f0 f6 h2.1
   have kf2:=(HN hg f0 f6).BP
   obtain⟨x,ex,k1,k2,k3,k4⟩:=IE ⟨s.1,b,[]⟩ { F8 14 with other:=f,n:=n }
   have hso:(CC s.1 b f n).out = [x]:=ex
   have hsw:(CC s.1 b f n).w=s.1.C7 f { s.1.AN.at f with BP:=max 0 ((s.1.AN.at f).BP - n) }:=rfl
   have k1':x.kind=14:=k1
   have k3':x.other=f:=k3
   have k4':x.n=n:=k4
   have hH:EJ (s.2 ++ [x])=(EJ s.2).put f ((EJ s.2).at f+n):=by rw [N6,P5,if_pos (decide_eq_true k1'),k3',k4']
   have hD:Fu (s.2 ++ [x])=Fu s.2:=by rw [OM,Qg,if_neg (by rw [k1'];decide)]
   have hnd:(Fu s.2).at f=false:=by
    cases hh:(Fu s.2).at f with
    | false=>rfl
    | true=>exact absurd (by omega:(s.1.AN.at b).B2=f+1) ((h.di f f0 f6 hh).2.2.2 b h0 h6)
   have hfe:=h.un f f0 f6 hnd
   have hxe:ep x:=⟨fun _=>by rw [k3',k4'];omega,fun e=>by rw [k1'] at e;cases e⟩
   have hev:∀ e∈s.2 ++ [x],ep e:=fun e he=>by
    rcases List.mem_append.1 he with he | he
    ·exact h.ev e he
    ·have:e=x:=by simpa using he
     rw [this];exact hxe
   have hwc:∀ c,0≤c→c≠f→(CC s.1 b f n).w.AN.at c=s.1.AN.at c:=fun c c0 hne=>by rw [hsw];exact AI.Gp f0 f6 c0 hne _
   have hwf:(CC s.1 b f n).w.AN.at f={ s.1.AN.at f with BP:=max 0 ((s.1.AN.at f).BP - n) }:=by rw [hsw];exact AI.EO f0 f6 _
   have hwa:∀ a,0≤a→((CC s.1 b f n).w.AN.at a).B2=(s.1.AN.at a).B2:=fun a a0=>by
    by_cases e:a=f
    ·rw [e,hwf]
    ·rw [hwc a a0 e]
   have hHc:∀ c,0≤c→c≠f→((EJ s.2).put f ((EJ s.2).at f+n)).at c=(EJ s.2).at c:=fun c c0 hne=>Vector.Eh f0 f6 c0 hne
   have hHf:((EJ s.2).put f ((EJ s.2).at f+n)).at f=(EJ s.2).at f+n:=Vector.CG f0 f6
   split
   ·rename_i h3
    have h3':=of_decide_eq_true h3
    rw [hwf] at h3'
    have h3'':max 0 ((s.1.AN.at f).BP - n)=0:=h3'
    obtain⟨dd,y,q,e2,y1,y2,y3⟩:=VY hf
    rw [e2,hso]
    generalize (H5 (CC s.1 b f n).w f).w=W at *
    have hA:EJ (s.2 ++ [x]++y :: q)=(EJ s.2).put f ((EJ s.2).at f+n)∧Fu (s.2 ++ [x]++y :: q)=(Fu s.2).put f true:=by
     have hq:=SO (l:=s.2 ++ [x] ++ [y]) y3
     rw [show s.2 ++ [x]++y :: q=s.2 ++ [x] ++ [y]++q by simp,hq.1,hq.2,N6,OM,hH,hD,P5,if_neg (by rw [y1];decide),Qg,if_pos (decide_eq_true y1),y2]
     exact⟨rfl,rfl⟩
    refine⟨fun e he=>?_,fun c c0 c6 hd=>?_,fun c c0 c6 hd=>?_⟩
    ·rcases List.mem_append.1 he with he | he
     ·exact hev e he
     ·rcases List.mem_cons.1 he with he | he
      ·rw [he];exact⟨fun e=>absurd (y1.symm.trans e) (by decide),fun _=>by rw [y2];exact⟨f0,f6⟩⟩
      ·exact⟨fun e'=>absurd e' (y3 e he).1,fun e'=>absurd e' (y3 e he).2⟩
    ·have hd':((Fu s.2).put f true).at c=false:=by rw [← hA.2];exact hd
     have hne:c≠f:=fun e=>by
      rw [e,Vector.CG f0 f6] at hd';cases hd'
     rw [Vector.Eh f0 f6 c0 hne] at hd'
     obtain⟨q1,q2,q3⟩:=h.un c c0 c6 hd'
     obtain⟨r1,r2,r3,_⟩:=dd.dn c c0 c6 hne
     rw [hwc c c0 hne] at r1 r2 r3
     show(W.AN.at c).BP=(X.AN.at c).BP - (EJ (s.2 ++ [x]++y :: q)).at c∧_
     rw [hA.1,hHc c c0 hne]
     exact⟨r1.trans q1,r2.trans q2,r3.trans q3⟩
    ·have hd':((Fu s.2).put f true).at c=true:=by rw [← hA.2];exact hd
     show(X.AN.at c).BP≤(EJ (s.2 ++ [x]++y :: q)).at c∧_
     rw [hA.1]
     by_cases hne:c=f
     ·subst hne
      rw [hHf]
      refine⟨by omega,dd.here,dd.B2,fun a a0 a6=>?_⟩
      by_cases ea:a=c
      ·rw [ea,dd.B2];omega
      ·exact(dd.dn a a0 a6 ea).2.2.2.2
     ·rw [Vector.Eh f0 f6 c0 hne] at hd'
      rw [hHc c c0 hne]
      obtain⟨q1,q2,q3,q4⟩:=h.di c c0 c6 hd'
      obtain⟨_,_,r3,r4,_⟩:=dd.dn c c0 c6 hne
      rw [hwc c c0 hne] at r3 r4
      refine⟨q1,r3.trans q2,?_,fun a a0 a6=>?_⟩
      ·rcases r4 with r4 | r4
       ·exact r4.trans q3
       ·exact r4
      ·by_cases ea:a=f
       ·rw [ea,dd.B2];omega
       ·have:=q4 a a0 a6
        have r:=(dd.dn a a0 a6 ea).2.2.2.1
        rw [hwc a a0 ea] at r
        rcases r with r | r
        ·rw [r];exact this
        ·rw [r];omega
   ·rename_i h3
    have h3':¬ ((CC s.1 b f n).w.AN.at f).BP=0:=fun e=>h3 (decide_eq_true e)
    rw [hwf] at h3'
    have h3'':¬ max 0 ((s.1.AN.at f).BP - n)=0:=h3'
    rw [hso]
    refine⟨hev,fun c c0 c6 hd=>?_,fun c c0 c6 hd=>?_⟩
    ·have hd':(Fu s.2).at c=false:=by rw [← hD];exact hd
     show((CC s.1 b f n).w.AN.at c).BP=(X.AN.at c).BP - (EJ (s.2 ++ [x])).at c∧_
     rw [hH]
     by_cases hne:c=f
     ·subst hne
      rw [hHf,hwf]
      refine⟨?_,hfe.2.1,hfe.2.2⟩
      show max 0 ((s.1.AN.at c).BP - n)=_
      have:=hfe.1
      omega
     ·rw [hHc c c0 hne,hwc c c0 hne]
      exact h.un c c0 c6 hd'
    ·have hd':(Fu s.2).at c=true:=by rw [← hD];exact hd
     have hne:c≠f:=fun e=>by rw [e,hnd] at hd';cases hd'
     show(X.AN.at c).BP≤(EJ (s.2 ++ [x])).at c∧_
     rw [hH,hHc c c0 hne]
     obtain⟨q1,q2,q3,q4⟩:=h.di c c0 c6 hd'
     refine⟨q1,by rw [hwc c c0 hne];exact q2,by rw [hwc c c0 hne];exact q3,fun a a0 a6=>by rw [hwa a a0];exact q4 a a0 a6⟩
theorem QG {X:AI}{draw:Int}(hg:X.Bk=true)(hw:X.DL):∀ k:Nat,k≤6→TZ X (Dg X draw k)∧(Dg X draw k).1.Bk=true∧(Dg X draw k).1.DL∧(Dg X draw k).2.length≤13 * k
 | 0,_=>⟨.start X,hg,hw,Nat.le_refl _⟩
 | k+1,hk=>by
  obtain⟨h1,h2,h3,h4⟩:=QG hg hw k (by omega)
  obtain⟨g1,g2,g3⟩:=Fp (draw:=draw) (b:=(k:Int)) h2 h3 (by omega) (by omega)
  exact⟨h1.next h2 h3 (by omega) (by omega),g1,g2,by show(EN draw k (Dg X draw k)).2.length≤_;omega⟩
theorem Xf {X:AI}{draw:Int}(hw:X.DL)(h:(CD X draw).2.2=0):TZ X ((CD X draw).1,(CD X draw).2.1)∧(CD X draw).1.Bk=true∧(CD X draw).2.1.length≤78:=by
 unfold CD at h ⊢
 split at h
 ·cases h
 ·rename_i h1
  rw [if_neg h1]
  obtain⟨q1,q2,_,q4⟩:=QG (draw:=draw) (by simpa using h1) hw 6 (Nat.le_refl _)
  generalize Dg X draw 6=S at *
  exact⟨q1,q2,Nat.le_trans q4 (by decide)⟩
end AF
end Go.Ing
/- The document's side of what beings do: plain functions and laws. -/
namespace Go.Ing
open Go
namespace AF
/-! #### names of players -/
def low (c:UInt8):Bool:=decide ((c.toNat:Int) < 97) || decide (122 < (c.toNat:Int))
def H4 (s:As)(k:Nat):Bool:=(s.drop k).all fun c=>!low c
theorem Va {s:As}{k:Int}(h0:0≤k)(h1:k < s.length):H4 s k.toNat=(!low (s.getD k.toNat 0) && H4 s (k+1).toNat):=by
 have hk:k.toNat < s.length:=by omega
 unfold H4
 rw [List.drop_eq_getElem_cons hk,show(k+1).toNat=k.toNat+1 by omega,List.getD_eq_getElem?_getD,List.getElem?_eq_getElem hk]
 rfl
theorem YY (s:As):H4 s (s.length:Int).toNat=true:=by
 unfold H4
 rw [show(s.length:Int).toNat=s.length by omega,List.drop_length];rfl
def XZ:As:= [115,111,109,101,111,110,101]
def ef:As:= [121,111,117]
def FX (s:As):Bool:=H4 s 0 && (decide (1≤(s.length:Int)) && decide ((s.length:Int)≤8) && !decide (s=XZ) && !decide (s=ef))
/-! #### who enters -/
def JD (X:AI)(s:As)(k:Int):Bool:=(X.AN.at k).here && decide ((X.AN.at k).name=s)
def CQ (X:AI):Nat→Int
 | 0=>-1
 | n+1=>if (!(X.AN.at ((5 - n:Nat):Int)).here && decide (2≤((5 - n:Nat):Int)))=true then((5 - n:Nat):Int) else CQ X n
theorem Nv {X:AI}{k:Int}(h0:0≤k)(h5:k≤5):CQ X (5 - (k - 1)).toNat=if (!(X.AN.at k).here && decide (2≤k))=true then k else CQ X (5 - k).toNat:=by
 have e:(5 - (k - 1)).toNat=(5 - k).toNat+1:=by omega
 rw [e,CQ,show((5 - (5 - k).toNat:Nat):Int)=k by omega]
theorem Xt {X:AI}{k:Int}(h2:2≤k)(h5:k≤5)(h:(!(X.AN.at k).here)=false):CQ X (5 - (k - 1)).toNat=CQ X (5 - k).toNat:=by
 rw [Nv (by omega) h5,h];rfl
theorem Wa {X:AI}{k:Int}(h2:2≤k)(h5:k≤5)(h:(!(X.AN.at k).here)=true):CQ X (5 - (k - 1)).toNat=k:=by
 rw [Nv (by omega) h5,h,decide_eq_true h2];rfl
theorem WW (X:AI):CQ X 6=CQ X 4:=by
 have h1:CQ X 6=CQ X 5:=by
  rw [CQ,if_neg (by simp)]
 have h2:CQ X 5=CQ X 4:=by
  rw [CQ,if_neg (by simp)]
 rw [h1,h2]
theorem Mk (X:AI):∀ n:Nat,n≤6→CQ X n=-1∨(2≤CQ X n∧CQ X n≤5)
 | 0,_=> .inl rfl
 | n+1,h=>by
  unfold CQ
  split
  ·rename_i c
   rw [Bool.and_eq_true] at c
   have:=of_decide_eq_true c.2
   exact .inr ⟨this,by omega⟩
  ·exact Mk X n (by omega)
def Jy (s:As):An:={ (default:An) with name:=s,here:=true,BP:=10 }
def JW (X:AI)(s:As)(b:Int):AF:=((⟨X.C7 b (Jy s),b,[]⟩:AF).kind 17).look
def Bb (X:AI)(s:As):AI × Int × List Event × Int:=
 if (!X.Bk)=true then(X,0,[],2)
 else if (!FX s)=true then(X,0,[],1)
 else if (!CA 6 (fun k=>!JD X s k) 6)=true then(X,0,[],1)
 else if decide (CQ X 6 < 0)=true then(X,0,[],4)
 else((JW X s (CQ X 6)).w,CQ X 6,(JW X s (CQ X 6)).out,0)
theorem QL (X:AI)(s:As):(Bb X s).2.2.1.length≤10:=by
 unfold Bb
 split
 ·exact Nat.zero_le _
 ·split
  ·exact Nat.zero_le _
  ·split
   ·exact Nat.zero_le _
   ·split
    ·exact Nat.zero_le _
    ·exact(Jz _).2.2
theorem P8 {X:AI}{s:As}{b:Int}(hg:X.Bk=true)(hw:X.DL)(hs:s.length≤140737488351232)(h0:0≤b)(h6:b < 6):Fit ⟨X.C7 b (Jy s),b,[]⟩:=
 ⟨⟨h0,h6⟩,Ev hw hs,Jr hg h0 h6 ⟨⟨Int.le_refl _,show(0:Int) < 6 by decide⟩,⟨show(0:Int)≤10 by decide,show(10:Int)≤10 by decide⟩,⟨Int.le_refl _,show(0:Int)≤6 by decide⟩,fun _=>rfl,rfl⟩ fun _=>rfl,by
  show((X.C7 b (Jy s)).AN.at b).here=true
  rw [AI.EO h0 h6];rfl⟩
end AF
end Go.Ing
/- A round, as the document says it: plain laws. -/
namespace Go.Ing
open Go
theorem U3 {α:Type}[Inhabited α]{n:Nat}{v u:Vector α n}(h:∀ i:Int,0≤i→i < n→v.at i=u.at i):v=u:=by
 apply Vector.ext
 intro i hi
 have:=h (i:Int) (by omega) (by omega)
 unfold Vector.at at this
 rw [List.getD_eq_getElem?_getD,List.getD_eq_getElem?_getD] at this
 simpa [hi] using this
namespace AF
def pre (o:List Event)(T:AF):AF:=⟨T.w,T.b,o++T.out⟩
theorem RQ (T:AF){i:Int}(h0:0≤i)(h9:i < 9)(c:decide ((((T.w.AP.put i { T.w.AP.at i with Ca:=0 }).put i { (T.w.AP.put i { T.w.AP.at i with Ca:=0 }).at i with at_:=(T.w.AN.at T.b).room }).at i).kind=2)=true):({ T.w with AP:=((T.w.AP.put i { T.w.AP.at i with Ca:=0 }).put i { (T.w.AP.put i { T.w.AP.at i with Ca:=0 }).at i with at_:=(T.w.AN.at T.b).room }).put i { ((T.w.AP.put i { T.w.AP.at i with Ca:=0 }).put i { (T.w.AP.put i { T.w.AP.at i with Ca:=0 }).at i with at_:=(T.w.AN.at T.b).room }).at i with on:=false } }:AI)=(T.E8 i).w:=by
 rw [Vector.CG h0 h9,Vector.CG h0 h9] at c
 rw [Vector.CG h0 h9,Vector.Ep,Vector.CG h0 h9,Vector.Ep]
 unfold E8
 rw [if_pos (show decide ((T.w.AP.at i).kind=2)=true from c)];rfl
theorem Ut (T:AF){i:Int}(h0:0≤i)(h9:i < 9)(c:decide ((((T.w.AP.put i { T.w.AP.at i with Ca:=0 }).put i { (T.w.AP.put i { T.w.AP.at i with Ca:=0 }).at i with at_:=(T.w.AN.at T.b).room }).at i).kind=2)=false):({ T.w with AP:=(T.w.AP.put i { T.w.AP.at i with Ca:=0 }).put i { (T.w.AP.put i { T.w.AP.at i with Ca:=0 }).at i with at_:=(T.w.AN.at T.b).room } }:AI)=(T.E8 i).w:=by
 rw [Vector.CG h0 h9,Vector.CG h0 h9] at c
 rw [Vector.CG h0 h9,Vector.Ep]
 unfold E8
 rw [if_neg (show ¬ decide ((T.w.AP.at i).kind=2)=true from by rw [show decide ((T.w.AP.at i).kind=2)=false from c];decide)];rfl
theorem QH {X:AI}(hw:X.DL)(draw:Int):(CD X draw).2.1.length≤78:=by
 by_cases h:(CD X draw).2.2=0
 ·exact(Xf hw h).2.2
 ·unfold CD at h ⊢
  split
  ·exact Nat.zero_le _
  ·rename_i h1
   rw [if_neg h1] at h
   exact absurd rfl h
end AF
end Go.Ing
/- What beings do, as the document says it: plain laws. -/
namespace Go.Ing
open Go
namespace AF
def skip (w:AI)(u:As)(i:Int):Bool:=!decide (u = []) && !decide (u=(w.AP.at i).name)
/-! #### what is taken -/
/-! #### what is set -/
/-! #### what is let go of -/
theorem U9 (T:AF)(o:Order):(T.Cx o).1.w=T.w∧(T.Cx o).1.b=T.b:=by
 unfold Cx
 split
 ·exact T.J9 o.second
 ·split
  ·exact T.JX o.second
  ·exact⟨rfl,rfl⟩
theorem P3 (T:AF)(o:Order):0≤(T.Cx o).2.1∧(T.Cx o).2.1 < 9:=by
 unfold Cx
 split
 ·exact T.ZO o.second
 ·split
  ·have:=T.L4 o.second;omega
  ·exact⟨Int.le_refl 0,show(0:Int) < 9 by decide⟩
theorem W6 {T:AF}{o:Order}(hv:o.verb=8∨o.verb=9∨o.verb=10)(h:(T.Cx o).2.2=true):NN (T.Cx o).1 o.verb (T.Cx o).2.1:=by
 unfold NN
 rw [(T.U9 o).1]
 unfold Cx at h ⊢
 split at h
 ·rename_i h2
  rw [if_pos h2]
  obtain⟨a0,a9,hk,_⟩:=Yf h
  have:=of_decide_eq_true h2
  exact .inr (.inr ⟨by omega,by omega,a0,a9,hk⟩)
 ·rename_i h2
  rw [if_neg h2]
  split at h
  ·rename_i h3
   rw [if_pos h3]
   obtain⟨a0,a6,_,hs⟩:=KK h
   exact .inr (.inl ⟨of_decide_eq_true h3,a0,a6,(AI.HV (AI.LM hs).2.1).2.2⟩)
  ·rename_i h3
   rw [if_neg h3]
   refine .inl ?_
   rcases hv with e | e | e
   ·exact e
   ·exact absurd (decide_eq_true e) h2
   ·exact absurd (decide_eq_true e) h3
def Lg (T:AF)(o:Order):List Int:=BT T.w T.own o.nth o.name o.Bn
def Qn (T:AF)(o:Order):AF:=if decide (((T.Lg o).length:Int)=0)=true then T.tell PD else T
theorem ag {T:AF}{o:Order}(h:decide (((T.Lg o).length:Int)=0)=true):T.Qn o=T.tell PD:=if_pos h
theorem ai {T:AF}{o:Order}(h:decide (((T.Lg o).length:Int)=0)=false):T.Qn o=T:=if_neg (by rw [h];decide)
theorem ba (T:AF)(o:Order):(T.Qn o).w=T.w∧(T.Qn o).b=T.b∧(T.Qn o).out.length≤T.out.length+1:=by
 unfold Qn
 split
 ·exact⟨rfl,rfl,by rw [CI];exact Nat.le_refl _⟩
 ·exact⟨rfl,rfl,Nat.le_succ _⟩
def Q9 (T:AF)(to:Int)(o:Order)(k:Nat):AF:=(T.Qn o).Eu o.verb to ((T.Lg o).take k)
theorem NA {v to:Int}:∀(l:List Int) (T:AF) (i:Int),T.Eu v to (l ++ [i])=(T.Eu v to l).Cu v to i
 | [],_,_=>rfl
 | _ :: r,_,i=>NA r _ i
theorem ZW {l:List Int}{k:Int}(h0:0≤k)(h1:k < l.length):l.take (k+1).toNat=l.take k.toNat ++ [l.getD k.toNat 0]:=by
 obtain⟨m,rfl⟩:=Int.eq_ofNat_of_zero_le h0
 have hm:m < l.length:=by omega
 show l.take (m+1)=l.take m ++ [l.getD m 0]
 rw [List.take_add_one,List.getElem?_eq_getElem hm,List.getD_eq_getElem?_getD,List.getElem?_eq_getElem hm]
 rfl
theorem I0 {T:AF}{to:Int}{o:Order}{k:Int}(h0:0≤k)(h1:k < (T.Lg o).length):T.Q9 to o (k+1).toNat=(T.Q9 to o k.toNat).Cu o.verb to ((T.Lg o).getD k.toNat 0):=by
 unfold Q9
 rw [ZW h0 h1,NA]
theorem XA {T:AF}{to:Int}{o:Order}:T.Q9 to o ((T.Lg o).length:Int).toNat=T.SG to o:=by
 unfold Q9
 rw [show((T.Lg o).length:Int).toNat=(T.Lg o).length by omega,List.take_length]
 rfl
theorem S8 {T:AF}{o:Order}:(∀ i∈T.Lg o,I6 T.w T.b i)∧(T.Lg o).Nodup∧(T.Lg o).length≤9:=
 ⟨fun _ hi=>(FY (Dw hi)).UN,List.Nodup.sublist (Ed ..) (AI.P4 ..),Nat.le_trans (Ed ..).length_le (AF.KW T)⟩
theorem Oq (v to:Int):∀(l:List Int) (T:AF),(T.Eu v to l).out.length≤T.out.length+l.length∧(T.Eu v to l).b=T.b
 | [],_=>⟨Nat.le_refl _,rfl⟩
 | i :: r,T=>by
  obtain⟨h1,h2⟩:=Oq v to r (T.Cu v to i)
  have h3:=T.O3 v to i
  rw [Eu,List.length_cons]
  exact⟨by omega,h2.trans (T.YS v to i)⟩
theorem XV (T:AF)(to:Int)(o:Order)(k:Nat):(T.Q9 to o k).out.length≤T.out.length+10∧(T.Q9 to o k).b=T.b:=by
 have hs:=T.ba o
 obtain⟨h1,h2⟩:=Oq o.verb to ((T.Lg o).take k) (T.Qn o)
 have h3:=(S8 (T:=T) (o:=o)).2.2
 have h4:((T.Lg o).take k).length≤(T.Lg o).length:=(List.take_sublist ..).length_le
 unfold Q9
 exact⟨by omega,h2.trans hs.2.1⟩
theorem NN.fh {T:AF}{v to:Int}(h:NN T v to)(hv:v=10):to < 6:=by
 rcases h with h | ⟨_,_,h,_⟩ | ⟨_,h,_⟩<;>omega
theorem Vr {T X:AF}{o:Order}{p:Bool}(hX:X=(T.Cx o).1)(hp:p=(T.Cx o).2.2)(h:(!p)=true):T.FM o=X:=by
 rw [hp] at h
 rw [hX]
 exact if_pos h
theorem TW {T X:AF}{o:Order}{to:Int}{p:Bool}(hX:X=(T.Cx o).1)(ht:to=(T.Cx o).2.1)(hp:p=(T.Cx o).2.2)(h:(!p)=false):T.FM o=X.SG to o∧0≤to∧to < 9∧(o.verb=8∨o.verb=9∨o.verb=10→NN X o.verb to):=by
 rw [hp] at h
 have h2:(T.Cx o).2.2=true:=by simpa using h
 rw [hX,ht]
 exact⟨if_neg (by rw [h];decide),(T.P3 o).1,(T.P3 o).2,fun hv=>W6 hv h2⟩
/-! #### what a being does -/
theorem F5 {T:AF}{o:Order}(h:o.verb < 6):T.act o=T.walk o.verb:=by
 unfold act;rw [if_pos (decide_eq_true h)]
theorem Nj (X:AI)(b:Int)(o:Order):(Dr X b o).2.1.length≤11:=by
 unfold Dr
 split
 ·exact Nat.zero_le _
 ·split
  ·exact Nat.zero_le _
  ·split
   ·exact Nat.zero_le _
   ·have:=Uc (⟨X,b,[]⟩:AF) o
    exact Nat.le_trans this (Nat.le_refl 11)
end AF
end Go.Ing
/- Engine: the same rules, said shorter. -/
namespace Go.Ing
open Go
section
variable {F:List (Nat × Value)} {v0 v1 v2 v3 v4 v5 v6 v7 v8 v9 v10 v11:Value}
theorem Sub.t1 (k0:Nat)(h0:lk k0 F=some v0:=by rfl):Sub F [(k0,v0)]:= .cons h0 (.nil _)
theorem Sub.t2 (k0 k1:Nat)(h0:lk k0 F=some v0:=by rfl)(h1:lk k1 F=some v1:=by rfl):Sub F [(k0,v0),(k1,v1)]:= .cons h0 (.cons h1 (.nil _))
theorem Sub.t3 (k0 k1 k2:Nat)(h0:lk k0 F=some v0:=by rfl)(h1:lk k1 F=some v1:=by rfl)(h2:lk k2 F=some v2:=by rfl):Sub F [(k0,v0),(k1,v1),(k2,v2)]:= .cons h0 (.cons h1 (.cons h2 (.nil _)))
theorem Sub.t4 (k0 k1 k2 k3:Nat)(h0:lk k0 F=some v0:=by rfl)(h1:lk k1 F=some v1:=by rfl)(h2:lk k2 F=some v2:=by rfl)(h3:lk k3 F=some v3:=by rfl):Sub F [(k0,v0),(k1,v1),(k2,v2),(k3,v3)]:= .cons h0 (.cons h1 (.cons h2 (.cons h3 (.nil _))))
theorem Sub.t5 (k0 k1 k2 k3 k4:Nat)(h0:lk k0 F=some v0:=by rfl)(h1:lk k1 F=some v1:=by rfl)(h2:lk k2 F=some v2:=by rfl)(h3:lk k3 F=some v3:=by rfl)(h4:lk k4 F=some v4:=by rfl):Sub F [(k0,v0),(k1,v1),(k2,v2),(k3,v3),(k4,v4)]:= .cons h0 (.cons h1 (.cons h2 (.cons h3 (.cons h4 (.nil _)))))
theorem Sub.t6 (k0 k1 k2 k3 k4 k5:Nat)(h0:lk k0 F=some v0:=by rfl)(h1:lk k1 F=some v1:=by rfl)(h2:lk k2 F=some v2:=by rfl)(h3:lk k3 F=some v3:=by rfl)(h4:lk k4 F=some v4:=by rfl)(h5:lk k5 F=some v5:=by rfl):Sub F [(k0,v0),(k1,v1),(k2,v2),(k3,v3),(k4,v4),(k5,v5)]:= .cons h0 (.cons h1 (.cons h2 (.cons h3 (.cons h4 (.cons h5 (.nil _))))))
theorem Sub.t7 (k0 k1 k2 k3 k4 k5 k6:Nat)(h0:lk k0 F=some v0:=by rfl)(h1:lk k1 F=some v1:=by rfl)(h2:lk k2 F=some v2:=by rfl)(h3:lk k3 F=some v3:=by rfl)(h4:lk k4 F=some v4:=by rfl)(h5:lk k5 F=some v5:=by rfl)(h6:lk k6 F=some v6:=by rfl):Sub F [(k0,v0),(k1,v1),(k2,v2),(k3,v3),(k4,v4),(k5,v5),(k6,v6)]:= .cons h0 (.cons h1 (.cons h2 (.cons h3 (.cons h4 (.cons h5 (.cons h6 (.nil _)))))))
theorem Sub.t8 (k0 k1 k2 k3 k4 k5 k6 k7:Nat)(h0:lk k0 F=some v0:=by rfl)(h1:lk k1 F=some v1:=by rfl)(h2:lk k2 F=some v2:=by rfl)(h3:lk k3 F=some v3:=by rfl)(h4:lk k4 F=some v4:=by rfl)(h5:lk k5 F=some v5:=by rfl)(h6:lk k6 F=some v6:=by rfl)(h7:lk k7 F=some v7:=by rfl):Sub F [(k0,v0),(k1,v1),(k2,v2),(k3,v3),(k4,v4),(k5,v5),(k6,v6),(k7,v7)]:= .cons h0 (.cons h1 (.cons h2 (.cons h3 (.cons h4 (.cons h5 (.cons h6 (.cons h7 (.nil _))))))))
theorem Sub.t9 (k0 k1 k2 k3 k4 k5 k6 k7 k8:Nat)(h0:lk k0 F=some v0:=by rfl)(h1:lk k1 F=some v1:=by rfl)(h2:lk k2 F=some v2:=by rfl)(h3:lk k3 F=some v3:=by rfl)(h4:lk k4 F=some v4:=by rfl)(h5:lk k5 F=some v5:=by rfl)(h6:lk k6 F=some v6:=by rfl)(h7:lk k7 F=some v7:=by rfl)(h8:lk k8 F=some v8:=by rfl):Sub F [(k0,v0),(k1,v1),(k2,v2),(k3,v3),(k4,v4),(k5,v5),(k6,v6),(k7,v7),(k8,v8)]:= .cons h0 (.cons h1 (.cons h2 (.cons h3 (.cons h4 (.cons h5 (.cons h6 (.cons h7 (.cons h8 (.nil _)))))))))
theorem Sub.t10 (k0 k1 k2 k3 k4 k5 k6 k7 k8 k9:Nat)(h0:lk k0 F=some v0:=by rfl)(h1:lk k1 F=some v1:=by rfl)(h2:lk k2 F=some v2:=by rfl)(h3:lk k3 F=some v3:=by rfl)(h4:lk k4 F=some v4:=by rfl)(h5:lk k5 F=some v5:=by rfl)(h6:lk k6 F=some v6:=by rfl)(h7:lk k7 F=some v7:=by rfl)(h8:lk k8 F=some v8:=by rfl)(h9:lk k9 F=some v9:=by rfl):Sub F [(k0,v0),(k1,v1),(k2,v2),(k3,v3),(k4,v4),(k5,v5),(k6,v6),(k7,v7),(k8,v8),(k9,v9)]:= .cons h0 (.cons h1 (.cons h2 (.cons h3 (.cons h4 (.cons h5 (.cons h6 (.cons h7 (.cons h8 (.cons h9 (.nil _))))))))))
theorem Sub.t11 (k0 k1 k2 k3 k4 k5 k6 k7 k8 k9 k10:Nat)(h0:lk k0 F=some v0:=by rfl)(h1:lk k1 F=some v1:=by rfl)(h2:lk k2 F=some v2:=by rfl)(h3:lk k3 F=some v3:=by rfl)(h4:lk k4 F=some v4:=by rfl)(h5:lk k5 F=some v5:=by rfl)(h6:lk k6 F=some v6:=by rfl)(h7:lk k7 F=some v7:=by rfl)(h8:lk k8 F=some v8:=by rfl)(h9:lk k9 F=some v9:=by rfl)(h10:lk k10 F=some v10:=by rfl):Sub F [(k0,v0),(k1,v1),(k2,v2),(k3,v3),(k4,v4),(k5,v5),(k6,v6),(k7,v7),(k8,v8),(k9,v9),(k10,v10)]:= .cons h0 (.cons h1 (.cons h2 (.cons h3 (.cons h4 (.cons h5 (.cons h6 (.cons h7 (.cons h8 (.cons h9 (.cons h10 (.nil _)))))))))))
end
section
variable {P:Program} {n:Nat} {w0:World} {M:List Nat} {Q:Exit→Go.Act→World→Prop} {F F':List (Nat × Value)} {L L' A K:List Af} {ops:Array Oper} {rest l:List Oper} {d id:Nat} {op:Op} {T:TypeId} {pos:String} {Cs:Array Edge} {v v':Value} {x y:Code}
theorem Gs (h:GL P n w0 M l.toArray (Exit.then (y.wp P Q) Q) l F L):G P n w0 M (.seq (.region id l.toArray false) y) Q F L:=Au (AK h)
theorem CH {z:Code}(h:GL P n w0 M l.toArray (Exit.then (y.wp P (Exit.then (z.wp P Q) Q)) (Exit.then (z.wp P Q) Q)) l F L):G P n w0 M (.seq (.seq (.region id l.toArray false) y) z) Q F L:=Au (Au (AK h))
theorem Gn (hs:Sub F F')(h:G P n w0 M y Q F' L):GL P n w0 M ops (Exit.then (y.wp P Q) Q) [] F L:=AT (AB hs (AA h))
theorem Gt (h:PS P n w0 M op T F L v L')(k:GL P n w0 M ops Q rest ((d,v) :: F) L')(hd:Nat.blt d n=true:=by rfl):GL P n w0 M ops Q (⟨some d,op,T,pos,Cs,none⟩ :: rest) F L:=Ka hd h k
theorem Gm {x:Operand}(h:ev F x=some v)(k:GL P n w0 M ops Q rest ((d,v) :: F) L)(hd:Nat.blt d n=true:=by rfl):GL P n w0 M ops Q (⟨some d, .move x,T,pos,Cs,none⟩ :: rest) F L:=Ka hd (AD h) k
theorem Ga {x:Operand}(h:ev F x=some v)(k:GL P n w0 M ops Q rest ((d,v) :: F) L)(hd:Nat.blt d n=true:=by rfl):GL P n w0 M ops Q (⟨some d, .assign x,T,pos,Cs,none⟩ :: rest) F L:=Ka hd (A1 h) k
theorem Bg {j:Nat}{z:Bool}(t:Nat)(hj:(ops[j]?).bind (·.dst)=some t)(hb:lk t F=some (.bool z))(h:z=true→PS P n w0 M op T F L v L)(k:GL P n w0 M ops Q rest ((d,cv z v) :: F) L)(hd:Nat.blt d n=true:=by rfl):GL P n w0 M ops Q (⟨some d,op,T,pos,Cs,some (j,true)⟩ :: rest) F L:=aJ hj hb hd h k
theorem Bf {j:Nat}{z:Bool}(t:Nat)(hj:(ops[j]?).bind (·.dst)=some t)(hb:lk t F=some (.bool z))(h:z=false→PS P n w0 M op T F L v L)(k:GL P n w0 M ops Q rest ((d,cv (!z) v) :: F) L)(hd:Nat.blt d n=true:=by rfl):GL P n w0 M ops Q (⟨some d,op,T,pos,Cs,some (j,false)⟩ :: rest) F L:=Z1 hj hb hd h k
theorem Gc {c:Operand}{b:Bool}(ht:b=true→G P n w0 M x Q F L)(hf:b=false→G P n w0 M y Q F L)(hc:ev F c=some (.bool b):=by rfl):G P n w0 M (.cond c x y) Q F L:=PZ hc ht hf
end
section
variable {P:Program} {n:Nat} {w0:World} {M:List Nat} {Q:Exit→Go.Act→World→Prop} {l:List Oper} {Rs:List Nat} {F:List (Nat × Value)}
variable {k i j d:Nat} {V A:List Nat} {D:List (Nat × (Nat × Value))} {L:List Af} {op:Op} {T:TypeId} {pos:String} {Cs:Array Edge} {v v':Value}
theorem Pf (i:Nat)(ho:l[i]?=some ⟨some d,op,T,pos,Cs,none⟩)(h:PS P n w0 M op T (Ef D Cs.toList++F) L v L)(k':Hn P n w0 M Q l Rs F k (i :: V) (i :: A) ((i,(d,v)) :: D) L)(hc:YA l V i Cs.toList=true:=by kernel_rfl)(hlk:UT F d v:=by first | exact .inl rfl | exact .inr rfl):Hn P n w0 M Q l Rs F (k+1) V A D L:=
 Bh i ho rfl hc (Lv (I1 h)) k' hlk
theorem Hx {j:Nat}{y:Bool}(i t:Nat)(ho:l[i]?=some ⟨some d,op,T,pos,Cs,some (j,false)⟩)(hj:(l.toArray[j]?).bind (·.dst)=some t)(hb:lk t (Ef D Cs.toList++F)=some (.bool y))(h:y=false→PS P n w0 M op T (Ef D Cs.toList++F) L v L)(k':Hn P n w0 M Q l Rs F k (i :: V) (i :: A) ((i,(d,cv (!y) v)) :: D) L)(hc:YA l V i Cs.toList=true:=by kernel_rfl)(hlk:UT F d (cv (!y) v):=by first | exact .inl rfl | exact .inr rfl):Hn P n w0 M Q l Rs F (k+1) V A D L:=
 Bh i ho rfl hc (HH (t:=t) hj hb (fun q=>I1 (h q))) k' hlk
theorem M3 {j:Nat}{y:Bool}(i t:Nat)(ho:l[i]?=some ⟨some d,op,T,pos,Cs,some (j,true)⟩)(hj:(l.toArray[j]?).bind (·.dst)=some t)(hb:lk t (Ef D Cs.toList++F)=some (.bool y))(h:y=true→PS P n w0 M op T (Ef D Cs.toList++F) L v L)(k':Hn P n w0 M Q l Rs F k (i :: V) (i :: A) ((i,(d,cv y v)) :: D) L)(hc:YA l V i Cs.toList=true:=by kernel_rfl)(hlk:UT F d (cv y v):=by first | exact .inl rfl | exact .inr rfl):Hn P n w0 M Q l Rs F (k+1) V A D L:=
 Bh i ho rfl hc (SN (t:=t) hj hb (fun q=>I1 (h q))) k' hlk
theorem Pk (h:IV P n w0 M Q l Rs F i D L A)(hr:reaches Rs i j=true:=by kernel_rfl):IV P n w0 M Q l Rs F i D L (j :: A):=Wk hr h
theorem Po (ho:l[j]?=some ⟨some d,op,T,pos,Cs,none⟩)(h:PS P n w0 M op T (Ef D Cs.toList++F) L v' L)(hl:NP j D=some (d,v))(e:v'=v)(k':IV P n w0 M Q l Rs F i D L A):IV P n w0 M Q l Rs F i D L (j :: A):=YP ho (Lv (I1 h)) hl e k'
end
section
variable {P:Program} {n:Nat} {w0:World} {M:List Nat} {F:List (Nat × Value)} {L:List Af}
theorem cF {x:Operand}{c:Bool}{v:Value}(h:ev F x=some (cv (!c) v))(q:c=false):ev F x=some v:=Bc h (by rw [q];rfl)
theorem Aj {T U f off b o:Nat}{x:Operand}(hf:FA P T f off)(hx:ev F x=some (.pointer (some ⟨b,o,none⟩))):PS P n w0 M (.fieldAddr T x f) U F L (.pointer (some ⟨b,o+off,none⟩)) L:=ME hf hx
theorem Ba {T:TypeId}{x:Operand}{p:Addr}(hx:ev F x=some (.pointer (some p))):PS P n w0 M (.nilCheck x) T F L (.pointer (some p)) L:=R0 hx
end
theorem AQ.ar {α:Type}{n:Nat}[Inhabited α]{e:α→List Value}{sz:Nat}(fe:Flat e sz){i:Int}(h:0≤i∧i < (n:Int)):AQ (CM (n:=n) e) e (i.toNat * sz) sz (fun v=>v.at i) (fun v y=>v.put i y):=AQ.arr fe h.1 h.2
class Nz (a:Prop) (b:outParam Prop):Prop where
 h:a→b
theorem kz {a b:Prop}[i:Nz a b](h:a):b:=i.h h
section
variable {p:Prop} [Decidable p] {a b:Bool} {x y:Prop} {m n:Int}
instance (priority:=low):Nz p p:=⟨id⟩
instance:Nz (decide p=true) p:=⟨of_decide_eq_true⟩
instance (priority:=low):Nz (decide p=false) (¬ p):=⟨of_decide_eq_false⟩
instance:Nz (decide (m < n)=false) (n≤m):=⟨fun h=>Int.not_lt.1 (of_decide_eq_false h)⟩
instance:Nz (decide (m≤n)=false) (n < m):=⟨fun h=>Int.not_le.1 (of_decide_eq_false h)⟩
instance [i:Nz (a=false) x]:Nz ((!a)=true) x:=⟨fun h=>i.h (by simpa using h)⟩
instance [i:Nz (a=true) x]:Nz ((!a)=false) x:=⟨fun h=>i.h (by simpa using h)⟩
instance [i:Nz (a=true) x][j:Nz (b=true) y]:Nz ((a && b)=true) (x∧y):=⟨fun h=>⟨i.h (fM ▸ h).1,j.h (fM ▸ h).2⟩⟩
instance [i:Nz (a=false) x][j:Nz (b=false) y]:Nz ((a || b)=false) (x∧y):=⟨fun h=>⟨i.h (fV ▸ h).1,j.h (fV ▸ h).2⟩⟩
instance [i:Nz (a=true) x][j:Nz (b=true) y]:Nz ((a || b)=true) (x∨y):=⟨fun h=>(ff ▸ h:a=true∨b=true).imp i.h j.h⟩
instance [i:Nz (a=false) x][j:Nz (b=false) y]:Nz ((a && b)=false) (x∨y):=⟨fun h=>(fj ▸ h:a=false∨b=false).imp i.h j.h⟩
end
section
variable {F:List (Nat × Value)} {P:Program} {L L' K rs:List Af} {r r' s:Af} {x:Operand} {v:Value} {xs:List Operand} {vs:List Value}
theorem LZ.h:LZ (r :: L) r r' (r' :: L):= .head
theorem LZ.t (h:LZ L r r' L'):LZ (s :: L) r r' (s :: L'):= .tail h
theorem MA.h:MA (r :: L) r L:= .head
theorem MA.t (h:MA L r L'):MA (s :: L) r (s :: L'):= .tail h
theorem Ax.n:Ax L [] L:= .nil
theorem Ax.c (h:MA L r L')(hs:Ax L' rs K):Ax L (r :: rs) K:= .cons h hs
theorem Pc.n:Pc F [] []:= .nil
theorem Pc.c (h:ev F x=some v)(hs:Pc F xs vs):Pc F (x :: xs) (v :: vs):= .cons h hs
theorem Rs.n:Rs P F L [] []:= .nil
end
section
variable {α:Type} {a b c d e f g h i j:α} {l:List α}
theorem _root_.List.Mem.m0:List.Mem a (a :: l):= .head _
theorem _root_.List.Mem.m1:List.Mem a (b :: a :: l):= .tail _ .m0
theorem _root_.List.Mem.m2:List.Mem a (b :: c :: a :: l):= .tail _ .m1
theorem _root_.List.Mem.m3:List.Mem a (b :: c :: d :: a :: l):= .tail _ .m2
theorem _root_.List.Mem.m4:List.Mem a (b :: c :: d :: e :: a :: l):= .tail _ .m3
theorem _root_.List.Mem.m5:List.Mem a (b :: c :: d :: e :: f :: a :: l):= .tail _ .m4
theorem _root_.List.Mem.m6:List.Mem a (b :: c :: d :: e :: f :: g :: a :: l):= .tail _ .m5
theorem _root_.List.Mem.m7:List.Mem a (b :: c :: d :: e :: f :: g :: h :: a :: l):= .tail _ .m6
theorem _root_.List.Mem.m8:List.Mem a (b :: c :: d :: e :: f :: g :: h :: i :: a :: l):= .tail _ .m7
end
end Go.Ing
/- A house's data, in Lean, and their parts. -/
namespace Go.Ing
open Go
structure A2 where
 state:Int
 Aq:Int
 C0:AR
 Dy:BK
 out:Aw
 told:Hd
instance:Inhabited A2:=⟨⟨0,0,default,⟨[],false,false,⟨none,0,0⟩⟩,⟨⟨none,0,0⟩,0,false,[],false⟩,⟨none,0,0⟩⟩⟩
def A2.enc (x:A2):List Value:=A0 x.state++A0 x.Aq++AR.enc x.C0++BK.enc x.Dy++Aw.enc x.out++En x.told
theorem A2.fl:Flat A2.enc 22:=⟨fun x=>by simp [A2.enc,BK.fl.len,Aw.fl.len,AR.fl.len,Pb.len,B5.len],fun x v hv=>by
 simp only [A2.enc,List.mem_append] at hv
 rcases hv with ((((h | h) | h) | h) | h) | h
 ·exact B5.one _ v h
 ·exact B5.one _ v h
 ·exact AR.fl.one _ v h
 ·exact BK.fl.one _ v h
 ·exact Aw.fl.one _ v h
 ·exact Pb.one _ v h⟩
theorem A2.l0:AQ A2.enc (A0) 0 1 (fun x=>x.state) (fun x y=>{ x with state:=y }):=
 AQ.Eo B5 (fun _=> []) (fun x=>A0 x.Aq++AR.enc x.C0++BK.enc x.Dy++Aw.enc x.out++En x.told) (fun _=>rfl) (fun x=>by simp [A2.enc]) (fun x y=>by simp [A2.enc])
theorem A2.l1:AQ A2.enc (A0) 1 1 (fun x=>x.Aq) (fun x y=>{ x with Aq:=y }):=
 AQ.Eo B5 (fun x=>A0 x.state) (fun x=>AR.enc x.C0++BK.enc x.Dy++Aw.enc x.out++En x.told) (fun x=>by simp [B5.len]) (fun x=>by simp [A2.enc]) (fun x y=>by simp [A2.enc])
theorem A2.l2:AQ A2.enc (AR.enc) 2 10 (fun x=>x.C0) (fun x y=>{ x with C0:=y }):=
 AQ.Eo AR.fl (fun x=>A0 x.state++A0 x.Aq) (fun x=>BK.enc x.Dy++Aw.enc x.out++En x.told) (fun x=>by simp [B5.len]) (fun x=>by simp [A2.enc]) (fun x y=>by simp [A2.enc])
theorem A2.l3:AQ A2.enc (BK.enc) 12 4 (fun x=>x.Dy) (fun x y=>{ x with Dy:=y }):=
 AQ.Eo BK.fl (fun x=>A0 x.state++A0 x.Aq++AR.enc x.C0) (fun x=>Aw.enc x.out++En x.told) (fun x=>by simp [AR.fl.len,B5.len]) (fun x=>by simp [A2.enc]) (fun x y=>by simp [A2.enc])
theorem A2.l4:AQ A2.enc (Aw.enc) 16 5 (fun x=>x.out) (fun x y=>{ x with out:=y }):=
 AQ.Eo Aw.fl (fun x=>A0 x.state++A0 x.Aq++AR.enc x.C0++BK.enc x.Dy) (fun x=>En x.told) (fun x=>by simp [BK.fl.len,AR.fl.len,B5.len]) (fun x=>by simp [A2.enc]) (fun x y=>by simp [A2.enc])
theorem A2.l5:AQ A2.enc (En) 21 1 (fun x=>x.told) (fun x y=>{ x with told:=y }):=
 AQ.Eo Pb (fun x=>A0 x.state++A0 x.Aq++AR.enc x.C0++BK.enc x.Dy++Aw.enc x.out) (fun _=> []) (fun x=>by simp [BK.fl.len,Aw.fl.len,AR.fl.len,B5.len]) (fun x=>by simp [A2.enc]) (fun x y=>by simp [A2.enc])
structure AL where
 w:AI
 Ar:R2 A2 4
 CT:Int
 last:Hd
def AL.enc (x:AL):List Value:=AI.enc x.w++CM A2.enc x.Ar++A0 x.CT++En x.last
theorem AL.fl:Flat AL.enc 255:=⟨fun x=>by simp [AL.enc,(Js A2.fl).len,AI.fl.len,Pb.len,B5.len],fun x v hv=>by
 simp only [AL.enc,List.mem_append] at hv
 rcases hv with ((h | h) | h) | h
 ·exact AI.fl.one _ v h
 ·exact(Js A2.fl).one _ v h
 ·exact B5.one _ v h
 ·exact Pb.one _ v h⟩
theorem AL.l0:AQ AL.enc (AI.enc) 0 165 (fun x=>x.w) (fun x y=>{ x with w:=y }):=
 AQ.Eo AI.fl (fun _=> []) (fun x=>CM A2.enc x.Ar++A0 x.CT++En x.last) (fun _=>rfl) (fun x=>by simp [AL.enc]) (fun x y=>by simp [AL.enc])
theorem AL.l1:AQ AL.enc (CM A2.enc) 165 88 (fun x=>x.Ar) (fun x y=>{ x with Ar:=y }):=
 AQ.Eo (Js A2.fl) (fun x=>AI.enc x.w) (fun x=>A0 x.CT++En x.last) (fun x=>by simp [AI.fl.len]) (fun x=>by simp [AL.enc]) (fun x y=>by simp [AL.enc])
theorem AL.l2:AQ AL.enc (A0) 253 1 (fun x=>x.CT) (fun x y=>{ x with CT:=y }):=
 AQ.Eo B5 (fun x=>AI.enc x.w++CM A2.enc x.Ar) (fun x=>En x.last) (fun x=>by simp [(Js A2.fl).len,AI.fl.len]) (fun x=>by simp [AL.enc]) (fun x y=>by simp [AL.enc])
theorem AL.l3:AQ AL.enc (En) 254 1 (fun x=>x.last) (fun x y=>{ x with last:=y }):=
 AQ.Eo Pb (fun x=>AI.enc x.w++CM A2.enc x.Ar++A0 x.CT) (fun _=> []) (fun x=>by simp [(Js A2.fl).len,AI.fl.len,B5.len]) (fun x=>by simp [AL.enc]) (fun x y=>by simp [AL.enc])
end Go.Ing
/- What a house does: plain functions. -/
namespace Go.Ing
open Go
structure Ad where
 state:Int
 Aq:Int
 C0:AR
 now:As
 CL:Bool
 ret:Bool
 queue:List As
 pg:Page.Pg
 wait:List As
 told:List As
instance:Inhabited Ad:=⟨⟨0,0,default,[],false,false,[],⟨0,false,[],false⟩,[],[]⟩⟩
structure AH where
 w:AI
 Ar:Vector Ad 4
 CT:Int
 last:List Event
namespace Ad
def Jc (s:Ad):Bool:=decide ((s.wait.length:Int)≤60) && decide ((s.pg.ring.length:Int)≤700) && decide (0≤s.pg.shown) && decide (s.pg.shown≤200)
def line (s:Ad)(u:As):Ad:=
 if (!s.Jc)=true then s else if s.pg.cut=true then s
 else if decide (60≤(s.wait.length:Int))=true then { s with pg:={ s.pg with cut:=true } } else { s with wait:=s.wait ++ [u] }
def note (s:Ad)(u:As):Ad:=if (!s.pg.cut)=true then { s with told:=s.told ++ [u] } else s
def tell (s:Ad)(u:As):Ad:=(s.line u).note u
def send (s:Ad)(u:As):Ad:=if (!s.Jc)=true then s else if s.pg.cut=true then s else { s with pg:=Page.put s.pg u }
def BQ (s:Ad):Ad:=
 if (!s.Jc || decide (s.C0.Bm < 0) || decide (200 < s.C0.Bm))=true then s
 else { s with pg:=(Page.BQ s.C0.Bm s.wait s.pg).1,wait:=(Page.BQ s.C0.Bm s.wait s.pg).2 }
def EU (s:Ad):Ad:={ s with pg:={ s.pg with shown:=0,Bq:=false } }
def aP (s:Ad)(n:Int):Nat:=(max 0 (min n (s.pg.ring.length:Int))).toNat
def GG (s:Ad)(n:Int):Ad:={ s with pg:={ s.pg with ring:=s.pg.ring.drop (s.aP n) } }
def out (s:Ad)(n:Int):As:=s.pg.ring.take (s.aP n)
def Ie (s:Ad):Bool:=
 !(decide (60 < (s.now.length:Int)) || decide (6 < (s.queue.length:Int)) || (s.CL && decide (60 < (s.now.length:Int))) || (s.ret && (!decide (s.now = []) || s.CL))) && (s.queue ++ [s.now]).all Bj.GM
def typed (s:Ad)(u:As):Ad × Int:=
 if (!s.Ie)=true then(s,0)
 else
  let x:=Bj.feed ⟨s.now,s.CL,s.ret,s.queue,0⟩ u
  ({ s with now:=x.now,CL:=x.CL,ret:=x.ret,queue:=x.queue },x.lost)
def bytes (s:Ad)(u:As):Ad × As:=({ s with C0:=(s.C0.DY u).1 }.send (s.C0.DY u).2.2.1,(s.C0.DY u).2.1)
def offer (s:Ad)(opt:Int):Ad:=
 if decide ((s.C0.DR opt).2.1 = [])=true then { s with C0:=((s.C0.DR opt).1.Ask opt).1 }.send ([]++((s.C0.DR opt).1.Ask opt).2.1)
 else { s with C0:=(s.C0.DR opt).1 }.send ((s.C0.DR opt).2.1 ++ [])
end Ad
namespace AH
def at_ (H:AH)(k:Int):Ad:=H.Ar.at k
def set (H:AH)(k:Int)(s:Ad):AH:={ H with Ar:=H.Ar.put k s }
def tell (H:AH)(k:Int)(u:As):AH:=H.set k ((H.at_ k).tell u)
def CR (e:Event)(H:AH):Nat→AH
 | 0=>H
 | k+1=>if (!decide (((CR e H k).at_ k).state=2))=true then CR e H k else if (AI.tell e ((CR e H k).at_ k).Aq).2=true then(CR e H k).tell k (AI.tell e ((CR e H k).at_ k).Aq).1 else CR e H k
def Hj (H:AH)(l:List Event):AH:=l.foldl (fun X e=>CR e X 4) H
def GP (H:AH)(l:List Event):AH:={ H with last:=H.last++l }.Hj l
def Dd:Order:={ (default:Order) with verb:=20 }
def Q6 (H:AH)(k:Int):AH:={ H with w:=(AF.Dr H.w (H.at_ k).Aq Dd).1 }
def leave (H:AH)(k:Int):AH:=
 (if (decide ((H.at_ k).state=2) && (H.w.AN.at (H.at_ k).Aq).here)=true then((H.Q6 k).set k default).GP (AF.Dr H.w (H.at_ k).Aq Dd).2.1 else H).set k default
def Ci (H:AH):Nat→AH × Bool
 | 0=>(H,false)
 | k+1=>
  if decide (((Ci H k).1.at_ k).state=0)=true then Ci H k
  else if (((Ci H k).1.at_ k).BQ).pg.cut=true then(((Ci H k).1.set k (((Ci H k).1.at_ k).BQ)).leave k,true)
  else((Ci H k).1.set k (((Ci H k).1.at_ k).BQ),(Ci H k).2)
def Hg (H:AH):Nat→AH
 | 0=>H
 | n+1=>if (!(H.Ci 4).2)=true then(H.Ci 4).1 else(H.Ci 4).1.Hg n
def BQ (H:AH):AH:=H.Hg 5
def HZ:As:= [87,104,111,32,97,114,101,32,121,111,117,63]
def My:As:= [78,111,116,32,115,111,32,102,97,115,116,46]
def aR:As:= [87,104,97,116,63]
def RI:As:= [84,104,97,116,32,105,115,32,110,111,32,110,97,109,101,46]
def noRoom:As:= [84,104,101,114,101,32,105,115,32,110,111,32,114,111,111,109,46]
def J2 (H:AH)(k:Int):AH:=((H.set k ((({ (default:Ad) with state:=1,Aq:=-1 }).offer 3).offer 31)).tell k HZ).BQ
def named (H:AH)(k:Int)(u:As):AH:=
 if decide ((AF.Bb H.w u).2.2.2=0)=true then({ H with w:=(AF.Bb H.w u).1 }.set k { H.at_ k with state:=2,Aq:=(AF.Bb H.w u).2.1 }).GP (AF.Bb H.w u).2.2.1
 else if decide ((AF.Bb H.w u).2.2.2=4)=true then H.tell k noRoom
 else H.tell k RI
def order (H:AH)(k:Int)(u:As):AH:=
 if (!decide ((Words.parse u).2=0))=true then H.tell k aR
 else if decide ((Words.parse u).1.verb=20)=true then H.leave k
 else { H with w:=(AF.Dr H.w (H.at_ k).Aq (Words.parse u).1).1 }.GP (AF.Dr H.w (H.at_ k).Aq (Words.parse u).1).2.1
def D5 (H:AH)(k:Int):AH:=
 if decide ((H.at_ k).state=0)=true then H
 else match (H.at_ k).queue with
  | []=>H
  | q :: r=>
   let H1:=H.set k { H.at_ k with queue:=r }.EU
   if (H.at_ k).pg.Bq=true then H1
   else if decide ((H.at_ k).state=1)=true then H1.named k (Words.Pe 32 (Words.Rn 32 q))
   else H1.order k q
def turns (H:AH):Nat→AH
 | 0=>H
 | k+1=>(turns H k).D5 k
def M5 (H:AH)(d:Int):AH:=
 let X:=H.turns 4
 ({ X with w:=(AF.CD X.w d).1 }.GP (AF.CD X.w d).2.1).BQ
def Ei (H:AH):Nat→AH
 | 0=>H
 | k+1=>(Ei H k).set k { (Ei H k).at_ k with told:= [] }
def begun (H:AH):AH:={ H with CT:=H.CT+1,last:= [] }.Ei 4
def ok:BG:=⟨0,[]⟩
def byte (H:AH)(k:Int)(u:As):AH:=
 let s1:=(H.at_ k).bytes u
 let s2:=s1.1.typed s1.2
 ((if decide (0 < s2.2)=true then(H.set k s2.1).tell k My else H.set k s2.1)).BQ
def DQ (X:AH)(a:BF):AH × BG:=
 if decide (a.kind=5)=true then(X.M5 a.n,ok)
 else if (decide (a.kind < 1) || decide (5 < a.kind))=true then(X,⟨5,[]⟩)
 else if (decide (a.A8 < 0) || decide (4≤a.A8))=true then(X,⟨2,[]⟩)
 else if (decide ((X.at_ a.A8).state=0) != decide (a.kind=1))=true then(X,⟨3,[]⟩)
 else if decide (a.kind=1)=true then(X.J2 a.A8,ok)
 else if decide (a.kind=2)=true then(X.byte a.A8 a.bytes,ok)
 else if decide (a.kind=3)=true then((X.set a.A8 ((X.at_ a.A8).GG a.n)).BQ,⟨0,(X.at_ a.A8).out a.n⟩)
 else((X.leave a.A8).BQ,ok)
def act (H:AH)(a:BF):AH × BG:=if decide (400≤H.CT)=true then(H,⟨4,[]⟩) else H.begun.DQ a
def new:AH:=⟨AI.new,Vector.replicate 4 default,0,[]⟩
def run:AH→List BF→AH × List BG
 | H,[]=>(H,[])
 | H,a :: l=>((run (H.act a).1 l).1,(H.act a).2 :: (run (H.act a).1 l).2)
end AH
end Go.Ing
/- Engine: several slices together; a seat of a house. -/
namespace Go.Ing
open Go
def Af.D0 (l:List Af):Af where
 CY:=l.flatMap Af.CY
 ok w:=(∀ r∈l,r.ok w)∧l.Pairwise fun r s=>∀ b:Nat,b∈r.CY→b ∉ s.CY
 loc w w' h hw:=⟨fun r hr=>r.loc w w' (fun b hb=>h b (List.mem_flatMap.2 ⟨r,hr,hb⟩)) (hw.1 r hr),hw.2⟩
section
variable {w0 w:World} {M:List Nat} {l L:List Af}
theorem St.aB (h:St w0 M w (Af.D0 l :: L)):St w0 M w (l++L):=by
 have hm:∀ r∈l,∀ b∈r.CY,b∈(Af.D0 l).CY:=fun r hr b hb=>List.mem_flatMap.2 ⟨r,hr,hb⟩
 have hf:=h.ok (Af.D0 l) (List.mem_cons_self ..)
 refine⟨h.os,h.tape,h.output,h.size,h.HJ,fun r hr=>?_,fun r hr=>?_,List.pairwise_append.2 ⟨hf.2,(List.pairwise_cons.1 h.JG).2,fun r hr s hs b hb=>(List.pairwise_cons.1 h.JG).1 s hs b (hm r hr b hb)⟩⟩
 ·rcases List.mem_append.1 hr with hr | hr
  ·exact hf.1 r hr
  ·exact h.ok r (List.mem_cons_of_mem _ hr)
 ·rcases List.mem_append.1 hr with hr | hr
  ·exact fun b hb=>h.CY _ (List.mem_cons_self ..) b (hm r hr b hb)
  ·exact h.CY r (List.mem_cons_of_mem _ hr)
theorem St.Z4 (h:St w0 M w (l++L)):St w0 M w (Af.D0 l :: L):=by
 have hd:=List.pairwise_append.1 h.JG
 refine⟨h.os,h.tape,h.output,h.size,h.HJ,fun r hr=>?_,fun r hr=>?_,List.pairwise_cons.2 ⟨fun s hs b hb=>?_,hd.2.1⟩⟩
 ·rcases List.mem_cons.1 hr with rfl | hr
  ·exact⟨fun r hr=>h.ok r (List.mem_append_left _ hr),hd.1⟩
  ·exact h.ok r (List.mem_append_right _ hr)
 ·rcases List.mem_cons.1 hr with rfl | hr
  ·intro b hb
   obtain⟨r,hr,hb'⟩:=List.mem_flatMap.1 hb
   exact h.CY r (List.mem_append_left _ hr) b hb'
  ·exact h.CY r (List.mem_append_right _ hr)
 ·obtain⟨r,hr,hb'⟩:=List.mem_flatMap.1 hb
  exact hd.2.2 r hr s hs b hb'
end
structure BI where
 queue:List As
 wait:List As
 told:List As
 deriving Inhabited
def Fw (T:Nat)(v:A2)(l:BI):List Af:= [Af.own v.Dy.queue T 1 (l.queue.flatMap A9),Af.own v.out.wait T 1 (l.wait.flatMap A9),Af.own v.told T 1 (l.told.flatMap A9)]
def CJ (T:Nat)(vs:Vector A2 4)(ls:Vector BI 4):List Af:=Fw T (vs.at 0) (ls.at 0)++(Fw T (vs.at 1) (ls.at 1)++(Fw T (vs.at 2) (ls.at 2)++Fw T (vs.at 3) (ls.at 3)))
def G4 (T:Nat)(k:Int)(vs:Vector A2 4)(ls:Vector BI 4):List Af:=
 if k=0 then Fw T (vs.at 1) (ls.at 1)++(Fw T (vs.at 2) (ls.at 2)++Fw T (vs.at 3) (ls.at 3))
 else if k=1 then Fw T (vs.at 0) (ls.at 0)++(Fw T (vs.at 2) (ls.at 2)++Fw T (vs.at 3) (ls.at 3))
 else if k=2 then Fw T (vs.at 0) (ls.at 0)++(Fw T (vs.at 1) (ls.at 1)++Fw T (vs.at 3) (ls.at 3))
 else Fw T (vs.at 0) (ls.at 0)++(Fw T (vs.at 1) (ls.at 1)++Fw T (vs.at 2) (ls.at 2))
theorem Ja {α:Type}(a b c:List α):(a++(b++c)).Perm (b++(a++c)):=by
 rw [← List.append_assoc,← List.append_assoc]
 exact List.perm_append_comm.append_right c
theorem four {k:Int}(h0:0≤k)(h1:k < 4):k=0∨k=1∨k=2∨k=3:=by omega
theorem QJ (T:Nat){k:Int}(h0:0≤k)(h1:k < 4)(vs:Vector A2 4)(ls:Vector BI 4):(CJ T vs ls).Perm (Fw T (vs.at k) (ls.at k)++G4 T k vs ls):=by
 unfold CJ G4
 rcases four h0 h1 with e | e | e | e<;>subst e
 ·exact .refl _
 ·exact Ja _ _ _
 ·exact((Ja _ _ _).append_left _).trans (Ja _ _ _)
 ·exact(((List.perm_append_comm).append_left _).append_left _).trans (((Ja _ _ _).append_left _).trans (Ja _ _ _))
theorem WG (T:Nat){k:Int}(h0:0≤k)(h1:k < 4)(vs:Vector A2 4)(ls:Vector BI 4)(v:A2)(l:BI):G4 T k (vs.put k v) (ls.put k l)=G4 T k vs ls:=by
 have hv:∀ i:Int,0≤i→i≠k→(vs.put k v).at i=vs.at i:=fun i hi hn=>Vector.Eh h0 h1 hi hn
 have hl:∀ i:Int,0≤i→i≠k→(ls.put k l).at i=ls.at i:=fun i hi hn=>Vector.Eh h0 h1 hi hn
 unfold G4
 rcases four h0 h1 with e | e | e | e<;>subst e
 ·rw [if_pos rfl,if_pos rfl,hv 1 (by decide) (by decide),hv 2 (by decide) (by decide),hv 3 (by decide) (by decide),hl 1 (by decide) (by decide),hl 2 (by decide) (by decide),hl 3 (by decide) (by decide)]
 ·rw [if_neg (by decide),if_pos rfl,if_neg (by decide),if_pos rfl,hv 0 (by decide) (by decide),hv 2 (by decide) (by decide),hv 3 (by decide) (by decide),hl 0 (by decide) (by decide),hl 2 (by decide) (by decide),hl 3 (by decide) (by decide)]
 ·rw [if_neg (by decide),if_neg (by decide),if_pos rfl,if_neg (by decide),if_neg (by decide),if_pos rfl,hv 0 (by decide) (by decide),hv 1 (by decide) (by decide),hv 3 (by decide) (by decide),hl 0 (by decide) (by decide),hl 1 (by decide) (by decide),hl 3 (by decide) (by decide)]
 ·rw [if_neg (by decide),if_neg (by decide),if_neg (by decide),if_neg (by decide),if_neg (by decide),if_neg (by decide),hv 0 (by decide) (by decide),hv 1 (by decide) (by decide),hv 2 (by decide) (by decide),hl 0 (by decide) (by decide),hl 1 (by decide) (by decide),hl 2 (by decide) (by decide)]
def AL.A8 (V:AL)(k:Int)(s:A2):AL:={ V with Ar:=V.Ar.put k s }
def KA (V:AL)(k:Int)(s:A2):List Value:=(V.A8 k s).enc
theorem AQ.A8 (V:AL){k:Int}(h0:0≤k)(h1:k < 4):AQ (KA V k) A2.enc (165+k.toNat * 22) 22 (fun s=>s) (fun _ y=>y):=by
 have hl:=AL.l1.comp (AQ.arr (n:=4) A2.fl h0 h1)
 refine⟨fun x=>?_,hl.len,fun x=>hl.Wx _,fun x y=>?_,hl.one⟩
 ·have:=hl.get (V.A8 k x)
  rw [show((V.A8 k x).Ar.at k)=x from Vector.CG h0 h1] at this
  exact this
 ·have:=hl.set (V.A8 k x) y
  rw [show({ V.A8 k x with Ar:=(V.A8 k x).Ar.put k y }:AL)=V.A8 k y from by unfold AL.A8;rw [Vector.Ep]] at this
  exact this
theorem Vector.Lo {α:Type}[Inhabited α]{n:Nat}(v:Vector α n){k:Int}(h0:0≤k)(h1:k < n):v.put k (v.at k)=v:=by
 apply U3
 intro i i0 i1
 by_cases e:i=k
 ·subst e;rw [Vector.CG h0 h1]
 ·rw [Vector.Eh h0 h1 i0 e]
theorem AL.Ke (V:AL){k:Int}(h0:0≤k)(h1:k < 4):V.A8 k (V.Ar.at k)=V:=by
 unfold AL.A8;rw [Vector.Lo _ h0 h1]
def Cq (v:A2)(l:BI):Ad:=⟨v.state,v.Aq,v.C0,v.Dy.now,v.Dy.CL,v.Dy.ret,l.queue,Page.of v.out,l.wait,l.told⟩
def A4 (V:AL)(ls:Vector BI 4)(ev:List Event):AH:=⟨V.w,Vector.ofFn fun i=>Cq (V.Ar.at ((i:Nat):Int)) (ls.at ((i:Nat):Int)),V.CT,ev⟩
theorem CE (V:AL)(ls:Vector BI 4)(ev:List Event){k:Int}(h0:0≤k)(h1:k < 4):(A4 V ls ev).at_ k=Cq (V.Ar.at k) (ls.at k):=by
 rcases four h0 h1 with e | e | e | e<;>subst e<;>rfl
theorem JB (V:AL)(ls:Vector BI 4)(ev:List Event){k:Int}(h0:0≤k)(h1:k < 4)(v:A2)(l:BI):A4 (V.A8 k v) (ls.put k l) ev=(A4 V ls ev).set k (Cq v l):=by
 unfold A4 AH.set AL.A8
 congr 1
 apply U3
 intro i i0 i1
 have hof:∀(f:Fin 4→Ad),(Vector.ofFn f).at i=f ⟨i.toNat,by omega⟩:=fun f=>by
  rcases four i0 i1 with e | e | e | e<;>subst e<;>rfl
 rw [hof]
 have hi:((i.toNat:Nat):Int)=i:=by omega
 by_cases e:i=k
 ·subst e
  rw [Vector.CG h0 h1]
  show Cq ((V.Ar.put i v).at ((i.toNat:Nat):Int)) ((ls.put i l).at ((i.toNat:Nat):Int))=_
  rw [hi,Vector.CG h0 h1,Vector.CG h0 h1]
 ·rw [Vector.Eh h0 h1 i0 e,hof]
  show Cq ((V.Ar.put k v).at ((i.toNat:Nat):Int)) ((ls.put k l).at ((i.toNat:Nat):Int))=Cq (V.Ar.at ((i.toNat:Nat):Int)) (ls.at ((i.toNat:Nat):Int))
  rw [hi,Vector.Eh h0 h1 i0 e,Vector.Eh h0 h1 i0 e]
section
variable {P:Program} {n:Nat} {w0 w:World} {M:List Nat} {Q:Exit→Go.Act→World→Prop} {F:List (Nat × Value)} {L K:List Af} {cd:Code} {b T TS:Nat} {V:AL} {ls:Vector BI 4} {k:Int}
theorem St.dX (h0:0≤k)(h1:k < 4)(h:St w0 M w (Af.box b T V.enc :: Af.D0 (CJ TS V.Ar ls) :: K)) :
  St w0 M w (Af.own (V.Ar.at k).Dy.queue TS 1 ((ls.at k).queue.flatMap A9) :: Af.own (V.Ar.at k).out.wait TS 1 ((ls.at k).wait.flatMap A9) :: Af.own (V.Ar.at k).told TS 1 ((ls.at k).told.flatMap A9) :: Af.box b T (KA V k (V.Ar.at k)) :: Af.D0 (G4 TS k V.Ar ls) :: K):=by
 have h2:St w0 M w (CJ TS V.Ar ls++(Af.box b T V.enc :: K)):=(h.perm (List.Perm.swap ..)).aB
 have h3:=h2.perm ((QJ TS h0 h1 V.Ar ls).append_right _)
 have h4:St w0 M w (G4 TS k V.Ar ls++(Fw TS (V.Ar.at k) (ls.at k)++(Af.box b T V.enc :: K))):=by
  refine h3.perm ?_
  rw [List.append_assoc]
  exact Ja _ _ _
 have h5:=h4.Z4
 unfold KA
 rw [V.Ke h0 h1]
 refine h5.perm ?_
 exact(Ja [Af.D0 (G4 TS k V.Ar ls)] (Fw TS (V.Ar.at k) (ls.at k) ++ [Af.box b T V.enc]) K).trans (.of_eq (by simp [Fw]))
theorem St.close' (h0:0≤k)(h1:k < 4){s:A2}{qs ws ts:List As}{q w' t:Hd}(hq:s.Dy.queue=q)(hw:s.out.wait=w')(ht:s.told=t)
  (h:St w0 M w (Af.own q TS 1 (qs.flatMap A9) :: Af.own w' TS 1 (ws.flatMap A9) :: Af.own t TS 1 (ts.flatMap A9) :: Af.box b T (KA V k s) :: Af.D0 (G4 TS k V.Ar ls) :: K)) :
  St w0 M w (Af.box b T (V.A8 k s).enc :: Af.D0 (CJ TS (V.A8 k s).Ar (ls.put k ⟨qs,ws,ts⟩)) :: K):=by
 subst hq hw ht
 have e1:(V.A8 k s).Ar.at k=s:=Vector.CG h0 h1
 have e2:(ls.put k ⟨qs,ws,ts⟩).at k=⟨qs,ws,ts⟩:=Vector.CG h0 h1
 have hp:=QJ TS h0 h1 (V.A8 k s).Ar (ls.put k ⟨qs,ws,ts⟩)
 rw [e1,e2,show G4 TS k (V.A8 k s).Ar (ls.put k ⟨qs,ws,ts⟩)=G4 TS k V.Ar ls from WG TS h0 h1 _ _ _ _] at hp
 have h2:St w0 M w (Af.D0 (G4 TS k V.Ar ls) :: (Fw TS s ⟨qs,ws,ts⟩++(Af.box b T (V.A8 k s).enc :: K))):=
  h.perm ((Ja [Af.D0 (G4 TS k V.Ar ls)] (Fw TS s ⟨qs,ws,ts⟩ ++ [Af.box b T (V.A8 k s).enc]) K).symm.trans (.of_eq (by simp [Fw]))|>.symm.symm)
 have h3:=h2.aB
 have h4:St w0 M w ((Fw TS s ⟨qs,ws,ts⟩++G4 TS k V.Ar ls)++(Af.box b T (V.A8 k s).enc :: K)):=h3.perm (by rw [List.append_assoc];exact Ja _ _ _)
 have h5:=(h4.perm (hp.symm.append_right _)).Z4
 exact h5.perm (List.Perm.swap ..)
theorem FJ (h0:0≤k)(h1:k < 4)(h:∀ s l,V.Ar.at k=s→ls.at k=l→(s.Dy.queue.len=l.queue.length∧s.out.wait.len=l.wait.length∧s.told.len=l.told.length)→G P n w0 M cd Q F (Af.own s.Dy.queue TS 1 (l.queue.flatMap A9) :: Af.own s.out.wait TS 1 (l.wait.flatMap A9) :: Af.own s.told TS 1 (l.told.flatMap A9) :: Af.box b T (KA V k s) :: Af.D0 (G4 TS k V.Ar ls) :: K)) :
  G P n w0 M cd Q F (Af.box b T V.enc :: Af.D0 (CJ TS V.Ar ls) :: K):=fun a w hF hS=>
 have hO:=hS.dX h0 h1
 h _ _ rfl rfl ⟨(Kn.own (.head _) w hO).K5 DZ (by decide),(Kn.own (.tail _ (.head _)) w hO).K5 DZ (by decide),(Kn.own (.tail _ (.tail _ (.head _))) w hO).K5 DZ (by decide)⟩ a w hF hO
theorem HP (h0:0≤k)(h1:k < 4){s:A2}{qs ws ts:List As}{q w' t:Hd}(hq:s.Dy.queue=q)(hw:s.out.wait=w')(ht:s.told=t)(h:G P n w0 M cd Q F (Af.box b T (V.A8 k s).enc :: Af.D0 (CJ TS (V.A8 k s).Ar (ls.put k ⟨qs,ws,ts⟩)) :: K)) :
  G P n w0 M cd Q F (Af.own q TS 1 (qs.flatMap A9) :: Af.own w' TS 1 (ws.flatMap A9) :: Af.own t TS 1 (ts.flatMap A9) :: Af.box b T (KA V k s) :: Af.D0 (G4 TS k V.Ar ls) :: K):=fun a w hF hS=>h a w hF (hS.close' h0 h1 hq hw ht)
theorem Rp {x:Exit}(h0:0≤k)(h1:k < 4){s:A2}{qs ws ts:List As}{q w' t:Hd}(hq:s.Dy.queue=q)(hw:s.out.wait=w')(ht:s.told=t)(h:GQ n w0 M Q x F (Af.box b T (V.A8 k s).enc :: Af.D0 (CJ TS (V.A8 k s).Ar (ls.put k ⟨qs,ws,ts⟩)) :: K)) :
  GQ n w0 M Q x F (Af.own q TS 1 (qs.flatMap A9) :: Af.own w' TS 1 (ws.flatMap A9) :: Af.own t TS 1 (ts.flatMap A9) :: Af.box b T (KA V k s) :: Af.D0 (G4 TS k V.Ar ls) :: K):=fun a w hF hS=>h a w hF (hS.close' h0 h1 hq hw ht)
end
theorem Er {V:AL}{ls:Vector BI 4}{ev:List Event}{k:Int}(h0:0≤k)(h1:k < 4){s v:A2}{l l':BI}(hs:V.Ar.at k=s)(hl:ls.at k=l){f:Ad→Ad}(e:Cq v l'=f (Cq s l)):A4 (V.A8 k v) (ls.put k l') ev=(A4 V ls ev).set k (f ((A4 V ls ev).at_ k)):=by
 rw [JB V ls ev h0 h1,CE V ls ev h0 h1,hs,hl,e]
theorem JP {v:A2}{l:BI}(h:v.out.wait.len=l.wait.length):(Cq v l).Jc=Page.Bk v.out:=by
 unfold Ad.Jc Page.Bk
 rw [h];rfl
end Go.Ing
/- A house: plain laws for the walks. -/
namespace Go.Ing
open Go
theorem Ya {v:A2}{l:BI}{u:As}(hw:v.out.wait.len=l.wait.length)(h:Page.Bk v.out=false):(Cq v l).line u=Cq v l:=if_pos (by rw [JP hw,h];rfl)
theorem W4 {v:A2}{l:BI}{u:As}(hw:v.out.wait.len=l.wait.length)(h:Page.Bk v.out=true)(c:v.out.cut=true):(Cq v l).line u=Cq v l:=(if_neg (by rw [JP hw,h];decide)).trans (if_pos c)
theorem Vn {v:A2}{l:BI}{u:As}(hw:v.out.wait.len=l.wait.length)(h:Page.Bk v.out=true)(c:v.out.cut=false)(n:60≤l.wait.length):(Cq v l).line u=Cq { v with out:=⟨v.out.wait,v.out.shown,v.out.Bq,v.out.ring,true⟩ } l:=
 (if_neg (by rw [JP hw,h];decide)).trans ((if_neg (by show ¬ v.out.cut=true;rw [c];decide)).trans (if_pos (decide_eq_true (show(60:Int)≤(l.wait.length:Int) by omega))))
theorem Vj {v:A2}{l:BI}{u:As}(hw:v.out.wait.len=l.wait.length)(h:Page.Bk v.out=true)(c:v.out.cut=false)(n:l.wait.length < 60)(w:Hd):(Cq v l).line u=Cq { v with out:=⟨w,v.out.shown,v.out.Bq,v.out.ring,v.out.cut⟩ } ⟨l.queue,l.wait ++ [u],l.told⟩:=
 (if_neg (by rw [JP hw,h];decide)).trans ((if_neg (by show ¬ v.out.cut=true;rw [c];decide)).trans (if_neg (by rw [decide_eq_true_eq];show ¬ (60:Int)≤(l.wait.length:Int);omega)))
theorem bP {v:A2}{l:BI}{u:As}(h:(!v.out.cut)=true)(t:Hd):(Cq v l).note u=Cq { v with told:=t } ⟨l.queue,l.wait,l.told ++ [u]⟩:=if_pos h
theorem bF {v:A2}{l:BI}{u:As}(h:(!v.out.cut)=false):(Cq v l).note u=Cq v l:=if_neg (by show ¬ (!v.out.cut)=true;rw [h];decide)
theorem AH.Cg (H:AH){k j:Int}(h0:0≤k)(h1:k < 4)(j0:0≤j)(s:Ad):(H.set k s).at_ j=if j=k then s else H.at_ j:=by
 unfold AH.set AH.at_
 by_cases e:j=k
 ·subst e;rw [if_pos rfl];exact Vector.CG h0 h1
 ·rw [if_neg e];exact Vector.Eh h0 h1 j0 e
theorem CI (s:Ad)(u:As):(s.tell u).told.length≤s.told.length+1:=by
 have h:(s.line u).told=s.told:=by
  unfold Ad.line;split
  ·rfl
  ·split
   ·rfl
   ·split<;>rfl
 unfold Ad.tell Ad.note
 split
 ·show((s.line u).told ++ [u]).length≤_
  rw [h,List.length_append];exact Nat.le_refl _
 ·rw [h];exact Nat.le_succ _
theorem LU {V V':AL}{ls ls':Vector BI 4}{ev ev':List Event}{k:Int}{u:As}(h0:0≤k)(h1:k < 4)(e:A4 V' ls' ev'=(A4 V ls ev).tell k u){j:Int}(j0:0≤j)(j1:j < 4) :
  (ls'.at j).told.length≤(ls.at j).told.length+1∧(j≠k→(ls'.at j).told=(ls.at j).told):=by
 have h:=congrArg (fun H=>(AH.at_ H j).told) e
 simp only [AH.tell] at h
 rw [CE _ _ _ j0 j1,AH.Cg _ h0 h1 j0] at h
 have h':(ls'.at j).told=(if j=k then((A4 V ls ev).at_ k).tell u else(A4 V ls ev).at_ j).told:=h
 by_cases c:j=k
 ·subst c
  rw [if_pos rfl,CE _ _ _ j0 j1] at h'
  exact⟨by rw [h'];exact CI _ _,fun hn=>absurd rfl hn⟩
 ·rw [if_neg c,CE _ _ _ j0 j1] at h'
  exact⟨by rw [h'];exact Nat.le_succ _,fun _=>h'⟩
theorem LB {V:AL}{ls:Vector BI 4}{ev:List Event}{e:Event}{X:AH}{i:Int}(h0:0≤i)(h1:i < 4)(h:A4 V ls ev=AH.CR e X i.toNat):AH.CR e X (i+1).toNat=if (!decide ((V.Ar.at i).state=2))=true then A4 V ls ev else if (AI.tell e (V.Ar.at i).Aq).2=true then(A4 V ls ev).tell i (AI.tell e (V.Ar.at i).Aq).1 else A4 V ls ev:=by
 obtain⟨m,rfl⟩:=Int.eq_ofNat_of_zero_le h0
 have ha:=CE V ls ev h0 h1
 rw [show((m:Int)+1).toNat=m+1 by omega,AH.CR]
 rw [show((m:Int)).toNat=m by omega] at h
 rw [← h,ha]
 rfl
theorem UR {H:AH}{es:List Event}{k:Int}(h0:0≤k)(h1:k < es.length):H.Hj (es.take (k+1).toNat)=AH.CR (es.getD k.toNat default) (H.Hj (es.take k.toNat)) 4:=by
 obtain⟨m,rfl⟩:=Int.eq_ofNat_of_zero_le h0
 have hm:m < es.length:=by omega
 show H.Hj (es.take (m+1))=AH.CR (es.getD m default) (H.Hj (es.take m)) 4
 unfold AH.Hj
 rw [List.take_add_one,List.getElem?_eq_getElem hm,List.foldl_append,List.getD_eq_getElem?_getD,List.getElem?_eq_getElem hm]
 rfl
def X9 (ls:Vector BI 4)(n:Nat):Prop:=∀ j:Int,0≤j→j < 4→(ls.at j).told.length≤n
theorem YN {H:AH}{ev es:List Event}(h:H.last=ev):AH.GP H es=({ H with last:=ev++es }:AH).Hj es:=by subst h;rfl
end Go.Ing
/- What is said in a land of short names is short: plain laws. -/
namespace Go.Ing
open Go
namespace AI
structure Lk (w:AI):Prop where
 th:∀ i,(w.AP.at i).name.length≤100
 be:∀ i,(w.AN.at i).name.length≤100
 ro:∀ i,(w.BV.at i).name.length≤100
theorem Lk.IK {w:AI}(h:w.Lk):w.DL:=⟨fun i=>Nat.le_trans (h.th i) (by decide),fun i=>Nat.le_trans (h.be i) (by decide),fun i=>Nat.le_trans (h.ro i) (by decide)⟩
theorem Yc {X:AI}(h:X.Lk){i:Int}{t:Ap}(ht:t.name.length≤100):(X.Gz i t).Lk:=⟨fun j=>by
 rcases Vector.QD X.AP i j t with e | e
 ·show((X.AP.put i t).at j).name.length≤_;rw [e];exact ht
 ·show((X.AP.put i t).at j).name.length≤_;rw [e];exact h.th j,h.be,h.ro⟩
theorem I4 {X:AI}(h:X.Lk){i:Int}{t:An}(ht:t.name.length≤100):(X.C7 i t).Lk:=⟨h.th,fun j=>by
 rcases Vector.QD X.AN i j t with e | e
 ·show((X.AN.put i t).at j).name.length≤_;rw [e];exact ht
 ·show((X.AN.put i t).at j).name.length≤_;rw [e];exact h.be j,h.ro⟩
theorem YL {X:AI}(h:X.Lk){r d:Int}{v:Bool}:(X.NW r d v).Lk:=⟨h.th,h.be,fun j=>by
 rcases Vector.QD X.BV r j { X.BV.at r with shut:=(X.BV.at r).shut.put d v } with e | e
 ·show((X.BV.put r _).at j).name.length≤_;rw [e];exact h.ro r
 ·show((X.BV.put r _).at j).name.length≤_;rw [e];exact h.ro j⟩
end AI
namespace AF
structure C2 (T:AF):Prop where
 Fz:T.w.Lk
 out:∀ e∈T.out,AI.Small e
theorem Md {w:AI}(hw:w.Lk):∀(l:List Int) (s:As),(IN w s l).length≤s.length+l.length * 102
 | [],s=>by simp [IN]
 | i :: r,s=>by
  have hn:=hw.th i
  unfold IN
  split
  ·have:=Md hw r (s ++ [32]++(w.AP.at i).name ++ [42])
   simp only [List.length_append,List.length_cons,List.length_nil] at this ⊢
   omega
  ·have:=Md hw r (s ++ [32]++(w.AP.at i).name)
   simp only [List.length_append,List.length_cons,List.length_nil] at this ⊢
   omega
theorem NF:(default:An).name.length≤100:=by decide
section
variable {T:AF}
theorem C2.BS (h:C2 T){e:Event}(h1:e.Bw.length≤1000000)(h2:e.text.length≤1000000)(h3:e.Ea.length≤1000000)(h4:-9223372036854775808≤e.n)(h5:e.n≤9223372036854775807):C2 (T.BS e):=by
 refine⟨h.Fz,fun x hx=>?_⟩
 rcases List.mem_append.1 (show x∈T.out ++ [T.w.H2 (T.Du e) 6] from hx) with hx | hx
 ·exact h.out x hx
 ·have hx':x=T.w.H2 (T.Du e) 6:=by simpa using hx
  subst hx'
  obtain⟨a1,a2,a3,a4,a5,a6,a7,a8,a9⟩:=AI.Kd T.w (T.Du e) 6
  have e2:(T.Du e).n=e.n∧(T.Du e).HZ=T.me.name∧(T.Du e).Ea.length≤1000000∧(T.Du e).Bw=e.Bw∧(T.Du e).text=e.text:=by
   unfold Du
   split
   ·exact⟨rfl,rfl,Nat.le_trans (h.Fz.be _) (by decide),rfl,rfl⟩
   ·exact⟨rfl,rfl,h3,rfl,rfl⟩
  obtain⟨b4,b5,b6,b7,b8⟩:=e2
  refine⟨?_,?_,?_,?_,?_,?_⟩
  ·rw [a6,b5];exact Nat.le_trans (h.Fz.be T.b) (by decide)
  ·rw [a7];exact Nat.le_trans b6 (by decide)
  ·rw [a8,b7];exact Nat.le_trans h1 (by decide)
  ·rw [a9,b8];exact Nat.le_trans h2 (by decide)
  ·rw [a5,b4];exact h4
  ·rw [a5,b4];exact h5
theorem C2.tell (h:C2 T){s:As}(hs:s.length≤1000000):C2 (T.tell s):=h.BS (Nat.zero_le _) hs (Nat.zero_le _) (show(-9223372036854775808:Int)≤0 by decide) (show(0:Int)≤9223372036854775807 by decide)
theorem C2.kind (h:C2 T)(k:Int):C2 (T.kind k):=h.BS (Nat.zero_le _) (Nat.zero_le _) (Nat.zero_le _) (show(-9223372036854775808:Int)≤0 by decide) (show(0:Int)≤9223372036854775807 by decide)
theorem C2.Bw (h:C2 T)(k i:Int):C2 (T.Bw k i):=h.BS (Nat.le_trans (h.Fz.th i) (by decide)) (Nat.zero_le _) (Nat.zero_le _) (show(-9223372036854775808:Int)≤0 by decide) (show(0:Int)≤9223372036854775807 by decide)
theorem C2.land (h:C2 T){w':AI}(ht:w'.Lk):C2 { T with w:=w' }:=⟨ht,h.out⟩
theorem C2.DC (h:C2 T){i:Int}{t:Ap}(ht:t.name=(T.w.AP.at i).name):C2 (T.DC i t):=h.land (w':=T.w.Gz i t) (AI.Yc h.Fz (by rw [ht];exact h.Fz.th i))
theorem C2.place (h:C2 T)(i Ca at_:Int):C2 (T.place i Ca at_):=h.DC rfl
theorem C2.Cj (h:C2 T)(k f:Int):C2 (T.Cj k f):=h.land (w':=T.w.C7 k { T.w.AN.at k with B2:=f }) (AI.I4 h.Fz (h.Fz.be k))
theorem C2.DX (h:C2 T)(k:Int){x:An}(hx:x.name.length≤100):C2 (T.DX k x):=h.land (w':=T.w.C7 k x) (AI.I4 h.Fz hx)
theorem C2.DA (h:C2 T)(r d:Int)(v:Bool):C2 (T.DA r d v):=h.land (w':=T.w.NW r d v) (AI.YL h.Fz)
theorem C2.GN (h:C2 T)(r:Int):C2 (T.GN r):=h.land (w':=T.w.C7 T.b { T.me with room:=r,B2:=0 }) (AI.I4 h.Fz (h.Fz.be T.b))
theorem C2.list (h:C2 T){s:As}(hs:s.length≤100){l:List Int}(hl:l.length≤9):C2 (T.list s l):=by
 refine h.tell ?_
 have:=Md h.Fz l s
 unfold SR
 split<;>simp only [List.length_append,List.length_cons,List.length_nil]<;>omega
theorem C2.look (h:C2 T):C2 T.look:=by
 have hk:∀ {T':AF},C2 T'→∀ k:Nat,C2 (T'.Fq k):=fun {T'} h' k=>by
  induction k with
  | zero=>exact h'
  | succ k ih=>
   unfold Fq
   split
   ·exact ih.tell (by
     have:=ih.Fz.be k
     have e:(T'.Fq k).w=T'.w:=(Kl T' k).1
     rw [e] at this
     simp only [List.length_append,List.length_cons,List.length_nil];omega)
   ·exact ih
 unfold AF.look
 split
 ·exact h.tell (by show([73,116,32,105,115,32,100,97,114,107,46]:As).length≤_;decide)
 ·refine hk ?_ 6
  have ha:C2 T.KH:=(h.tell (by
   have:=h.Fz.ro T.me.room
   simp only [List.length_append,List.length_cons,List.length_nil];omega)).tell (by
   have:=Mc (T.w.BV.at T.me.room) 6
   omega)
  unfold EF
  split
  ·exact ha.list (by decide) (AI.IX ..)
  ·exact ha
theorem C2.walk (h:C2 T)(d:Int):C2 (T.walk d):=by
 unfold AF.walk
 split
 ·exact h.tell (by decide)
 ·split
  ·exact h.tell (by decide)
  ·have i1:C2 (T.BS { F8 1 with dir:=d }):=h.BS (Nat.zero_le _) (Nat.zero_le _) (Nat.zero_le _) (show(-9223372036854775808:Int)≤0 by decide) (show(0:Int)≤9223372036854775807 by decide)
   exact((i1.GN _).BS (e:={ F8 2 with dir:=AI.opposite d }) (Nat.zero_le _) (Nat.zero_le _) (Nat.zero_le _) (show(-9223372036854775808:Int)≤0 by decide) (show(0:Int)≤9223372036854775807 by decide)).look
theorem C2.box (h:C2 T)(u:As):C2 (T.box u).1:=by
 unfold AF.box
 split
 ·exact h.tell (by decide)
 ·split
  ·exact h.tell (by decide)
  ·exact h
theorem C2.BA (h:C2 T)(u:As):C2 (T.BA u).1:=by
 unfold AF.BA
 split
 ·split
  ·exact h
  ·exact h.tell (by decide)
 ·exact h.tell (by decide)
theorem C2.DI (l:List Int):∀ {T':AF},C2 T'→C2 (T'.DI l):=by
 induction l with
 | nil=>exact fun h=>h
 | cons i r ih=>exact fun {T'} h=>ih ((h.place i 1 T'.b).Bw 3 i)
theorem C2.Ku (h:C2 T)(l:List Int)(o:Order):C2 (T.Ku l o):=by
 unfold AF.Ku
 refine C2.DI _ ?_
 split
 ·exact h.tell (by decide)
 ·exact h
theorem C2.get (h:C2 T)(o:Order):C2 (T.get o):=by
 unfold AF.get
 split
 ·split
  ·exact h.box _
  ·exact(h.box _).Ku _ _
 ·exact h.Ku _ _
theorem C2.Cu (h:C2 T)(v to i:Int):C2 (T.Cu v to i):=by
 unfold AF.Cu
 split
 ·exact h.tell (by decide)
 ·split
  ·exact(h.place _ _ _).Bw _ _
  ·split
   ·exact(h.place i 1 to).BS (e:={ F8 6 with other:=to,Bw:=(T.w.AP.at i).name }) (Nat.le_trans (h.Fz.th i) (by decide)) (Nat.zero_le _) (Nat.zero_le _) (show(-9223372036854775808:Int)≤0 by decide) (show(0:Int)≤9223372036854775807 by decide)
   ·split
    ·exact h.tell (by decide)
    ·exact(h.place i 2 to).BS (e:={ F8 5 with Bw:=(T.w.AP.at i).name,text:=(T.w.AP.at to).name }) (Nat.le_trans (h.Fz.th i) (by decide)) (Nat.le_trans (h.Fz.th to) (by decide)) (Nat.zero_le _) (show(-9223372036854775808:Int)≤0 by decide) (show(0:Int)≤9223372036854775807 by decide)
theorem C2.Eu {v to:Int}(l:List Int):∀ {T':AF},C2 T'→C2 (T'.Eu v to l):=by
 induction l with
 | nil=>exact fun h=>h
 | cons i r ih=>exact fun h=>ih (h.Cu v to i)
theorem C2.FM (h:C2 T)(o:Order):C2 (T.FM o):=by
 have ht:C2 (T.Cx o).1:=by
  unfold Cx
  split
  ·exact h.box _
  ·split
   ·exact h.BA _
   ·exact h
 unfold AF.FM
 split
 ·exact ht
 ·unfold SG
  refine C2.Eu _ ?_
  split
  ·exact ht.tell (by decide)
  ·exact ht
theorem C2.FC (h:C2 T)(o:Order):C2 (T.FC o):=by
 unfold AF.FC
 generalize (if (!decide (o.nth=1) || o.Bn)=true then [] else o.name)=nm
 have hs:=h.BA nm
 split
 ·exact hs
 ·refine C2.tell ?_ (by decide)
  split
  ·exact(hs.Cj _ _).Cj _ _
  ·exact hs.Cj _ _
theorem C2.before (h:C2 T)(first:Bool)(i:Int)(v:Bool)(k:Int):C2 (T.before first i v k):=by
 unfold AF.before
 split
 ·exact(C2.DC h (i:=i) (t:={ T.w.AP.at i with on:=v }) rfl).Bw _ _
 ·exact(h.Bw k i).DC rfl
theorem C2.G7 (h:C2 T)(d:Int)(on:Bool)(k:Int):C2 (T.G7 d on k):=by
 unfold AF.G7
 split
 ·exact h.tell (by decide)
 ·split
  ·exact h.tell (by decide)
  ·refine C2.BS ?_ (by show([100,111,111,114]:As).length≤1000000;decide) (Nat.zero_le _) (Nat.zero_le _) (show(-9223372036854775808:Int)≤0 by decide) (show(0:Int)≤9223372036854775807 by decide)
   split
   ·exact(h.DA _ _ _).DA _ _ _
   ·exact h.DA _ _ _
theorem C2.set (h:C2 T)(o:Order):C2 (T.set o):=by
 unfold AF.set
 split
 ·exact h.G7 _ _ _
 ·split
  ·exact h.tell (by decide)
  ·split
   ·exact h.tell (by decide)
   ·split
    ·exact h.before _ _ _ _
    ·exact h.before _ _ _ _
theorem C2.Cd (l:List Int):∀ {T':AF},C2 T'→C2 (T'.Cd l):=by
 induction l with
 | nil=>exact fun h=>h
 | cons i r ih=>exact fun {T'} h=>ih (C2.DC h (i:=i) rfl)
theorem C2.DW (h:C2 T):∀ k:Nat,C2 (T.DW k)
 | 0=>h
 | k+1=>by
  unfold AF.DW
  split
  ·exact(C2.DW h k).Cj _ _
  ·exact C2.DW h k
theorem C2.FH (h:C2 T):C2 T.FH:=by
 rw [Ln]
 exact((C2.Cd _ h).DW 6).Cj _ _
theorem C2.G3 (h:C2 T):C2 T.G3:=by
 have hf:=C2.FH (h.kind 18)
 unfold AF.G3
 generalize (T.kind 18).FH=F at *
 exact hf.DX T.b (x:=default) NF
theorem C2.act (h:C2 T){o:Order}(hx:o.text.length≤1000000):C2 (T.act o):=by
 unfold AF.act
 split
 ·exact h.walk _
 ·split
  ·exact h.look
  ·split
   ·exact h.list (by decide) (AI.IX ..)
   ·split
    ·exact h.BS (e:={ F8 7 with text:=o.text }) (Nat.zero_le _) hx (Nat.zero_le _) (show(-9223372036854775808:Int)≤0 by decide) (show(0:Int)≤9223372036854775807 by decide)
    ·split
     ·exact h.G3
     ·split
      ·exact h.FC _
      ·split
       ·exact h.get _
       ·split
        ·exact h.FM _
        ·exact h.set _
end
theorem KZ {X:AI}{b:Int}{o:Order}(hw:X.Lk)(hx:o.text.length≤1000000):(Dr X b o).1.Lk∧∀ e∈(Dr X b o).2.1,AI.Small e:=by
 unfold Dr
 split
 ·exact⟨hw,fun e h=>by cases h⟩
 ·split
  ·exact⟨hw,fun e h=>by cases h⟩
  ·split
   ·exact⟨hw,fun e h=>by cases h⟩
   ·have:=C2.act (T:=⟨X,b,[]⟩) ⟨hw,fun e h=>by cases h⟩ hx
    exact⟨this.Fz,this.out⟩
theorem Je {X:AI}{s:As}(hw:X.Lk):(Bb X s).1.Lk∧∀ e∈(Bb X s).2.2.1,AI.Small e:=by
 unfold Bb
 split
 ·exact⟨hw,fun e h=>by cases h⟩
 ·split
  ·exact⟨hw,fun e h=>by cases h⟩
  ·rename_i h1
   split
   ·exact⟨hw,fun e h=>by cases h⟩
   ·split
    ·exact⟨hw,fun e h=>by cases h⟩
    ·have hn:s.length≤8:=by
      have h2:FX s=true:=by simpa using h1
      simp only [FX,Bool.and_eq_true,decide_eq_true_eq] at h2
      omega
     have h0:C2 ⟨X.C7 (CQ X 6) (Jy s),CQ X 6,[]⟩:=⟨AI.I4 hw (by show s.length≤100;omega),fun e h=>by cases h⟩
     have:=(h0.kind 17).look
     exact⟨this.Fz,this.out⟩
theorem Tm {w:AI}{b B2 n:Int}(hw:w.Lk)(h0:1≤n)(h1:n≤3):C2 (CC w b B2 n):=by
 have hs:C2 ⟨w,b,[]⟩:=⟨hw,fun e h=>by cases h⟩
 unfold CC
 exact(hs.BS (e:={ F8 14 with other:=B2,n:=n }) (Nat.zero_le _) (Nat.zero_le _) (Nat.zero_le _) (show -9223372036854775808≤n by omega) (show n≤9223372036854775807 by omega)).DX _ (hw.be B2)
theorem C2.fB {T:AF}(h:C2 T)(b:Int):C2 (T.DX b { T.w.AN.at b with room:=0,BP:=10 }):=h.DX b (h.Fz.be b)
theorem X6 {w:AI}{b:Int}(hw:w.Lk):C2 (H5 w b):=by
 have h0:C2 (Fc w b):=⟨AI.I4 hw (hw.be b),fun e h=>by cases h⟩
 have h1:C2 (GJ w b):=by unfold GJ;exact(h0.kind 15).FH
 unfold H5
 split
 ·generalize GJ w b=F at *
  exact h1.DX b (x:=default) NF
 ·have h2:C2 (JJ w b):=by unfold JJ;exact h1.fB b
  exact(h2.kind 17).look
theorem Ti {draw b:Int}(hb:0≤b){s:AI × List Event}(h:s.1.Lk∧∀ e∈s.2,AI.Small e):(EN draw b s).1.Lk∧∀ e∈(EN draw b s).2,AI.Small e:=by
 have hh:=L8 (draw:=draw) hb
 unfold EN
 split
 ·exact h
 ·split
  ·exact⟨AI.I4 h.1 (h.1.be b),h.2⟩
  ·have hk:=Tm (b:=b) (B2:=(s.1.AN.at b).B2 - 1) h.1 hh.1 hh.2
   split
   ·have hd:=X6 (b:=(s.1.AN.at b).B2 - 1) hk.Fz
    refine⟨hd.Fz,fun e he=>?_⟩
    rcases List.mem_append.1 he with he | he
    ·rcases List.mem_append.1 he with he | he
     ·exact h.2 e he
     ·exact hk.out e he
    ·exact hd.out e he
   ·refine⟨hk.Fz,fun e he=>?_⟩
    rcases List.mem_append.1 he with he | he
    ·exact h.2 e he
    ·exact hk.out e he
theorem O9 {X:AI}{draw:Int}(hw:X.Lk):∀ k:Nat,(Dg X draw k).1.Lk∧∀ e∈(Dg X draw k).2,AI.Small e
 | 0=>⟨hw,fun e h=>by cases h⟩
 | k+1=>Ti (by omega) (O9 hw k)
theorem LQ {X:AI}{draw:Int}(hw:X.Lk):(CD X draw).1.Lk∧∀ e∈(CD X draw).2.1,AI.Small e:=by
 unfold CD
 split
 ·exact⟨hw,fun e h=>by cases h⟩
 ·have h:=O9 (draw:=draw) hw 6
  generalize Dg X draw 6=r at *
  exact h
end AF
end Go.Ing
/- What a house keeps: plain laws. -/
namespace Go.Ing
open Go
namespace AH
def aX (q:List As):Prop:=q.length≤6∧∀ s∈q,s.length≤60
structure Fit (H:AH)(n m:Nat):Prop where
 Fz:H.w.Lk
 told:∀ k:Int,0≤k→k < 4→(H.at_ k).told.length≤n
 last:H.last.length≤m
 Aq:∀ k:Int,0≤k→k < 4→(H.at_ k).state=2→0≤(H.at_ k).Aq∧(H.at_ k).Aq < 6
 wait:∀ k:Int,0≤k→k < 4→∀ s∈(H.at_ k).wait,s.length≤70368744000000
 queue:∀ k:Int,0≤k→k < 4→aX (H.at_ k).queue
variable {H:AH} {n m:Nat}
theorem Fit.mono (h:H.Fit n m){n' m':Nat}(hn:n≤n')(hm:m≤m'):H.Fit n' m':=⟨h.Fz,fun k a b=>Nat.le_trans (h.told k a b) hn,Nat.le_trans h.last hm,h.Aq,h.wait,h.queue⟩
theorem Fit.set (h:H.Fit n m){k:Int}(h0:0≤k)(h1:k < 4){s:Ad}(ht:s.told.length≤n)(hb:s.state=2→0≤s.Aq∧s.Aq < 6)(hw:∀ u∈s.wait,u.length≤70368744000000)(hq:aX s.queue):(H.set k s).Fit n m:=by
 have e:∀ j:Int,0≤j→(H.set k s).at_ j=if j=k then s else H.at_ j:=fun j j0=>AH.Cg H h0 h1 j0 s
 refine⟨h.Fz,fun j a b=>?_,h.last,fun j a b=>?_,fun j a b=>?_,fun j a b=>?_⟩<;>rw [e j a]<;>split
 ·exact ht
 ·exact h.told j a b
 ·exact hb
 ·exact h.Aq j a b
 ·exact hw
 ·exact h.wait j a b
 ·exact hq
 ·exact h.queue j a b
theorem Fit.land (h:H.Fit n m){w:AI}(hw:w.Lk):({ H with w:=w }:AH).Fit n m:=⟨hw,h.told,h.last,h.Aq,h.wait,h.queue⟩
theorem QZ (s:Ad)(u:As):(s.line u).wait=s.wait∨(s.line u).wait=s.wait ++ [u]:=by
 unfold Ad.line
 split
 ·exact .inl rfl
 ·split
  ·exact .inl rfl
  ·split
   ·exact .inl rfl
   ·exact .inr rfl
theorem Vo (s:Ad)(u:As):(s.line u).state=s.state∧(s.line u).Aq=s.Aq∧(s.line u).queue=s.queue∧(s.line u).told=s.told:=by
 unfold Ad.line
 split
 ·exact⟨rfl,rfl,rfl,rfl⟩
 ·split
  ·exact⟨rfl,rfl,rfl,rfl⟩
  ·split<;>exact⟨rfl,rfl,rfl,rfl⟩
theorem E9 (s:Ad)(u:As):(s.tell u).state=s.state∧(s.tell u).Aq=s.Aq∧(s.tell u).queue=s.queue∧(s.tell u).wait=(s.line u).wait:=by
 obtain⟨a,b,c,_⟩:=Vo s u
 unfold Ad.tell Ad.note
 split
 ·exact⟨a,b,c,rfl⟩
 ·exact⟨a,b,c,rfl⟩
theorem Fit.tell (h:H.Fit n m){k:Int}(h0:0≤k)(h1:k < 4){u:As}(hu:u.length≤70368744000000):(H.tell k u).Fit (n+1) m:=by
 obtain⟨a,b,c,d⟩:=E9 (H.at_ k) u
 refine(h.mono (Nat.le_succ n) (Nat.le_refl m)).set h0 h1 (Nat.le_trans (CI _ _) (Nat.succ_le_succ (h.told k h0 h1))) (by rw [a,b];exact h.Aq k h0 h1) (fun s hs=>?_) (by rw [c];exact h.queue k h0 h1)
 rw [d] at hs
 rcases QZ (H.at_ k) u with e | e<;>rw [e] at hs
 ·exact h.wait k h0 h1 s hs
 ·rcases List.mem_append.1 hs with hs | hs
  ·exact h.wait k h0 h1 s hs
  ·rw [List.mem_singleton.1 hs];exact hu
theorem ZE {e:Event}(he:AI.Small e)(b:Int):(AI.tell e b).1.length≤70368744000000:=by
 unfold AI.tell
 split
 ·exact Nat.zero_le _
 ·split
  ·exact Nat.zero_le _
  ·refine Nat.le_trans (AI.OL he (AI.Py he b) (AI.Od he b) _ _) ?_
   have:=AI.PA e b
   omega
theorem Uq {k j:Int}(h0:0≤k)(h1:k < 4)(j0:0≤j)(hn:j≠k)(u:As):(H.tell k u).at_ j=H.at_ j:=by
 unfold AH.tell
 rw [AH.Cg H h0 h1 j0,if_neg hn]
theorem LJ (e:Event)(H:AH):∀ k:Nat,k≤4→∀ j:Int,(k:Int)≤j→j < 4→(CR e H k).at_ j=H.at_ j
 | 0,_,_,_,_=>rfl
 | k+1,hk,j,h0,h1=>by
  have ih:=LJ e H k (by omega) j (by omega) h1
  unfold CR
  split
  ·exact ih
  ·split
   ·rw [Uq (by omega) (by omega) (by omega) (by omega)];exact ih
   ·exact ih
theorem Og {e:Event}(he:AI.Small e)(h:H.Fit n m):∀ k:Nat,k≤4→(CR e H k).Fit (n+1) m
 | 0,_=>h.mono (Nat.le_succ n) (Nat.le_refl m)
 | k+1,hk=>by
  have ih:=Og he h k (by omega)
  unfold CR
  split
  ·exact ih
  ·split
   ·have hr:=LJ e H k (by omega) k (Int.le_refl _) (by omega)
    obtain⟨a,b,c,d⟩:=E9 ((CR e H k).at_ k) (AI.tell e ((CR e H k).at_ k).Aq).1
    unfold AH.tell
    refine ih.set (by omega) (by omega) ?_ (by rw [a,b];exact ih.Aq k (by omega) (by omega)) (fun s hs=>?_) (by rw [c];exact ih.queue k (by omega) (by omega))
    ·refine Nat.le_trans (CI _ _) ?_
     rw [hr];exact Nat.succ_le_succ (h.told k (by omega) (by omega))
    ·rw [d] at hs
     rcases QZ ((CR e H k).at_ k) (AI.tell e ((CR e H k).at_ k).Aq).1 with q | q<;>rw [q] at hs
     ·exact ih.wait k (by omega) (by omega) s hs
     ·rcases List.mem_append.1 hs with hs | hs
      ·exact ih.wait k (by omega) (by omega) s hs
      ·rw [List.mem_singleton.1 hs];exact ZE he _
   ·exact ih
theorem QN:∀(es:List Event) {H:AH} {n:Nat},(∀ e∈es,AI.Small e)→H.Fit n m→(H.Hj es).Fit (n+es.length) m
 | [],_,_,_,h=>h
 | e :: r,H,n,he,h=>by
  have h1:=Og (he e (List.mem_cons_self ..)) h 4 (Nat.le_refl 4)
  have h2:=QN r (fun x hx=>he x (List.mem_cons_of_mem _ hx)) h1
  rw [List.length_cons,show n+(r.length+1)=n+1+r.length by omega]
  exact h2
theorem Fit.GP (h:H.Fit n m){es:List Event}(he:∀ e∈es,AI.Small e):(H.GP es).Fit (n+es.length) (m+es.length):=by
 refine QN (m:=m+es.length) es he ?_
 exact⟨h.Fz,h.told,by show(H.last++es).length≤_;rw [List.length_append];exact Nat.add_le_add_right h.last _,h.Aq,h.wait,h.queue⟩
theorem Fit.free (h:H.Fit n m){k:Int}(h0:0≤k)(h1:k < 4):(H.set k default).Fit n m:=
 h.set h0 h1 (Nat.zero_le _) (fun e=>absurd (show(0:Int)=2 from e) (by decide)) (fun u hu=>by cases hu) ⟨Nat.zero_le _,fun u hu=>by cases hu⟩
theorem Mb:Dd.text.length≤1000000:=Nat.zero_le _
theorem Fit.leave (h:H.Fit n m){k:Int}(h0:0≤k)(h1:k < 4):(H.leave k).Fit (n+11) (m+11):=by
 unfold AH.leave
 refine Fit.free ?_ h0 h1
 split
 ·have hd:=AF.KZ (b:=(H.at_ k).Aq) (o:=Dd) h.Fz Mb
  have hl:=AF.Nj H.w (H.at_ k).Aq Dd
  exact(((h.land hd.1).free h0 h1).GP hd.2).mono (Nat.add_le_add_left hl n) (Nat.add_le_add_left hl m)
 ·exact h.mono (Nat.le_add_right ..) (Nat.le_add_right ..)
theorem Rq (ht:Int):∀(l:List As) (x:Page.Pg),∀ s∈(Page.BQ ht l x).2,s∈l
 | [],_,s,h=>h
 | q :: r,x,s,h=>by
  unfold Page.BQ at h
  split at h
  ·exact h
  ·split at h
   ·exact h
   ·exact List.mem_cons_of_mem _ (Rq ht r _ s h)
theorem HW (s:Ad):s.BQ.told=s.told∧s.BQ.state=s.state∧s.BQ.Aq=s.Aq∧s.BQ.queue=s.queue∧∀ u∈s.BQ.wait,u∈s.wait:=by
 unfold Ad.BQ
 split
 ·exact⟨rfl,rfl,rfl,rfl,fun _ h=>h⟩
 ·exact⟨rfl,rfl,rfl,rfl,Rq _ _ _⟩
theorem Fit.YE (h:H.Fit n m){k:Int}(h0:0≤k)(h1:k < 4):(H.set k (H.at_ k).BQ).Fit n m:=by
 obtain⟨a,b,c,d,e⟩:=HW (H.at_ k)
 exact h.set h0 h1 (by rw [a];exact h.told k h0 h1) (by rw [b,c];exact h.Aq k h0 h1) (fun u hu=>h.wait k h0 h1 u (e u hu)) (by rw [d];exact h.queue k h0 h1)
theorem Mz (h:H.Fit n m):∀ k:Nat,k≤4→(H.Ci k).1.Fit (n+11 * k) (m+11 * k)
 | 0,_=>h
 | k+1,hk=>by
  have ih:=Mz h k (by omega)
  unfold Ci
  split
  ·exact ih.mono (by omega) (by omega)
  ·split
   ·exact((ih.YE (by omega) (by omega)).leave (by omega) (by omega)).mono (by omega) (by omega)
   ·exact(ih.YE (by omega) (by omega)).mono (by omega) (by omega)
theorem QV:∀(r:Nat) {H:AH} {n m:Nat},H.Fit n m→(H.Hg r).Fit (n+44 * r) (m+44 * r)
 | 0,_,_,_,h=>h
 | r+1,H,n,m,h=>by
  have h1:=Mz h 4 (Nat.le_refl 4)
  unfold Hg
  split
  ·exact h1.mono (by omega) (by omega)
  ·exact(QV r h1).mono (by omega) (by omega)
theorem Fit.BQ (h:H.Fit n m):H.BQ.Fit (n+220) (m+220):=QV 5 h
end AH
end Go.Ing
/- A house: plain laws for the walks, on. -/
namespace Go.Ing
open Go
theorem Iw {V:AL}{ls:Vector BI 4}{ev:List Event}{k:Int}(h0:0≤k)(h1:k < 4):A4 (V.A8 k default) (ls.put k ⟨[],[],[]⟩) ev=(A4 V ls ev).set k default:=JB V ls ev h0 h1 _ _
theorem Oa {V:AL}{ls:Vector BI 4}{ev:List Event}{w:AI}:A4 { V with w:=w } ls ev={ A4 V ls ev with w:=w }:=rfl
theorem RQ {V V4:AL}{ls ls4:Vector BI 4}{ev ev4:List Event}{k:Int}(h0:0≤k)(h1:k < 4)(c:(decide ((V.Ar.at k).state=2) && (V.w.AN.at (V.Ar.at k).Aq).here)=true)
  (e:A4 V4 ls4 ev4=(A4 (AL.A8 { V with w:=(AF.Dr V.w (V.Ar.at k).Aq AH.Dd).1 } k default) (ls.put k ⟨[],[],[]⟩) ev).GP (AF.Dr V.w (V.Ar.at k).Aq AH.Dd).2.1) :
  A4 (V4.A8 k default) (ls4.put k ⟨[],[],[]⟩) ev4=(A4 V ls ev).leave k:=by
 rw [Iw h0 h1,e,Iw h0 h1,Oa]
 have ha:=CE V ls ev h0 h1
 unfold AH.leave AH.Q6
 rw [ha]
 rw [if_pos (show(decide ((Cq (V.Ar.at k) (ls.at k)).state=2) && ((A4 V ls ev).w.AN.at (Cq (V.Ar.at k) (ls.at k)).Aq).here)=true from c)]
 rfl
theorem Ut {V:AL}{ls:Vector BI 4}{ev:List Event}{k:Int}(h0:0≤k)(h1:k < 4)(c:(decide ((V.Ar.at k).state=2) && (V.w.AN.at (V.Ar.at k).Aq).here)=false) :
  A4 (V.A8 k default) (ls.put k ⟨[],[],[]⟩) ev=(A4 V ls ev).leave k:=by
 rw [Iw h0 h1]
 have ha:=CE V ls ev h0 h1
 unfold AH.leave
 rw [ha]
 rw [if_neg (show ¬ (decide ((Cq (V.Ar.at k) (ls.at k)).state=2) && ((A4 V ls ev).w.AN.at (Cq (V.Ar.at k) (ls.at k)).Aq).here)=true by rw [show(decide ((Cq (V.Ar.at k) (ls.at k)).state=2) && ((A4 V ls ev).w.AN.at (Cq (V.Ar.at k) (ls.at k)).Aq).here)=false from c];decide)]
theorem Gv {V:AL}{ls:Vector BI 4}{ev:List Event}{n m:Nat}(h:(A4 V ls ev).Fit n m):X9 ls n:=fun j j0 j1=>by
 have:=h.told j j0 j1
 rw [CE V ls ev j0 j1] at this
 exact this
theorem WA {V:AL}{ls:Vector BI 4}{ev:List Event}{n m:Nat}(h:(A4 V ls ev).Fit n m){k:Int}(h0:0≤k)(h1:k < 4):(V.Ar.at k).state≠2∨(0≤(V.Ar.at k).Aq∧(V.Ar.at k).Aq < 6):=by
 have:=h.Aq k h0 h1
 rw [CE V ls ev h0 h1] at this
 by_cases c:(V.Ar.at k).state=2
 ·exact .inr (this c)
 ·exact .inl c
theorem St.or {w0 w:World}{M:List Nat}{L:List Af}{T TS:Nat}{h f g:Hd}{xs qs zs:List As}(ho:bg T h xs TS f qs TS g zs)(hS:St w0 M w (Af.own g TS 1 (zs.flatMap A9) :: Af.own f TS 1 (qs.flatMap A9) :: L)):St w0 M w (Af.own h TS 1 (xs.flatMap A9) :: L):=by
 rcases ho with ⟨_,rfl,rfl,_,_⟩ | ⟨_,rfl,rfl⟩
 ·exact hS.sub (List.sublist_cons_self ..)
 ·exact hS.sub (List.Sublist.cons_cons _ (List.sublist_cons_self ..))
theorem dW {n:Nat}{w0:World}{M:List Nat}{Q:Exit→Go.Act→World→Prop}{F:List (Nat × Value)}{L:List Af}{x:Exit}{T TS:Nat}{h f g:Hd}{xs qs zs:List As}(ho:bg T h xs TS f qs TS g zs)(k:GQ n w0 M Q x F (Af.own h TS 1 (xs.flatMap A9) :: L)):GQ n w0 M Q x F (Af.own g TS 1 (zs.flatMap A9) :: Af.own f TS 1 (qs.flatMap A9) :: L):=fun a w hF hS=>k a w hF (St.or ho hS)
theorem KM {v:A2}{l:BI}(hw:v.out.wait.len=l.wait.length)(h:(!Page.Bk v.out || decide (v.C0.Bm < 0) || decide (200 < v.C0.Bm))=true):Cq v l=(Cq v l).BQ:=
 (if_pos (show(!(Cq v l).Jc || decide (v.C0.Bm < 0) || decide (200 < v.C0.Bm))=true by rw [JP hw];exact h)).symm
theorem Zo {v:A2}{l:BI}(hw:v.out.wait.len=l.wait.length)(h:(!Page.Bk v.out || decide (v.C0.Bm < 0) || decide (200 < v.C0.Bm))=false)(w:Hd) :
  Cq { v with out:=⟨w,(Page.BQ v.C0.Bm l.wait (Page.of v.out)).1.shown,(Page.BQ v.C0.Bm l.wait (Page.of v.out)).1.Bq,(Page.BQ v.C0.Bm l.wait (Page.of v.out)).1.ring,(Page.BQ v.C0.Bm l.wait (Page.of v.out)).1.cut⟩ } ⟨l.queue,(Page.BQ v.C0.Bm l.wait (Page.of v.out)).2,l.told⟩=(Cq v l).BQ:=
 ((if_neg (show ¬ (!(Cq v l).Jc || decide (v.C0.Bm < 0) || decide (200 < v.C0.Bm))=true by rw [JP hw,h];decide)).trans rfl).symm
theorem LS {V:AL}{ls:Vector BI 4}{ev:List Event}{c:Bool}{H:AH}{i:Int}(h0:0≤i)(h1:i < 4)(h:(A4 V ls ev,c)=H.Ci i.toNat) :
  H.Ci (i+1).toNat=if decide ((V.Ar.at i).state=0)=true then(A4 V ls ev,c) else if (((A4 V ls ev).at_ i).BQ).pg.cut=true then(((A4 V ls ev).set i ((A4 V ls ev).at_ i).BQ).leave i,true) else((A4 V ls ev).set i ((A4 V ls ev).at_ i).BQ,c):=by
 obtain⟨m,rfl⟩:=Int.eq_ofNat_of_zero_le h0
 have ha:=CE V ls ev h0 h1
 rw [show((m:Int)+1).toNat=m+1 by omega,AH.Ci]
 rw [show((m:Int)).toNat=m by omega] at h
 rw [← h]
 rw [show decide (((A4 V ls ev).at_ (m:Int)).state=0)=decide ((V.Ar.at (m:Int)).state=0) by rw [ha];rfl]
theorem VQ {V V':AL}{ls ls':Vector BI 4}{ev ev':List Event}{i:Int}(h0:0≤i)(h1:i < 4){s:Ad}(e:A4 V' ls' ev'=(A4 V ls ev).set i s):(V'.Ar.at i).out.cut=s.pg.cut:=by
 have h:=congrArg (fun H=>(AH.at_ H i).pg.cut) e
 rw [CE V' ls' ev' h0 h1,AH.Cg _ h0 h1 h0,if_pos rfl] at h
 exact h
theorem O8 {X:AH}{k:Int}(h0:0≤k)(h1:k < 5):X.Hg (5 - k).toNat=if (!(X.Ci 4).2)=true then(X.Ci 4).1 else(X.Ci 4).1.Hg (5 - (k+1)).toNat:=by
 rw [show(5 - k).toNat=(5 - (k+1)).toNat+1 by omega,AH.Hg]
theorem QR {H:AH}{n m:Nat}(h:H.Fit n m){V:AL}{ls:Vector BI 4}{ev:List Event}{c:Bool}{i:Int}(h0:0≤i)(h1:i≤4)(e:(A4 V ls ev,c)=H.Ci i.toNat):(A4 V ls ev).Fit (n+44) (m+44):=by
 have:=AH.Mz h i.toNat (by omega)
 rw [← e] at this
 exact this.mono (by omega) (by omega)
theorem Xn {V:AL}{ls:Vector BI 4}{ev:List Event}{n m:Nat}(h:(A4 V ls ev).Fit n m){k:Int}(h0:0≤k)(h1:k < 4):∀ s∈(ls.at k).wait,s.length≤70368744000000:=by
 have:=h.wait k h0 h1
 rw [CE V ls ev h0 h1] at this
 exact this
end Go.Ing
/- A house: who comes, and what is typed: plain laws for the walks. -/
namespace Go.Ing
open Go
namespace Words
def N5 (N:Nat)(o:Order):Prop:=o.name.length≤N∧o.second.length≤N∧o.text.length≤N
theorem Fl (N:Nat):N5 N default:=⟨Nat.zero_le _,Nat.zero_le _,Nat.zero_le _⟩
theorem XK (u p:As):(NO u p).1.length≤u.length:=by
 unfold NO
 split
 ·exact Nat.le_refl _
 ·show(List.drop _ u).length≤_
  rw [List.length_drop];omega
theorem Yk (u:As):(ER u).2.1.length≤u.length:=by
 unfold ER
 split
 ·exact Nat.zero_le _
 ·split
  ·exact XK u _
  ·split
   ·split
    ·exact Nat.zero_le _
    ·exact Nat.le_refl _
   ·unfold Pj
    have:=(Nf 46 u).2
    split
    ·split
     ·exact Nat.zero_le _
     ·exact this
    ·exact Nat.zero_le _
theorem YO {N:Nat}{o:Order}{j:As × Bool}{W:List As}{m:Nat}(h:N5 N o)(hw:(W.getD 0 []).length≤N):N5 N (Qz o j W m).1:=by
 unfold Qz
 split
 ·exact h
 ·split
  ·exact Fl N
  ·exact⟨h.1,hw,h.2.2⟩
theorem aj {N:Nat}{o:Order}{j:As × Bool}{W:List As}{m:Nat}(h:N5 N o)(hw:∀ i,(W.getD i []).length≤N):N5 N (UU o j W m).1:=by
 unfold UU
 split
 ·split
  ·exact Fl N
  ·refine YO h ?_
   have:=hw 1
   rw [List.getD_eq_getElem?_getD,List.getElem?_drop,← List.getD_eq_getElem?_getD]
   exact this
 ·exact YO h (hw 0)
theorem Wz {N:Nat}{v:Int}{W:List As}{m:Nat}(hw:∀ i,(W.getD i []).length≤N):N5 N (Rm v W m).1:=by
 unfold Rm
 split
 ·exact Fl N
 ·refine aj ⟨Nat.le_trans (Yk _) (hw 0),Nat.zero_le _,Nat.zero_le _⟩ (fun i=>?_)
  rw [List.getD_eq_getElem?_getD,List.getElem?_drop,← List.getD_eq_getElem?_getD]
  exact hw (1+i)
theorem Rt (i:Nat):(AI.G2.getD i []).length≤20:=by
 rw [List.getD_eq_getElem?_getD]
 cases h:AI.G2[i]? with
 | none=>exact Nat.zero_le _
 | some w=>
  have hm:w∈AI.G2:=List.mem_of_getElem? h
  have:∀ w∈AI.G2,w.length≤20:=by decide
  exact this w hm
theorem KN (s:As):N5 (s.length+20) (parse s).1:=by
 have hw:∀ i,(((words s).drop 1).getD i []).length≤s.length+20:=fun i=>Nat.le_trans (MZ s i 1) (by omega)
 unfold parse
 split
 ·exact Fl _
 ·split
  ·exact Fl _
  ·unfold XM
   split
   ·split
    ·exact Fl _
    ·refine⟨Nat.zero_le _,Nat.zero_le _,?_⟩
     show(said s).length≤_
     unfold said
     have h1:=Lw 32 (Rn 32 (cut 32 (Pe 32 s)).2.1)
     have h2:=RJ 32 (cut 32 (Pe 32 s)).2.1
     have h3:=(Nf 32 (Pe 32 s)).2
     have h4:=Lw 32 s
     omega
   ·split
    ·split
     ·exact Fl _
     ·exact⟨Nat.zero_le _,Nat.zero_le _,Nat.zero_le _⟩
    ·split
     ·exact Fl _
     ·split
      ·split
       ·exact⟨Nat.le_trans (Rt _) (by omega),Nat.zero_le _,Nat.zero_le _⟩
       ·exact Wz hw
      ·exact Wz hw
end Words
theorem WS {V:AL}{ls:Vector BI 4}{ev:List Event}{n m:Nat}(h:(A4 V ls ev).Fit n m){k:Int}(h0:0≤k)(h1:k < 4):AH.aX (ls.at k).queue:=by
 have:=h.queue k h0 h1
 rw [CE V ls ev h0 h1] at this
 exact this
theorem AH.Hv (H:AH){k:Int}(h0:0≤k)(h1:k < 4):H.set k (H.at_ k)=H:=by
 unfold AH.set AH.at_
 rw [Vector.Lo _ h0 h1]
theorem SZ {X:AI}{s:As}(h:(AF.Bb X s).2.2.2=0):0≤(AF.Bb X s).2.1∧(AF.Bb X s).2.1 < 6:=by
 have hf:=AF.Mk X 6 (Nat.le_refl 6)
 unfold AF.Bb at h ⊢
 split
 ·exact⟨Int.le_refl 0,show(0:Int) < 6 by decide⟩
 ·split
  ·exact⟨Int.le_refl 0,show(0:Int) < 6 by decide⟩
  ·split
   ·exact⟨Int.le_refl 0,show(0:Int) < 6 by decide⟩
   ·split
    ·rename_i h1 h2 h3 h4
     rw [if_neg h1,if_neg h2,if_neg h3,if_pos h4] at h
     exact absurd h (show ¬ (4:Int)=0 by decide)
    ·rename_i h4
     show 0≤AF.CQ X 6∧AF.CQ X 6 < 6
     rw [decide_eq_true_eq] at h4
     omega
namespace AH
variable {H:AH} {n m:Nat}
theorem Fit.enters (h:H.Fit n m){k:Int}(h0:0≤k)(h1:k < 4){u:As}(c:(AF.Bb H.w u).2.2.2=0):(({ H with w:=(AF.Bb H.w u).1 }:AH).set k { H.at_ k with state:=2,Aq:=(AF.Bb H.w u).2.1 }).Fit n m:=by
 have hs:=AF.Je (s:=u) h.Fz
 exact(h.land hs.1).set h0 h1 (h.told k h0 h1) (fun _=>SZ c) (h.wait k h0 h1) (h.queue k h0 h1)
theorem Fit.named (h:H.Fit n m){k:Int}(h0:0≤k)(h1:k < 4)(u:As):(H.named k u).Fit (n+11) (m+11):=by
 unfold AH.named
 split
 ·rename_i c
  have hs:=AF.Je (s:=u) h.Fz
  have hl:=AF.QL H.w u
  exact((h.enters h0 h1 (of_decide_eq_true c)).GP hs.2).mono (by omega) (by omega)
 ·split
  ·exact(h.tell h0 h1 (show noRoom.length≤_ by decide)).mono (by omega) (by omega)
  ·exact(h.tell h0 h1 (show RI.length≤_ by decide)).mono (by omega) (by omega)
theorem Fit.order (h:H.Fit n m){k:Int}(h0:0≤k)(h1:k < 4){u:As}(hu:u.length≤1000):(H.order k u).Fit (n+11) (m+11):=by
 unfold AH.order
 split
 ·exact(h.tell h0 h1 (show aR.length≤_ by decide)).mono (by omega) (by omega)
 ·split
  ·exact h.leave h0 h1
  ·have hp:=Words.KN u
   have hd:=AF.KZ (b:=(H.at_ k).Aq) (o:=(Words.parse u).1) h.Fz (by have:=hp.2.2;omega)
   have hl:=AF.Nj H.w (H.at_ k).Aq (Words.parse u).1
   exact((h.land hd.1).GP hd.2).mono (by omega) (by omega)
theorem Fit.EU (h:H.Fit n m){k:Int}(h0:0≤k)(h1:k < 4){q:As}{r:List As}(e:(H.at_ k).queue=q :: r):(H.set k { H.at_ k with queue:=r }.EU).Fit n m:=
 h.set h0 h1 (h.told k h0 h1) (h.Aq k h0 h1) (h.wait k h0 h1) (by
  have hq:=h.queue k h0 h1
  rw [e] at hq
  exact⟨Nat.le_of_succ_le hq.1,fun u hu=>hq.2 u (List.mem_cons_of_mem _ hu)⟩)
theorem Fit.D5 (h:H.Fit n m){k:Int}(h0:0≤k)(h1:k < 4):(H.D5 k).Fit (n+11) (m+11):=by
 unfold AH.D5
 split
 ·exact h.mono (by omega) (by omega)
 ·split
  ·exact h.mono (by omega) (by omega)
  ·rename_i q r e
   have ht:=h.EU h0 h1 e
   have hq:=(h.queue k h0 h1).2 q (by rw [e];exact List.mem_cons_self ..)
   simp only []
   split
   ·exact ht.mono (by omega) (by omega)
   ·split
    ·exact ht.named h0 h1 _
    ·exact ht.order h0 h1 (by omega)
theorem Kf (h:H.Fit n m):∀ k:Nat,k≤4→(H.turns k).Fit (n+11 * k) (m+11 * k)
 | 0,_=>h
 | k+1,hk=>by
  have ih:=Kf h k (by omega)
  unfold AH.turns
  exact(ih.D5 (by omega) (by omega)).mono (by omega) (by omega)
end AH
theorem Yv {V V3 V4:AL}{ls ls3 ls4:Vector BI 4}{ev ev4:List Event}{k:Int}{u:As}(c:decide ((AF.Bb V.w u).2.2.2=0)=true)
  (e3:A4 V3 ls3 ev=({ A4 V ls ev with w:=(AF.Bb V.w u).1 }:AH).set k { (A4 V ls ev).at_ k with state:=2,Aq:=(AF.Bb V.w u).2.1 })
  (e:A4 V4 ls4 ev4=(A4 V3 ls3 ev).GP (AF.Bb V.w u).2.2.1):A4 V4 ls4 ev4=(A4 V ls ev).named k u:=by
 rw [e,e3]
 exact(if_pos c).symm
theorem Yu {V V4:AL}{ls ls4:Vector BI 4}{ev ev4:List Event}{k:Int}{u:As}(c:decide ((AF.Bb V.w u).2.2.2=0)=false)(c2:decide ((AF.Bb V.w u).2.2.2=4)=true)
  (e:A4 V4 ls4 ev4=(A4 V ls ev).tell k AH.noRoom):A4 V4 ls4 ev4=(A4 V ls ev).named k u:=e.trans ((if_neg (by show ¬ decide ((AF.Bb V.w u).2.2.2=0)=true;rw [c];decide)).trans (if_pos c2)).symm
theorem ZH {V V4:AL}{ls ls4:Vector BI 4}{ev ev4:List Event}{k:Int}{u:As}(c:decide ((AF.Bb V.w u).2.2.2=0)=false)(c2:decide ((AF.Bb V.w u).2.2.2=4)=false)
  (e:A4 V4 ls4 ev4=(A4 V ls ev).tell k AH.RI):A4 V4 ls4 ev4=(A4 V ls ev).named k u:=e.trans ((if_neg (by show ¬ decide ((AF.Bb V.w u).2.2.2=0)=true;rw [c];decide)).trans (if_neg (by show ¬ decide ((AF.Bb V.w u).2.2.2=4)=true;rw [c2];decide))).symm
theorem VD {V V4:AL}{ls ls4:Vector BI 4}{ev ev4:List Event}{k:Int}{u:As}(h0:0≤k)(h1:k < 4)(c:(!decide ((Words.parse u).2=0))=false)(c2:decide ((Words.parse u).1.verb=20)=false)
  (e:A4 V4 ls4 ev4=(A4 { V with w:=(AF.Dr V.w (V.Ar.at k).Aq (Words.parse u).1).1 } ls ev).GP (AF.Dr V.w (V.Ar.at k).Aq (Words.parse u).1).2.1):A4 V4 ls4 ev4=(A4 V ls ev).order k u:=by
 rw [e,Oa]
 have ha:=CE V ls ev h0 h1
 unfold AH.order
 rw [if_neg (by rw [c];decide),if_neg (by rw [c2];decide),ha]
 rfl
theorem Vy {V:AL}{ls:Vector BI 4}{ev:List Event}{k:Int}(h0:0≤k)(h1:k < 4)(c:decide ((V.Ar.at k).state=0)=true):A4 V ls ev=(A4 V ls ev).D5 k:=by
 have ha:=CE V ls ev h0 h1
 exact(if_pos (show decide (((A4 V ls ev).at_ k).state=0)=true by rw [ha];exact c)).symm
theorem Wl {V:AL}{ls:Vector BI 4}{ev:List Event}{k:Int}(h0:0≤k)(h1:k < 4){sv:A2}{sl:BI}(hs:V.Ar.at k=sv)(hl:ls.at k=sl)(hq:sl.queue = [])(c:decide ((V.Ar.at k).state=0)=false) :
  A4 (V.A8 k sv) (ls.put k ⟨sl.queue,sl.wait,sl.told⟩) ev=(A4 V ls ev).D5 k:=by
 have ha:=CE V ls ev h0 h1
 rw [Er h0 h1 hs hl (f:=fun x=>x) rfl,AH.Hv _ h0 h1]
 unfold AH.D5
 rw [if_neg (show ¬ decide (((A4 V ls ev).at_ k).state=0)=true by rw [ha];show ¬ decide ((V.Ar.at k).state=0)=true;rw [c];decide)]
 have e:((A4 V ls ev).at_ k).queue = []:=by rw [ha,hl];exact hq
 split
 ·rfl
 ·rename_i q r e2;rw [e] at e2;cases e2
theorem Dl {V:AL}{ls:Vector BI 4}{ev:List Event}{k:Int}(h0:0≤k)(h1:k < 4){sv:A2}{sl:BI}(hs:V.Ar.at k=sv)(hl:ls.at k=sl){q:As}{r:List As}(hq:sl.queue=q :: r)(c:decide ((V.Ar.at k).state=0)=false)(h':Hd) :
  A4 (V.A8 k { sv with Dy:=⟨sv.Dy.now,sv.Dy.CL,sv.Dy.ret,h'⟩,out:=⟨sv.out.wait,0,false,sv.out.ring,sv.out.cut⟩ }) (ls.put k ⟨r,sl.wait,sl.told⟩) ev=(A4 V ls ev).set k { (A4 V ls ev).at_ k with queue:=r }.EU∧((A4 V ls ev).at_ k).queue=q :: r ∧
  (A4 V ls ev).D5 k=if sv.out.Bq=true then(A4 V ls ev).set k { (A4 V ls ev).at_ k with queue:=r }.EU else if decide (sv.state=1)=true then((A4 V ls ev).set k { (A4 V ls ev).at_ k with queue:=r }.EU).named k (Words.Pe 32 (Words.Rn 32 q)) else((A4 V ls ev).set k { (A4 V ls ev).at_ k with queue:=r }.EU).order k q:=by
 have ha:=CE V ls ev h0 h1
 have e:((A4 V ls ev).at_ k).queue=q :: r:=by rw [ha,hl];exact hq
 refine⟨Er h0 h1 hs hl (f:=fun x=>{ x with queue:=r }.EU) rfl,e,?_⟩
 unfold AH.D5
 rw [if_neg (show ¬ decide (((A4 V ls ev).at_ k).state=0)=true by rw [ha];show ¬ decide ((V.Ar.at k).state=0)=true;rw [c];decide)]
 split
 ·rename_i e2;rw [e] at e2;cases e2
 ·rename_i q' r' e2
  rw [e] at e2
  obtain⟨rfl,rfl⟩:=List.cons.inj e2
  have e3:((A4 V ls ev).at_ k).pg.Bq=sv.out.Bq:=by rw [ha,hs];rfl
  have e4:((A4 V ls ev).at_ k).state=sv.state:=by rw [ha,hs];rfl
  simp only [e3,e4]
theorem UF {H:AH}{i:Int}(h0:0≤i):H.turns (i+1).toNat=(H.turns i.toNat).D5 i:=by
 obtain⟨m,rfl⟩:=Int.eq_ofNat_of_zero_le h0
 rfl
end Go.Ing
/- A house: who comes, bytes that come: plain laws for the walks. -/
namespace Go.Ing
open Go
def Y0:Hd:=⟨none,0,0⟩
def EY (t:AR)(g:Page.Pg):A2:=⟨1,-1,t,⟨[],false,false,Y0⟩,⟨Y0,g.shown,g.Bq,g.ring,g.cut⟩,Y0⟩
def Y9:BI:=⟨[],[],[]⟩
theorem Sw {v:A2}{l:BI}{u:As}(hw:v.out.wait.len=l.wait.length):(Cq v l).send u=Cq { v with out:=⟨v.out.wait,(Page.send v.out u).1.shown,(Page.send v.out u).1.Bq,(Page.send v.out u).1.ring,(Page.send v.out u).1.cut⟩ } l:=by
 unfold Ad.send Page.send
 rw [JP hw]
 cases h:Page.Bk v.out with
 | false=>rfl
 | true=>
  have e:(Cq v l).pg.cut=v.out.cut:=rfl
  cases hc:v.out.cut with
  | true=>rw [e,hc];show Cq v l=Cq { v with out:=⟨v.out.wait,v.out.shown,v.out.Bq,v.out.ring,v.out.cut⟩ } l;rfl
  | false=>rw [e,hc];rfl
def IZ (t:AR)(opt:Int):AR:=if decide ((t.DR opt).2.1 = [])=true then((t.DR opt).1.Ask opt).1 else(t.DR opt).1
def M0 (t:AR)(opt:Int):As:=if decide ((t.DR opt).2.1 = [])=true then(t.DR opt).2.1++((t.DR opt).1.Ask opt).2.1 else(t.DR opt).2.1 ++ []
def LK (t:AR)(g:Page.Pg)(opt:Int):Page.Pg:=(Page.send ⟨Y0,g.shown,g.Bq,g.ring,g.cut⟩ (M0 t opt)).1
theorem M4 (t:AR)(g:Page.Pg)(opt:Int):(Cq (EY t g) Y9).offer opt=Cq (EY (IZ t opt) (LK t g opt)) Y9:=by
 have h:=Sw (v:=EY (IZ t opt) g) (l:=Y9) (u:=M0 t opt) rfl
 unfold Ad.offer
 have e:(Cq (EY t g) Y9).C0=t:=rfl
 rw [e]
 by_cases c:decide ((t.DR opt).2.1 = [])=true
 ·rw [if_pos c]
  have e1:IZ t opt=((t.DR opt).1.Ask opt).1:=if_pos c
  have e2:M0 t opt = []++((t.DR opt).1.Ask opt).2.1:=(if_pos c).trans (by rw [of_decide_eq_true c])
  rw [← e1,← e2]
  exact h
 ·rw [if_neg c]
  have e1:IZ t opt=(t.DR opt).1:=if_neg c
  have e2:M0 t opt=(t.DR opt).2.1 ++ []:=if_neg c
  rw [← e1,← e2]
  exact h
def Dx (j:Int):Int:=(((Vector.replicate 2 (default:Int)).put 0 3).put 1 31).at j
def E2:Nat→AR × Page.Pg
 | 0=>(default,⟨0,false,[],false⟩)
 | j+1=>(IZ (E2 j).1 (Dx j),LK (E2 j).1 (E2 j).2 (Dx j))
theorem HO {j:Int}(h0:0≤j):E2 (j+1).toNat=(IZ (E2 j.toNat).1 (Dx j),LK (E2 j.toNat).1 (E2 j.toNat).2 (Dx j)):=by
 obtain⟨m,rfl⟩:=Int.eq_ofNat_of_zero_le h0
 rfl
theorem OK:Cq (EY (E2 2).1 (E2 2).2) Y9=(({ (default:Ad) with state:=1,Aq:=-1 }).offer 3).offer 31:=by
 have h0:({ (default:Ad) with state:=1,Aq:=-1 }:Ad)=Cq (EY (E2 0).1 (E2 0).2) Y9:=rfl
 rw [h0,M4,M4]
 rfl
theorem Ft (t:AR)(opt:Int):(t.DR opt).2.1.length≤3:=by
 unfold AR.DR
 split
 ·exact Nat.zero_le _
 ·split
  ·exact Nat.zero_le _
  ·split
   ·exact Nat.zero_le _
   ·exact Nat.le_refl 3
theorem IM (t:AR)(opt:Int):(t.Ask opt).2.1.length≤3:=by
 unfold AR.Ask
 split
 ·exact Nat.zero_le _
 ·split
  ·exact Nat.zero_le _
  ·split
   ·exact Nat.zero_le _
   ·exact Nat.le_refl 3
theorem AH.Fit.comes {H:AH}{n m:Nat}(h:H.Fit n m){k:Int}(h0:0≤k)(h1:k < 4)(t:AR)(g:Page.Pg):(H.set k (Cq (EY t g) Y9)).Fit n m:=
 h.set h0 h1 (Nat.zero_le _) (fun e=>absurd (show(1:Int)=2 from e) (by decide)) (fun u hu=>by cases hu) ⟨Nat.zero_le _,fun u hu=>by cases hu⟩
theorem AH.Fit.J2 {H:AH}{n m:Nat}(h:H.Fit n m){k:Int}(h0:0≤k)(h1:k < 4):(H.J2 k).Fit (n+221) (m+220):=by
 unfold AH.J2
 rw [← OK]
 exact((h.comes h0 h1 _ _).tell h0 h1 (show AH.HZ.length≤_ by decide)).BQ.mono (by omega) (by omega)
end Go.Ing
/- A house: an act: plain laws for the walks. -/
namespace Go.Ing
open Go
theorem QX {v:A2}{l:BI}(h:v.Dy.queue.len=l.queue.length):(Cq v l).Ie=Bj.Bk v.Dy l.queue:=by
 unfold Ad.Ie Bj.Bk Bj.JU
 rw [h];rfl
theorem Vf {v:A2}{l:BI}{u:As}(h:v.Dy.queue.len=l.queue.length)(c:Bj.Bk v.Dy l.queue=false):(Cq v l).typed u=(Cq v l,0):=if_pos (by rw [QX h,c];rfl)
theorem XR {v:A2}{l:BI}{u:As}(h:v.Dy.queue.len=l.queue.length)(c:Bj.Bk v.Dy l.queue=true)(q:Hd) :
  (Cq v l).typed u=(Cq { v with Dy:=⟨(Bj.feed (Bj.start v.Dy l.queue) u).now,(Bj.feed (Bj.start v.Dy l.queue) u).CL,(Bj.feed (Bj.start v.Dy l.queue) u).ret,q⟩ } ⟨(Bj.feed (Bj.start v.Dy l.queue) u).queue,l.wait,l.told⟩,(Bj.feed (Bj.start v.Dy l.queue) u).lost):=
 (if_neg (by rw [QX h,c];decide)).trans rfl
theorem So (s:Ad)(u:As):(s.typed u).1.told=s.told∧(s.typed u).1.state=s.state∧(s.typed u).1.Aq=s.Aq∧(s.typed u).1.wait=s.wait∧(AH.aX s.queue→AH.aX (s.typed u).1.queue):=by
 unfold Ad.typed
 split
 ·exact⟨rfl,rfl,rfl,rfl,fun h=>h⟩
 ·rename_i c
  refine⟨rfl,rfl,rfl,rfl,fun _=>?_⟩
  have hg:Bj.Bk ⟨s.now,s.CL,s.ret,⟨none,s.queue.length,0⟩⟩ s.queue=true:=by
   have:s.Ie=true:=by simpa using c
   exact this
  have ho:=Bj.U8 u ((Bj.Hq (l:=⟨s.now,s.CL,s.ret,⟨none,s.queue.length,0⟩⟩) rfl).1 hg)
  exact⟨ho.len,fun q hq=>((Bj.GY q).1 (ho.queue q hq)).1⟩
theorem OJ (s:Ad)(u:As):(s.send u).told=s.told∧(s.send u).state=s.state∧(s.send u).Aq=s.Aq∧(s.send u).wait=s.wait∧(s.send u).queue=s.queue:=by
 unfold Ad.send
 split
 ·exact⟨rfl,rfl,rfl,rfl,rfl⟩
 ·split<;>exact⟨rfl,rfl,rfl,rfl,rfl⟩
def B8 (s:Ad)(u:As):Ad × Int:=(s.bytes u).1.typed (s.bytes u).2
theorem Dz (s:Ad)(u:As):(B8 s u).1.told=s.told∧(B8 s u).1.state=s.state∧(B8 s u).1.Aq=s.Aq∧(B8 s u).1.wait=s.wait∧(AH.aX s.queue→AH.aX (B8 s u).1.queue):=by
 have h1:=So (s.bytes u).1 (s.bytes u).2
 have h2:=OJ { s with C0:=(s.C0.DY u).1 } (s.C0.DY u).2.2.1
 obtain⟨a,b,c,d,e⟩:=h1
 obtain⟨a',b',c',d',e'⟩:=h2
 exact⟨a.trans a',b.trans b',c.trans c',d.trans d',fun hq=>e (by rw [show(s.bytes u).1.queue=s.queue from e'];exact hq)⟩
theorem G6 (H:AH)(k:Int)(u:As):H.byte k u=(if decide (0 < (B8 (H.at_ k) u).2)=true then(H.set k (B8 (H.at_ k) u).1).tell k AH.My else H.set k (B8 (H.at_ k) u).1).BQ:=rfl
def heard (v:A2)(u:As):A2:={ v with C0:=(v.C0.DY u).1,out:=⟨v.out.wait,(Page.send v.out (v.C0.DY u).2.2.1).1.shown,(Page.send v.out (v.C0.DY u).2.2.1).1.Bq,(Page.send v.out (v.C0.DY u).2.2.1).1.ring,(Page.send v.out (v.C0.DY u).2.2.1).1.cut⟩ }
theorem Qi {v:A2}{l:BI}{u:As}(hw:v.out.wait.len=l.wait.length):(Cq v l).bytes u=(Cq (heard v u) l,(v.C0.DY u).2.1):=by
 unfold Ad.bytes
 exact congrArg (fun x=>(x,_)) (Sw (v:={ v with C0:=(v.C0.DY u).1 }) (l:=l) (u:=(v.C0.DY u).2.2.1) hw)
theorem Hh {v:A2}{l:BI}{u:As}(hw:v.out.wait.len=l.wait.length)(h:v.Dy.queue.len=l.queue.length)(c:Bj.Bk v.Dy l.queue=false):B8 (Cq v l) u=(Cq (heard v u) l,0):=by
 unfold B8
 rw [Qi hw]
 exact Vf (v:=heard v u) h c
theorem JE {v:A2}{l:BI}{u:As}(hw:v.out.wait.len=l.wait.length)(h:v.Dy.queue.len=l.queue.length)(c:Bj.Bk v.Dy l.queue=true)(q:Hd) :
  B8 (Cq v l) u=(Cq { heard v u with Dy:=⟨(Bj.feed (Bj.start v.Dy l.queue) (v.C0.DY u).2.1).now,(Bj.feed (Bj.start v.Dy l.queue) (v.C0.DY u).2.1).CL,(Bj.feed (Bj.start v.Dy l.queue) (v.C0.DY u).2.1).ret,q⟩ } ⟨(Bj.feed (Bj.start v.Dy l.queue) (v.C0.DY u).2.1).queue,l.wait,l.told⟩,(Bj.feed (Bj.start v.Dy l.queue) (v.C0.DY u).2.1).lost):=by
 unfold B8
 rw [Qi hw]
 exact XR (v:=heard v u) h c q
namespace AH
variable {H:AH} {n m:Nat}
theorem RN {i:Int}(h0:0≤i):H.Ei (i+1).toNat=(H.Ei i.toNat).set i { (H.Ei i.toNat).at_ i with told:= [] }:=by
 obtain⟨k,rfl⟩:=Int.eq_ofNat_of_zero_le h0
 rfl
theorem HQ:∀ k:Nat,(H.Ei k).w=H.w∧(H.Ei k).last=H.last∧(H.Ei k).CT=H.CT
 | 0=>⟨rfl,rfl,rfl⟩
 | k+1=>HQ k
theorem N9:∀ k:Nat,k≤4→∀ j:Int,0≤j→j < 4→(H.Ei k).at_ j=if j < k then { H.at_ j with told:= [] } else H.at_ j
 | 0,_,j,j0,_=>by rw [if_neg (by omega)];rfl
 | k+1,hk,j,j0,j1=>by
  have ih:=N9 k (by omega)
  show(((H.Ei k).set k _).at_ j)=_
  rw [Cg _ (by omega) (by omega) j0]
  by_cases c:j=(k:Int)
  ·subst c
   rw [if_pos rfl,if_pos (by omega),ih _ j0 j1,if_neg (by omega)]
  ·rw [if_neg c,ih j j0 j1]
   by_cases c2:j < (k:Int)
   ·rw [if_pos c2,if_pos (by omega)]
   ·rw [if_neg c2,if_neg (by omega)]
theorem F6 {j:Int}(j0:0≤j)(j1:j < 4):H.begun.at_ j={ H.at_ j with told:= [] }:=by
 have:=N9 (H:={ H with CT:=H.CT+1,last:= [] }) 4 (Nat.le_refl 4) j j0 j1
 rw [if_pos (by omega)] at this
 exact this
theorem Fit.begun (h:H.Fit n m):H.begun.Fit 0 0:=by
 have hs:=HQ (H:={ H with CT:=H.CT+1,last:= [] }) 4
 refine⟨by show(Ei _ 4).w.Lk;rw [hs.1];exact h.Fz,fun j a b=>?_,by show(Ei _ 4).last.length≤0;rw [hs.2.1];exact Nat.le_refl 0,fun j a b=>?_,fun j a b=>?_,fun j a b=>?_⟩<;>rw [F6 a b]
 ·exact Nat.le_refl 0
 ·exact h.Aq j a b
 ·exact h.wait j a b
 ·exact h.queue j a b
theorem Fit.typed (h:H.Fit n m){k:Int}(h0:0≤k)(h1:k < 4)(u:As):(H.set k (B8 (H.at_ k) u).1).Fit n m:=by
 obtain⟨a,b,c,d,e⟩:=Dz (H.at_ k) u
 exact h.set h0 h1 (by rw [a];exact h.told k h0 h1) (by rw [b,c];exact h.Aq k h0 h1) (by rw [d];exact h.wait k h0 h1) (e (h.queue k h0 h1))
theorem Fit.GG (h:H.Fit n m){k:Int}(h0:0≤k)(h1:k < 4)(z:Int):(H.set k ((H.at_ k).GG z)).Fit n m:=
 h.set h0 h1 (h.told k h0 h1) (h.Aq k h0 h1) (h.wait k h0 h1) (h.queue k h0 h1)
theorem Fit.M5 (h:H.Fit n m)(d:Int):(H.M5 d).Fit (n+400) (m+400):=by
 have h1:=Kf h 4 (Nat.le_refl 4)
 have hr:=AF.LQ (draw:=d) h1.Fz
 have hl:=AF.QH h1.Fz.IK d
 exact(((h1.land hr.1).GP hr.2).BQ).mono (by omega) (by omega)
theorem Fit.byte (h:H.Fit 0 0){k:Int}(h0:0≤k)(h1:k < 4)(u:As):(H.byte k u).Fit 1000 1000:=by
 rw [G6]
 refine(Fit.BQ (n:=1) (m:=0) ?_).mono (by omega) (by omega)
 split
 ·exact(h.typed h0 h1 _).tell h0 h1 (show My.length≤_ by decide)
 ·exact(h.typed h0 h1 _).mono (by omega) (by omega)
theorem JK (P:AH→Prop)(h0:P H)(hp:∀ d,P (H.M5 d))(hc:∀ k,0≤k→k < 4→P (H.J2 k))(hb:∀ k u,0≤k→k < 4→P (H.byte k u))(ht:∀ k z,0≤k→k < 4→P ((H.set k ((H.at_ k).GG z)).BQ))(hl:∀ k,0≤k→k < 4→P (H.leave k).BQ)(a:BF):P (H.DQ a).1:=by
 unfold AH.DQ
 split
 ·dsimp only;exact hp a.n
 ·split
  ·dsimp only;exact h0
  ·split
   ·dsimp only;exact h0
   ·rename_i c
    have hs:0≤a.A8∧a.A8 < 4:=by simp only [Bool.or_eq_true,decide_eq_true_eq] at c;omega
    split
    ·dsimp only;exact h0
    ·split
     ·dsimp only;exact hc _ hs.1 hs.2
     ·split
      ·dsimp only;exact hb _ _ hs.1 hs.2
      ·split
       ·dsimp only;exact ht _ _ hs.1 hs.2
       ·dsimp only;exact hl _ hs.1 hs.2
theorem Fit.DQ (h:H.Fit 0 0)(a:BF):(H.DQ a).1.Fit 1000 1000:=
 JK (fun X=>X.Fit 1000 1000) (h.mono (by omega) (by omega)) (fun d=>(h.M5 d).mono (by omega) (by omega)) (fun k h0 h1=>(h.J2 h0 h1).mono (by omega) (by omega)) (fun k u h0 h1=>h.byte h0 h1 u)
  (fun k z h0 h1=>((h.GG h0 h1 z).BQ).mono (by omega) (by omega)) (fun k h0 h1=>((h.leave h0 h1).BQ).mono (by omega) (by omega)) a
theorem Fit.act (h:H.Fit n m)(a:BF):(H.act a).1.Fit (n+1000) (m+1000):=by
 unfold AH.act
 split
 ·exact h.mono (by omega) (by omega)
 ·exact(h.begun.DQ a).mono (by omega) (by omega)
theorem F5 {H:AH}(c:decide (400≤H.CT)=false)(a:BF):H.act a=H.begun.DQ a:=if_neg (by rw [c];decide)
end AH
theorem G0 (V:AL)(ls:Vector BI 4)(ev:List Event){k:Int}(h0:0≤k)(h1:k < 4):decide (((A4 V ls ev).at_ k).state=0)=decide ((V.Ar.at k).state=0):=by rw [CE V ls ev h0 h1];rfl
theorem FQ {V:AL}{ls:Vector BI 4}{ev:List Event}{k:Int}(h0:0≤k)(h1:k < 4){sv v:A2}{sl l:BI}(hs:V.Ar.at k=sv)(hl:ls.at k=sl){u:As}{z:Int}(e:B8 (Cq sv sl) u=(Cq v l,z)) :
  A4 (V.A8 k v) (ls.put k l) ev=(A4 V ls ev).set k (B8 ((A4 V ls ev).at_ k) u).1∧(B8 ((A4 V ls ev).at_ k) u).2=z:=by
 have ha:B8 ((A4 V ls ev).at_ k) u=(Cq v l,z):=by rw [CE V ls ev h0 h1,hs,hl];exact e
 rw [JB V ls ev h0 h1,ha]
 exact⟨rfl,rfl⟩
theorem Iy {V V2:AL}{ls ls2:Vector BI 4}{ev:List Event}{k:Int}(h0:0≤k)(h1:k < 4){u:As}{z:Int}(e:A4 V2 ls2 ev=(A4 V ls ev).set k (B8 ((A4 V ls ev).at_ k) u).1∧(B8 ((A4 V ls ev).at_ k) u).2=z)(hF:(A4 V ls ev).Fit 0 0):(A4 V2 ls2 ev).Fit 0 0:=by
 rw [e.1];exact hF.typed h0 h1 u
theorem L3 {V V2 V3 V4:AL}{ls ls2 ls3 ls4:Vector BI 4}{ev ev3 ev4:List Event}{k:Int}(_:0≤k)(_:k < 4){u:As}{z:Int}(e:A4 V2 ls2 ev=(A4 V ls ev).set k (B8 ((A4 V ls ev).at_ k) u).1∧(B8 ((A4 V ls ev).at_ k) u).2=z)
  (e3:(decide (0 < z)=true∧A4 V3 ls3 ev3=(A4 V2 ls2 ev).tell k AH.My)∨(decide (0 < z)=false∧A4 V3 ls3 ev3=A4 V2 ls2 ev)) (e4:A4 V4 ls4 ev4=(A4 V3 ls3 ev3).BQ):A4 V4 ls4 ev4=(A4 V ls ev).byte k u:=by
 rw [e4,G6,e.2]
 rcases e3 with ⟨c,e3⟩ | ⟨c,e3⟩
 ·rw [e3,if_pos c,e.1]
 ·rw [e3,if_neg (by rw [c];decide),e.1]
theorem YT (V:AL)(ls:Vector BI 4)(ev:List Event){k:Int}(h0:0≤k)(h1:k < 4){sv:A2}(hs:V.Ar.at k=sv)(n:Int):sv.out.ring.take (max 0 (min n (sv.out.ring.length:Int))).toNat=((A4 V ls ev).at_ k).out n:=by
 rw [CE V ls ev h0 h1,hs];rfl
theorem Wo (t:AR)(u:As):(t.DY u).2.1.length≤u.length:=by
 unfold AR.DY
 split
 ·exact Nat.zero_le _
 ·exact(AR.Xo u t).1
end Go.Ing
/- A house, from outside: plain laws for the walks. -/
namespace Go.Ing
open Go
namespace AH
def JS (H:AH)(i:Int):Int × Int:=if decide ((H.at_ i).state=2)=true then(2,(H.at_ i).Aq) else((H.at_ i).state,-1)
def Fits (H:AH):Prop:=∃ n m,H.Fit n m
theorem Fits.act {H:AH}(h:H.Fits)(a:BF):(H.act a).1.Fits:=by
 obtain⟨n,m,h⟩:=h
 exact⟨_,_,h.act a⟩
theorem Fits.run:∀(l:List BF) {H:AH},H.Fits→(run H l).1.Fits
 | [],_,h=>h
 | a :: r,_,h=>Fits.run r (h.act a)
theorem VM:AI.new.Lk:=by
 refine⟨fun i=>?_,fun i=>?_,fun i=>?_⟩
 ·rcases Vector.OS AI.new.AP i with e | ⟨j,j0,j1,e⟩
  ·rw [e];exact Nat.zero_le _
  ·rw [e]
   have:j=0∨j=1∨j=2∨j=3∨j=4∨j=5∨j=6∨j=7∨j=8:=by omega
   rcases this with h | h | h | h | h | h | h | h | h<;>subst h<;>decide
 ·rcases Vector.OS AI.new.AN i with e | ⟨j,j0,j1,e⟩
  ·rw [e];exact Nat.zero_le _
  ·rw [e]
   have:j=0∨j=1∨j=2∨j=3∨j=4∨j=5:=by omega
   rcases this with h | h | h | h | h | h<;>subst h<;>decide
 ·rcases Vector.OS AI.new.BV i with e | ⟨j,j0,j1,e⟩
  ·rw [e];exact Nat.zero_le _
  ·rw [e]
   have:j=0∨j=1∨j=2∨j=3∨j=4∨j=5:=by omega
   rcases this with h | h | h | h | h | h<;>subst h<;>decide
theorem O7 {k:Int}(h0:0≤k)(h1:k < 4):AH.new.at_ k=default:=by
 rcases four h0 h1 with e | e | e | e<;>subst e<;>rfl
theorem Zq:AH.new.Fit 0 0:=by
 refine⟨VM,fun k a b=>?_,Nat.le_refl 0,fun k a b=>?_,fun k a b=>?_,fun k a b=>?_⟩<;>rw [O7 a b]
 ·exact Nat.le_refl 0
 ·exact fun e=>absurd (show(0:Int)=2 from e) (by decide)
 ·exact fun u hu=>by cases hu
 ·exact⟨Nat.zero_le _,fun u hu=>by cases hu⟩
end AH
theorem St.Ys {w0 w:World}{M:List Nat}{L l:List Af}(h:St w0 M w L)(hl:∀ r∈l,r.CY = []∧r.ok w):St w0 M w (Af.D0 l :: L):=by
 have hf:(Af.D0 l).CY = []:=by
  show l.flatMap Af.CY = []
  rw [List.flatMap_eq_nil_iff]
  exact fun r hr=>(hl r hr).1
 refine⟨h.os,h.tape,h.output,h.size,h.HJ,fun r hr=>?_,fun r hr=>?_,List.pairwise_cons.2 ⟨fun s hs b hb=>?_,h.JG⟩⟩
 ·rcases List.mem_cons.1 hr with rfl | hr
  ·refine⟨fun r hr=>(hl r hr).2,?_⟩
   refine List.Pairwise.imp_of_mem (R:=fun _ _=>True) (fun {a b} ha hb _ x hx=>?_) (List.pairwise_of_forall (fun _ _=>trivial))
   rw [(hl a ha).1] at hx;cases hx
  ·exact h.ok r hr
 ·rcases List.mem_cons.1 hr with rfl | hr
  ·rw [hf];exact fun b hb=>by cases hb
  ·exact h.CY r hr
 ·rw [hf] at hb;cases hb
def Nn:Vector A2 4:=Vector.replicate 4 default
def Ng:Vector BI 4:=Vector.replicate 4 ⟨[],[],[]⟩
theorem Xu (T:Nat)(w:World):∀ r∈CJ T Nn Ng,r.CY = []∧r.ok w:=by
 have hs:∀ r∈Fw T default ⟨[],[],[]⟩,r.CY = []∧r.ok w:=fun r hr=>by
  unfold Fw at hr
  simp only [List.mem_cons,List.mem_nil_iff,or_false] at hr
  rcases hr with rfl | rfl | rfl<;>exact⟨rfl, .inl ⟨rfl,rfl⟩⟩
 intro r hr
 have e:CJ T Nn Ng=Fw T default ⟨[],[],[]⟩++(Fw T default ⟨[],[],[]⟩++(Fw T default ⟨[],[],[]⟩++Fw T default ⟨[],[],[]⟩)):=rfl
 rw [e] at hr
 simp only [List.mem_append] at hr
 rcases hr with h | h | h | h<;>exact hs r h
def E4 (v:A2):Int × Int:=if decide (v.state=2)=true then(2,v.Aq) else(v.state,-1)
theorem RU (V:AL)(ls:Vector BI 4)(ev:List Event){i:Int}(h0:0≤i)(h1:i < 4):E4 (V.Ar.at i)=(A4 V ls ev).JS i:=by
 unfold AH.JS
 rw [CE V ls ev h0 h1]
 rfl
end Go.Ing
/- Engine: calls of closures that read what they are handed; slices that are only read, beside boxes. -/
namespace Go.Ing
open Go
section
variable {P:Program} {n:Nat} {w0:World} {M:List Nat} {Q:Exit→Go.Act→World→Prop} {F:List (Nat × Value)} {L:List Af} {ops:Array Oper} {rest:List Oper}
def fY (w:World)(M:List Nat)(h:Hd)(T sz:Nat)(cs:List Value):Prop:=Rd w h T sz cs∧(cs≠ []→∀ b o,h.a=some ⟨b,o,none⟩→b ∉ M)
end
theorem Rd.pull {w0 w:World}{L A K:List Af}{h:Hd}{T sz:Nat}{cs:List Value}(hr:Rd w0 h T sz cs)(hS:St w0 [] w L)(hp:Ax L A K):fY w (Cp A) h T sz cs:=
 ⟨hS.rd hr,fun hne b o e=>by
  obtain⟨b',o',C,fz,h1,h2,_⟩:=hr.2 hne
  rw [e] at h1
  injection h1 with h1
  injection h1 with h1
  subst h1
  exact Oc h2 (by simp) hS hp⟩
instance:Inhabited AL:=⟨⟨default,Vector.replicate 4 default,0,⟨none,0,0⟩⟩⟩
end Go.Ing
/- Engine: the texts in a slice of acts that came in, and how much they can take. -/
namespace Go.Ing
open Go Go.RowKit Go.ChangeShapes Go.WideShapes Go.ChangeAt
section
variable {H:Type} {enc:TypeId × Value→H} {P:Program} {w:World}
theorem M9 {e:TypeId}{d:DataW H}:∀ {l:List (DataW H)},d∈l→∀ n∈d.weights P e,n∈DataW.weightsAll P e l
 | [],h,_,_=>by cases h
 | x :: r,h,n,hn=>by
  simp only [DataW.weightsAll]
  rcases List.mem_cons.1 h with rfl | h
  ·exact List.mem_append_left _ hn
  ·exact List.mem_append_right _ (M9 h n hn)
theorem Pa {t E TS:TypeId}{fs:Array Field}{h:Hd}{d:DataW H}{p:List MemPlace}{T0:Nat}{xs:List BF}(hT:P.underlying t=some (.slice E))(hE:P.underlying E=some (.struct fs))(hf:(fs[3]?).map (fun f=>(f.type,f.offset))=some (TS,3))(hS:P.underlying TS=some .string)(zE:P.cellsOf E=4)(zS:P.cellsOf TS=1)
  (hd:DataW.Trod enc P w 0 (fun _=>true) true t h.val d p) (hr:Rd w h T0 4 (xs.flatMap BF.enc)) (hw:∀ n∈d.weights P t,n≤reachBytes):∀ a∈xs,a.bytes.length≤140737488351232:=by
 have hlen:h.len=xs.length:=hr.K5 BF.fl (by decide)
 intro a ha
 obtain⟨i,hi,rfl⟩:=List.getElem_of_mem ha
 have hb:∃ b o,h.a=some ⟨b,o,none⟩:=by
  have hne:xs.flatMap BF.enc≠ []:=fun e=>by
   have:=congrArg List.length e
   rw [C4 BF.fl.len] at this
   simp only [List.length_nil] at this
   omega
  obtain⟨b,o,_,_,e,_⟩:=hr.2 hne
  exact⟨b,o,e⟩
 obtain⟨b,o,hb⟩:=hb
 obtain⟨fuel,hfu⟩:=hd
 have hv:h.val = .slice (some ⟨b,o,none⟩) h.len h.cap:=by rw [← hb];rfl
 have hcs:h.val.cells.toList = [.slice (some ⟨b,o,none⟩) h.len h.cap]:=by rw [hv];rfl
 rw [hcs] at hfu
 rcases DataW.trod_slice hT hfu with ⟨h3,_⟩ | ⟨a',len,cap,elems,rest,m,_,h3,h4,_,hlc,_,h5,hel,_⟩
 ·simp at h3
 ·simp at h3
  obtain⟨rfl,rfl,rfl⟩:=h3
  have hd':d = .slice (elems.map (·.1)) (rest.map (·.1)):=congrArg Prod.fst h4
  have h6:=hel i (by omega)
  have hi':i < elems.length:=by omega
  rw [List.getElem?_eq_getElem hi',Option.bind_eq_some_iff] at h6
  obtain⟨c,h7,h9⟩:=h6
  obtain⟨ys,q,_,hx,hl,hlen',hfl⟩:=DataW.trod_struct hE h9
  cases hf3:fs[3]? with
  | none=>rw [hf3] at hf;cases hf
  | some f=>
   rw [hf3] at hf
   simp at hf
   obtain⟨rfl,hoff⟩:=hf
   have h1:=hfl 3 f hf3
   have h3s:3 < fs.size:=by
    rcases Nat.lt_or_ge 3 fs.size with h' | h'
    ·exact h'
    ·rw [Array.getElem?_eq_none h'] at hf3;cases hf3
   have h2:ys[3]?=some (ys[3]'(by omega)):=List.getElem?_eq_getElem (by omega)
   rw [h2,zS,hoff] at h1
   obtain⟨s,e1,e2,_⟩:=DataW.trod_string hS h1
   have hc:=World.cells?_some h7
   rw [zE] at hc
   have h10:=hc.2.2 3 (by omega)
   have h11:c[3]?=some (.string s):=by
    have:=congrArg (fun l=>l[0]?) e1
    simp only [List.getElem?_take,List.getElem?_drop] at this
    simpa using this
   obtain⟨b',o',C,fz,k1,k2,k3,k4⟩:=Ot BF.fl BF.l3 hr hi (by decide)
   have k1':(some ⟨b,o,none⟩:Option Addr)=some ⟨b',o',none⟩:=hb.symm.trans k1
   injection k1' with k1'
   injection k1' with kb ko
   subst kb;subst ko
   rw [Eg,Eg] at h10
   unfold World.cell? at h10
   simp only [k2] at h10
   have k5:C[o+i * 4+3]?=some (BW xs[i].bytes):=by
    have:=congrArg (fun l=>l[0]?) k4
    simp only [List.getElem?_take,List.getElem?_drop] at this
    simpa [A9] using this
   have k6:BW xs[i].bytes = .string s:=by
    rw [h11] at h10
    have:C[o+i * 4+3]?=some (Value.string s):=by simpa using h10
    rw [k5] at this
    injection this
   have k7:s.data.toList=xs[i].bytes:=by
    simp [BW] at k6
    rw [← k6]
   have hmem:xs[i].bytes.length∈d.weights P t:=by
    rw [hd']
    simp only [DataW.weights,hT]
    refine List.mem_cons_of_mem _ (List.mem_append_left _ (M9 (d:=elems[i].1) (List.mem_map.2 ⟨elems[i],List.getElem_mem _,rfl⟩) _ ?_))
    have hx':elems[i].1 = .agg (ys.map (·.1)):=congrArg Prod.fst hx
    rw [hx']
    simp only [DataW.weights,hE]
    refine DataW.weights_mem_each (j:=3) (t:=f.type) (d:=(ys[3]'(by omega)).1) ?_ ?_ _ ?_
    ·rw [List.getElem?_map];simp [hf3]
    ·rw [List.getElem?_map,h2];rfl
    ·rw [e2,k7];simp [DataW.weights]
   exact hw _ hmem
end
end Go.Ing
/- What every turn keeps: a principle. -/
namespace Go.Ing
open Go
namespace AF
inductive To (w:AI):As→Prop
 | word {s:As}:s∈ [Mt,XW,UX,Km,PD,Oh,dm,Z2,aV,Q0]→To w s
 | room (r:Int):To w ([84,104,101,32]++(w.BV.at r).name ++ [46])
 | ways (r:Room):To w (I9 r 6)
 | list {s:As} (l:List Int):s∈ [[72,101,114,101,32,105,115],[89,111,117,32,104,97,118,101]]→To w (SR w s l ++ [46])
 | seen (k:Int):To w ((w.AN.at k).name ++ [32,105,115,32,104,101,114,101,46])
inductive Shape (x:As)(w:AI):Event→Prop
 | cy {s:As}:To w s→Shape x w { F8 16 with text:=s }
 | said:Shape x w { F8 7 with text:=x }
 | kind {k:Int}:k=15∨k=17→Shape x w (F8 k)
 | dir {k d:Int}:k=1∨k=2→Shape x w { F8 k with dir:=d }
 | Bw {k i:Int}:k=3∨k=4∨(8≤k∧k≤13)→Shape x w { F8 k with Bw:=(w.AP.at i).name }
 | G7 {k:Int}:k=8∨k=9→Shape x w { F8 k with Bw:=QB }
 | ca {i to:Int}:Shape x w { F8 6 with other:=to,Bw:=(w.AP.at i).name }
 | Yl {i to:Int}:Shape x w { F8 5 with Bw:=(w.AP.at i).name,text:=(w.AP.at to).name }
 | CC {B2 n:Int}:1≤n→n≤3→Shape x w { F8 14 with other:=B2,n:=n }
def ev (w:AI)(b:Int)(e:Event):Event:=w.H2 (Du ⟨w,b,[]⟩ e) 6
theorem PR (T:AF)(e:Event):(T.BS e).out=T.out ++ [ev T.w T.b e]:=rfl
structure Rel (x:As)(q:Prop)(b:Int)(R:AI→List Event→AI→Prop):Prop where
 refl:∀ w,R w [] w
 trans:∀ {X l Y m Z},R X l Y→R Y m Z→R X (l++m) Z
 cx:∀ {w e},Shape x w e→R w [ev w b e] w
 Bw:∀ {w:AI} {i:Int} {t:Ap},t.name=(w.AP.at i).name→t.kind=(w.AP.at i).kind→R w [] (w.Gz i t)
 B2:∀ {w:AI} {k f:Int},R w [] (w.C7 k { w.AN.at k with B2:=f })
 shut:∀ {w:AI} {r d:Int} {v:Bool},R w [] (w.NW r d v)
 GN:∀ {w:AI} {d r:Int},R w [ev w b { F8 1 with dir:=d }] (w.C7 b { w.AN.at b with room:=r,B2:=0 })
 G3:q→∀ {w},R w [ev w b (F8 18)] w
 gone:∀ {X l w},R X l w→(∃ e∈l,(e.kind=18∨(e.kind=15∧b < 2))∧e.Dj=b)→R X l (w.C7 b default)
structure On (R:AI→List Event→AI→Prop)(X:AI)(b:Int)(T:AF):Prop where
 b:T.b=b
 r:R X T.out T.w
theorem PB (T:AF)(i j Ca at_:Int):((T.place i Ca at_).w.AP.at j).name=(T.w.AP.at j).name:=by
 show((T.w.AP.put i { T.w.AP.at i with Ca:=Ca,at_:=at_ }).at j).name=_
 unfold Vector.put Vector.at
 rw [List.getD_eq_getElem?_getD,List.getD_eq_getElem?_getD,List.getD_eq_getElem?_getD]
 simp only [Vector.toList_setIfInBounds]
 rw [List.getElem?_set]
 split
 ·rename_i h1
  split
  ·rw [h1];rfl
  ·rename_i h2
   rw [← h1,List.getElem?_eq_none (by omega)]
 ·rfl
theorem HS (w:AI)(b:Int)(e:Event):(ev w b e).kind=e.kind∧(ev w b e).Dj=b:=by
 obtain⟨a1,a2,_⟩:=AI.Kd w (Du ⟨w,b,[]⟩ e) 6
 refine⟨a1.trans ?_,a2.trans ?_⟩
 ·unfold Du;split<;>rfl
 ·unfold Du;split<;>rfl
section
variable {x:As} {q:Prop} {b:Int} {R:AI→List Event→AI→Prop} (K:Rel x q b R) {X:AI} {T:AF}
include K
theorem On.start (X:AI):On R X b ⟨X,b,[]⟩:=⟨rfl,K.refl X⟩
theorem On.land (h:On R X b T){w':AI}(hr:R T.w [] w'):On R X b { T with w:=w' }:=⟨h.b,by have:=K.trans h.r hr;rwa [List.append_nil] at this⟩
theorem On.BS (h:On R X b T){e:Event}(he:Shape x T.w e):On R X b (T.BS e):=⟨h.b,by rw [PR,h.b];exact K.trans h.r (K.cx he)⟩
theorem On.tell (h:On R X b T){s:As}(hs:To T.w s):On R X b (T.tell s):=h.BS K (.cy hs)
theorem On.kind (h:On R X b T){k:Int}(hk:k=15∨k=17):On R X b (T.kind k):=h.BS K (.kind hk)
theorem On.dp (h:On R X b T){k:Int}(i:Int)(hk:k=3∨k=4∨(8≤k∧k≤13)):On R X b (T.Bw k i):=h.BS K (.Bw hk)
theorem On.DC (h:On R X b T){i:Int}{t:Ap}(hn:t.name=(T.w.AP.at i).name)(hk:t.kind=(T.w.AP.at i).kind):On R X b (T.DC i t):=h.land K (w':=T.w.Gz i t) (K.Bw hn hk)
theorem On.place (h:On R X b T)(i Ca at_:Int):On R X b (T.place i Ca at_):=h.DC K rfl rfl
theorem On.Cj (h:On R X b T)(k f:Int):On R X b (T.Cj k f):=h.land K (w':=T.w.C7 k { T.w.AN.at k with B2:=f }) K.B2
theorem On.DA (h:On R X b T)(r d:Int)(v:Bool):On R X b (T.DA r d v):=h.land K (w':=T.w.NW r d v) K.shut
theorem On.list (h:On R X b T){s:As}(hs:s∈ [[72,101,114,101,32,105,115],[89,111,117,32,104,97,118,101]])(l:List Int):On R X b (T.list s l):=h.tell K (.list l hs)
theorem On.look (h:On R X b T):On R X b T.look:=by
 have hk:∀ {T':AF},On R X b T'→∀ k:Nat,On R X b (T'.Fq k):=fun {T'} h' k=>by
  induction k with
  | zero=>exact h'
  | succ k ih=>
   unfold Fq
   split
   ·refine ih.tell K ?_
    rw [(Kl T' k).1]
    exact .seen k
   ·exact ih
 unfold AF.look
 split
 ·exact h.tell K (.word (by simp))
 ·refine hk ?_ 6
  have ha:On R X b T.KH:=(h.tell K (.room _)).tell K (.ways _)
  unfold EF
  split
  ·exact ha.list K (by simp) _
  ·exact ha
theorem On.walk (h:On R X b T)(d:Int):On R X b (T.walk d):=by
 unfold AF.walk
 split
 ·exact h.tell K (.word (by simp))
 ·split
  ·exact h.tell K (.word (by simp))
  ·have i1:On R X b ((T.BS { F8 1 with dir:=d }).GN ((T.w.BV.at T.me.room).CV.at d - 1)):=⟨h.b,by
    have:=K.trans h.r (K.GN (w:=T.w) (d:=d) (r:=(T.w.BV.at T.me.room).CV.at d - 1))
    rw [← h.b] at this
    exact this⟩
   exact(i1.BS K (.dir (.inr rfl))).look K
theorem On.box (h:On R X b T)(u:As):On R X b (T.box u).1:=by
 unfold AF.box
 split
 ·exact h.tell K (.word (by simp))
 ·split
  ·exact h.tell K (.word (by simp))
  ·exact h
theorem On.BA (h:On R X b T)(u:As):On R X b (T.BA u).1:=by
 unfold AF.BA
 split
 ·split
  ·exact h
  ·exact h.tell K (.word (by simp))
 ·exact h.tell K (.word (by simp))
theorem On.DI (l:List Int):∀ {T':AF},On R X b T'→On R X b (T'.DI l):=by
 induction l with
 | nil=>exact fun h=>h
 | cons i r ih=>exact fun {T'} h=>ih ((h.place K i 1 T'.b).dp K i (.inl rfl))
theorem On.Ku (h:On R X b T)(l:List Int)(o:Order):On R X b (T.Ku l o):=by
 unfold AF.Ku
 refine On.DI K _ ?_
 split
 ·exact h.tell K (.word (by simp))
 ·exact h
theorem On.get (h:On R X b T)(o:Order):On R X b (T.get o):=by
 unfold AF.get
 split
 ·split
  ·exact h.box K _
  ·exact(h.box K _).Ku K _ _
 ·exact h.Ku K _ _
theorem On.Cu (h:On R X b T)(v to i:Int):On R X b (T.Cu v to i):=by
 unfold AF.Cu
 split
 ·exact h.tell K (.word (by simp))
 ·split
  ·exact(h.place K _ _ _).dp K _ (.inr (.inl rfl))
  ·split
   ·refine(h.place K i 1 to).BS K ?_
    rw [← PB T i i 1 to]
    exact .ca
   ·split
    ·exact h.tell K (.word (by simp))
    ·refine(h.place K i 2 to).BS K ?_
     rw [← PB T i i 2 to,← PB T i to 2 to]
     exact .Yl
theorem On.Eu {v to:Int}(l:List Int):∀ {T':AF},On R X b T'→On R X b (T'.Eu v to l):=by
 induction l with
 | nil=>exact fun h=>h
 | cons i r ih=>exact fun h=>ih (h.Cu K v to i)
theorem On.FM (h:On R X b T)(o:Order):On R X b (T.FM o):=by
 have ht:On R X b (T.Cx o).1:=by
  unfold Cx
  split
  ·exact h.box K _
  ·split
   ·exact h.BA K _
   ·exact h
 unfold AF.FM
 split
 ·exact ht
 ·unfold SG
  refine On.Eu K _ ?_
  split
  ·exact ht.tell K (.word (by simp))
  ·exact ht
theorem On.FC (h:On R X b T)(o:Order):On R X b (T.FC o):=by
 unfold AF.FC
 generalize (if (!decide (o.nth=1) || o.Bn)=true then [] else o.name)=nm
 have hs:=h.BA K nm
 split
 ·exact hs
 ·refine On.tell K ?_ (.word (by simp))
  split
  ·exact(hs.Cj K _ _).Cj K _ _
  ·exact hs.Cj K _ _
theorem On.before (h:On R X b T)(first:Bool)(i:Int)(v:Bool){k:Int}(hk:k=3∨k=4∨(8≤k∧k≤13)):On R X b (T.before first i v k):=by
 unfold AF.before
 split
 ·exact(On.DC K h (i:=i) (t:={ T.w.AP.at i with on:=v }) rfl rfl).dp K _ hk
 ·exact(h.dp K i hk).DC K rfl rfl
theorem On.G7 (h:On R X b T)(d:Int)(on:Bool){k:Int}(hk:k=8∨k=9):On R X b (T.G7 d on k):=by
 unfold AF.G7
 split
 ·exact h.tell K (.word (by simp))
 ·split
  ·exact h.tell K (.word (by simp))
  ·refine On.BS K ?_ (.G7 hk)
   split
   ·exact(h.DA K _ _ _).DA K _ _ _
   ·exact h.DA K _ _ _
theorem On.set (h:On R X b T){o:Order}(h0:12≤o.verb)(h1:o.verb≤17):On R X b (T.set o):=by
 unfold AF.set
 split
 ·rename_i c
  rw [Bool.and_eq_true] at c
  have h3:=of_decide_eq_true c.2
  have:o.verb=12∨o.verb=13:=by
   unfold setKind at h3
   split at h3
   ·omega
   ·split at h3
    ·omega
    ·rename_i c1 c2
     simp only [Bool.or_eq_true,decide_eq_true_eq,not_or] at c1 c2
     omega
  exact h.G7 K _ _ (by unfold O6;omega)
 ·split
  ·exact h.tell K (.word (by simp))
  ·split
   ·exact h.tell K (.word (by simp))
   ·split
    ·exact h.before K _ _ _ (by unfold O6;omega)
    ·exact h.before K _ _ _ (by unfold O6;omega)
theorem On.Cd (l:List Int):∀ {T':AF},On R X b T'→On R X b (T'.Cd l):=by
 induction l with
 | nil=>exact fun h=>h
 | cons i r ih=>exact fun {T'} h=>ih (On.DC K h (i:=i) rfl rfl)
theorem On.DW (h:On R X b T):∀ k:Nat,On R X b (T.DW k)
 | 0=>h
 | k+1=>by
  unfold AF.DW
  split
  ·exact(On.DW h k).Cj K _ _
  ·exact On.DW h k
theorem On.FH (h:On R X b T):On R X b T.FH:=by
 rw [Ln]
 exact((On.Cd K _ h).DW K 6).Cj K _ _
theorem On.G3 (h:On R X b T)(hq:q):On R X b T.G3:=by
 have h18:On R X b (T.kind 18):=⟨h.b,by show R X (T.BS (F8 18)).out _;rw [PR,h.b];exact K.trans h.r (K.G3 hq)⟩
 have hf:=On.FH K h18
 have hb:=T.PW
 refine⟨hb.1.trans h.b,?_⟩
 rw [hb.2.1,hb.2.2]
 have h2:=hf.r
 rw [(Rg (T.kind 18)).2] at h2
 have:=K.gone h2 ⟨ev T.w T.b (F8 18),by show _∈T.out ++ [_];exact List.mem_append_right _ (List.mem_cons_self ..), .inl (HS ..).1,(HS ..).2.trans h.b⟩
 rw [← h.b] at this
 exact this
theorem On.act (h:On R X b T){o:Order}(hx:o.text=x)(hq:o.verb=20→q)(h0:0≤o.verb)(h20:o.verb≤20):On R X b (T.act o):=by
 unfold AF.act
 split
 ·exact h.walk K _
 ·split
  ·exact h.look K
  ·split
   ·exact h.list K (by simp) _
   ·split
    ·refine h.BS K ?_;rw [hx];exact .said
    ·split
     ·rename_i c;exact h.G3 K (hq (of_decide_eq_true c))
     ·split
      ·exact h.FC K _
      ·split
       ·exact h.get K _
       ·split
        ·exact h.FM K _
        ·rename_i c1 c2 c3 c4 c5 c6 c7 c8
         simp only [Bool.or_eq_true,decide_eq_true_eq,not_or] at c1 c2 c3 c4 c5 c6 c7 c8
         exact h.set K (by omega) (by omega)
theorem Rk {o:Order}(hx:o.text=x)(hq:o.verb=20→q):R X (Dr X b o).2.1 (Dr X b o).1:=by
 unfold Dr
 split
 ·exact K.refl X
 ·split
  ·exact K.refl X
  ·split
   ·exact K.refl X
   ·rename_i c
    simp only [Bool.or_eq_true,decide_eq_true_eq,not_or] at c
    exact((On.start K X).act K hx hq (by omega) (by omega)).r
end
end AF
end Go.Ing
/- What every round of fights keeps, and every coming in: a principle. -/
namespace Go.Ing
open Go
namespace AF
structure ZZ (R:AI→List Event→AI→Prop):Prop where
 all:∀ b,0≤b→b < 6→Rel [] False b R
 cu:∀ {w:AI} {k h:Int},R w [] (w.C7 k { w.AN.at k with BP:=h })
 eC:∀ {X l w} {b:Int},2≤b→R X l w→(∃ e∈l,e.kind=15∧e.Dj=b)→R X l (w.C7 b { w.AN.at b with room:=0,BP:=10 })
section
variable {R:AI→List Event→AI→Prop} (K:ZZ R)
include K
theorem U1 {X:AI}:R X [] X:=(K.all 0 (Int.le_refl _) (by decide)).refl X
theorem rel_trans {X Y Z:AI}{l m:List Event}(h:R X l Y)(k:R Y m Z):R X (l++m) Z:=(K.all 0 (Int.le_refl _) (by decide)).trans h k
theorem TE {w:AI}{b B2 n:Int}(b0:0≤b)(b6:b < 6)(h1:1≤n)(h3:n≤3):R w (CC w b B2 n).out (CC w b B2 n).w:=by
 have a:=(On.start (K.all b b0 b6) w).BS (K.all b b0 b6) (e:={ F8 14 with other:=B2,n:=n }) (.CC h1 h3)
 have:=rel_trans K a.r (K.cu (k:=B2) (h:=max 0 ((w.AN.at B2).BP - n)))
 rw [List.append_nil] at this
 exact this
theorem ZC {w:AI}{b:Int}(b0:0≤b)(b6:b < 6):R w (H5 w b).out (H5 w b).w:=by
 have KB:=K.all b b0 b6
 have h0:On R w b (Fc w b):=⟨rfl,K.cu⟩
 have h1:=On.FH KB (h0.kind KB (k:=15) (.inl rfl))
 have e1:((Fc w b).kind 15).FH=GJ w b:=rfl
 have hm:∃ e∈(GJ w b).out,e.kind=15∧e.Dj=b:=by
  rw [(J4 w b).2]
  exact⟨ev (Fc w b).w b (F8 15),List.mem_append_right _ (List.mem_cons_self ..),(HS ..).1,(HS ..).2⟩
 rw [e1] at h1
 clear e1
 unfold H5
 split
 ·rename_i c
  have c2:=of_decide_eq_true c
  rw [(DD _ _ _).2.1,(DD _ _ _).2.2]
  obtain⟨e,he,hk,ha⟩:=hm
  exact KB.gone h1.r ⟨e,he, .inr ⟨hk,c2⟩,ha⟩
 ·rename_i c
  have h2:On R w b (JJ w b):=by
   obtain⟨d1,d2,d3⟩:=RF w b
   refine⟨d1,?_⟩
   rw [d3,d2,← (J4 w b).2]
   have hb2:2≤b:=Int.not_lt.1 fun e=>c (decide_eq_true e)
   exact K.eC (b:=b) hb2 h1.r hm
  exact((h2.kind KB (k:=17) (.inr rfl)).look KB).r
theorem TQ {X:AI}{s:AI × List Event}{draw b:Int}(b0:0≤b)(b6:b < 6)(hg:s.1.Bk=true)(h:R X s.2 s.1):R X (EN draw b s).2 (EN draw b s).1:=by
 have hh:=L8 (draw:=draw) b0
 have kb:=(HN hg b0 b6).B2
 unfold EN
 split
 ·exact h
 ·rename_i c0
  simp only [Bool.or_eq_true,Bool.not_eq_true',decide_eq_true_eq,not_or,Bool.not_eq_false] at c0
  split
  ·have:=rel_trans K h ((K.all b b0 b6).B2 (k:=b) (f:=0))
   rw [List.append_nil] at this
   exact this
  ·have hk:=TE K (w:=s.1) (b:=b) (B2:=(s.1.AN.at b).B2 - 1) b0 b6 hh.1 hh.2
   split
   ·exact rel_trans K (rel_trans K h hk) (ZC K (by omega) (by omega))
   ·exact rel_trans K h hk
theorem LY {X:AI}{draw:Int}(hg:X.Bk=true)(hw:X.DL):∀ k:Nat,k≤6→R X (Dg X draw k).2 (Dg X draw k).1∧(Dg X draw k).1.Bk=true∧(Dg X draw k).1.DL
 | 0,_=>⟨U1 K,hg,hw⟩
 | k+1,hk=>by
  obtain⟨a,b,c⟩:=LY hg hw k (by omega)
  have:=Fp (draw:=draw) (b:=k) b c (by omega) (by omega)
  exact⟨TQ K (by omega) (by omega) b a,this.1,this.2.1⟩
theorem P0 {X:AI}{draw:Int}(hw:X.DL):R X (CD X draw).2.1 (CD X draw).1:=by
 unfold CD
 split
 ·exact U1 K
 ·rename_i c
  have h:=(LY K (draw:=draw) (show X.Bk=true by simpa using c) hw 6 (Nat.le_refl 6)).1
  generalize Dg X draw 6=r at *
  exact h
omit K in
theorem Rz (X:AI)(s:As):((Bb X s).2.2.2≠0∧(Bb X s).1=X∧(Bb X s).2.2.1 = [])∨(Bb X s=((JW X s (CQ X 6)).w,CQ X 6,(JW X s (CQ X 6)).out,0)∧2≤CQ X 6∧CQ X 6≤5∧FX s=true∧X.Bk=true∧∀ k,0≤k→k < 6→JD X s k=false):=by
 have bad:∀ z:Int,z≠0→Bb X s=(X,0,[],z)→(Bb X s).2.2.2≠0∧(Bb X s).1=X∧(Bb X s).2.2.1 = []:=fun z hz e=>by rw [e];exact⟨hz,rfl,rfl⟩
 cases c1:X.Bk with
 | false=>exact .inl (bad 2 (by decide) (if_pos (by rw [c1];rfl)))
 | true=>
  have e1:Bb X s=if (!FX s)=true then(X,0,[],1) else if (!CA 6 (fun k=>!JD X s k) 6)=true then(X,0,[],1) else if decide (CQ X 6 < 0)=true then(X,0,[],4) else((JW X s (CQ X 6)).w,CQ X 6,(JW X s (CQ X 6)).out,0):=if_neg (by rw [c1];decide)
  cases c2:FX s with
  | false=>exact .inl (bad 1 (by decide) (e1.trans (if_pos (by rw [c2];rfl))))
  | true=>
   have e2:=e1.trans (if_neg (by rw [c2];decide))
   cases c3:CA 6 (fun k=>!JD X s k) 6 with
   | false=>exact .inl (bad 1 (by decide) (e2.trans (if_pos (by rw [c3];rfl))))
   | true=>
    have e3:=e2.trans (if_neg (by rw [c3];decide))
    cases c4:decide (CQ X 6 < 0) with
    | true=>exact .inl (bad 4 (by decide) (e3.trans (if_pos c4)))
    | false=>
     have e4:=e3.trans (if_neg (by rw [c4];decide))
     have hf:2≤CQ X 6∧CQ X 6≤5:=by
      rcases Mk X 6 (Nat.le_refl 6) with e | e
      ·exact absurd (show CQ X 6 < 0 by omega) (of_decide_eq_false c4)
      ·exact e
     refine .inr ⟨e4,hf.1,hf.2,rfl,rfl,fun k k0 k6=>?_⟩
     have:=(Dk 6).1 c3 k (by omega) k6
     simpa using this
end
end AF
end Go.Ing
/- What happens within an act of a house, in small steps. -/
namespace Go.Ing
open Go
namespace Ad
def CR (s:Ad)(e:Event):Ad:=if (AI.tell e s.Aq).2=true then s.tell (AI.tell e s.Aq).1 else s
def D4 (s:Ad)(es:List Event):Ad:=if s.state=2 then es.foldl CR s else s
end Ad
theorem lt_next {j:Int}{k:Nat}(c:¬ j=(k:Int)):(j < ((k+1:Nat):Int))=(j < (k:Int)):=propext ⟨fun _=>by omega,fun _=>by omega⟩
namespace AH
theorem Ky (e:Event)(H:AH):∀ k:Nat,k≤4→∀ j:Int,0≤j→j < 4→(CR e H k).at_ j=if j < k∧(H.at_ j).state=2 then(H.at_ j).CR e else H.at_ j
 | 0,_,j,h0,_=>by rw [if_neg (by omega)];rfl
 | k+1,hk,j,h0,h1=>by
  have ih:=Ky e H k (by omega) j h0 h1
  have ihk:=LJ e H k (by omega) k (Int.le_refl _) (by omega)
  by_cases c:j=(k:Int)
  ·subst c
   unfold CR
   rw [ihk]
   split
   ·rename_i c1
    rw [if_neg (by simp at c1;exact fun h=>c1 h.2)];exact ihk
   ·rename_i c1
    have hr:(if (k:Int) < ((k+1:Nat):Int)∧(H.at_ k).state=2 then(H.at_ k).CR e else H.at_ k)=if (AI.tell e (H.at_ k).Aq).2=true then(H.at_ k).tell (AI.tell e (H.at_ k).Aq).1 else H.at_ k:=if_pos ⟨by omega,by simpa using c1⟩
    rw [hr]
    by_cases c2:(AI.tell e (H.at_ k).Aq).2=true
    ·rw [if_pos c2,if_pos c2]
     unfold AH.tell
     rw [AH.Cg _ (by omega) (by omega) h0,if_pos rfl,ihk]
    ·rw [if_neg c2,if_neg c2];exact ihk
  ·have e2:(CR e H (k+1)).at_ j=(CR e H k).at_ j:=by
    rw [CR.eq_2]
    split
    ·rfl
    ·split
     ·exact Uq (by omega) (by omega) h0 c _
     ·rfl
   rw [e2,ih];simp only [lt_next c]
theorem PL (e:Event)(H:AH):∀ k:Nat,(CR e H k).w=H.w∧(CR e H k).last=H.last∧(CR e H k).CT=H.CT
 | 0=>⟨rfl,rfl,rfl⟩
 | k+1=>by
  have ih:=PL e H k
  rw [CR.eq_2]
  split
  ·exact ih
  ·split
   ·exact ih
   ·exact ih
theorem U7 (s:Ad)(e:Event):(s.CR e).state=s.state∧(s.CR e).Aq=s.Aq:=by
 unfold Ad.CR
 split
 ·exact⟨(E9 _ _).1,(E9 _ _).2.1⟩
 ·exact⟨rfl,rfl⟩
theorem SV {j:Int}(j0:0≤j)(j1:j < 4):∀(es:List Event) (H:AH),(H.Hj es).at_ j=(H.at_ j).D4 es
 | [],H=>by show H.at_ j=_;unfold Ad.D4;split<;>rfl
 | e :: r,H=>by
  have ih:=SV j0 j1 r (CR e H 4)
  show((CR e H 4).Hj r).at_ j=_
  have h1:=Ky e H 4 (Nat.le_refl 4) j j0 j1
  rw [ih,h1]
  by_cases c:(H.at_ j).state=2
  ·rw [if_pos ⟨by omega,c⟩]
   unfold Ad.D4
   rw [if_pos c,if_pos (by rw [(U7 _ e).1];exact c)]
   rfl
  ·rw [if_neg (fun h=>c h.2)]
   unfold Ad.D4
   rw [if_neg c,if_neg c]
theorem Ou:∀(es:List Event) (H:AH),(H.Hj es).w=H.w∧(H.Hj es).last=H.last∧(H.Hj es).CT=H.CT
 | [],H=>⟨rfl,rfl,rfl⟩
 | e :: r,H=>by
  have ih:=Ou r (CR e H 4)
  have h1:=PL e H 4
  exact⟨ih.1.trans h1.1,ih.2.1.trans h1.2.1,ih.2.2.trans h1.2.2⟩
theorem Ur (H:AH)(es:List Event){j:Int}(j0:0≤j)(j1:j < 4):(H.GP es).at_ j=(H.at_ j).D4 es:=SV j0 j1 es _
theorem Vu (H:AH)(es:List Event):(H.GP es).w=H.w∧(H.GP es).last=H.last++es∧(H.GP es).CT=H.CT:=Ou es _
def Qq:List As:= [HZ,My,aR,RI,noRoom]
inductive DH (U:As→Prop)(H:AH):Int→AI→Ad→List Event→Prop
 | left {k:Int}:(H.at_ k).state=2→(H.w.AN.at (H.at_ k).Aq).here=true→DH U H k (AF.Dr H.w (H.at_ k).Aq Dd).1 default (AF.Dr H.w (H.at_ k).Aq Dd).2.1
 | JO {k:Int} {u:As}:(H.at_ k).state=1→(AF.Bb H.w u).2.2.2=0→DH U H k (AF.Bb H.w u).1 { H.at_ k with state:=2,Aq:=(AF.Bb H.w u).2.1 } (AF.Bb H.w u).2.2.1
 | aw {k:Int} {q:As}:U q→(H.at_ k).state≠0→(H.at_ k).state≠1→(Words.parse q).1.verb≠20→DH U H k (AF.Dr H.w (H.at_ k).Aq (Words.parse q).1).1 (H.at_ k) (AF.Dr H.w (H.at_ k).Aq (Words.parse q).1).2.1
 | round {d:Int}:DH U H 0 (AF.CD H.w d).1 (H.at_ 0) (AF.CD H.w d).2.1
def Fv (H:AH)(k:Int)(w:AI)(s:Ad)(es:List Event):AH:=({ H with w:=w }.set k s).GP es
inductive Step (U:As→Prop)(H:AH):AH→Prop
 | told {k:Int} {u:As}:0≤k→k < 4→(H.at_ k).state≠0→u∈Qq→Step U H (H.tell k u)
 | BQ {k:Int}:0≤k→k < 4→(H.at_ k).state≠0→Step U H (H.set k (H.at_ k).BQ)
 | goes {k:Int} {w:AI} {s:Ad} {es:List Event}:0≤k→k < 4→DH U H k w s es→Step U H (H.Fv k w s es)
 | free {k:Int}:0≤k→k < 4→¬ ((H.at_ k).state=2∧(H.w.AN.at (H.at_ k).Aq).here=true)→Step U H (H.set k default)
inductive Steps (U:As→Prop)(H:AH):AH→Prop
 | refl:Steps U H H
 | tail {X Y:AH}:Steps U H X→Step U X Y→Steps U H Y
section
variable {U:As→Prop} {H X Y:AH}
theorem Step.one (h:Step U H X):Steps U H X:= .tail .refl h
theorem Steps.trans (h:Steps U H X)(k:Steps U X Y):Steps U H Y:=by
 induction k with
 | refl=>exact h
 | tail _ s ih=>exact ih.tail s
theorem Steps.Jl {P:AH→Prop}(hs:∀ {H X:AH},P H→Step U H X→P X)(h:P H)(k:Steps U H X):P X:=by
 induction k with
 | refl=>exact h
 | tail _ s ih=>exact hs ih s
theorem GA (H:AH){k:Int}(h0:0≤k)(h1:k < 4)(w:AI)(s:Ad)(es:List Event){j:Int}(j0:0≤j)(j1:j < 4):(H.Fv k w s es).at_ j=(if j=k then s else H.at_ j).D4 es:=by
 unfold Fv
 rw [Ur _ _ j0 j1,Cg _ h0 h1 j0]
 rfl
theorem Mn (H:AH)(k:Int)(w:AI)(s:Ad)(es:List Event):(H.Fv k w s es).w=w∧(H.Fv k w s es).last=H.last++es∧(H.Fv k w s es).CT=H.CT:=Vu _ es
theorem Lb (es:List Event):(default:Ad).D4 es=default:=if_neg (show ¬ (0:Int)=2 by decide)
theorem Ey (H:AH){k:Int}(h0:0≤k)(h1:k < 4):Steps U H (H.leave k):=by
 unfold AH.leave
 split
 ·rename_i c
  rw [Bool.and_eq_true,decide_eq_true_eq] at c
  have s:Step U H (H.Fv k (AF.Dr H.w (H.at_ k).Aq Dd).1 default (AF.Dr H.w (H.at_ k).Aq Dd).2.1):= .goes h0 h1 (.left c.1 c.2)
  have e:(((H.Q6 k).set k default).GP (AF.Dr H.w (H.at_ k).Aq Dd).2.1).set k default=H.Fv k (AF.Dr H.w (H.at_ k).Aq Dd).1 default (AF.Dr H.w (H.at_ k).Aq Dd).2.1:=by
   show(H.Fv k _ default _).set k default=_
   have:=GA H h0 h1 (AF.Dr H.w (H.at_ k).Aq Dd).1 default (AF.Dr H.w (H.at_ k).Aq Dd).2.1 h0 h1
   rw [if_pos rfl,Lb] at this
   have h2:=Hv (H.Fv k (AF.Dr H.w (H.at_ k).Aq Dd).1 default (AF.Dr H.w (H.at_ k).Aq Dd).2.1) h0 h1
   rw [this] at h2
   exact h2
  rw [e]
  exact s.one
 ·rename_i c
  exact(Step.free h0 h1 (fun h=>c (by rw [Bool.and_eq_true,decide_eq_true_eq];exact h))).one
theorem IJ (H:AH):∀ k:Nat,k≤4→Steps U H (H.Ci k).1
 | 0,_=> .refl
 | k+1,hk=>by
  have ih:=IJ H k (by omega)
  unfold Ci
  split
  ·exact ih
  ·rename_i c
   have s:Step U (H.Ci k).1 ((H.Ci k).1.set k (((H.Ci k).1.at_ k).BQ)):= .BQ (by omega) (by omega) (by simpa using c)
   split
   ·exact(ih.tail s).trans (Ey _ (by omega) (by omega))
   ·exact ih.tail s
theorem NG:∀(n:Nat) (H:AH),Steps U H (H.Hg n)
 | 0,_=> .refl
 | n+1,H=>by
  unfold Hg
  split
  ·exact IJ H 4 (Nat.le_refl 4)
  ·exact(IJ H 4 (Nat.le_refl 4)).trans (NG n _)
theorem Li (H:AH):Steps U H H.BQ:=NG 5 H
theorem R6 (H:AH){k:Int}(h0:0≤k)(h1:k < 4)(hs:(H.at_ k).state=1)(u:As):Steps U H (H.named k u):=by
 unfold AH.named
 split
 ·rename_i c
  exact(Step.goes h0 h1 (.JO hs (of_decide_eq_true c))).one
 ·have hn:(H.at_ k).state≠0:=by omega
  split
  ·exact(Step.told h0 h1 hn (by simp [Qq])).one
  ·exact(Step.told h0 h1 hn (by simp [Qq])).one
theorem R5 (H:AH){k:Int}(h0:0≤k)(h1:k < 4)(hs:(H.at_ k).state≠0)(h2:(H.at_ k).state≠1){u:As}(hu:U u):Steps U H (H.order k u):=by
 unfold AH.order
 split
 ·exact(Step.told h0 h1 hs (by simp [Qq])).one
 ·split
  ·exact Ey H h0 h1
  ·rename_i c
   have:=(Step.goes (H:=H) h0 h1 (.aw hu hs h2 (fun e=>c (decide_eq_true e)))).one
   unfold Fv at this
   rw [show({ H with w:=(AF.Dr H.w (H.at_ k).Aq (Words.parse u).1).1 }:AH).set k (H.at_ k)={ H with w:=(AF.Dr H.w (H.at_ k).Aq (Words.parse u).1).1 } from Hv { H with w:=(AF.Dr H.w (H.at_ k).Aq (Words.parse u).1).1 } h0 h1] at this
   exact this
theorem J5 (H:AH)(d:Int):Steps U H ({ H with w:=(AF.CD H.w d).1 }.GP (AF.CD H.w d).2.1):=by
 have:=(Step.goes (U:=U) (H:=H) (Int.le_refl 0) (by decide) (.round (d:=d))).one
 unfold Fv at this
 rw [show({ H with w:=(AF.CD H.w d).1 }:AH).set 0 (H.at_ 0)={ H with w:=(AF.CD H.w d).1 } from Hv { H with w:=(AF.CD H.w d).1 } (Int.le_refl 0) (by decide)] at this
 exact this
def next (H:AH)(k:Int)(r:List As):AH:=H.set k { H.at_ k with queue:=r }.EU
theorem LR (H:AH){k:Int}(h0:0≤k)(h1:k < 4)(hU:∀ q∈(H.at_ k).queue,U q):(((H.at_ k).state=0∨(H.at_ k).queue = [])∧H.D5 k=H)∨∃ q r,(H.at_ k).state≠0∧(H.at_ k).queue=q :: r∧Steps U (H.next k r) (H.D5 k):=by
 unfold AH.D5
 split
 ·rename_i c;exact .inl ⟨.inl (of_decide_eq_true c),rfl⟩
 ·rename_i c
  have c':(H.at_ k).state≠0:=fun e=>c (decide_eq_true e)
  split
  ·rename_i e;exact .inl ⟨.inr e,rfl⟩
  ·rename_i q r e
   refine .inr ⟨q,r,c',e,?_⟩
   have ha:(H.next k r).at_ k={ H.at_ k with queue:=r }.EU:=by unfold next;rw [Cg _ h0 h1 h0,if_pos rfl]
   have hst:((H.next k r).at_ k).state=(H.at_ k).state:=by rw [ha];rfl
   show Steps U (H.next k r) (if (H.at_ k).pg.Bq=true then H.next k r else if decide ((H.at_ k).state=1)=true then(H.next k r).named k (Words.Pe 32 (Words.Rn 32 q)) else(H.next k r).order k q)
   split
   ·exact .refl
   ·split
    ·rename_i c2
     exact R6 _ h0 h1 (by rw [hst];exact of_decide_eq_true c2) _
    ·rename_i c2
     exact R5 _ h0 h1 (by rw [hst];exact c') (by rw [hst];exact fun e=>c2 (decide_eq_true e)) (hU q (by rw [e];exact List.mem_cons_self ..))
end
end AH
end Go.Ing
/- What a seat is behind every act: plain laws. -/
namespace Go.Ing
open Go
namespace Page
theorem QT (ht:Int):∀(l:List As) (x:Pg),BQ ht (BQ ht l x).2 (BQ ht l x).1=BQ ht l x
 | [],x=>rfl
 | s :: r,x=>by
  by_cases c1:(x.Bq || x.cut)=true
  ·have e:BQ ht (s :: r) x=(x,s :: r):=by rw [BQ,if_pos c1]
   rw [e];exact e
  ·by_cases c2:(decide (0 < ht) && decide (ht≤x.shown))=true
   ·have e:BQ ht (s :: r) x=(put { x with Bq:=true } QF,s :: r):=by rw [BQ,if_neg c1,if_pos c2]
    rw [e]
    have ha:(put { x with Bq:=true } QF).Bq=true:=by
     unfold put;split
     ·rfl
     ·split<;>rfl
    rw [BQ,if_pos (by rw [ha];rfl)]
   ·have e:BQ ht (s :: r) x=BQ ht r (put { x with shown:=min (x.shown+1) 200 } (escape s ++ [13,10])):=by rw [BQ,if_neg c1,if_neg c2]
    rw [e]
    exact QT ht r _
theorem QO (ht:Int)(u:List As):∀(l:List As) (x:Pg),BQ ht ((BQ ht l x).2++u) (BQ ht l x).1=BQ ht (l++u) x
 | [],x=>rfl
 | s :: r,x=>by
  by_cases c1:(x.Bq || x.cut)=true
  ·have e:BQ ht (s :: r) x=(x,s :: r):=by rw [BQ,if_pos c1]
   rw [e]
  ·by_cases c2:(decide (0 < ht) && decide (ht≤x.shown))=true
   ·have e:∀ v,BQ ht (s :: v) x=(put { x with Bq:=true } QF,s :: v):=fun v=>by rw [BQ,if_neg c1,if_pos c2]
    rw [e,List.cons_append,e]
    have ha:(put { x with Bq:=true } QF).Bq=true:=by
     unfold put;split
     ·rfl
     ·split<;>rfl
    show BQ ht (s :: (r++u)) _=_
    rw [BQ,if_pos (by rw [ha];rfl)]
   ·have e:∀ v,BQ ht (s :: v) x=BQ ht v (put { x with shown:=min (x.shown+1) 200 } (escape s ++ [13,10])):=fun v=>by rw [BQ,if_neg c1,if_neg c2]
    rw [e,List.cons_append,e]
    exact QO ht u r _
theorem OC (ht:Int):∀(l:List As) (x:Pg),x.ring.length≤700→0≤x.shown→x.shown≤200→(BQ ht l x).1.ring.length≤700∧0≤(BQ ht l x).1.shown∧(BQ ht l x).1.shown≤200
 | [],x,h1,h2,h3=>⟨h1,h2,h3⟩
 | s :: r,x,h1,h2,h3=>by
  unfold BQ
  split
  ·exact⟨h1,h2,h3⟩
  ·split
   ·refine⟨MH h1,?_,?_⟩<;>rw [HY]
    ·exact h2
    ·exact h3
   ·refine OC ht r _ (MH h1) ?_ ?_<;>rw [HY]
    ·show 0≤min (x.shown+1) 200;omega
    ·show min (x.shown+1) 200≤200;omega
end Page
namespace Ad
structure Ok (s:Ad):Prop where
 st:0≤s.state∧s.state≤2
 n:s.wait.length≤60
 ring:s.pg.ring.length≤700
 s0:0≤s.pg.shown
 s1:s.pg.shown≤200
 ln:Bj.Ok ⟨s.now,s.CL,s.ret,s.queue,0⟩
theorem Yh (s:Ad):s.Jc=true↔s.wait.length≤60∧s.pg.ring.length≤700∧0≤s.pg.shown∧s.pg.shown≤200:=by
 simp only [Jc,Bool.and_eq_true,decide_eq_true_eq];omega
theorem aW (s:Ad):s.Ie=true↔Bj.Ok ⟨s.now,s.CL,s.ret,s.queue,0⟩:=
 Bj.Hq (l:=⟨s.now,s.CL,s.ret,⟨none,s.queue.length,0⟩⟩) (qs:=s.queue) rfl
variable {s:Ad}
theorem Ok.Jc (h:s.Ok):s.Jc=true:=(Yh s).2 ⟨h.n,h.ring,h.s0,h.s1⟩
theorem Ok.Ie (h:s.Ok):s.Ie=true:=(aW s).2 h.ln
theorem Co:(default:Ad).Ok:=⟨⟨Int.le_refl 0,by decide⟩,Nat.zero_le _,Nat.zero_le _,Int.le_refl 0,by decide,(⟨Bj.Mh,(fun s hs=>by cases hs),Nat.zero_le _,(fun h=>by cases h)⟩:Bj.Ok ⟨[],false,false,[],0⟩)⟩
theorem Ok.line (h:s.Ok)(u:As):(s.line u).Ok:=by
 unfold Ad.line
 split
 ·exact h
 ·split
  ·exact h
  ·split
   ·exact⟨h.st,h.n,h.ring,h.s0,h.s1,h.ln⟩
   ·rename_i c
    refine⟨h.st,?_,h.ring,h.s0,h.s1,h.ln⟩
    have hn:=h.n
    have c':¬ (60:Int)≤s.wait.length:=fun e=>c (decide_eq_true e)
    show(s.wait ++ [u]).length≤60
    rw [List.length_append,List.length_singleton];omega
theorem Ok.tell (h:s.Ok)(u:As):(s.tell u).Ok:=by
 have:=h.line u
 unfold Ad.tell Ad.note
 split
 ·exact⟨this.st,this.n,this.ring,this.s0,this.s1,this.ln⟩
 ·exact this
theorem Ok.BQ (h:s.Ok):s.BQ.Ok:=by
 unfold Ad.BQ
 split
 ·exact h
 ·have hk:=Page.OC s.C0.Bm s.wait s.pg h.ring h.s0 h.s1
  exact⟨h.st,Nat.le_trans (Page.ZL _ _ _) h.n,hk.1,hk.2.1,hk.2.2,h.ln⟩
theorem Ok.send (h:s.Ok)(u:As):(s.send u).Ok:=by
 unfold Ad.send
 split
 ·exact h
 ·split
  ·exact h
  ·exact⟨h.st,h.n,Page.MH h.ring,by show 0≤(Page.put s.pg u).shown;rw [Page.HY];exact h.s0,by show(Page.put s.pg u).shown≤200;rw [Page.HY];exact h.s1,h.ln⟩
theorem Ok.C0 (h:s.Ok)(t:AR):({ s with C0:=t }:Ad).Ok:=⟨h.st,h.n,h.ring,h.s0,h.s1,h.ln⟩
theorem Ok.offer (h:s.Ok)(opt:Int):(s.offer opt).Ok:=by
 unfold Ad.offer
 split
 ·exact(h.C0 _).send _
 ·exact(h.C0 _).send _
theorem Ok.GG (h:s.Ok)(n:Int):(s.GG n).Ok:=⟨h.st,h.n,by show(s.pg.ring.drop _).length≤700;rw [List.length_drop];have:=h.ring;omega,h.s0,h.s1,h.ln⟩
theorem Ok.next (h:s.Ok){q:As}{r:List As}(e:s.queue=q :: r):({ s with queue:=r }:Ad).EU.Ok:=
 ⟨h.st,h.n,h.ring,Int.le_refl 0,show(0:Int)≤200 by decide,⟨h.ln.now,fun x hx=>h.ln.queue x (by show x∈s.queue;rw [e];exact List.mem_cons_of_mem _ hx),by
  have:=h.ln.len
  have h2:s.queue.length≤6:=this
  rw [e,List.length_cons] at h2
  show r.length≤6;omega,h.ln.ret⟩⟩
theorem Ok.typed (h:s.Ok)(u:As):(B8 s u).1.Ok:=by
 have h1:(s.bytes u).1.Ok:=(h.C0 _).send _
 unfold B8 Ad.typed
 split
 ·exact h1
 ·have ho:=Bj.U8 (s.bytes u).2 h1.ln
  exact⟨h1.st,h1.n,h1.ring,h1.s0,h1.s1,⟨ho.now,ho.queue,ho.len,ho.ret⟩⟩
theorem Ok.JO (h:s.Ok)(b:Int):({ s with state:=2,Aq:=b }:Ad).Ok:=⟨⟨show(0:Int)≤2 by decide,show(2:Int)≤2 by decide⟩,h.n,h.ring,h.s0,h.s1,h.ln⟩
theorem Ok.CR (h:s.Ok)(e:Event):(s.CR e).Ok:=by
 unfold Ad.CR;split
 ·exact h.tell _
 ·exact h
theorem Uo:∀(es:List Event) {s:Ad},s.Ok→(es.foldl Ad.CR s).Ok
 | [],_,h=>h
 | e :: r,_,h=>Uo r (h.CR e)
theorem Ok.D4 (h:s.Ok)(es:List Event):(s.D4 es).Ok:=by
 unfold Ad.D4
 split
 ·exact Uo es h
 ·exact h
theorem Ok.heard (h:s.Ok):({ s with told:= [] }:Ad).Ok:=⟨h.st,h.n,h.ring,h.s0,h.s1,h.ln⟩
theorem GD (s:Ad)(es:List Event):(s.D4 es).state=s.state∧(s.D4 es).Aq=s.Aq:=by
 unfold Ad.D4
 split
 ·induction es generalizing s with
  | nil=>exact⟨rfl,rfl⟩
  | cons e r ih=>
   rename_i c
   have h1:=AH.U7 s e
   have:=ih (s.CR e) (by rw [h1.1];exact c)
   exact⟨this.1.trans h1.1,this.2.trans h1.2⟩
 ·exact⟨rfl,rfl⟩
structure Still (s:Ad):Prop where
 fl:s.BQ=s
 cut:s.pg.cut=false
theorem Mi (s:Ad)(h:s.wait.length≤60∧s.pg.ring.length≤700∧0≤s.pg.shown∧s.pg.shown≤200)(c:(decide (s.C0.Bm < 0) || decide (200 < s.C0.Bm))=false):s.BQ={ s with pg:=(Page.BQ s.C0.Bm s.wait s.pg).1,wait:=(Page.BQ s.C0.Bm s.wait s.pg).2 }:=by
 unfold Ad.BQ
 rw [if_neg]
 rw [(Yh s).2 h]
 simpa using c
theorem KM (s:Ad)(c:(decide (s.C0.Bm < 0) || decide (200 < s.C0.Bm))=true):s.BQ=s:=by
 unfold Ad.BQ
 rw [if_pos]
 rw [Bool.or_assoc,c,Bool.or_true]
theorem Ok.idem (h:s.Ok):s.BQ.BQ=s.BQ:=by
 cases c:(decide (s.C0.Bm < 0) || decide (200 < s.C0.Bm)) with
 | true=>rw [KM s c,KM s c]
 | false=>
  have e:=Mi s ⟨h.n,h.ring,h.s0,h.s1⟩ c
  have hk:=h.BQ
  rw [e] at hk ⊢
  rw [Mi _ ⟨hk.n,hk.ring,hk.s0,hk.s1⟩ c]
  have:=Page.QT s.C0.Bm s.wait s.pg
  dsimp only
  rw [this]
end Ad
namespace AH
def FG (H:AH):Prop:=∀ k,0≤k→k < 4→(H.at_ k).Ok
section
variable {U:As→Prop} {H X:AH}
theorem FG.set (h:H.FG){k:Int}(h0:0≤k)(h1:k < 4){s:Ad}(hs:s.Ok):(H.set k s).FG:=fun j j0 j1=>by
 rw [Cg _ h0 h1 j0];split
 ·exact hs
 ·exact h j j0 j1
theorem FG.step (h:H.FG)(s:Step U H X):X.FG:=by
 cases s with
 | told h0 h1 _ _=>exact h.set h0 h1 ((h _ h0 h1).tell _)
 | BQ h0 h1 _=>exact h.set h0 h1 (h _ h0 h1).BQ
 | free h0 h1 _=>exact h.set h0 h1 Ad.Co
 | goes h0 h1 g=>
  intro j j0 j1
  rw [GA H h0 h1 _ _ _ j0 j1]
  refine Ad.Ok.D4 ?_ _
  split
  ·cases g with
   | left _ _=>exact Ad.Co
   | JO _ _=>exact(h _ h0 h1).JO _
   | aw _ _ _ _=>exact h _ h0 h1
   | round=>exact h _ (Int.le_refl 0) (by decide)
  ·exact h j j0 j1
theorem FG.steps (h:H.FG)(s:Steps U H X):X.FG:=Steps.Jl (P:=FG) (fun h s=>h.step s) h s
/-! #### nobody is cut off behind all that flows -/
def busy (H:AH)(k:Int):Nat:=if (H.at_ k).state=0 then 0 else 1
def N2 (H:AH):Nat:=H.busy 0+H.busy 1+H.busy 2+H.busy 3
theorem Zb {H X:AH}(h:∀ j,0≤j→j < 4→(H.at_ j).state=0→(X.at_ j).state=0):X.N2≤H.N2∧∀ k,0≤k→k < 4→(H.at_ k).state≠0→(X.at_ k).state=0→X.N2 < H.N2:=by
 have hb:∀ j,0≤j→j < 4→X.busy j≤H.busy j∧H.busy j≤1∧((H.at_ j).state≠0→(X.at_ j).state=0→X.busy j < H.busy j):=fun j j0 j1=>by
  have:=h j j0 j1
  unfold busy
  refine⟨?_,?_,?_⟩
  ·split
   ·exact Nat.zero_le _
   ·rename_i c
    rw [if_neg (fun e=>c (this e))];exact Nat.le_refl _
  ·split<;>omega
  ·intro a b
   rw [if_pos b,if_neg a];decide
 have b0:=hb 0 (by decide) (by decide);have b1:=hb 1 (by decide) (by decide);have b2:=hb 2 (by decide) (by decide);have b3:=hb 3 (by decide) (by decide)
 unfold N2
 refine⟨by omega,fun k k0 k1 a b=>?_⟩
 rcases four k0 k1 with e | e | e | e<;>subst e
 ·have:=b0.2.2 a b;omega
 ·have:=b1.2.2 a b;omega
 ·have:=b2.2.2 a b;omega
 ·have:=b3.2.2 a b;omega
theorem Ro (H:AH){k:Int}(h0:0≤k)(h1:k < 4){j:Int}(j0:0≤j)(j1:j < 4):(H.leave k).at_ j=if j=k then default else(H.at_ j).D4 (if decide ((H.at_ k).state=2) && (H.w.AN.at (H.at_ k).Aq).here then(AF.Dr H.w (H.at_ k).Aq Dd).2.1 else []):=by
 unfold AH.leave
 rw [Cg _ h0 h1 j0]
 split
 ·rfl
 ·rename_i c
  split
  ·rw [Ur _ _ j0 j1,Cg _ h0 h1 j0,if_neg c]
   rfl
  ·unfold Ad.D4;split<;>rfl
theorem LW (H:AH):∀ k:Nat,k≤4→∀ j,0≤j→j < 4→(H.at_ j).state=0→((H.Ci k).1.at_ j).state=0
 | 0,_,_,_,_,h=>h
 | k+1,hk,j,j0,j1,h=>by
  have ih:=LW H k (by omega) j j0 j1 h
  have hf:(((H.Ci k).1.set k (((H.Ci k).1.at_ k).BQ)).at_ j).state=0:=by
   rw [Cg _ (by omega) (by omega) j0]
   split
   ·rename_i e;subst e;rw [(HW _).2.1];exact ih
   ·exact ih
  unfold Ci
  split
  ·exact ih
  ·split
   ·show(AH.at_ (AH.leave _ _) j).state=0
    rw [Ro _ (by omega) (by omega) j0 j1]
    split
    ·rfl
    ·rw [(Ad.GD _ _).1];exact hf
   ·exact hf
theorem Qj (H:AH):∀ k:Nat,k≤4→(H.Ci k).2=true→∃ j,0≤j∧j < 4∧(H.at_ j).state≠0∧((H.Ci k).1.at_ j).state=0
 | 0,_,h=>by cases h
 | k+1,hk,h=>by
  have ih:=Qj H k (by omega)
  have hn:(((H.Ci k).1.at_ k).state≠0)→(H.at_ k).state≠0:=fun c e=>c (LW H k (by omega) k (by omega) (by omega) e)
  unfold Ci at h ⊢
  split at h
  ·rename_i c
   rw [if_pos c];exact ih h
  ·rename_i c
   have c':((H.Ci k).1.at_ k).state≠0:=by simpa using c
   rw [if_neg c]
   split at h
   ·rename_i c2
    rw [if_pos c2]
    refine⟨k,by omega,by omega,hn c',?_⟩
    show(AH.at_ (AH.leave _ _) k).state=0
    rw [Ro _ (by omega) (by omega) (by omega) (by omega),if_pos rfl];rfl
   ·rename_i c2
    rw [if_neg c2]
    obtain⟨j,j0,j1,a,b⟩:=ih h
    refine⟨j,j0,j1,a,?_⟩
    show(AH.at_ (AH.set _ _ _) j).state=0
    rw [Cg _ (by omega) (by omega) j0]
    split
    ·rename_i e;subst e;exact absurd b c'
    ·exact b
theorem Ny (H:AH):∀ k:Nat,k≤4→(H.Ci k).2=false→(H.Ci k).1.w=H.w∧(H.Ci k).1.last=H.last∧(H.Ci k).1.CT=H.CT∧∀ j,0≤j→j < 4→(H.Ci k).1.at_ j=(if j < k∧(H.at_ j).state≠0 then(H.at_ j).BQ else H.at_ j)∧(j < k→(H.at_ j).state≠0→(H.at_ j).BQ.pg.cut=false)
 | 0,_,_=>⟨rfl,rfl,rfl,fun j j0 _=>⟨by rw [if_neg (by omega)];rfl,fun h=>by omega⟩⟩
 | k+1,hk,h=>by
  have ih:=Ny H k (by omega)
  unfold Ci at h ⊢
  split at h
  ·rename_i c
   rw [if_pos c]
   obtain⟨a1,a2,a3,a4⟩:=ih h
   have hk0:=(a4 k (by omega) (by omega)).1
   rw [if_neg (by omega)] at hk0
   rw [hk0] at c
   have c':(H.at_ k).state=0:=of_decide_eq_true c
   refine⟨a1,a2,a3,fun j j0 j1=>⟨?_,fun hj hs=>?_⟩⟩
   ·rw [(a4 j j0 j1).1]
    by_cases e:j=(k:Int)
    ·subst e;rw [if_neg (fun h=>h.2 c'),if_neg (fun h=>h.2 c')]
    ·simp only [lt_next e]
   ·by_cases e:j=(k:Int)
    ·subst e;exact absurd c' hs
    ·exact(a4 j j0 j1).2 (by omega) hs
  ·rename_i c
   split at h
   ·cases h
   ·rename_i c2
    rw [if_neg c,if_neg c2]
    obtain⟨a1,a2,a3,a4⟩:=ih h
    have hk0:=(a4 k (by omega) (by omega)).1
    rw [if_neg (by omega)] at hk0
    rw [hk0] at c c2
    have c':(H.at_ k).state≠0:=by simpa using c
    refine⟨a1,a2,a3,fun j j0 j1=>⟨?_,fun hj hs=>?_⟩⟩
    ·show(AH.at_ (AH.set _ _ _) j)=_
     rw [Cg _ (by omega) (by omega) j0]
     by_cases e:j=(k:Int)
     ·subst e;rw [if_pos rfl,if_pos ⟨by omega,c'⟩,hk0]
     ·rw [if_neg e,(a4 j j0 j1).1];simp only [lt_next e]
    ·by_cases e:j=(k:Int)
     ·subst e;simpa using c2
     ·exact(a4 j j0 j1).2 (by omega) hs
theorem M6:∀(n:Nat) (H:AH),H.FG→H.N2 < n→∀ j,0≤j→j < 4→((H.Hg n).at_ j).state≠0→((H.Hg n).at_ j).Still
 | 0,_,_,h,_,_,_,_=>absurd h (Nat.not_lt_zero _)
 | n+1,H,hk,hb,j,j0,j1,hs=>by
  unfold Hg at hs ⊢
  split at hs
  ·rename_i c
   rw [if_pos c]
   obtain⟨_,_,_,a⟩:=Ny H 4 (Nat.le_refl 4) (by simpa using c)
   have a:=a j j0 j1
   by_cases e:(H.at_ j).state=0
   ·rw [a.1,if_neg (fun h=>h.2 e)] at hs;exact absurd e hs
   ·rw [a.1,if_pos ⟨by omega,e⟩]
    exact⟨(hk j j0 j1).idem,a.2 (by omega) e⟩
  ·rename_i c
   rw [if_neg c]
   obtain⟨i,i0,i1,a,b⟩:=Qj H 4 (Nat.le_refl 4) (by simpa using c)
   have hl:=(Zb (LW H 4 (Nat.le_refl 4))).2 i i0 i1 a b
   exact M6 n _ (hk.steps (U:=fun _=>True) (IJ H 4 (Nat.le_refl 4))) (by omega) j j0 j1 hs
theorem Tz (h:H.FG){j:Int}(j0:0≤j)(j1:j < 4)(hs:(H.BQ.at_ j).state≠0):(H.BQ.at_ j).Still:=
 M6 5 H h (by
  have hb:∀ j,H.busy j≤1:=fun j=>by unfold busy;split<;>omega
  have:=hb 0;have:=hb 1;have:=hb 2;have:=hb 3
  unfold N2;omega) j j0 j1 hs
end
end AH
end Go.Ing
/- Acts that are played: plain laws. -/
namespace Go.Ing
open Go
namespace AR
def HF (t:AR):Nat:=if t.at_=2 then 2 else if t.at_=1 then 1 else 0
theorem VZ (t:AR)(b:UInt8):(t.step b).2.2.length+(t.step b).1.HF≤1+t.HF:=by
 unfold step;dsimp only
 split
 ·rename_i c;have c':=of_decide_eq_true c
  have hp:t.HF=0:=by unfold HF;rw [if_neg (by omega),if_neg (by omega)]
  split
  ·exact Nat.le_add_right 1 _
  ·show 0+t.HF≤1+t.HF;omega
 ·split
  ·rename_i c;have c':=of_decide_eq_true c
   have hp:t.HF=1:=by unfold HF;rw [if_neg (by omega),if_pos c']
   rw [hp]
   split
   ·exact Nat.zero_le _
   ·split
    ·exact Nat.zero_le _
    ·split
     ·exact Nat.le_refl 2
     ·exact Nat.zero_le _
  ·split
   ·rename_i c;have c':=of_decide_eq_true c
    have hp:t.HF=2:=by unfold HF;rw [if_pos c']
    rw [hp]
    exact IY _ _ _
   ·split
    ·rename_i c;have c':=of_decide_eq_true c
     split
     ·exact Nat.zero_le _
     ·show 0+(t.collect b).HF≤_
      have:(t.collect b).at_=t.at_:=by unfold collect;split<;>rfl
      unfold HF;rw [this];rw [if_neg (by omega),if_neg (by omega)];omega
    ·split
     ·rename_i c;have c':=of_decide_eq_true c
      split
      ·show 0+(collect { t with at_:=3 } b).HF≤_
       have:(collect { t with at_:=3 } b).at_=3:=by unfold collect;split<;>rfl
       unfold HF;rw [this];rw [if_neg (by decide),if_neg (by decide)];omega
      ·split
       ·show 0+HF { t.measure with at_:=0,sub:= [] }≤_;exact Nat.zero_le _
       ·exact Nat.zero_le _
     ·show 0+t.HF≤_;omega
theorem Mg:∀(s:As) (t:AR),(t.feed s).2.2.length≤s.length+t.HF
 | [],t=>Nat.zero_le _
 | b :: s,t=>by
  have h1:=VZ t b
  have h2:=Mg s (t.step b).1
  show((t.step b).2.2++((t.step b).1.feed s).2.2).length≤s.length+1+t.HF
  rw [List.length_append];omega
theorem VO (t:AR):t.HF≤2:=by unfold HF;split;exact Nat.le_refl 2;split<;>decide
theorem KF.yb {X t:AR}{u x y:As}{k:Int}(h:KF X u k t x y):y.length≤u.length+2:=by
 have h1:=Mg u X
 have h2:=VO X
 rw [h.e3,List.length_append] at h1
 omega
theorem Vq (t:AR)(u:As):(t.DY u).2.2.1.length≤u.length+2:=by
 unfold DY
 split
 ·exact Nat.zero_le _
 ·have h1:=Mg u t
  have h2:=VO t
  show(t.feed u).2.2.length≤_
  omega
end AR
namespace AH
section
variable {H:AH}
theorem FG.tell (h:H.FG){k:Int}(h0:0≤k)(h1:k < 4)(u:As):(H.tell k u).FG:=h.set h0 h1 ((h k h0 h1).tell u)
theorem FG.BQ (h:H.FG):H.BQ.FG:=h.steps (U:=fun _=>True) (Li H)
theorem FG.D5 (h:H.FG){k:Int}(h0:0≤k)(h1:k < 4):(H.D5 k).FG:=by
 rcases LR (U:=fun _=>True) H h0 h1 (fun _ _=>trivial) with ⟨_,e⟩ | ⟨q,r,_,e,s⟩
 ·rw [e];exact h
 ·exact FG.steps (h.set h0 h1 ((h k h0 h1).next e)) s
theorem FG.turns (h:H.FG):∀ k:Nat,k≤4→(H.turns k).FG
 | 0,_=>h
 | k+1,hk=>(FG.turns h k (by omega)).D5 (by omega) (by omega)
theorem FG.begun (h:H.FG):H.begun.FG:=fun k h0 h1=>by rw [F6 h0 h1];exact(h k h0 h1).heard
theorem FG.DQ (h:H.FG)(a:BF):(H.DQ a).1.FG:=
 JK (fun X=>X.FG) h (fun d=>((h.turns 4 (Nat.le_refl 4)).steps (U:=fun _=>True) (J5 _ d)).BQ)
  (fun k h0 h1=>((h.set h0 h1 (((show({ (default:Ad) with state:=1,Aq:=-1 }:Ad).Ok from⟨⟨show(0:Int)≤1 by decide,show(1:Int)≤2 by decide⟩,Ad.Co.n,Ad.Co.ring,Ad.Co.s0,Ad.Co.s1,Ad.Co.ln⟩).offer 3).offer 31)).tell h0 h1 HZ).BQ)
  (fun k u h0 h1=>by
   rw [G6]
   refine FG.BQ ?_
   have hs:=h.set h0 h1 ((h k h0 h1).typed u)
   split
   ·exact hs.tell h0 h1 My
   ·exact hs)
  (fun k z h0 h1=>(h.set h0 h1 ((h k h0 h1).GG z)).BQ) (fun k h0 h1=>(h.steps (U:=fun _=>True) (Ey H h0 h1)).BQ) a
theorem FG.act (h:H.FG)(a:BF):(H.act a).1.FG:=by
 unfold AH.act
 split
 ·exact h
 ·exact h.begun.DQ a
end
structure Live (H:AH):Prop where
 fit:H.Fit 1000 1000
 CT:0≤H.CT
 Mq:H.FG
theorem Live.fits {H:AH}(h:H.Live):H.Fits:=⟨_,_,h.fit⟩
theorem Uy:AH.new.FG:=fun k h0 h1=>by rw [O7 h0 h1];exact Ad.Co
theorem R9:AH.new.Live:=⟨Zq.mono (by decide) (by decide),Int.le_refl 0,Uy⟩
section
variable {H X:AH}
theorem PI (e:Event)(H:AH):∀ k:Nat,(CR e H k).CT=H.CT
 | 0=>rfl
 | k+1=>by
  have ih:=PI e H k
  rw [CR.eq_2]
  split
  ·exact ih
  ·split<;>exact ih
theorem Of:∀(es:List Event) (H:AH),(H.Hj es).CT=H.CT
 | [],_=>rfl
 | e :: r,H=>(Of r _).trans (PI e H 4)
theorem Kk (H:AH)(es:List Event):(H.GP es).CT=H.CT:=Of es _
theorem La (H:AH)(k:Int):(H.leave k).CT=H.CT:=by
 unfold AH.leave
 split
 ·exact Kk _ _
 ·rfl
theorem Le (H:AH):∀ k:Nat,(H.Ci k).1.CT=H.CT
 | 0=>rfl
 | k+1=>by
  have ih:=Le H k
  unfold Ci
  split
  ·exact ih
  ·split
   ·exact(La _ _).trans ih
   ·exact ih
theorem OP:∀(n:Nat) (H:AH),(H.Hg n).CT=H.CT
 | 0,_=>rfl
 | n+1,H=>by
  unfold Hg
  split
  ·exact Le H 4
  ·exact(OP n _).trans (Le H 4)
theorem Ip (H:AH):H.BQ.CT=H.CT:=OP 5 H
theorem UE (H:AH)(k:Int):(H.D5 k).CT=H.CT:=by
 unfold AH.D5
 split
 ·rfl
 ·split
  ·rfl
  ·dsimp only
   split
   ·rfl
   ·split
    ·unfold AH.named
     split
     ·exact Kk _ _
     ·split<;>rfl
    ·unfold AH.order
     split
     ·rfl
     ·split
      ·exact La _ _
      ·exact Kk _ _
theorem OG (H:AH):∀ k:Nat,(H.turns k).CT=H.CT
 | 0=>rfl
 | k+1=>(UE _ _).trans (OG H k)
theorem WL (X:AH)(a:BF):(X.DQ a).1.CT=X.CT:=
 JK (fun Y=>Y.CT=X.CT) rfl (fun d=>(Ip _).trans ((Kk _ _).trans (OG X 4))) (fun k _ _=>Ip _) (fun k u _ _=>by rw [G6,Ip];split<;>rfl) (fun k z _ _=>Ip _) (fun k _ _=>(Ip _).trans (La _ _)) a
theorem US (H:AH):H.begun.CT=H.CT+1:=(HQ (H:={ H with CT:=H.CT+1,last:= [] }) 4).2.2
theorem N1 (H:AH)(a:BF):(H.act a).1.CT=if 400≤H.CT then H.CT else H.CT+1:=by
 unfold AH.act
 by_cases c:400≤H.CT
 ·rw [if_pos (decide_eq_true c),if_pos c]
 ·rw [if_neg (fun e=>c (of_decide_eq_true e)),if_neg c]
  exact(WL _ _).trans (US H)
theorem Live.act (h:H.Live)(a:BF):(H.act a).1.Live:=⟨by
 unfold AH.act
 split
 ·exact h.fit
 ·exact(h.fit.begun).DQ a,by rw [N1];have:=h.CT;split<;>omega,h.Mq.act a⟩
theorem Live.run:∀(l:List BF) {H:AH},H.Live→(H.run l).1.Live
 | [],_,h=>h
 | a :: r,_,h=>Live.run r (h.act a)
end
/-! #### does a house answer at all? -/
def QY:BF:=⟨1,2,0,[]⟩
def type2:BF:=⟨2,2,0,[97,110,110,13,10]⟩
def Td:BF:=⟨5,0,0,[]⟩
theorem fP:AH.new.Live:=R9
theorem fT:(AH.new.act QY).1.Live:=fP.act _
theorem fU:((AH.new.act QY).1.act type2).1.Live:=fT.act _
def dq:AH:=(((AH.new.act QY).1.act type2).1.act Td).1
theorem X2:dq.Live:=fU.act _
theorem eW:(AH.new.act QY).2.code=0:=by kernel_rfl
theorem eu:(((AH.new.act QY).1.act type2).1.act Td).2.code=0:=by kernel_rfl
theorem eT:dq.JS 2=(2,2):=by kernel_rfl
theorem eL:decide (2 < ((dq.at_ 2).told.length:Int))=true:=by kernel_rfl
theorem Live.told {V:AL}{ls:Vector BI 4}{ev:List Event}(h:(A4 V ls ev).Live){k:Int}(h0:0≤k)(h1:k < 4):(ls.at k).told.length≤1000000:=by
 have:=h.fit.told k h0 h1
 rw [CE _ _ _ h0 h1] at this
 exact Nat.le_trans this (by decide)
theorem Live.wait {V:AL}{ls:Vector BI 4}{ev:List Event}(h:(A4 V ls ev).Live){k:Int}(h0:0≤k)(h1:k < 4):(ls.at k).wait.length≤1000000:=by
 have:=(h.Mq k h0 h1).n
 rw [CE _ _ _ h0 h1] at this
 exact Nat.le_trans this (by decide)
theorem Live.queue {V:AL}{ls:Vector BI 4}{ev:List Event}(h:(A4 V ls ev).Live){k:Int}(h0:0≤k)(h1:k < 4):(ls.at k).queue.length≤1000000:=by
 have:=(h.Mq k h0 h1).ln.len
 rw [CE _ _ _ h0 h1] at this
 exact Nat.le_trans this (by decide)
theorem Live.last {V:AL}{ls:Vector BI 4}{ev:List Event}(h:(A4 V ls ev).Live):ev.length≤1000000:=Nat.le_trans h.fit.last (by decide)
/-! #### do two houses stand alike? -/
def aU (s t:Ad):Bool:=decide (s.wait=t.wait) && decide (s.pg.shown=t.pg.shown) && (s.pg.Bq == t.pg.Bq) && decide (s.pg.ring=t.pg.ring) && (s.pg.cut == t.pg.cut)
def av (s t:Ad):Bool:=decide (s.now=t.now) && (s.CL == t.CL) && (s.ret == t.ret) && decide (s.queue=t.queue)
def sameAt (H K:AH)(k:Int):Bool:=!(!decide ((H.JS k).1=(K.JS k).1) || !decide ((H.JS k).2=(K.JS k).2) || !aU (H.at_ k) (K.at_ k) || !av (H.at_ k) (K.at_ k))
def same (H K:AH):Bool:=CA 4 (sameAt H K) 4 && decide (H.w=K.w)
end AH
end Go.Ing
/- What beings do keeps: things, people, and who is far. -/
namespace Go.Ing
open Go
theorem FR {α β:Type}[Inhabited α]{n:Nat}(f:α→β)(v:Vector α n){k:Int}{x:α}(hx:f x=f (v.at k))(i:Int):f ((v.put k x).at i)=f (v.at i):=by
 unfold Vector.put Vector.at at *
 rw [List.getD_eq_getElem?_getD] at hx ⊢
 rw [List.getD_eq_getElem?_getD]
 simp only [Vector.toList_setIfInBounds]
 rw [List.getElem?_set]
 split
 ·rename_i h1
  split
  ·rw [← h1,← hx];rfl
  ·rename_i h2
   rw [← h1,List.getElem?_eq_none (by omega)]
 ·rfl
namespace AF
/-! #### things stay what they are -/
def Zz (X:AI)(_:List Event)(Y:AI):Prop:=∀ i,(Y.AP.at i).name=(X.AP.at i).name∧(Y.AP.at i).kind=(X.AP.at i).kind
theorem bQ (x:As)(q:Prop)(b:Int):Rel x q b Zz where
 refl _:=fun _=>⟨rfl,rfl⟩
 trans h k:=fun i=>⟨(k i).1.trans (h i).1,(k i).2.trans (h i).2⟩
 cx _:=fun _=>⟨rfl,rfl⟩
 Bw {w i t} hn hk:=fun j=>⟨FR Ap.name w.AP hn j,FR Ap.kind w.AP hk j⟩
 B2:=fun _=>⟨rfl,rfl⟩
 shut:=fun _=>⟨rfl,rfl⟩
 GN:=fun _=>⟨rfl,rfl⟩
 G3 _:=fun _=>⟨rfl,rfl⟩
 gone h _:=h
theorem Zf:ZZ Zz:=⟨fun b _ _=>bQ [] False b,fun _=>⟨rfl,rfl⟩,fun _ h _=>h⟩
/-! #### who is there -/
def cr (l:List Event)(c:Int):Prop:=∃ e∈l,e.kind=18∧e.Dj=c
def aC (X:AI)(l:List Event)(Y:AI):Prop:=∀ c,0≤c→c < 6→((Y.AN.at c).here=true→(X.AN.at c).here=true∧(Y.AN.at c).name=(X.AN.at c).name)∧(2≤c→¬ cr l c→(Y.AN.at c).here=(X.AN.at c).here)
theorem G1 {X Y:AI}{l:List Event}(h:∀ c,(Y.AN.at c).here=(X.AN.at c).here∧(Y.AN.at c).name=(X.AN.at c).name):aC X l Y:=fun c _ _=>⟨fun e=>⟨by rw [← (h c).1];exact e,(h c).2⟩,fun _ _=>(h c).1⟩
theorem Vp {X Y Z:AI}{l m:List Event}(h:aC X l Y)(k:aC Y m Z):aC X (l++m) Z:=fun c c0 c6=>⟨fun e=>by
  obtain⟨a,b⟩:=(k c c0 c6).1 e
  obtain⟨d,f⟩:=(h c c0 c6).1 a
  exact⟨d,b.trans f⟩,fun c2 hn=>((k c c0 c6).2 c2 fun⟨e,he,h1⟩=>hn ⟨e,List.mem_append_right _ he,h1⟩).trans ((h c c0 c6).2 c2 fun⟨e,he,h1⟩=>hn ⟨e,List.mem_append_left _ he,h1⟩)⟩
theorem XB (x:As)(q:Prop){b:Int}(b0:0≤b)(b6:b < 6):Rel x q b aC where
 refl _:=G1 fun _=>⟨rfl,rfl⟩
 trans:=Vp
 cx _:=G1 fun _=>⟨rfl,rfl⟩
 Bw _ _:=G1 fun _=>⟨rfl,rfl⟩
 B2 {w k f}:=G1 fun c=>⟨FR An.here w.AN (k:=k) (x:={ w.AN.at k with B2:=f }) rfl c,FR An.name w.AN (k:=k) (x:={ w.AN.at k with B2:=f }) rfl c⟩
 shut:=G1 fun _=>⟨rfl,rfl⟩
 GN {w d r}:=G1 fun c=>⟨FR An.here w.AN (k:=b) (x:={ w.AN.at b with room:=r,B2:=0 }) rfl c,FR An.name w.AN (k:=b) (x:={ w.AN.at b with room:=r,B2:=0 }) rfl c⟩
 G3 _ {w}:=G1 fun _=>⟨rfl,rfl⟩
 gone {X l w} h hg:=fun c c0 c6=>by
  by_cases e:c=b
  ·subst e
   rw [AI.EO c0 c6]
   refine⟨fun e=>(by cases e),fun c2 hn=>?_⟩
   obtain⟨e,he,hk,ha⟩:=hg
   rcases hk with hk | ⟨_,hk⟩
   ·exact absurd ⟨e,he,hk,ha⟩ hn
   ·omega
  ·rw [AI.Gp b0 b6 c0 e];exact h c c0 c6
theorem cE:ZZ aC:=⟨fun b b0 b6=>XB [] False b0 b6,fun {w k h}=>G1 fun c=>⟨FR An.here w.AN (k:=k) (x:={ w.AN.at k with BP:=h }) rfl c,FR An.name w.AN (k:=k) (x:={ w.AN.at k with BP:=h }) rfl c⟩,
 fun {X l w b} _ h _=>fun c c0 c6=>by
  have e1:=FR An.here w.AN (k:=b) (x:={ w.AN.at b with room:=0,BP:=10 }) rfl c
  have e2:=FR An.name w.AN (k:=b) (x:={ w.AN.at b with room:=0,BP:=10 }) rfl c
  have:=h c c0 c6
  rw [← e1,← e2] at this
  exact this⟩
def Still (_:AI)(l:List Event)(_:AI):Prop:=∀ e∈l,e.kind≠18
theorem UJ {x:As}{w:AI}{e:Event}(h:Shape x w e):e.kind≠18:=by
 cases h with
 | cy _=>show(16:Int)≠18;decide
 | said=>show(7:Int)≠18;decide
 | @kind k h=>show k≠18;omega
 | @dir k d h=>show k≠18;omega
 | @Bw k i h=>show k≠18;omega
 | @G7 k h=>show k≠18;omega
 | ca=>show(6:Int)≠18;decide
 | Yl=>show(5:Int)≠18;decide
 | CC _ _=>show(14:Int)≠18;decide
theorem Us (x:As)(b:Int):Rel x False b Still where
 refl _:=fun _ h=>by cases h
 trans h k:=fun e he=>(List.mem_append.1 he).elim (h e) (k e)
 cx {w e} h:=fun y hy=>by rw [List.mem_singleton.1 hy,(HS w b e).1];exact UJ h
 Bw _ _:=fun _ h=>by cases h
 B2:=fun _ h=>by cases h
 shut:=fun _ h=>by cases h
 GN {w d r}:=fun y hy=>by rw [List.mem_singleton.1 hy,(HS w b _).1];show(1:Int)≠18;decide
 G3 h:=h.elim
 gone h _:=h
theorem ZK:ZZ Still:=⟨fun b _ _=>Us [] b,fun _ h=>(by cases h),fun _ h _=>h⟩
def By (b:Int)(_:AI)(l:List Event)(_:AI):Prop:=∀ e∈l,e.Dj=b
theorem eP (x:As)(q:Prop)(b:Int):Rel x q b (By b) where
 refl _:=fun _ h=>by cases h
 trans h k:=fun e he=>(List.mem_append.1 he).elim (h e) (k e)
 cx {w e} _:=fun y hy=>by rw [List.mem_singleton.1 hy,(HS w b e).2]
 Bw _ _:=fun _ h=>by cases h
 B2:=fun _ h=>by cases h
 shut:=fun _ h=>by cases h
 GN {w d r}:=fun y hy=>by rw [List.mem_singleton.1 hy,(HS w b _).2]
 G3 _ {w}:=fun y hy=>by rw [List.mem_singleton.1 hy,(HS w b _).2]
 gone h _:=h
/-! #### who stays in a room -/
end AF
end Go.Ing
/- What a house keeps through every act: people and pages. -/
namespace Go.Ing
open Go
namespace AF
theorem XF (X:AI)(s:As)(b:Int):(JW X s b).w=X.C7 b (Jy s):=(Jz _).1
theorem QQ (X:AI):∀ n:Nat,n≤6→2≤CQ X n→(X.AN.at (CQ X n)).here=false
 | 0,_,h=>by have:CQ X 0=-1:=rfl;omega
 | n+1,hn,h=>by
  unfold CQ at h ⊢
  split
  ·rename_i c
   rw [Bool.and_eq_true] at c
   simpa using c.1
  ·rename_i c
   rw [if_neg c] at h
   exact QQ X n (by omega) h
theorem aq {X:AI}{b:Int}{o:Order}(hg:X.Bk=true)(b0:0≤b)(b6:b < 6)(hh:(X.AN.at b).here=true)(h0:0≤o.verb)(h1:o.verb≤20):(Dr X b o)=((AF.act ⟨X,b,[]⟩ o).w,(AF.act ⟨X,b,[]⟩ o).out,0):=by
 unfold Dr
 rw [if_neg (by rw [hg];decide),if_neg (by rw [decide_eq_false (by omega:¬ b < 0),decide_eq_false (by omega:¬ 6≤b),hh];decide),if_neg (by rw [decide_eq_false (by omega:¬ o.verb < 0),decide_eq_false (by omega:¬ 20 < o.verb)];decide)]
theorem Ug {X:AI}{b:Int}{o:Order}(hg:X.Bk=true)(hw:X.DL):(Dr X b o).1.Bk=true:=by
 by_cases h:(Dr X b o).2.2=0
 ·exact(keeps hw h).1
 ·have:(Dr X b o).1=X:=by
   unfold Dr at h ⊢
   split
   ·rfl
   ·split
    ·rfl
    ·split
     ·rfl
     ·rename_i c1 c2 c3
      rw [if_neg c1,if_neg c2,if_neg c3] at h
      exact absurd rfl h
  rw [this];exact hg
theorem aM {X:AI}{b:Int}(hg:X.Bk=true)(b0:0≤b)(b6:b < 6)(hh:(X.AN.at b).here=true):((Dr X b AH.Dd).1.AN.at b).here=false:=by
 rw [aq hg b0 b6 hh (by decide) (by decide)]
 have e:AF.act ⟨X,b,[]⟩ AH.Dd=AF.G3 ⟨X,b,[]⟩:=rfl
 rw [e]
 have hf:=PW ⟨X,b,[]⟩
 show((AF.G3 ⟨X,b,[]⟩).w.AN.at b).here=false
 rw [hf.2.2]
 show(((((⟨X,b,[]⟩:AF).kind 18).FH.w.AN).put b default).at b).here=false
 rw [Vector.CG b0 b6];rfl
theorem R3 {X:AI}{d:Int}(hg:X.Bk=true)(hw:X.DL):(CD X d).1.Bk=true:=by
 unfold CD
 rw [if_neg (by rw [hg];decide)]
 have h:=(LY Zf (draw:=d) hg hw 6 (Nat.le_refl 6)).2.1
 generalize Dg X d 6=r at *
 exact h
end AF
namespace AH
structure TY (U:As→Prop)(P:AH→Prop):Prop where
 lines:∀ {H k},P H→0≤k→k < 4→∀ q∈(H.at_ k).queue,U q
 begun:∀ {H},P H→P H.begun
 step:∀ {H X},P H→Step U H X→P X
 next:∀ {H k q r},P H→0≤k→k < 4→(H.at_ k).state≠0→(H.at_ k).queue=q :: r→P (H.next k r)
 J2:∀ {H k},P H→0≤k→k < 4→(H.at_ k).state=0→P (H.set k ((({ (default:Ad) with state:=1,Aq:=-1 }:Ad).offer 3).offer 31))
 byte:∀ {H k u},P H→0≤k→k < 4→(H.at_ k).state≠0→P (H.set k (B8 (H.at_ k) u).1)
 GG:∀ {H k n},P H→0≤k→k < 4→(H.at_ k).state≠0→P (H.set k ((H.at_ k).GG n))
theorem C5 (s:Ad)(o:Int):(s.offer o).state=s.state:=by
 unfold Ad.offer;split<;>exact(OJ _ _).2.1
structure RO (U:As→Prop)(Z:AH)(P:AH→Prop):Prop where
 lines:∀ {H k},P H→0≤k→k < 4→∀ q∈(H.at_ k).queue,U q
 step:∀ {H X},P H→Step U H X→P X
 next:∀ {H k q r},P H→0≤k→k < 4→(H.at_ k).state≠0→(H.at_ k).queue=q :: r→P (H.next k r)
 J2:∀ {k},0≤k→k < 4→(Z.at_ k).state=0→P (Z.set k ((({ (default:Ad) with state:=1,Aq:=-1 }:Ad).offer 3).offer 31))
 byte:∀ {k u},0≤k→k < 4→(Z.at_ k).state≠0→P (Z.set k (B8 (Z.at_ k) u).1)
 GG:∀ {k n},0≤k→k < 4→(Z.at_ k).state≠0→P (Z.set k ((Z.at_ k).GG n))
section
variable {U:As→Prop} {P:AH→Prop} {H X Z:AH} (K:RO U Z P)
include K
theorem RO.steps (h:P H)(s:Steps U H X):P X:=Steps.Jl (fun h s=>K.step h s) h s
theorem RO.D5 (h:P H){k:Int}(h0:0≤k)(h1:k < 4):P (H.D5 k):=by
 rcases LR (U:=U) H h0 h1 (K.lines h h0 h1) with ⟨_,e⟩ | ⟨q,r,hs,e,s⟩
 ·rw [e];exact h
 ·exact K.steps (K.next h h0 h1 hs e) s
theorem RO.turns (h:P H):∀ k:Nat,k≤4→P (H.turns k)
 | 0,_=>h
 | k+1,hk=>K.D5 (RO.turns h k (by omega)) (by omega) (by omega)
theorem RO.BQ (h:P H):P H.BQ:=K.steps h (Li H)
theorem RO.told (h:P H){k:Int}(h0:0≤k)(h1:k < 4)(hs:(H.at_ k).state≠0){u:As}(hu:u∈Qq):P (H.tell k u):=K.step h (.told h0 h1 hs hu)
theorem RO.DQ (h:P Z)(a:BF):P (Z.DQ a).1:=by
 unfold AH.DQ
 split
 ·have hp:=K.BQ (K.steps (K.turns h 4 (Nat.le_refl 4)) (J5 (Z.turns 4) a.n))
  dsimp only
  unfold AH.M5
  exact hp
 ·split
  ·exact h
  ·split
   ·exact h
   ·rename_i c
    have hs:0≤a.A8∧a.A8 < 4:=by simp only [Bool.or_eq_true,decide_eq_true_eq] at c;omega
    split
    ·exact h
    ·rename_i c2
     have c2':decide ((Z.at_ a.A8).state=0)=decide (a.kind=1):=by simpa using c2
     split
     ·rename_i c3
      have hz:(Z.at_ a.A8).state=0:=of_decide_eq_true (c2'.trans c3)
      have h1:=K.J2 hs.1 hs.2 hz
      have h2:=K.BQ (K.told (u:=HZ) h1 hs.1 hs.2 (by
       rw [Cg _ hs.1 hs.2 hs.1,if_pos rfl,C5,C5]
       exact(by decide:(1:Int)≠0)) (List.mem_cons_self ..))
      dsimp only
      unfold AH.J2
      exact h2
     ·rename_i c3
      have hz:(Z.at_ a.A8).state≠0:=fun e=>c3 (by rw [← c2'];exact decide_eq_true e)
      split
      ·have h1:=K.byte hs.1 hs.2 hz (u:=a.bytes)
       have h2:=K.BQ h1
       have h3:=K.BQ (K.told (u:=My) h1 hs.1 hs.2 (by rw [Cg _ hs.1 hs.2 hs.1,if_pos rfl,(Dz _ _).2.1];exact hz) (List.mem_cons_of_mem _ (List.mem_cons_self ..)))
       dsimp only
       rw [G6]
       split
       ·exact h3
       ·exact h2
      ·split
       ·have h1:=K.BQ (K.GG (n:=a.n) hs.1 hs.2 hz)
        dsimp only
        exact h1
       ·have h1:=K.BQ (K.steps h (Ey Z hs.1 hs.2))
        dsimp only
        exact h1
end
section
variable {U:As→Prop} {P:AH→Prop} (K:TY U P) {H X:AH}
include K
theorem TY.DQ (h:P X)(a:BF):P (X.DQ a).1:=RO.DQ ⟨K.lines,K.step,K.next,K.J2 h,K.byte h,K.GG h⟩ h a
theorem TY.act (h:P H)(a:BF):P (H.act a).1:=by
 unfold AH.act
 split
 ·exact h
 ·exact K.DQ (K.begun h) a
theorem TY.run:∀(l:List BF) {H:AH},P H→P (H.run l).1
 | [],_,h=>h
 | a :: r,_,h=>TY.run r (K.act h a)
end
structure Home (H:AH):Prop where
 gd:H.w.Bk=true
 Fz:H.w.Lk
 Mq:H.FG
 me:∀ k,0≤k→k < 4→(H.at_ k).state=2→2≤(H.at_ k).Aq∧(H.at_ k).Aq≤5∧(H.w.AN.at (H.at_ k).Aq).here=true
 one:∀ j k,0≤j→j < 4→0≤k→k < 4→(H.at_ j).state=2→(H.at_ k).state=2→(H.at_ j).Aq=(H.at_ k).Aq→j=k
 all:∀ b,2≤b→b≤5→(H.w.AN.at b).here=true→∃ k,0≤k∧k < 4∧(H.at_ k).state=2∧(H.at_ k).Aq=b
 named:∀ b,2≤b→b≤5→(H.w.AN.at b).here=true→AF.FX (H.w.AN.at b).name=true
 diff:∀ b c,2≤b→b≤5→0≤c→c≤5→(H.w.AN.at b).here=true→(H.w.AN.at c).here=true→(H.w.AN.at c).name=(H.w.AN.at b).name→c=b
section
variable {H X:AH}
theorem Home.of (h:H.Home)(hw:X.w=H.w)(hs:∀ j,0≤j→j < 4→(X.at_ j).state=(H.at_ j).state∧(X.at_ j).Aq=(H.at_ j).Aq)(ho:X.FG):X.Home:=
 ⟨by rw [hw];exact h.gd,by rw [hw];exact h.Fz,ho,fun k k0 k1 e=>by
  obtain⟨a,b⟩:=hs k k0 k1
  rw [hw,b];exact h.me k k0 k1 (a ▸ e),fun j k j0 j1 k0 k1 e1 e2 e3=>by
  obtain⟨a,b⟩:=hs k k0 k1
  obtain⟨c,d⟩:=hs j j0 j1
  exact h.one j k j0 j1 k0 k1 (c ▸ e1) (a ▸ e2) (by rw [← d,← b];exact e3),fun b b0 b1 e=>by
  rw [hw] at e
  obtain⟨k,k0,k1,e1,e2⟩:=h.all b b0 b1 e
  obtain⟨c,d⟩:=hs k k0 k1
  exact⟨k,k0,k1,c.trans e1,d.trans e2⟩,by rw [hw];exact h.named,by rw [hw];exact h.diff⟩
theorem Home.put (h:H.Home){k:Int}(k0:0≤k)(k1:k < 4)(hn:(H.at_ k).state≠2){s:Ad}(hs:s.state≠2)(ho:s.Ok):(H.set k s).Home:=by
 have e:∀ j,0≤j→(H.set k s).at_ j=if j=k then s else H.at_ j:=fun j j0=>Cg H k0 k1 j0 s
 refine⟨h.gd,h.Fz,h.Mq.set k0 k1 ho,fun j j0 j1=>?_,fun i j i0 i1 j0 j1=>?_,fun b b0 b1 hb=>?_,h.named,h.diff⟩
 ·rw [e j j0];split
  ·exact fun q=>absurd q hs
  ·exact h.me j j0 j1
 ·rw [e i i0,e j j0];split
  ·exact fun q=>absurd q hs
  ·split
   ·exact fun _ q=>absurd q hs
   ·exact h.one i j i0 i1 j0 j1
 ·obtain⟨j,j0,j1,e1,e2⟩:=h.all b b0 b1 hb
  refine⟨j,j0,j1,?_⟩
  rw [e j j0,if_neg (fun q=>by subst q;exact hn e1)]
  exact⟨e1,e2⟩
theorem Home.land (h:H.Home){k:Int}(k0:0≤k)(k1:k < 4){w:AI}{es:List Event}(hg:w.Bk=true)(hw:w.Lk)(hr:AF.aC H.w es w)(hn:AF.Still H.w es w):(H.Fv k w (H.at_ k) es).Home:=by
 have hat:∀ j,0≤j→j < 4→((H.Fv k w (H.at_ k) es).at_ j).state=(H.at_ j).state∧((H.Fv k w (H.at_ k) es).at_ j).Aq=(H.at_ j).Aq:=fun j j0 j1=>by
  rw [GA H k0 k1 _ _ _ j0 j1]
  have e:(if j=k then H.at_ k else H.at_ j)=H.at_ j:=by
   split
   ·rename_i q;rw [q]
   ·rfl
  rw [e];exact Ad.GD _ _
 have hok:(H.Fv k w (H.at_ k) es).FG:=fun j j0 j1=>by
  rw [GA H k0 k1 _ _ _ j0 j1]
  exact Ad.Ok.D4 (by split;exact h.Mq k k0 k1;exact h.Mq j j0 j1) es
 have hkeep:=Mn H k w (H.at_ k) es
 have hgone:∀ c,¬ AF.cr es c:=fun c ⟨e,he,h1,_⟩=>hn e he h1
 refine Home.of (H:={ H with w:=w }) ⟨hg,hw,h.Mq,fun j j0 j1 e=>?_,h.one,fun b b0 b1 e=>h.all b b0 b1 ((hr b (by omega) (by omega)).1 e).1,fun b b0 b1 e=>?_,fun b c b0 b1 c0 c1 e1 e2 e3=>?_⟩ hkeep.1 hat hok
 ·obtain⟨a,b,c⟩:=h.me j j0 j1 e
  exact⟨a,b,((hr _ (by omega) (by omega)).2 a (hgone _)).trans c⟩
 ·obtain⟨p,q⟩:=(hr b (by omega) (by omega)).1 e
  show AF.FX (w.AN.at b).name=true
  rw [q];exact h.named b b0 b1 p
 ·obtain⟨p,q⟩:=(hr b (by omega) (by omega)).1 e1
  obtain⟨p',q'⟩:=(hr c (by omega) (by omega)).1 e2
  exact h.diff b c b0 b1 c0 c1 p p' (by rw [← q,← q'];exact e3)
theorem Home.left (h:H.Home){k:Int}(k0:0≤k)(k1:k < 4)(hs:(H.at_ k).state=2):(H.Fv k (AF.Dr H.w (H.at_ k).Aq Dd).1 default (AF.Dr H.w (H.at_ k).Aq Dd).2.1).Home:=by
 obtain⟨b2,b5,hh⟩:=h.me k k0 k1 hs
 have hr:AF.aC H.w (AF.Dr H.w (H.at_ k).Aq Dd).2.1 (AF.Dr H.w (H.at_ k).Aq Dd).1:=AF.Rk (AF.XB [] True (by omega) (by omega)) rfl (fun _=>trivial)
 have hb:AF.By (H.at_ k).Aq H.w (AF.Dr H.w (H.at_ k).Aq Dd).2.1 (AF.Dr H.w (H.at_ k).Aq Dd).1:=AF.Rk (AF.eP [] True _) rfl (fun _=>trivial)
 have hq:=AF.aM h.gd (show 0≤(H.at_ k).Aq by omega) (by omega) hh
 have hg:=AF.Ug (b:=(H.at_ k).Aq) (o:=Dd) h.gd h.Fz.IK
 have hw:=(AF.KZ (b:=(H.at_ k).Aq) (o:=Dd) h.Fz Mb).1
 generalize hd:AF.Dr H.w (H.at_ k).Aq Dd=D at *
 have hkeep:=Mn H k D.1 default D.2.1
 have hat:=fun j j0 j1=>GA H k0 k1 D.1 default D.2.1 (j:=j) j0 j1
 have st:∀ j,0≤j→j < 4→((H.Fv k D.1 default D.2.1).at_ j).state=2→j≠k∧(H.at_ j).state=2∧((H.Fv k D.1 default D.2.1).at_ j).Aq=(H.at_ j).Aq:=fun j j0 j1 e=>by
  rw [hat j j0 j1] at e ⊢
  rw [(Ad.GD _ _).1] at e
  rw [(Ad.GD _ _).2]
  by_cases q:j=k
  ·rw [if_pos q] at e;exact absurd (show(0:Int)=2 from e) (by decide)
  ·rw [if_neg q] at e ⊢;exact⟨q,e,rfl⟩
 refine⟨by rw [hkeep.1];exact hg,by rw [hkeep.1];exact hw,fun j j0 j1=>?_,fun j j0 j1 e=>?_,fun i j i0 i1 j0 j1 e1 e2 e3=>?_,fun b b0 b1 e=>?_,fun b b0 b1 e=>?_,fun b c b0 b1 c0 c1 e1 e2 e3=>?_⟩
 ·rw [hat j j0 j1]
  exact Ad.Ok.D4 (by split;exact Ad.Co;exact h.Mq j j0 j1) _
 ·obtain⟨q,e1,e2⟩:=st j j0 j1 e
  obtain⟨a,b,c⟩:=h.me j j0 j1 e1
  rw [hkeep.1,e2]
  refine⟨a,b,((hr _ (by omega) (by omega)).2 a fun⟨y,hy,_,ha⟩=>?_).trans c⟩
  exact q (h.one j k j0 j1 k0 k1 e1 hs (ha.symm.trans (hb y hy)))
 ·obtain⟨_,a1,a2⟩:=st i i0 i1 e1
  obtain⟨_,c1,c2⟩:=st j j0 j1 e2
  exact h.one i j i0 i1 j0 j1 a1 c1 (by rw [← a2,← c2];exact e3)
 ·rw [hkeep.1] at e
  obtain⟨p,_⟩:=(hr b (by omega) (by omega)).1 e
  obtain⟨j,j0,j1,a1,a2⟩:=h.all b b0 b1 p
  have hjk:j≠k:=fun q=>by subst q;rw [a2,e] at hq;cases hq
  refine⟨j,j0,j1,?_⟩
  rw [hat j j0 j1,(Ad.GD _ _).1,(Ad.GD _ _).2,if_neg hjk]
  exact⟨a1,a2⟩
 ·rw [hkeep.1] at e ⊢
  obtain⟨p,q⟩:=(hr b (by omega) (by omega)).1 e
  rw [q];exact h.named b b0 b1 p
 ·rw [hkeep.1] at e1 e2 e3
  obtain⟨p,q⟩:=(hr b (by omega) (by omega)).1 e1
  obtain⟨p',q'⟩:=(hr c (by omega) (by omega)).1 e2
  exact h.diff b c b0 b1 c0 c1 p p' (by rw [← q,← q'];exact e3)
theorem Home.JO (h:H.Home){k:Int}{u:As}(k0:0≤k)(k1:k < 4)(hs:(H.at_ k).state=1)(he:(AF.Bb H.w u).2.2.2=0):(H.Fv k (AF.Bb H.w u).1 { H.at_ k with state:=2,Aq:=(AF.Bb H.w u).2.1 } (AF.Bb H.w u).2.2.1).Home:=by
 rcases AF.Rz H.w u with ⟨hn,_⟩ | ⟨e,f2,f5,hn,_,ht⟩
 ·exact absurd he hn
 have hw:=(AF.Je (s:=u) h.Fz).1
 have hf:=AF.QQ H.w 6 (Nat.le_refl 6) f2
 have hlen:u.length≤8:=by
  have h2:=hn
  simp only [AF.FX,Bool.and_eq_true,decide_eq_true_eq] at h2
  omega
 have hfit:=AF.P8 (b:=AF.CQ H.w 6) h.gd h.Fz.IK (s:=u) (by omega) (by omega) (by omega)
 have hwe:=AF.XF H.w u (AF.CQ H.w 6)
 rw [e] at hw ⊢
 generalize AF.CQ H.w 6=f at *
 generalize (AF.JW H.w u f).out=es
 generalize (AF.JW H.w u f).w=w at *
 show(H.Fv k w { H.at_ k with state:=2,Aq:=f } es).Home
 have hw2:w.Lk:=hw
 have hg:w.Bk=true:=by rw [hwe];exact hfit.gd
 have bf:w.AN.at f=AF.Jy u:=by rw [hwe];exact AI.EO (by omega) (by omega) _
 have bn:∀ c,0≤c→c≠f→w.AN.at c=H.w.AN.at c:=fun c c0 hc=>by rw [hwe];exact AI.Gp (by omega) (by omega) c0 hc _
 have hkeep:=Mn H k w { H.at_ k with state:=2,Aq:=f } es
 have hat:∀ j,0≤j→j < 4→((H.Fv k w { H.at_ k with state:=2,Aq:=f } es).at_ j).state=(if j=k then 2 else(H.at_ j).state)∧((H.Fv k w { H.at_ k with state:=2,Aq:=f } es).at_ j).Aq=(if j=k then f else(H.at_ j).Aq):=fun j j0 j1=>by
  rw [GA H k0 k1 _ _ _ j0 j1,(Ad.GD _ _).1,(Ad.GD _ _).2]
  split<;>exact⟨rfl,rfl⟩
 have out:∀ j,0≤j→j < 4→(H.at_ j).state=2→(H.at_ j).Aq≠f:=fun j j0 j1 e q=>by
  have:=(h.me j j0 j1 e).2.2
  rw [q,hf] at this;cases this
 refine⟨by rw [hkeep.1];exact hg,by rw [hkeep.1];exact hw2,fun j j0 j1=>?_,fun j j0 j1=>?_,fun i j i0 i1 j0 j1=>?_,fun b b0 b1 e=>?_,fun b b0 b1 e=>?_,fun b c b0 b1 c0 c1 e1 e2 e3=>?_⟩
 ·rw [GA H k0 k1 _ _ _ j0 j1]
  exact Ad.Ok.D4 (by split;exact(h.Mq k k0 k1).JO f;exact h.Mq j j0 j1) _
 ·rw [(hat j j0 j1).1,(hat j j0 j1).2,hkeep.1]
  split
  ·intro _;rw [bf];exact⟨by omega,by omega,rfl⟩
  ·intro e
   obtain⟨a,b,c⟩:=h.me j j0 j1 e
   exact⟨a,b,by rw [bn _ (by omega) (out j j0 j1 e)];exact c⟩
 ·rw [(hat i i0 i1).1,(hat i i0 i1).2,(hat j j0 j1).1,(hat j j0 j1).2]
  split
  ·rename_i q1
   split
   ·rename_i q2;intro _ _ _;rw [q1,q2]
   ·intro _ e q;exact absurd q.symm (out j j0 j1 e)
  ·split
   ·intro e _ q;exact absurd q (out i i0 i1 e)
   ·exact h.one i j i0 i1 j0 j1
 ·rw [hkeep.1] at e
  by_cases q:b=f
  ·exact⟨k,k0,k1,by rw [(hat k k0 k1).1,if_pos rfl],by rw [(hat k k0 k1).2,if_pos rfl,q]⟩
  ·rw [bn b (by omega) q] at e
   obtain⟨j,j0,j1,a1,a2⟩:=h.all b b0 b1 e
   have hjk:j≠k:=fun q=>by subst q;omega
   exact⟨j,j0,j1,by rw [(hat j j0 j1).1,if_neg hjk];exact a1,by rw [(hat j j0 j1).2,if_neg hjk];exact a2⟩
 ·rw [hkeep.1] at e ⊢
  by_cases q:b=f
  ·rw [q,bf];exact hn
  ·rw [bn b (by omega) q] at e ⊢;exact h.named b b0 b1 e
 ·rw [hkeep.1] at e1 e2 e3
  have hfree:∀ c,0≤c→c≤5→(H.w.AN.at c).here=true→(H.w.AN.at c).name≠u:=fun c c0 c1 hc q=>by
   have:=ht c c0 (by omega)
   unfold AF.JD at this
   rw [hc,q] at this
   simp at this
  by_cases q1:b=f
  ·by_cases q2:c=f
   ·rw [q1,q2]
   ·rw [bn c (by omega) q2] at e2 e3
    rw [q1,bf] at e3
    exact absurd e3 (hfree c c0 c1 e2)
  ·rw [bn b (by omega) q1] at e1 e3
   by_cases q2:c=f
   ·rw [q2,bf] at e3
    exact absurd e3.symm (hfree b (by omega) b1 e1)
   ·rw [bn c (by omega) q2] at e2 e3
    exact h.diff b c b0 b1 c0 c1 e1 e2 e3
theorem S7 (q:As)(hq:q.length≤1000):(Words.parse q).1.text.length≤1000000:=by
 have:=(Words.KN q).2.2
 omega
theorem Home.step (h:H.Home)(hu:True){U:As→Prop}(hU:∀ q,U q→q.length≤1000)(s:Step U H X):X.Home:=by
 cases s with
 | @told k u h0 h1 hs _=>
  refine h.of rfl (fun j j0 j1=>?_) (h.Mq.step (U:=U) (.told h0 h1 hs ‹_›))
  unfold AH.tell
  rw [Cg _ h0 h1 j0]
  split
  ·rename_i q;subst q;exact⟨(E9 _ _).1,(E9 _ _).2.1⟩
  ·exact⟨rfl,rfl⟩
 | @BQ k h0 h1 hs=>
  refine h.of rfl (fun j j0 j1=>?_) (h.Mq.step (U:=U) (.BQ h0 h1 hs))
  rw [Cg _ h0 h1 j0]
  split
  ·rename_i q;subst q;exact⟨(HW _).2.1,(HW _).2.2.1⟩
  ·exact⟨rfl,rfl⟩
 | @free k h0 h1 hn=>exact h.put h0 h1 (fun e=>hn ⟨e,(h.me k h0 h1 e).2.2⟩) (show(0:Int)≠2 by decide) Ad.Co
 | @goes k w s es h0 h1 g=>
  cases g with
  | left hs _=>exact h.left h0 h1 hs
  | JO hs he=>exact h.JO h0 h1 hs he
  | aw hq hn0 hn1 hv=>
   have hst:=(h.Mq k h0 h1).st
   obtain⟨b2,b5,hh⟩:=h.me k h0 h1 (by omega)
   exact h.land h0 h1 (AF.Ug h.gd h.Fz.IK) (AF.KZ h.Fz (S7 _ (hU _ hq))).1 (AF.Rk (AF.XB _ False (by omega) (by omega)) rfl (fun e=>hv e)) (AF.Rk (AF.Us _ _) rfl (fun e=>hv e))
  | round=>exact h.land h0 h1 (AF.R3 h.gd h.Fz.IK) (AF.LQ h.Fz).1 (AF.P0 AF.cE h.Fz.IK) (AF.P0 AF.ZK h.Fz.IK)
end
end AH
end Go.Ing
/- An act that is refused, and acts behind the last: plain laws. -/
namespace Go.Ing
open Go
theorem ZI {α:Type}(a b c:α) : [a,b,c].Perm [c,b,a]:=List.reverse_perm [c,b,a]
namespace AH
theorem TV (H:AH):H.begun.w=H.w∧H.begun.last = []∧H.begun.CT=H.CT+1:=HQ (H:={ H with CT:=H.CT+1,last:= [] }) 4
def zero:BF:=⟨0,0,0,[]⟩
end AH
end Go.Ing
/- Behind each act: people and pages. -/
namespace Go.Ing
open Go
namespace Ad
theorem Still.heard {s:Ad}(h:s.Still):({ s with told:= [] }:Ad).Still:=by
 refine⟨?_,h.cut⟩
 have e:({ s with told:= [] }:Ad).BQ={ s.BQ with told:= [] }:=by
  unfold Ad.BQ
  by_cases c:(!s.Jc || decide (s.C0.Bm < 0) || decide (200 < s.C0.Bm))=true
  ·rw [if_pos c,if_pos (show(!({ s with told:= [] }:Ad).Jc || decide (({ s with told:= [] }:Ad).C0.Bm < 0) || decide (200 < ({ s with told:= [] }:Ad).C0.Bm))=true from c)]
  ·rw [if_neg c,if_neg (show ¬ (!({ s with told:= [] }:Ad).Jc || decide (({ s with told:= [] }:Ad).C0.Bm < 0) || decide (200 < ({ s with told:= [] }:Ad).C0.Bm))=true from c)]
 rw [e,h.fl]
end Ad
namespace AH
theorem Home.CT:TY (fun q=>q.length≤1000) Home where
 lines {H k} h h0 h1 q hq:=by
  have:=((Bj.GY q).1 ((h.Mq k h0 h1).ln.queue q hq)).1
  omega
 begun {H} h:=h.of (TV H).1 (fun j j0 j1=>by rw [F6 j0 j1];exact⟨rfl,rfl⟩) h.Mq.begun
 step h s:=h.step trivial (fun _ h=>h) s
 next {H k q r} h h0 h1 _ e:=h.of rfl (fun j j0 j1=>by
  unfold AH.next;rw [Cg _ h0 h1 j0];split
  ·rename_i q;subst q;exact⟨rfl,rfl⟩
  ·exact⟨rfl,rfl⟩) (h.Mq.set h0 h1 ((h.Mq k h0 h1).next e))
 J2 {H k} h h0 h1 hz:=h.put h0 h1 (by rw [hz];decide) (by rw [C5,C5];exact(by decide:(1:Int)≠2)) (((show({ (default:Ad) with state:=1,Aq:=-1 }:Ad).Ok from⟨⟨show(0:Int)≤1 by decide,show(1:Int)≤2 by decide⟩,Ad.Co.n,Ad.Co.ring,Ad.Co.s0,Ad.Co.s1,Ad.Co.ln⟩).offer 3).offer 31)
 byte {H k u} h h0 h1 _:=h.of rfl (fun j j0 j1=>by
  rw [Cg _ h0 h1 j0];split
  ·rename_i q;subst q;exact⟨(Dz _ _).2.1,(Dz _ _).2.2.1⟩
  ·exact⟨rfl,rfl⟩) (h.Mq.set h0 h1 ((h.Mq k h0 h1).typed u))
 GG {H k n} h h0 h1 _:=h.of rfl (fun j j0 j1=>by
  rw [Cg _ h0 h1 j0];split
  ·rename_i q;subst q;exact⟨rfl,rfl⟩
  ·exact⟨rfl,rfl⟩) (h.Mq.set h0 h1 ((h.Mq k h0 h1).GG n))
def Zero (H:AH):Prop:=∀ k,0≤k→k < 4→(H.at_ k).state=0→H.at_ k=default
theorem Zero.set {H:AH}(h:H.Zero){k:Int}(h0:0≤k)(h1:k < 4){s:Ad}(hs:s.state=0→s=default):(H.set k s).Zero:=fun j j0 j1=>by
 rw [Cg _ h0 h1 j0];split
 ·exact hs
 ·exact h j j0 j1
theorem Zero.CT:TY (fun _=>True) Zero where
 lines _ _ _ _ _:=trivial
 begun {H} h:=fun k h0 h1=>by
  rw [F6 h0 h1]
  intro e
  rw [h k h0 h1 e];rfl
 step {H X} h s:=by
  cases s with
  | told h0 h1 hs _=>exact h.set h0 h1 (fun e=>absurd ((E9 _ _).1.symm.trans e) hs)
  | BQ h0 h1 hs=>exact h.set h0 h1 (fun e=>absurd ((HW _).2.1.symm.trans e) hs)
  | free h0 h1 _=>exact h.set h0 h1 (fun _=>rfl)
  | @goes k w s es h0 h1 g=>
   have hs:s.state=0→s=default:=by
    cases g with
    | left _ _=>exact fun _=>rfl
    | JO _ _=>exact fun e=>absurd (show(2:Int)=0 from e) (by decide)
    | aw _ hn _ _=>exact fun e=>absurd e hn
    | round=>exact h 0 (Int.le_refl 0) (by decide)
   intro j j0 j1
   rw [GA H h0 h1 _ _ _ j0 j1]
   intro e
   rw [(Ad.GD _ _).1] at e
   have e2:(if j=k then s else H.at_ j)=default:=by
    split at e
    ·rename_i q;rw [if_pos q];exact hs e
    ·rename_i q;rw [if_neg q];exact h j j0 j1 e
   rw [e2];exact Lb es
 next {H k q r} h h0 h1 hs _:=h.set h0 h1 (fun e=>absurd e hs)
 J2 {H k} h h0 h1 _:=h.set h0 h1 (fun e=>by rw [C5,C5] at e;exact absurd (show(1:Int)=0 from e) (by decide))
 byte {H k u} h h0 h1 hs:=h.set h0 h1 (fun e=>absurd ((Dz _ _).2.1.symm.trans e) hs)
 GG {H k n} h h0 h1 hs:=h.set h0 h1 (fun e=>absurd e hs)
def Calm (H:AH):Prop:=∀ k,0≤k→k < 4→(H.at_ k).state≠0→(H.at_ k).Still
theorem UC (X:AH)(h:X.FG)(a:BF):(X.DQ a).1=X∨∃ Y:AH,Y.FG∧(X.DQ a).1=Y.BQ:=
 JK (fun Z=>Z=X∨∃ Y:AH,Y.FG∧Z=Y.BQ) (.inl rfl) (fun d=> .inr ⟨_,(h.turns 4 (Nat.le_refl 4)).steps (U:=fun _=>True) (J5 _ d),rfl⟩)
  (fun k h0 h1=> .inr ⟨_,(h.set h0 h1 (((show({ (default:Ad) with state:=1,Aq:=-1 }:Ad).Ok from⟨⟨show(0:Int)≤1 by decide,show(1:Int)≤2 by decide⟩,Ad.Co.n,Ad.Co.ring,Ad.Co.s0,Ad.Co.s1,Ad.Co.ln⟩).offer 3).offer 31)).tell h0 h1 HZ,rfl⟩)
  (fun k u h0 h1=> .inr ⟨_,by
   have hs:=h.set h0 h1 ((h k h0 h1).typed u)
   exact(show(if decide (0 < (B8 (X.at_ k) u).2)=true then(X.set k (B8 (X.at_ k) u).1).tell k My else X.set k (B8 (X.at_ k) u).1).FG by
    split
    ·exact hs.tell h0 h1 My
    ·exact hs),G6 X k u⟩)
  (fun k z h0 h1=> .inr ⟨_,h.set h0 h1 ((h k h0 h1).GG z),rfl⟩) (fun k h0 h1=> .inr ⟨_,h.steps (U:=fun _=>True) (Ey X h0 h1),rfl⟩) a
theorem Calm.act {H:AH}(h:H.Calm)(ho:H.FG)(a:BF):(H.act a).1.Calm:=by
 unfold AH.act
 split
 ·exact h
 ·rcases UC H.begun ho.begun a with e | ⟨Y,hy,e⟩
  ·rw [e]
   intro k h0 h1
   rw [F6 h0 h1]
   exact fun hs=>(h k h0 h1 hs).heard
  ·rw [e]
   exact fun k h0 h1 hs=>Tz hy h0 h1 hs
theorem Yj:AH.new.Home:=by
 have hb:∀ b:Int,2≤b→b≤5→(AH.new.w.AN.at b).here=true→False:=fun b b0 b1=>by
  have:b=2∨b=3∨b=4∨b=5:=by omega
  rcases this with e | e | e | e<;>subst e<;>decide
 have hs:∀ k,0≤k→k < 4→(AH.new.at_ k).state=2→False:=fun k h0 h1 e=>by
  rw [O7 h0 h1] at e
  exact absurd (show(0:Int)=2 from e) (by decide)
 exact⟨AI.YW,VM,Uy,fun k h0 h1 e=>(hs k h0 h1 e).elim,fun j k j0 j1 k0 k1 e=>(hs j j0 j1 e).elim,fun b b0 b1 e=>(hb b b0 b1 e).elim,fun b b0 b1 e=>(hb b b0 b1 e).elim,fun b c b0 b1 c0 c1 e=>(hb b b0 b1 e).elim⟩
theorem Xg:AH.new.Zero:=fun k h0 h1 _=>O7 h0 h1
theorem Xj:AH.new.Calm:=fun k h0 h1 e=>absurd (by rw [O7 h0 h1];rfl) e
structure Iq (H:AH):Prop where
 home:H.Home
 zero:H.Zero
 calm:H.Calm
 live:H.Live
theorem SX:AH.new.Iq:=⟨Yj,Xg,Xj,R9⟩
theorem Iq.act {H:AH}(h:H.Iq)(a:BF):(H.act a).1.Iq:=⟨Home.CT.act h.home a,Zero.CT.act h.zero a,h.calm.act h.home.Mq a,h.live.act a⟩
theorem Iq.run:∀(l:List BF) {H:AH},H.Iq→(H.run l).1.Iq
 | [],_,h=>h
 | a :: r,_,h=>Iq.run r (h.act a)
theorem Iq.cut {H:AH}(h:H.Iq){k:Int}(h0:0≤k)(h1:k < 4):(H.at_ k).pg.cut=false:=by
 by_cases e:(H.at_ k).state=0
 ·rw [h.zero k h0 h1 e];rfl
 ·exact(h.calm k h0 h1 e).cut
end AH
section
variable {V:AL} {ls:Vector BI 4} {ev:List Event} {k:Int}
variable (hF:(A4 V ls ev).Iq)
include hF
end
end Go.Ing
/- A pulse is one line of each seat: plain laws. -/
namespace Go.Ing
open Go
namespace AH
structure Qb (P:Ad→Prop):Prop where
 tell:∀ {s} (u:As),P s→P (s.tell u)
 BQ:∀ {s},P s→P s.BQ
 free:P default
 JO:∀ {s} (b:Int),s.state=1→P s→P { s with state:=2,Aq:=b }
section
variable {U:As→Prop} {P:Ad→Prop} (K:Qb P) {H X:AH}
include K
theorem Qb.fold:∀(es:List Event) {s:Ad},P s→P (es.foldl Ad.CR s)
 | [],_,h=>h
 | e :: r,s,h=>by
  refine Qb.fold r ?_
  unfold Ad.CR
  split
  ·exact K.tell _ h
  ·exact h
theorem Qb.D4 {s:Ad}(h:P s)(es:List Event):P (s.D4 es):=by
 unfold Ad.D4
 split
 ·exact K.fold es h
 ·exact h
theorem Qb.step {j:Int}(j0:0≤j)(j1:j < 4)(h:P (H.at_ j))(s:Step U H X):P (X.at_ j):=by
 cases s with
 | told h0 h1 _ _=>
  unfold AH.tell
  rw [Cg _ h0 h1 j0];split
  ·rename_i q;subst q;exact K.tell _ h
  ·exact h
 | BQ h0 h1 _=>
  rw [Cg _ h0 h1 j0];split
  ·rename_i q;subst q;exact K.BQ h
  ·exact h
 | free h0 h1 _=>
  rw [Cg _ h0 h1 j0];split
  ·exact K.free
  ·exact h
 | @goes k w s es h0 h1 g=>
  rw [GA H h0 h1 _ _ _ j0 j1]
  refine K.D4 ?_ es
  split
  ·rename_i q
   subst q
   cases g with
   | left _ _=>exact K.free
   | JO hs _=>exact K.JO _ hs h
   | aw _ _ _ _=>exact h
   | round=>exact h
  ·exact h
theorem Qb.steps {j:Int}(j0:0≤j)(j1:j < 4)(h:P (H.at_ j))(s:Steps U H X):P (X.at_ j):=Steps.Jl (P:=fun H=>P (H.at_ j)) (fun h s=>K.step j0 j1 h s) h s
end
theorem Y5 {H:AH}{k:Int}(h0:0≤k)(h1:k < 4)(r:List As){j:Int}(j0:0≤j):(H.next k r).at_ j=if j=k then { H.at_ k with queue:=r }.EU else H.at_ j:=by
 unfold AH.next;rw [Cg _ h0 h1 j0]
end AH
def Y6 (a:BF)(V:AL)(ls:Vector BI 4)(W:Vector Int 4):Prop:=∀ j:Int,0≤j→j < 4→0≤W.at j∧W.at j≤1000000∧((V.Ar.at j).state=0→(ls.at j).queue.length=0)∧((V.Ar.at j).state≠0→(a.kind=5→((ls.at j).queue.length:Int)=max 0 (W.at j - 1))∧(a.kind≠5→W.at j≤((ls.at j).queue.length:Int)))
section
variable {a:BF} {V:AL} {ls:Vector BI 4} {W U:Vector Int 4} {j:Int} {n:Nat} (h:Y6 a V ls W) (j0:0≤j) (j1:j < 4) (hU:U.at j=W.at j) (hn:n=(ls.at j).queue.length)
include h j0 j1 hU hn
end
end Go.Ing
/- Whoever stays in a room perceives nothing of another one: plain laws. -/
namespace Go.Ing
open Go
namespace AF
end AF
namespace AH
section
variable {i b:Int} {W:AI} {H X:AH}
end
end AH
end Go.Ing
/- What the players are told is what they perceive: plain laws. -/
namespace Go.Ing
open Go
namespace AF
end AF
namespace Ad
theorem S6 {s:Ad}(u:As)(h:s.pg.cut=true):(s.tell u).pg.cut=true:=by
 have hl:(s.line u).pg.cut=true:=by
  unfold Ad.line
  split
  ·exact h
  ·exact h
 unfold Ad.tell Ad.note
 split
 ·exact hl
 ·exact hl
theorem Wq {s:Ad}(h:s.pg.cut=true):s.BQ.pg.cut=true:=by
 unfold Ad.BQ
 split
 ·exact h
 ·have:Page.BQ s.C0.Bm s.wait s.pg=(s.pg,s.wait):=by
   cases hq:s.wait with
   | nil=>rfl
   | cons a r=>unfold Page.BQ;rw [if_pos (by rw [h];simp)]
  show(Page.BQ s.C0.Bm s.wait s.pg).1.cut=true
  rw [this];exact h
end Ad
namespace AH
section
variable {i b:Int} {H X:AH}
end
end AH
section
variable {V:AL} {ls:Vector BI 4} {ev:List Event} {W U:Vector Int 4} {k m n:Int}
end
end Go.Ing
/- As long as one is told the same, its page is the same: plain laws. -/
namespace Go.Ing
open Go
namespace Ad
def Pd (ht:Int)(l:List As)(x:Page.Pg):Page.Pg × List As:=if (decide (ht < 0) || decide (200 < ht))=true then(x,l) else Page.BQ ht l x
theorem PJ (ht:Int)(u l:List As)(x:Page.Pg):Pd ht ((Pd ht l x).2++u) (Pd ht l x).1=Pd ht (l++u) x:=by
 unfold Pd
 split
 ·rfl
 ·exact Page.QO ht u l x
theorem Xi (ht:Int)(l:List As)(x:Page.Pg):Pd ht (Pd ht l x).2 (Pd ht l x).1=Pd ht l x:=by
 have:=PJ ht [] l x
 rw [List.append_nil,List.append_nil] at this
 exact this
theorem SB {s:Ad}(h:s.Ok):s.BQ={ s with pg:=(Pd s.C0.Bm s.wait s.pg).1,wait:=(Pd s.C0.Bm s.wait s.pg).2 }:=by
 unfold Pd
 cases c:(decide (s.C0.Bm < 0) || decide (200 < s.C0.Bm)) with
 | true=>rw [KM s c,if_pos rfl]
 | false=>rw [Mi s ⟨h.n,h.ring,h.s0,h.s1⟩ c,if_neg (by decide)]
structure WB (b s:Ad):Prop where
 C0:s.C0=b.C0
 now:s.now=b.now
 CL:s.CL=b.CL
 ret:s.ret=b.ret
 queue:s.queue=b.queue
theorem WB.refl (s:Ad):WB s s:=⟨rfl,rfl,rfl,rfl,rfl⟩
def ZQ (b s:Ad):Prop:=s.state=0∨s.pg.cut=true∨(WB b s∧s.pg=b.pg∧s.wait=b.wait++s.told)
def Wy (b s:Ad):Prop:=s.state=0∨s.pg.cut=true∨(WB b s∧Pd b.C0.Bm s.wait s.pg=Pd b.C0.Bm (b.wait++s.told) b.pg)
theorem ZQ.two {b s:Ad}(h:ZQ b s):Wy b s:=by
 rcases h with h | h | ⟨h1,h2,h3⟩
 ·exact .inl h
 ·exact .inr (.inl h)
 ·exact .inr (.inr ⟨h1,by rw [h2,h3]⟩)
theorem VL {s:Ad}(h:s.Ok)(u:As):(s.tell u).pg.cut=true∨s.tell u={ s with wait:=s.wait ++ [u],told:=s.told ++ [u] }:=by
 unfold Ad.tell Ad.line
 rw [if_neg (by rw [h.Jc];decide)]
 split
 ·rename_i c
  left
  unfold Ad.note
  split
  ·exact c
  ·exact c
 ·rename_i c
  split
  ·left
   unfold Ad.note
   rw [if_neg (show ¬ (!true)=true by decide)]
  ·right
   unfold Ad.note
   rw [if_pos (by simpa using c)]
structure ND (P:Ad→Prop):Prop where
 zero:∀ s,s.state=0→P s
 tell:∀ s u,s.Ok→P s→P (s.tell u)
 JO:∀ s b,s.state=1→P s→P { s with state:=2,Aq:=b }
theorem ND.D4 {P:Ad→Prop}(K:ND P){s:Ad}(ho:s.Ok)(h:P s)(es:List Event):P (s.D4 es):=by
 unfold Ad.D4
 split
 ·rename_i c;clear c
  induction es generalizing s with
  | nil=>exact h
  | cons e r ih=>
   refine ih (ho.CR e) ?_
   unfold Ad.CR
   split
   ·exact K.tell s _ ho h
   ·exact h
 ·exact h
theorem fL (b:Ad):ND (ZQ b) where
 zero s h:= .inl h
 tell s u ho h:=by
  rcases h with h | h | ⟨h1,h2,h3⟩
  ·exact .inl ((AH.E9 _ _).1.trans h)
  ·exact .inr (.inl (S6 u h))
  ·rcases VL ho u with c | c
   ·exact .inr (.inl c)
   ·rw [c]
    exact .inr (.inr ⟨⟨h1.C0,h1.now,h1.CL,h1.ret,h1.queue⟩,h2,by show s.wait ++ [u]=b.wait++(s.told ++ [u]);rw [h3,List.append_assoc]⟩)
 JO s z hs h:=by
  rcases h with h | h | ⟨h1,h2,h3⟩
  ·omega
  ·exact .inr (.inl h)
  ·exact .inr (.inr ⟨⟨h1.C0,h1.now,h1.CL,h1.ret,h1.queue⟩,h2,h3⟩)
theorem bS (b:Ad):ND (Wy b) where
 zero s h:= .inl h
 tell s u ho h:=by
  rcases h with h | h | ⟨h1,h2⟩
  ·exact .inl ((AH.E9 _ _).1.trans h)
  ·exact .inr (.inl (S6 u h))
  ·rcases VL ho u with c | c
   ·exact .inr (.inl c)
   ·rw [c]
    exact .inr (.inr ⟨⟨h1.C0,h1.now,h1.CL,h1.ret,h1.queue⟩,by
     show Pd b.C0.Bm (s.wait ++ [u]) s.pg=Pd b.C0.Bm (b.wait++(s.told ++ [u])) b.pg
     rw [← PJ,h2,PJ,List.append_assoc]⟩)
 JO s z hs h:=by
  rcases h with h | h | ⟨h1,h2⟩
  ·omega
  ·exact .inr (.inl h)
  ·exact .inr (.inr ⟨⟨h1.C0,h1.now,h1.CL,h1.ret,h1.queue⟩,h2⟩)
theorem Wy.BQ {b s:Ad}(ho:s.Ok)(h:Wy b s):Wy b s.BQ:=by
 rcases h with h | h | ⟨h1,h2⟩
 ·exact .inl ((AH.HW _).2.1.trans h)
 ·exact .inr (.inl (Wq h))
 ·rw [SB ho]
  refine .inr (.inr ⟨⟨h1.C0,h1.now,h1.CL,h1.ret,h1.queue⟩,?_⟩)
  show Pd b.C0.Bm (Pd s.C0.Bm s.wait s.pg).2 (Pd s.C0.Bm s.wait s.pg).1=Pd b.C0.Bm (b.wait++s.told) b.pg
  rw [h1.C0,Xi,h2]
end Ad
namespace AH
inductive FT (U:As→Prop)(H:AH):AH→Prop
 | told {k:Int} {u:As}:0≤k→k < 4→(H.at_ k).state≠0→u∈Qq→FT U H (H.tell k u)
 | goes {k:Int} {w:AI} {s:Ad} {es:List Event}:0≤k→k < 4→DH U H k w s es→FT U H (H.Fv k w s es)
 | free {k:Int}:0≤k→k < 4→¬ ((H.at_ k).state=2∧(H.w.AN.at (H.at_ k).Aq).here=true)→FT U H (H.set k default)
inductive Hi (U:As→Prop)(H:AH):AH→Prop
 | refl:Hi U H H
 | tail {X Y:AH}:Hi U H X→FT U X Y→Hi U H Y
section
variable {U:As→Prop} {H X Y:AH}
theorem FT.one (h:FT U H X):Hi U H X:= .tail .refl h
theorem FT.step (h:FT U H X):Step U H X:=by
 cases h with
 | told a b c d=>exact .told a b c d
 | goes a b c=>exact .goes a b c
 | free a b c=>exact .free a b c
theorem Qp (H:AH){k:Int}(h0:0≤k)(h1:k < 4):Hi U H (H.leave k):=by
 unfold AH.leave
 split
 ·rename_i c
  rw [Bool.and_eq_true,decide_eq_true_eq] at c
  have s:FT U H (H.Fv k (AF.Dr H.w (H.at_ k).Aq Dd).1 default (AF.Dr H.w (H.at_ k).Aq Dd).2.1):= .goes h0 h1 (.left c.1 c.2)
  have e:(((H.Q6 k).set k default).GP (AF.Dr H.w (H.at_ k).Aq Dd).2.1).set k default=H.Fv k (AF.Dr H.w (H.at_ k).Aq Dd).1 default (AF.Dr H.w (H.at_ k).Aq Dd).2.1:=by
   show(H.Fv k _ default _).set k default=_
   have:=GA H h0 h1 (AF.Dr H.w (H.at_ k).Aq Dd).1 default (AF.Dr H.w (H.at_ k).Aq Dd).2.1 h0 h1
   rw [if_pos rfl,Lb] at this
   have h2:=Hv (H.Fv k (AF.Dr H.w (H.at_ k).Aq Dd).1 default (AF.Dr H.w (H.at_ k).Aq Dd).2.1) h0 h1
   rw [this] at h2
   exact h2
  rw [e]
  exact s.one
 ·rename_i c
  exact(FT.free h0 h1 (fun h=>c (by rw [Bool.and_eq_true,decide_eq_true_eq];exact h))).one
theorem Q8 (H:AH){k:Int}(h0:0≤k)(h1:k < 4)(hs:(H.at_ k).state=1)(u:As):Hi U H (H.named k u):=by
 unfold AH.named
 split
 ·rename_i c
  exact(FT.goes h0 h1 (.JO hs (of_decide_eq_true c))).one
 ·have hn:(H.at_ k).state≠0:=by omega
  split
  ·exact(FT.told h0 h1 hn (by simp [Qq])).one
  ·exact(FT.told h0 h1 hn (by simp [Qq])).one
theorem RG (H:AH){k:Int}(h0:0≤k)(h1:k < 4)(hs:(H.at_ k).state≠0)(h2:(H.at_ k).state≠1){u:As}(hu:U u):Hi U H (H.order k u):=by
 unfold AH.order
 split
 ·exact(FT.told h0 h1 hs (by simp [Qq])).one
 ·split
  ·exact Qp H h0 h1
  ·rename_i c
   have:=(FT.goes (H:=H) h0 h1 (.aw hu hs h2 (fun e=>c (decide_eq_true e)))).one
   unfold Fv at this
   rw [show({ H with w:=(AF.Dr H.w (H.at_ k).Aq (Words.parse u).1).1 }:AH).set k (H.at_ k)={ H with w:=(AF.Dr H.w (H.at_ k).Aq (Words.parse u).1).1 } from Hv { H with w:=(AF.Dr H.w (H.at_ k).Aq (Words.parse u).1).1 } h0 h1] at this
   exact this
theorem RR (H:AH)(d:Int):Hi U H ({ H with w:=(AF.CD H.w d).1 }.GP (AF.CD H.w d).2.1):=by
 have:=(FT.goes (U:=U) (H:=H) (Int.le_refl 0) (by decide) (.round (d:=d))).one
 unfold Fv at this
 rw [show({ H with w:=(AF.CD H.w d).1 }:AH).set 0 (H.at_ 0)={ H with w:=(AF.CD H.w d).1 } from Hv { H with w:=(AF.CD H.w d).1 } (Int.le_refl 0) (by decide)] at this
 exact this
theorem Sc (H:AH){k:Int}(h0:0≤k)(h1:k < 4)(hU:∀ q∈(H.at_ k).queue,U q):(((H.at_ k).state=0∨(H.at_ k).queue = [])∧H.D5 k=H)∨∃ q r,(H.at_ k).state≠0∧(H.at_ k).queue=q :: r∧Hi U (H.next k r) (H.D5 k):=by
 unfold AH.D5
 split
 ·rename_i c;exact .inl ⟨.inl (of_decide_eq_true c),rfl⟩
 ·rename_i c
  have c':(H.at_ k).state≠0:=fun e=>c (decide_eq_true e)
  split
  ·rename_i e;exact .inl ⟨.inr e,rfl⟩
  ·rename_i q r e
   refine .inr ⟨q,r,c',e,?_⟩
   have ha:(H.next k r).at_ k={ H.at_ k with queue:=r }.EU:=by unfold next;rw [Cg _ h0 h1 h0,if_pos rfl]
   have hst:((H.next k r).at_ k).state=(H.at_ k).state:=by rw [ha];rfl
   show Hi U (H.next k r) (if (H.at_ k).pg.Bq=true then H.next k r else if decide ((H.at_ k).state=1)=true then(H.next k r).named k (Words.Pe 32 (Words.Rn 32 q)) else(H.next k r).order k q)
   split
   ·exact .refl
   ·split
    ·rename_i c2
     exact Q8 _ h0 h1 (by rw [hst];exact of_decide_eq_true c2) _
    ·rename_i c2
     exact RG _ h0 h1 (by rw [hst];exact c') (by rw [hst];exact fun e=>c2 (decide_eq_true e)) (hU q (by rw [e];exact List.mem_cons_self ..))
end
section
open Ad
variable {U:As→Prop} {H X:AH} {P:Ad→Prop} {i:Int}
theorem EI (K:ND P)(i0:0≤i)(i1:i < 4)(hO:H.FG)(h:P (H.at_ i))(s:FT U H X):P (X.at_ i):=by
 cases s with
 | @told k u h0 h1 _ _=>
  unfold AH.tell
  rw [Cg _ h0 h1 i0];split
  ·rename_i q;subst q;exact K.tell _ _ (hO _ i0 i1) h
  ·exact h
 | @free k h0 h1 _=>
  rw [Cg _ h0 h1 i0];split
  ·exact K.zero _ rfl
  ·exact h
 | @goes k w s es h0 h1 g=>
  rw [GA H h0 h1 _ _ _ i0 i1]
  have go:(i=k→P s∧s.Ok)→P ((if i=k then s else H.at_ i).D4 es):=fun hs=>by
   by_cases q:i=k
   ·rw [if_pos q];exact K.D4 (hs q).2 (hs q).1 es
   ·rw [if_neg q];exact K.D4 (hO i i0 i1) h es
  cases g with
  | left _ _=>exact go fun _=>⟨K.zero _ rfl,Ad.Co⟩
  | JO hs he=>exact go fun q=>by subst q;exact⟨K.JO _ _ hs h,(hO i i0 i1).JO _⟩
  | aw _ _ _ _=>exact go fun q=>by subst q;exact⟨h,hO i i0 i1⟩
  | round=>exact go fun q=>by subst q;exact⟨h,hO _ i0 i1⟩
theorem TP (K:ND P)(hf:∀ s,s.Ok→P s→P s.BQ)(i0:0≤i)(i1:i < 4)(hO:H.FG)(h:P (H.at_ i))(s:Step U H X):P (X.at_ i):=by
 cases s with
 | told a b c d=>exact EI K i0 i1 hO h (.told (U:=U) a b c d)
 | goes a b c=>exact EI K i0 i1 hO h (.goes (U:=U) a b c)
 | free a b c=>exact EI K i0 i1 hO h (.free (U:=U) a b c)
 | @BQ k h0 h1 _=>
  rw [Cg _ h0 h1 i0];split
  ·rename_i q;subst q;exact hf _ (hO _ i0 i1) h
  ·exact h
theorem MK (K:ND P)(i0:0≤i)(i1:i < 4)(hO:H.FG)(h:P (H.at_ i))(s:Hi U H X):X.FG∧P (X.at_ i):=by
 induction s with
 | refl=>exact⟨hO,h⟩
 | tail _ s ih=>exact⟨ih.1.step s.step,EI K i0 i1 ih.1 ih.2 s⟩
theorem KP (K:ND P)(hf:∀ s,s.Ok→P s→P s.BQ)(i0:0≤i)(i1:i < 4)(hO:H.FG)(h:P (H.at_ i))(s:Steps U H X):X.FG∧P (X.at_ i):=by
 induction s with
 | refl=>exact⟨hO,h⟩
 | tail _ s ih=>exact⟨ih.1.step s,TP K hf i0 i1 ih.1 ih.2 s⟩
end
section
open Ad
variable {i:Int} {H Z K:AH}
def tb (s:Ad):Ad:=match s.queue with
 | []=>s
 | _ :: r=>{ s with queue:=r }.EU
theorem FG.cY (h:H.FG){k:Int}(k0:0≤k)(k1:k < 4):(H.D5 k).FG:=by
 rcases LR (U:=fun _=>True) H k0 k1 (fun _ _=>trivial) with ⟨_,e⟩ | ⟨q,r,_,e,s⟩
 ·rw [e];exact h
 ·have:(H.next k r).FG:=by
   unfold AH.next
   exact h.set k0 k1 ((h k k0 k1).next e)
  exact this.steps s
theorem ZM {b:Ad}(i0:0≤i)(i1:i < 4)(hO:H.FG){k:Int}(k0:0≤k)(k1:k < 4)(h:ZQ b (H.at_ i)):ZQ (if i=k then tb b else b) ((H.D5 k).at_ i):=by
 rcases Sc (U:=fun _=>True) H k0 k1 (fun _ _=>trivial) with ⟨hs,e⟩ | ⟨q,r,hs,e,s⟩
 ·rw [e]
  split
  ·rename_i c
   subst c
   rcases h with h | h | ⟨h1,h2,h3⟩
   ·exact .inl h
   ·exact .inr (.inl h)
   ·rcases hs with hs | hs
    ·exact .inl hs
    ·have:tb b=b:=by unfold tb;rw [← h1.queue,hs]
     rw [this];exact .inr (.inr ⟨h1,h2,h3⟩)
  ·exact h
 ·have hN:(H.next k r).FG:=by
   unfold AH.next
   exact hO.set k0 k1 ((hO k k0 k1).next e)
  have hp:ZQ (if i=k then tb b else b) ((H.next k r).at_ i):=by
   rw [Y5 k0 k1 r i0]
   split
   ·rename_i c
    subst c
    rcases h with h | h | ⟨h1,h2,h3⟩
    ·exact .inl h
    ·exact .inr (.inl h)
    ·have:tb b={ b with queue:=r }.EU:=by unfold tb;rw [← h1.queue,e]
     rw [this]
     exact .inr (.inr ⟨⟨h1.C0,h1.now,h1.CL,h1.ret,rfl⟩,by show({ (H.at_ i).pg with shown:=0,Bq:=false }:Page.Pg)={ b.pg with shown:=0,Bq:=false };rw [h2],h3⟩)
   ·exact h
  exact(MK (fL _) i0 i1 hN hp s).2
theorem Rv {b:Ad}(i0:0≤i)(i1:i < 4)(hO:Z.FG)(h:ZQ b (Z.at_ i)):∀ n:Nat,n≤4→(Z.turns n).FG∧ZQ (if i < n then tb b else b) ((Z.turns n).at_ i)
 | 0,_=>⟨hO,by rw [if_neg (by omega)];exact h⟩
 | n+1,hn=>by
  obtain⟨a,c⟩:=Rv i0 i1 hO h n (by omega)
  have t:=ZM (k:=n) i0 i1 a (by omega) (by omega) c
  refine⟨a.cY (by omega) (by omega),?_⟩
  have e:(if i=(n:Int) then tb (if i < (n:Int) then tb b else b) else if i < (n:Int) then tb b else b)=if i < ((n+1:Nat):Int) then tb b else b:=by
   by_cases q:i=(n:Int)
   ·rw [if_pos q,if_neg (by omega),if_pos (by omega)]
   ·rw [if_neg q]
    by_cases w:i < (n:Int)
    ·rw [if_pos w,if_pos (by omega)]
    ·rw [if_neg w,if_neg (by omega)]
  rw [e] at t
  exact t
def own (i:Int)(a:BF)(s:Ad):Ad:=
 if a.kind=5 then tb s
 else if a.A8≠i then s
 else if (decide (s.state=0) != decide (a.kind=1))=true then s
 else if a.kind=1 then((({ (default:Ad) with state:=1,Aq:=-1 }:Ad).offer 3).offer 31)
 else if a.kind=2 then(B8 s a.bytes).1
 else if a.kind=3 then s.GG a.n
 else s
theorem I5 {s:Ad}(h:s.told = []):Wy s s:= .inr (.inr ⟨.refl s,by rw [h,List.append_nil]⟩)
theorem GI {b:Ad}(i0:0≤i)(i1:i < 4)(hO:Z.FG)(h:Wy b (Z.at_ i)):Wy b (Z.BQ.at_ i):=(KP (bS b) (fun _ ho h=>h.BQ ho) i0 i1 hO h (Li (U:=fun _=>True) Z)).2
theorem WN:((({ (default:Ad) with state:=1,Aq:=-1 }:Ad).offer 3).offer 31).told = []:=by decide
theorem Uj:((({ (default:Ad) with state:=1,Aq:=-1 }:Ad).offer 3).offer 31).Ok:=((show({ (default:Ad) with state:=1,Aq:=-1 }:Ad).Ok from⟨⟨show(0:Int)≤1 by decide,show(1:Int)≤2 by decide⟩,Ad.Co.n,Ad.Co.ring,Ad.Co.s0,Ad.Co.s1,Ad.Co.ln⟩).offer 3).offer 31
theorem VP (i0:0≤i)(i1:i < 4)(hO:Z.FG)(ht:(Z.at_ i).told = [])(a:BF):Wy (own i a (Z.at_ i)) ((Z.DQ a).1.at_ i):=by
 unfold AH.DQ
 split
 ·rename_i c
  have c':=of_decide_eq_true c
  have e:own i a (Z.at_ i)=tb (Z.at_ i):=by unfold own;rw [if_pos c']
  rw [e]
  have h0:ZQ (Z.at_ i) (Z.at_ i):= .inr (.inr ⟨.refl _,rfl,by rw [ht,List.append_nil]⟩)
  obtain⟨a1,a2⟩:=Rv i0 i1 hO h0 4 (Nat.le_refl 4)
  rw [if_pos (by omega)] at a2
  obtain⟨b1,b2⟩:=MK (fL _) i0 i1 a1 a2 (RR (U:=fun _=>True) (Z.turns 4) a.n)
  dsimp only
  unfold AH.M5
  exact GI i0 i1 b1 b2.two
 ·rename_i c5
  have c5':¬ a.kind=5:=fun e=>c5 (decide_eq_true e)
  have self:own i a (Z.at_ i)=Z.at_ i→Wy (own i a (Z.at_ i)) (Z.at_ i):=fun e=>by rw [e];exact I5 ht
  split
  ·rename_i c
   refine self ?_
   simp only [Bool.or_eq_true,decide_eq_true_eq] at c
   unfold own
   rw [if_neg c5']
   split
   ·rfl
   ·split
    ·rfl
    ·rw [if_neg (by omega),if_neg (by omega),if_neg (by omega)]
  ·split
   ·rename_i c
    simp only [Bool.or_eq_true,decide_eq_true_eq] at c
    refine self ?_
    unfold own
    rw [if_neg c5',if_pos (by omega)]
   ·rename_i c
    have hs:0≤a.A8∧a.A8 < 4:=by simp only [Bool.or_eq_true,decide_eq_true_eq] at c;omega
    by_cases q:a.A8=i
    ·subst q
     split
     ·rename_i c2
      refine self ?_
      unfold own
      rw [if_neg c5',if_neg (fun h=>h rfl),if_pos c2]
     ·rename_i c2
      have eo:own a.A8 a (Z.at_ a.A8)=if a.kind=1 then((({ (default:Ad) with state:=1,Aq:=-1 }:Ad).offer 3).offer 31) else if a.kind=2 then(B8 (Z.at_ a.A8) a.bytes).1 else if a.kind=3 then(Z.at_ a.A8).GG a.n else Z.at_ a.A8:=by
       unfold own
       rw [if_neg c5',if_neg (fun h=>h rfl),if_neg c2]
      have at_:∀ s:Ad,(Z.set a.A8 s).at_ a.A8=s:=fun s=>by rw [Cg _ hs.1 hs.2 hs.1,if_pos rfl]
      rw [eo]
      by_cases c3:a.kind=1
      ·rw [if_pos c3,if_pos (decide_eq_true c3)]
       dsimp only
       unfold AH.J2
       have h1:(Z.set a.A8 ((({ (default:Ad) with state:=1,Aq:=-1 }:Ad).offer 3).offer 31)).FG:=hO.set hs.1 hs.2 Uj
       have h2:=EI (U:=fun _=>True) (bS ((({ (default:Ad) with state:=1,Aq:=-1 }:Ad).offer 3).offer 31)) hs.1 hs.2 h1 (by rw [at_];exact I5 WN) (.told (u:=HZ) hs.1 hs.2 (by rw [at_,C5,C5];exact(by decide:(1:Int)≠0)) (List.mem_cons_self ..))
       exact GI hs.1 hs.2 (h1.step (FT.step (U:=fun _=>True) (.told (u:=HZ) hs.1 hs.2 (by rw [at_,C5,C5];exact(by decide:(1:Int)≠0)) (List.mem_cons_self ..)))) h2
      ·rw [if_neg c3,if_neg (fun e=>c3 (of_decide_eq_true e))]
       have hz:(Z.at_ a.A8).state≠0:=fun e=>by
        rw [decide_eq_true e] at c2
        have:decide (a.kind=1)=false:=decide_eq_false c3
        rw [this] at c2
        exact c2 rfl
       by_cases c4:a.kind=2
       ·rw [if_pos c4,if_pos (decide_eq_true c4)]
        have h1:(Z.set a.A8 (B8 (Z.at_ a.A8) a.bytes).1).FG:=hO.set hs.1 hs.2 ((hO _ hs.1 hs.2).typed _)
        have h2:Wy (B8 (Z.at_ a.A8) a.bytes).1 ((Z.set a.A8 (B8 (Z.at_ a.A8) a.bytes).1).at_ a.A8):=by rw [at_];exact I5 ((Dz _ _).1.trans ht)
        have st:FT (fun _=>True) (Z.set a.A8 (B8 (Z.at_ a.A8) a.bytes).1) ((Z.set a.A8 (B8 (Z.at_ a.A8) a.bytes).1).tell a.A8 My):= .told hs.1 hs.2 (by rw [at_,(Dz _ _).2.1];exact hz) (List.mem_cons_of_mem _ (List.mem_cons_self ..))
        have h3:=EI (bS _) hs.1 hs.2 h1 h2 st
        dsimp only
        rw [G6]
        split
        ·exact GI hs.1 hs.2 (h1.step st.step) h3
        ·exact GI hs.1 hs.2 h1 h2
       ·rw [if_neg c4,if_neg (fun e=>c4 (of_decide_eq_true e))]
        by_cases c6:a.kind=3
        ·rw [if_pos c6,if_pos (decide_eq_true c6)]
         have h1:=GI (b:=(Z.at_ a.A8).GG a.n) hs.1 hs.2 (hO.set hs.1 hs.2 ((hO _ hs.1 hs.2).GG a.n)) (by rw [at_];exact I5 ht)
         dsimp only
         exact h1
        ·rw [if_neg c6,if_neg (fun e=>c6 (of_decide_eq_true e))]
         obtain⟨h1,h2⟩:=KP (U:=fun _=>True) (bS (Z.at_ a.A8)) (fun _ ho h=>h.BQ ho) hs.1 hs.2 hO (I5 ht) (Ey Z hs.1 hs.2)
         have h3:=GI hs.1 hs.2 h1 h2
         dsimp only
         exact h3
    ·have eo:own i a (Z.at_ i)=Z.at_ i:=by
      unfold own
      rw [if_neg c5',if_pos q]
     rw [eo]
     have at_:∀ s:Ad,(Z.set a.A8 s).at_ i=Z.at_ i:=fun s=>by rw [Cg _ hs.1 hs.2 i0,if_neg (fun h=>q h.symm)]
     have p0:=I5 ht
     split
     ·exact p0
     ·rename_i c2
      split
      ·rename_i c3
       dsimp only
       unfold AH.J2
       have h1:(Z.set a.A8 ((({ (default:Ad) with state:=1,Aq:=-1 }:Ad).offer 3).offer 31)).FG:=hO.set hs.1 hs.2 Uj
       have st:FT (fun _=>True) (Z.set a.A8 ((({ (default:Ad) with state:=1,Aq:=-1 }:Ad).offer 3).offer 31)) ((Z.set a.A8 ((({ (default:Ad) with state:=1,Aq:=-1 }:Ad).offer 3).offer 31)).tell a.A8 HZ):= .told hs.1 hs.2 (by rw [Cg _ hs.1 hs.2 hs.1,if_pos rfl,C5,C5];exact(by decide:(1:Int)≠0)) (List.mem_cons_self ..)
       have h2:=EI (bS (Z.at_ i)) i0 i1 h1 (by rw [at_];exact p0) st
       exact GI i0 i1 (h1.step st.step) h2
      ·rename_i c3
       have hz:(Z.at_ a.A8).state≠0:=fun e=>by
        rw [decide_eq_true e] at c2
        have:decide (a.kind=1)=false:=by simpa using c3
        rw [this] at c2
        exact c2 rfl
       split
       ·have h1:(Z.set a.A8 (B8 (Z.at_ a.A8) a.bytes).1).FG:=hO.set hs.1 hs.2 ((hO _ hs.1 hs.2).typed _)
        have h2:Wy (Z.at_ i) ((Z.set a.A8 (B8 (Z.at_ a.A8) a.bytes).1).at_ i):=by rw [at_];exact p0
        have st:FT (fun _=>True) (Z.set a.A8 (B8 (Z.at_ a.A8) a.bytes).1) ((Z.set a.A8 (B8 (Z.at_ a.A8) a.bytes).1).tell a.A8 My):= .told hs.1 hs.2 (by rw [Cg _ hs.1 hs.2 hs.1,if_pos rfl,(Dz _ _).2.1];exact hz) (List.mem_cons_of_mem _ (List.mem_cons_self ..))
        have h3:=EI (bS _) i0 i1 h1 h2 st
        dsimp only
        rw [G6]
        split
        ·exact GI i0 i1 (h1.step st.step) h3
        ·exact GI i0 i1 h1 h2
       ·split
        ·have h1:=GI (b:=Z.at_ i) i0 i1 (hO.set hs.1 hs.2 ((hO _ hs.1 hs.2).GG a.n)) (by rw [at_];exact p0)
         dsimp only
         exact h1
        ·obtain⟨h1,h2⟩:=KP (U:=fun _=>True) (bS (Z.at_ i)) (fun _ ho h=>h.BQ ho) i0 i1 hO p0 (Ey Z hs.1 hs.2)
         have h3:=GI i0 i1 h1 h2
         dsimp only
         exact h3
end
end AH
namespace Ad
structure Wu (s t:Ad):Prop where
 state:t.state=s.state
 pg:t.pg=s.pg
 wait:t.wait=s.wait
 V8:WB s t
theorem Wu.form {s t:Ad}(h:Wu s t):t={ s with Aq:=t.Aq,told:=t.told }:=by
 obtain⟨a,b,c,⟨d,e,f,g,j⟩⟩:=h
 cases s;cases t
 simp only at a b c d e f g j
 subst a b c d e f g j
 rfl
theorem Wu.refl (s:Ad):Wu s s:=⟨rfl,rfl,rfl, .refl s⟩
theorem XD (s:Ad)(z:Int)(u:List As)(w:As):({ s with Aq:=z,told:=u }:Ad).send w={ s.send w with Aq:=z,told:=u }:=by
 have e1:∀ t:Ad,t.Jc=false→t.send w=t:=fun t h=>if_pos (by rw [h];rfl)
 have e2:∀ t:Ad,t.Jc=true→t.pg.cut=true→t.send w=t:=fun t h c=>(if_neg (by rw [h];decide)).trans (if_pos c)
 have e3:∀ t:Ad,t.Jc=true→t.pg.cut=false→t.send w={ t with pg:=Page.put t.pg w }:=fun t h c=>(if_neg (by rw [h];decide)).trans (if_neg (by rw [c];decide))
 cases h:s.Jc with
 | false=>rw [e1 s h,e1 { s with Aq:=z,told:=u } h]
 | true=>
  cases c:s.pg.cut with
  | true=>rw [e2 s h c,e2 { s with Aq:=z,told:=u } h c]
  | false=>rw [e3 s h c,e3 { s with Aq:=z,told:=u } h c]
theorem VW (s:Ad)(z:Int)(u:List As)(w:As):({ s with Aq:=z,told:=u }:Ad).typed w=({ (s.typed w).1 with Aq:=z,told:=u },(s.typed w).2):=by
 unfold Ad.typed
 rw [show({ s with Aq:=z,told:=u }:Ad).Ie=s.Ie from rfl]
 cases s.Ie with
 | false=>rfl
 | true=>rfl
theorem TG (s:Ad)(z:Int)(u:List As)(w:As):B8 { s with Aq:=z,told:=u } w=({ (B8 s w).1 with Aq:=z,told:=u },(B8 s w).2):=by
 unfold B8 Ad.bytes
 dsimp only
 have:=XD { s with C0:=(s.C0.DY w).1 } z u (s.C0.DY w).2.2.1
 rw [this,VW]
theorem P7 {s:Ad}(ho:s.Ok)(h:s.Still):Pd s.C0.Bm s.wait s.pg=(s.pg,s.wait):=by
 have e:=(SB ho).symm.trans h.fl
 exact Prod.ext (congrArg Ad.pg e) (congrArg Ad.wait e)
end Ad
namespace AH
section
open Ad
variable {i:Int} {H K Z W:AH} {a b:BF}
theorem X0 {s:Ad}(h:s.queue = []):tb s=s:=by unfold tb;rw [h]
theorem Ul {s:Ad}{q:As}{r:List As}(h:s.queue=q :: r):tb s={ s with queue:=r }.EU:=by unfold tb;rw [h]
theorem XJ (h5:¬ a.kind=5)(h0:a.A8=i)(s:Ad):own i a s=if (decide (s.state=0) != decide (a.kind=1))=true then s else if a.kind=1 then((({ (default:Ad) with state:=1,Aq:=-1 }:Ad).offer 3).offer 31) else if a.kind=2 then(B8 s a.bytes).1 else if a.kind=3 then s.GG a.n else s:=by
 unfold own
 rw [if_neg h5,if_neg (fun e=>e h0)]
theorem Yx {s t:Ad}(h:Wu s t)(hk:a.kind=b.kind)(hs:a.A8=b.A8)(hn:a.n=b.n)(hb:a.A8=i→a.kind=2→a.bytes=b.bytes):WB (own i a s) (own i b t)∧(own i b t).pg=(own i a s).pg∧(own i b t).wait=(own i a s).wait:=by
 rw [h.form]
 generalize t.Aq=z,t.told=u
 by_cases c5:a.kind=5
 ·have e1:own i a s=tb s:=if_pos c5
  have e2:own i b { s with Aq:=z,told:=u }=tb { s with Aq:=z,told:=u }:=if_pos (by rw [← hk];exact c5)
  rw [e1,e2]
  have hc:s.queue = []∨∃ q r,s.queue=q :: r:=by
   cases s.queue with
   | nil=>exact .inl rfl
   | cons q r=>exact .inr ⟨q,r,rfl⟩
  rcases hc with hq | ⟨q,r,hq⟩
  ·rw [X0 hq,X0 (s:={ s with Aq:=z,told:=u }) hq];exact⟨⟨rfl,rfl,rfl,rfl,rfl⟩,rfl,rfl⟩
  ·rw [Ul hq,Ul (s:={ s with Aq:=z,told:=u }) hq];exact⟨⟨rfl,rfl,rfl,rfl,rfl⟩,rfl,rfl⟩
 by_cases c0:a.A8=i
 ·have e1:=XJ c5 c0 s
  have e2:=XJ (a:=b) (i:=i) (by rw [← hk];exact c5) (by rw [← hs];exact c0) { s with Aq:=z,told:=u }
  rw [← hk,← hn] at e2
  dsimp only at e2
  by_cases c1:(decide (s.state=0) != decide (a.kind=1))=true
  ·rw [if_pos c1] at e1 e2
   rw [e1,e2];exact⟨⟨rfl,rfl,rfl,rfl,rfl⟩,rfl,rfl⟩
  rw [if_neg c1] at e1 e2
  by_cases c2:a.kind=1
  ·rw [if_pos c2] at e1 e2
   rw [e1,e2];exact⟨⟨rfl,rfl,rfl,rfl,rfl⟩,rfl,rfl⟩
  rw [if_neg c2] at e1 e2
  by_cases c3:a.kind=2
  ·rw [if_pos c3] at e1 e2
   rw [e1,e2,← hb c0 c3,TG s z u a.bytes];exact⟨⟨rfl,rfl,rfl,rfl,rfl⟩,rfl,rfl⟩
  rw [if_neg c3] at e1 e2
  by_cases c4:a.kind=3
  ·rw [if_pos c4] at e1 e2
   rw [e1,e2];exact⟨⟨rfl,rfl,rfl,rfl,rfl⟩,rfl,rfl⟩
  rw [if_neg c4] at e1 e2
  rw [e1,e2];exact⟨⟨rfl,rfl,rfl,rfl,rfl⟩,rfl,rfl⟩
 ·have e1:own i a s=s:=(if_neg c5).trans (if_pos c0)
  have e2:own i b { s with Aq:=z,told:=u }={ s with Aq:=z,told:=u }:=(if_neg (by rw [← hk];exact c5)).trans (if_pos (by rw [← hs];exact c0))
  rw [e1,e2];exact⟨⟨rfl,rfl,rfl,rfl,rfl⟩,rfl,rfl⟩
theorem WI (he:Wu (Z.at_ i) (W.at_ i))(hk:a.kind=b.kind)(hs:a.A8=b.A8)(hn:a.n=b.n)(hi:a.A8=i∨a.kind=5):(Z.DQ a).2=(W.DQ b).2:=by
 unfold AH.DQ
 rw [← hk,← hs,← hn]
 by_cases c5:decide (a.kind=5)=true
 ·rw [if_pos c5,if_pos c5]
 rw [if_neg c5,if_neg c5]
 have q:a.A8=i:=hi.resolve_right fun e=>c5 (decide_eq_true e)
 rw [q]
 by_cases c1:(decide (a.kind < 1) || decide (5 < a.kind))=true
 ·rw [if_pos c1,if_pos c1]
 rw [if_neg c1,if_neg c1]
 by_cases c2:(decide (i < 0) || decide (4≤i))=true
 ·rw [if_pos c2,if_pos c2]
 rw [if_neg c2,if_neg c2,he.state]
 by_cases c3:(decide ((Z.at_ i).state=0) != decide (a.kind=1))=true
 ·rw [if_pos c3,if_pos c3]
 rw [if_neg c3,if_neg c3]
 by_cases c4:decide (a.kind=1)=true
 ·rw [if_pos c4,if_pos c4]
 rw [if_neg c4,if_neg c4]
 by_cases c6:decide (a.kind=2)=true
 ·rw [if_pos c6,if_pos c6]
 rw [if_neg c6,if_neg c6]
 by_cases c7:decide (a.kind=3)=true
 ·rw [if_pos c7,if_pos c7]
  show(⟨0,(Z.at_ i).out a.n⟩:BG)=⟨0,(W.at_ i).out a.n⟩
  unfold Ad.out Ad.aP
  rw [he.pg]
 ·rw [if_neg c7,if_neg c7]
theorem WJ (i0:0≤i)(i1:i < 4)(he:Wu (H.at_ i) (K.at_ i)):Wu (H.begun.at_ i) (K.begun.at_ i):=by
 rw [F6 i0 i1,F6 i0 i1]
 exact⟨he.state,he.pg,he.wait,⟨he.V8.C0,he.V8.now,he.V8.CL,he.V8.ret,he.V8.queue⟩⟩
theorem UY (hF:H.Iq)(kF:K.Iq)(c:H.CT < 400)(d:K.CT < 400)(i0:0≤i)(i1:i < 4)(he:Wu (H.at_ i) (K.at_ i))(hk:a.kind=b.kind)(hs:a.A8=b.A8)(hn:a.n=b.n)(hb:a.A8=i→a.kind=2→a.bytes=b.bytes) :
  (a.A8=i∨a.kind=5→(H.act a).2=(K.act b).2)∧(((K.act b).1.at_ i).told=((H.act a).1.at_ i).told→((K.act b).1.at_ i).state=((H.act a).1.at_ i).state→Wu ((H.act a).1.at_ i) ((K.act b).1.at_ i)):=by
 have f1:=hF.act a
 have f2:=kF.act b
 rw [F5 (decide_eq_false (by omega)) a] at f1 ⊢
 rw [F5 (decide_eq_false (by omega)) b] at f2 ⊢
 have hb':=WJ i0 i1 he
 refine⟨fun hi=>WI hb' hk hs hn hi,fun ht hst=>?_⟩
 by_cases z:((H.begun.DQ a).1.at_ i).state=0
 ·rw [f1.zero i i0 i1 z,f2.zero i i0 i1 (hst.trans z)]
  exact Wu.refl _
 have z2:¬ ((K.begun.DQ b).1.at_ i).state=0:=fun e=>z (hst.symm.trans e)
 have p1:=VP i0 i1 hF.home.Mq.begun (by rw [F6 i0 i1]) a
 have p2:=VP i0 i1 kF.home.Mq.begun (by rw [F6 i0 i1]) b
 have s1:=f1.calm i i0 i1 z
 have s2:=f2.calm i i0 i1 z2
 have o1:=f1.home.Mq i i0 i1
 have o2:=f2.home.Mq i i0 i1
 obtain⟨l0,l1,l2⟩:=Yx hb' hk hs hn hb
 generalize (H.begun.DQ a).1.at_ i=x at *
 generalize (K.begun.DQ b).1.at_ i=y at *
 generalize own i a (H.begun.at_ i)=u at *
 generalize own i b (K.begun.at_ i)=v at *
 rcases p1 with p | p | ⟨p,q⟩
 ·exact absurd p z
 ·rw [s1.cut] at p;cases p
 rcases p2 with p' | p' | ⟨p',q'⟩
 ·exact absurd p' z2
 ·rw [s2.cut] at p';cases p'
 have w1:=P7 o1 s1
 have w2:=P7 o2 s2
 rw [p.C0,q] at w1
 rw [p'.C0,q',l0.C0,l1,l2,ht,w1] at w2
 exact⟨hst,(congrArg Prod.fst w2).symm,(congrArg Prod.snd w2).symm,⟨by rw [p'.C0,p.C0,l0.C0],by rw [p'.now,p.now,l0.now],by rw [p'.CL,p.CL,l0.CL],by rw [p'.ret,p.ret,l0.ret],by rw [p'.queue,p.queue,l0.queue]⟩⟩
end
end AH
namespace AH
structure bd (i k:Int)(H K:AH):Prop where
 f1:H.Iq
 f2:K.Iq
 a1:H.CT=k
 a2:K.CT=k
 dr:Ad.Wu (H.at_ i) (K.at_ i)
theorem bd.new (i:Int):bd i 0 AH.new AH.new:=⟨SX,SX,rfl,rfl, .refl _⟩
end AH
structure Typed (i:Int)(a b:BF):Prop where
 kind:a.kind=b.kind
 A8:a.A8=b.A8
 n:a.n=b.n
 bytes:a.A8=i→a.kind=2→a.bytes=b.bytes
theorem Typed.refl (i:Int)(a:BF):Typed i a a:=⟨rfl,rfl,rfl,fun _ _=>rfl⟩
theorem Typed.other {i:Int}{a:BF}(h:a.A8≠i)(u:As):Typed i a { a with bytes:=u }:=⟨rfl,rfl,rfl,fun e=>absurd e h⟩
theorem NL (s:A2):(E4 s).1=s.state:=by
 unfold E4
 split
 ·rename_i c;exact(of_decide_eq_true c).symm
 ·rfl
section
variable {i k:Int} {V W V' W':AL} {ls ms ls' ms':Vector BI 4} {ev fv ev' fv':List Event} {a b:BF} (h:AH.bd i k (A4 V ls ev) (A4 W ms fv)) (hk:k < 400) (i0:0≤i) (i1:i < 4) (e1:A4 V' ls' ev'=((A4 V ls ev).act a).1) (e2:A4 W' ms' fv'=((A4 W ms fv).act b).1) (hT:Typed i a b)
include h hk i0 i1 e1 e2 hT
theorem YF (hd:(!decide ((ls'.at i).told=(ms'.at i).told) || !decide ((E4 (V'.Ar.at i)).1=(E4 (W'.Ar.at i)).1))=false):AH.bd i (k+1) (A4 V' ls' ev') (A4 W' ms' fv'):=by
 simp only [Bool.or_eq_false_iff,Bool.not_eq_false',decide_eq_true_eq] at hd
 rw [NL,NL] at hd
 have hx:=(AH.UY h.f1 h.f2 (by have:=h.a1;omega) (by have:=h.a2;omega) i0 i1 h.dr hT.kind hT.A8 hT.n hT.bytes).2
 rw [← e1,← e2,CE V' _ _ i0 i1,CE W' _ _ i0 i1] at hx
 refine⟨by rw [e1];exact h.f1.act a,by rw [e2];exact h.f2.act b,?_,?_,?_⟩
 ·rw [e1,AH.N1,h.a1,if_neg (by omega)]
 ·rw [e2,AH.N1,h.a2,if_neg (by omega)]
 ·rw [CE V' _ _ i0 i1,CE W' _ _ i0 i1]
  exact hx hd.1.symm hd.2.symm
omit e1 e2 in
theorem WQ (hi:a.A8=i∨a.kind=5):((A4 V ls ev).act a).2=((A4 W ms fv).act b).2:=(AH.UY h.f1 h.f2 (by have:=h.a1;omega) (by have:=h.a2;omega) i0 i1 h.dr hT.kind hT.A8 hT.n hT.bytes).1 hi
end
section
variable {i k:Int} {V W:AL} {ls ms:Vector BI 4} {ev fv:List Event} (h:AH.bd i k (A4 V ls ev) (A4 W ms fv)) (i0:0≤i) (i1:i < 4)
include h i0 i1
theorem W9:(!(decide ((ls.at i).wait=(ms.at i).wait) && decide ((V.Ar.at i).out.shown=(W.Ar.at i).out.shown) && ((V.Ar.at i).out.Bq == (W.Ar.at i).out.Bq) && decide ((V.Ar.at i).out.ring=(W.Ar.at i).out.ring) && ((V.Ar.at i).out.cut == (W.Ar.at i).out.cut)))=false:=by
 have he:=h.dr
 rw [CE V _ _ i0 i1,CE W _ _ i0 i1] at he
 have w:(ms.at i).wait=(ls.at i).wait:=he.wait
 have p1:(W.Ar.at i).out.shown=(V.Ar.at i).out.shown:=congrArg Page.Pg.shown he.pg
 have p2:(W.Ar.at i).out.Bq=(V.Ar.at i).out.Bq:=congrArg Page.Pg.Bq he.pg
 have p3:(W.Ar.at i).out.ring=(V.Ar.at i).out.ring:=congrArg Page.Pg.ring he.pg
 have p4:(W.Ar.at i).out.cut=(V.Ar.at i).out.cut:=congrArg Page.Pg.cut he.pg
 rw [w,p1,p2,p3,p4,decide_eq_true rfl,decide_eq_true rfl,decide_eq_true rfl,beq_self_eq_true,beq_self_eq_true];rfl
theorem YC:(!(decide ((V.Ar.at i).Dy.now=(W.Ar.at i).Dy.now) && ((V.Ar.at i).Dy.CL == (W.Ar.at i).Dy.CL) && ((V.Ar.at i).Dy.ret == (W.Ar.at i).Dy.ret) && decide ((ls.at i).queue=(ms.at i).queue)))=false:=by
 have he:=h.dr.V8
 rw [CE V _ _ i0 i1,CE W _ _ i0 i1] at he
 have w:(ms.at i).queue=(ls.at i).queue:=he.queue
 have p1:(W.Ar.at i).Dy.now=(V.Ar.at i).Dy.now:=he.now
 have p2:(W.Ar.at i).Dy.CL=(V.Ar.at i).Dy.CL:=he.CL
 have p3:(W.Ar.at i).Dy.ret=(V.Ar.at i).Dy.ret:=he.ret
 rw [w,p1,p2,p3,decide_eq_true rfl,decide_eq_true rfl,beq_self_eq_true,beq_self_eq_true];rfl
end
theorem Oo {P:Program}{n:Nat}{w0:World}{M:List Nat}{Q:Exit→Act→World→Prop}{l:List Oper}{Rs:List Nat}{F:List (Nat × Value)}{k:Nat}{V A:List Nat}{D:List (Nat × Nat × Value)}{L:List Af}(b b2 b3:Nat){o o2 o3:Oper}(ho:l[b]?=some o)(ho2:l[b2]?=some o2)(ho3:l[b3]?=some o3)(hc:(!(V.elem b) && !(V.elem b2) && !(V.elem b3) && ZB l Rs V [b,b2,b3])=true)
  (h:GL P n w0 M l.toArray (QK (PK n w0 M o fun v L'=>IV P n w0 M Q l Rs F b (JR b o.dst v D) L' A∧Hn P n w0 M Q l Rs F k (b :: V) A (JR b o.dst v D) L') Q) [o] (Ef D o.after.toList++F) L)
  (h2:GL P n w0 M l.toArray (QK (PK n w0 M o2 fun v L'=>IV P n w0 M Q l Rs F b2 (JR b2 o2.dst v D) L' A∧Hn P n w0 M Q l Rs F k (b2 :: V) A (JR b2 o2.dst v D) L') Q) [o2] (Ef D o2.after.toList++F) L)
  (h3:GL P n w0 M l.toArray (QK (PK n w0 M o3 fun v L'=>IV P n w0 M Q l Rs F b3 (JR b3 o3.dst v D) L' A∧Hn P n w0 M Q l Rs F k (b3 :: V) A (JR b3 o3.dst v D) L') Q) [o3] (Ef D o3.after.toList++F) L)
  (hn:SS o.dst F=true:=by rfl) (hn2:SS o2.dst F=true:=by rfl) (hn3:SS o3.dst F=true:=by rfl):Hn P n w0 M Q l Rs F (k+1) V A D L:=by
 simp only [Bool.and_eq_true,Bool.not_eq_true'] at hc
 refine .inr ⟨b,[b2,b3],hc.2,fun x hx=>?_⟩
 simp at hx
 rcases hx with rfl | rfl | rfl
 ·exact⟨o,ho,hc.1.1.1,Ko hn,h⟩
 ·exact⟨o2,ho2,hc.1.1.2,Ko hn2,h2⟩
 ·exact⟨o3,ho3,hc.1.2,Ko hn3,h3⟩
theorem Yz {x:Bool}{p q:Prop}[Decidable p][Decidable q]{r s:BG}[Decidable (r=s)](hx:x=false)(h:p∨q→r=s):(x || ((decide p || decide q) && !decide (r=s)))=false:=by
 rw [hx,Bool.false_or]
 cases c:(decide p || decide q) with
 | false=>rfl
 | true=>
  simp only [Bool.or_eq_true,decide_eq_true_eq] at c
  rw [decide_eq_true (h c)];rfl
end Go.Ing

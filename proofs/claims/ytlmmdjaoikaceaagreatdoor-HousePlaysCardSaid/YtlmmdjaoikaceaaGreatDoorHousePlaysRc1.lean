/- What the functions that the law of this seat reaches compute, and the plain laws of it. No condition. -/
import Derived.Test.YtlmmdjaoikaceaaGreatDoorHousePlaysEc3
import Derived.Test.YtlmmdjaoikaceaaGreatDoorHousePlaysRa1
import Derived.Test.YtlmmdjaoikaceaaGreatDoorHousePlaysRb1
set_option linter.unusedSimpArgs false
set_option linter.unusedVariables false
/- Who is far perceives nothing: plain laws. -/
namespace Go.Ing
open Go
namespace AD
theorem M4 (w:AD)(e:Event):∀ n:Nat,(w.GZ e n).kind=e.kind∧(w.GZ e n).Al=e.Al∧(w.GZ e n).room=e.room∧(w.GZ e n).other=e.other∧(w.GZ e n).n=e.n∧(w.GZ e n).CS=e.CS∧(w.GZ e n).D7=e.D7∧(w.GZ e n).AQ=e.AQ∧(w.GZ e n).text=e.text
 | 0=>⟨rfl,rfl,rfl,rfl,rfl,rfl,rfl,rfl,rfl⟩
 | k+1=>M4 w e k
end AD
namespace AA
section
variable {b c rc:Int} {S:Int→Prop} {T:AA}
section
variable (c0:0≤c) (c6:c < 6) (hn:c≠b)
include c0 c6 hn
end
end
end AA
end Go.Ing
/- What others are told is not empty: plain laws. -/
namespace Go.Ing
open Go
namespace AD
end AD
theorem Ks {α:Type}{d:α}{xs:List α}{i:Nat}(h:i < xs.length):xs.getD i d∈xs:=by
 rw [List.getD_eq_getElem?_getD,List.getElem?_eq_getElem h]
 exact List.getElem_mem h
namespace AA
theorem Nv:∀(l:List Int) (T:AA),(T.CL l).out.length=T.out.length+l.length
 | [],T=>rfl
 | i :: r,T=>by rw [CL,Nv r,FP];show T.out.length+1+r.length=_;rw [List.length_cons];omega
theorem Pe (v to:Int):∀(l:List Int) (T:AA),(T.Fb v to l).out.length≤T.out.length+l.length
 | [],T=>Nat.le_refl _
 | i :: r,T=>by
  have h1:=Pe v to r (T.Bf v to i)
  have h2:=T.Pm v to i
  rw [Fb,List.length_cons];omega
theorem Tt (T:AA){l:List Int}(hl:l.length≤9)(o:Order):(T.PJ l o).out.length≤T.out.length+10:=by
 have h:=(C9 T.w l o.nth o.name o.An).length_le
 unfold PJ
 rw [Nv]
 split
 ·rw [BQ];omega
 ·omega
theorem ck (T:AA)(o:Order):(T.get o).out.length≤T.out.length+11:=by
 have hb:=T.EL o.second
 unfold get
 split
 ·split
  ·omega
  ·have:=Tt (T.box o.second).1 (AD.F7 (T.box o.second).1.w 2 (T.box o.second).2.1) o
   omega
 ·have:=Tt T T.DC o
  omega
theorem Xv (T:AA)(o:Order):(T.EM o).out.length≤T.out.length+11:=by
 have hb:=T.NJ o
 unfold EM
 split
 ·omega
 ·unfold Xx
  have h:=(C9 (T.B3 o).1.w (T.B3 o).1.own o.nth o.name o.An).length_le
  have h9:=(T.B3 o).1.Fe
  refine Nat.le_trans (Pe _ _ _ _) ?_
  split
  ·rw [BQ];omega
  ·omega
theorem Xg (T:AA)(o:Order):(T.FY o).out.length≤T.out.length+2:=by
 unfold FY
 generalize (if (!decide (o.nth=1) || o.An)=true then [] else o.name)=nm
 have hs:=T.El nm
 split
 ·omega
 ·refine Nat.le_trans (Nat.le_of_eq (BQ _ _)) ?_
  split
  ·show(T.AU nm).1.out.length+1≤_;omega
  ·show(T.AU nm).1.out.length+1≤_;omega
theorem O3 (T:AA)(first:Bool)(i:Int)(v:Bool)(k:Int):(T.before first i v k).out.length=T.out.length+1:=by
 unfold before
 split
 ·rw [FP];rfl
 ·exact FP T k i
theorem dU (T:AA)(o:Order):(T.set o).out.length≤T.out.length+1:=by
 unfold set
 split
 ·unfold Hr
  split
  ·rw [BQ];exact Nat.le_refl _
  ·split
   ·rw [BQ];exact Nat.le_refl _
   ·refine Nat.le_trans (Nat.le_of_eq (BG _ _)) ?_
    split<;>exact Nat.le_refl _
 ·split
  ·rw [BQ];exact Nat.le_refl _
  ·split
   ·rw [BQ];exact Nat.le_refl _
   ·split
    ·exact Nat.le_of_eq (O3 T _ _ _ _)
    ·exact Nat.le_of_eq (O3 T _ _ _ _)
theorem bR (T:AA)(d:Int):(T.walk d).out.length≤T.out.length+11:=by
 unfold walk
 split
 ·rw [BQ];omega
 ·split
  ·rw [BQ];omega
  ·refine Nat.le_trans (NN _).2.2 ?_
   rw [BG]
   show(T.out ++ [_]).length+1+9≤_
   simp
theorem cK (T:AA)(o:Order):(T.act o).out.length≤T.out.length+11:=by
 unfold act
 split
 ·exact T.bR _
 ·split
  ·exact Nat.le_trans (T.NN).2.2 (by omega)
  ·split
   ·rw [(T.Jb _ _).2.2];omega
   ·split
    ·rw [BG];omega
    ·split
     ·rw [(T.Vh).2.1,HW];omega
     ·split
      ·exact Nat.le_trans (T.Xg o) (by omega)
      ·split
       ·exact T.ck o
       ·split
        ·exact T.Xv o
        ·exact Nat.le_trans (T.dU o) (by omega)
end AA
end Go.Ing
/- A round of all fights: plain functions and laws. -/
namespace Go.Ing
open Go
theorem Cq (d:Int):-2≤d.tmod 3∧d.tmod 3≤2:=by
 have h1:=Int.tmod_lt_of_pos d (show(0:Int) < 3 by decide)
 have h2:=Int.tmod_lt_of_pos (-d) (show(0:Int) < 3 by decide)
 rw [Int.neg_tmod] at h2
 omega
namespace AA
def Ee (w:AD)(b:Int):AA:=⟨w.Bb b { w.AF.at b with AW:=1 },b,[]⟩
def Ge (w:AD)(b:Int):AA:=((Ee w b).kind 15).EF
def JV (w:AD)(b:Int):AA:=(Ge w b).Cy b { (Ge w b).w.AF.at b with room:=0,AW:=10 }
def FV (w:AD)(b:Int):AA:=if decide (b < 2)=true then(Ge w b).Cy b default else((JV w b).kind 17).look
def hit (draw b:Int):Int:=1+(draw.tmod 3+3+b).tmod 3
def Aq (w:AD)(b A2 n:Int):AA:=(AA.Am ⟨w,b,[]⟩ { Dn 14 with other:=A2,n:=n }).Cy A2 { w.AF.at A2 with AW:=max 0 ((w.AF.at A2).AW - n) }
def DW (draw b:Int)(s:AD × List Event):AD × List Event:=
 if (!(s.1.AF.at b).here || decide ((s.1.AF.at b).A2=0))=true then s
 else if (!(s.1.AF.at ((s.1.AF.at b).A2 - 1)).here || !decide ((s.1.AF.at ((s.1.AF.at b).A2 - 1)).room=(s.1.AF.at b).room))=true then(s.1.Bb b { s.1.AF.at b with A2:=0 },s.2)
 else if decide (((Aq s.1 b ((s.1.AF.at b).A2 - 1) (hit draw b)).w.AF.at ((s.1.AF.at b).A2 - 1)).AW=0)=true then((FV (Aq s.1 b ((s.1.AF.at b).A2 - 1) (hit draw b)).w ((s.1.AF.at b).A2 - 1)).w,(s.2++(Aq s.1 b ((s.1.AF.at b).A2 - 1) (hit draw b)).out)++(FV (Aq s.1 b ((s.1.AF.at b).A2 - 1) (hit draw b)).w ((s.1.AF.at b).A2 - 1)).out)
 else((Aq s.1 b ((s.1.AF.at b).A2 - 1) (hit draw b)).w,s.2++(Aq s.1 b ((s.1.AF.at b).A2 - 1) (hit draw b)).out)
def DG (X:AD)(draw:Int):Nat→AD × List Event
 | 0=>(X,[])
 | k+1=>DW draw k (DG X draw k)
def BX (X:AD)(draw:Int):AD × List Event × Int:=if (!X.A5)=true then(X,[],2) else((DG X draw 6).1,(DG X draw 6).2,0)
theorem DO {X:AD}{draw k:Int}(h:0≤k):DG X draw (k+1).toNat=DW draw k (DG X draw k.toNat):=by
 obtain⟨m,rfl⟩:=Int.eq_ofNat_of_zero_le h
 rfl
theorem MQ {draw b:Int}(h:0≤b):1≤hit draw b∧hit draw b≤3:=by
 unfold hit
 have:=Cq draw
 have h2:0≤draw.tmod 3+3+b:=by omega
 have h3:=Int.tmod_nonneg (a:=draw.tmod 3+3+b) 3 h2
 have h4:=Int.tmod_lt_of_pos (draw.tmod 3+3+b) (show(0:Int) < 3 by decide)
 omega
structure Yq (x:A6):Prop where
 room:0≤x.room∧x.room < 6
 AW:0≤x.AW∧x.AW≤10
 A2:0≤x.A2∧x.A2≤6
 off:x.here=false→x.A2=0
 alive:x.here=decide (0 < x.AW)
theorem iQ {x:A6}(h:AD.Ca x=false):Yq x:=by
 simp only [AD.Ca,Bool.or_eq_false_iff,decide_eq_false_iff_not,Bool.and_eq_false_iff,Bool.not_eq_false',bne_eq_false_iff_eq] at h
 obtain⟨⟨⟨⟨⟨⟨⟨q1,q2⟩,q3⟩,q4⟩,q5⟩,q6⟩,q7⟩,q8⟩:=h
 refine⟨by omega,by omega,by omega,fun e=>?_,q8⟩
 rcases q7 with q | q
 ·rw [e] at q;cases q
 ·exact of_decide_eq_true q
theorem iP {x:A6}(h:Yq x):AD.Ca x=false:=by
 have h1:=h.room;have h2:=h.AW;have h3:=h.A2
 simp only [AD.Ca,Bool.or_eq_false_iff,decide_eq_false_iff_not,Bool.and_eq_false_iff,Bool.not_eq_false',bne_eq_false_iff_eq]
 refine⟨⟨⟨⟨⟨⟨⟨by omega,by omega⟩,by omega⟩,by omega⟩,by omega⟩,by omega⟩,?_⟩,h.alive⟩
 cases hh:x.here with
 | true=>exact .inl rfl
 | false=>exact .inr (decide_eq_true (h.off hh))
theorem GN {X:AD}(h:X.A5=true){b:Int}(h0:0≤b)(h6:b < 6):Yq (X.AF.at b):=iQ (AD.FD h h0 h6)
theorem KK {X:AD}(h:X.A5=true){b:Int}(h0:0≤b)(h6:b < 6){x:A6}(hx:Yq x)(hh:(X.AF.at b).here=true→x.here=true):(X.Bb b x).A5=true:=
 AD.Kv h h0 h6 (iP hx) fun i i0 i9 e1 e2=>by
  rcases (AD.Ib h i0 i9).BZ with ⟨a,_⟩ | ⟨_,_,a⟩ | ⟨a,_⟩
  ·omega
  ·rw [e2] at a;exact hh a
  ·omega
theorem RQ (X:AD)(b:Int)(x y:A6):(X.Bb b x).Bb b y=X.Bb b y:=by
 unfold AD.Bb
 show({ X with AF:=(X.AF.put b x).put b y }:AD)=_
 rw [Vector.EY]
section
variable {w:AD} {b A2 n:Int} (hg:w.A5=true) (hw:w.Cs) (f0:0≤A2) (f6:A2 < 6) (hh:(w.AF.at A2).here=true)
include hg hw f0 f6 hh
theorem Jk:(Ee (Aq w b A2 n).w A2).Fit:=by
 have e:(Aq w b A2 n).w.Bb A2 { (Aq w b A2 n).w.AF.at A2 with AW:=1 }=w.Bb A2 { w.AF.at A2 with AW:=1 }:=by
  show(w.Bb A2 _).Bb A2 { (w.Bb A2 _).AF.at A2 with AW:=1 }=_
  rw [RQ,AD.Dw f0 f6]
 have k:=GN hg f0 f6
 refine⟨⟨f0,f6⟩,?_,?_,?_⟩
 ·show((Aq w b A2 n).w.Bb A2 _).Cs
  rw [e];exact ET hw (hw.be A2)
 ·show((Aq w b A2 n).w.Bb A2 _).A5=true
  rw [e]
  exact KK hg f0 f6 ⟨k.room,⟨show(0:Int)≤1 by decide,show(1:Int)≤10 by decide⟩,k.A2,k.off,by rw [show({ w.AF.at A2 with AW:=1 }:A6).here=true from hh];rfl⟩ fun _=>hh
 ·show(((Aq w b A2 n).w.Bb A2 _).AF.at A2).here=true
  rw [e,AD.Dw f0 f6];exact hh
theorem Uy (hn:0 < (w.AF.at A2).AW - n)(h1:0≤n):(Aq w b A2 n).w.A5=true∧(Aq w b A2 n).w.Cs:=by
 have k:=GN hg f0 f6
 have hk:=k.AW
 refine⟨KK hg f0 f6 ⟨k.room,⟨?_,?_⟩,k.A2,k.off,?_⟩ fun _=>hh,ET hw (hw.be A2)⟩
 ·show 0≤max 0 ((w.AF.at A2).AW - n);omega
 ·show max 0 ((w.AF.at A2).AW - n)≤10;omega
 ·show(w.AF.at A2).here=decide (0 < max 0 ((w.AF.at A2).AW - n))
  rw [hh,decide_eq_true (by omega)]
end
theorem M7 (w:AD)(b:Int):(Ge w b).b=b∧(Ge w b).out=((Ee w b).kind 15).out:=Vi ((Ee w b).kind 15)
theorem Vd (w:AD)(b:Int):(JV w b).b=b∧(JV w b).out=((Ee w b).kind 15).out∧(JV w b).w=(Ge w b).w.Bb b { (Ge w b).w.AF.at b with room:=0,AW:=10 }:=by
 have h:=M7 w b
 unfold JV
 rw [(DD _ _ _).1,(DD _ _ _).2.1,(DD _ _ _).2.2]
 exact⟨h.1,h.2,rfl⟩
theorem XG (D:AD){b:Int}(hb:0≤b∧b < 6):({ D with AF:=(D.AF.put b { D.AF.at b with room:=0 }).put b { (D.AF.put b { D.AF.at b with room:=0 }).at b with AW:=10 } }:AD)=D.Bb b { D.AF.at b with room:=0,AW:=10 }:=by
 rw [Vector.Bi hb.1 hb.2,Vector.EY];rfl
theorem SD {X F:AD}{b:Int}(h:F=((Ee X b).kind 15).EF.w)(x:A6):(Ge X b).Cy b x=⟨F.Bb b x,b,((Ee X b).kind 15).out⟩:=by
 subst h
 have e:=M7 X b
 have h1:=DD (Ge X b) b x
 cases hT:(Ge X b).Cy b x with
 | mk w' b' o'=>
  rw [hT] at h1
  obtain⟨q1,q2,q3⟩:=h1
  simp only at q1 q2 q3
  rw [q1,q2,q3,e.1,e.2]
  rfl
theorem SF {X F:AD}{b:Int}(h:F=((Ee X b).kind 15).EF.w):JV X b=⟨F.Bb b { F.AF.at b with room:=0,AW:=10 },b,((Ee X b).kind 15).out⟩:=by
 have h':(Ge X b).w=F:=h.symm
 unfold JV
 rw [h',SD h]
theorem SE {w:AD}{b:Int}(h:(Ee w b).Fit):Ew (Ee w b) (Ge w b)∧∀ j,0≤j→j < 9→¬ (((Ge w b).w.AH.at j).BZ=1∧((Ge w b).w.AH.at j).at_=b):=by
 have g1:Ew (Ee w b) ((Ee w b).kind 15):=h.goes.Fc rfl rfl
 obtain⟨g2,k⟩:=Xf g1.fit
 exact⟨g1.trans g2,k⟩
theorem O8 {w:AD}{b:Int}(h:(Ee w b).Fit):(JV w b).Fit:=by
 have g:=(SE h).1.fit
 have hb:0≤b∧b < 6:=h.b
 have e:=Vd w b
 have eb:=(M7 w b).1
 have gb:=g.b
 have gh:=g.here
 rw [eb] at gb gh
 have k:=GN g.gd hb.1 hb.2
 have gbr:=g.br
 have ggd:=g.gd
 obtain⟨e1,_,e3⟩:=e
 generalize hD:(Ge w b).w=D at *
 have hx:(D.Bb b { D.AF.at b with room:=0,AW:=10 }).A5=true:=KK ggd hb.1 hb.2 ⟨⟨Int.le_refl _,show(0:Int) < 6 by decide⟩,⟨show(0:Int)≤10 by decide,show(10:Int)≤10 by decide⟩,k.A2,k.off,gh⟩ fun _=>gh
 have hy:(D.Bb b { D.AF.at b with room:=0,AW:=10 }).Cs:=ET gbr (gbr.be b)
 have hz:((D.Bb b { D.AF.at b with room:=0,AW:=10 }).AF.at b).here=true:=by rw [AD.Dw hb.1 hb.2];exact gh
 exact⟨by rw [e1];exact hb,by rw [e3];exact hy,by rw [e3];exact hx,by rw [e1,e3];exact hz⟩
theorem Qy {w:AD}{b:Int}(h:(Ee w b).Fit):(FV w b).w.A5=true∧(FV w b).w.Cs∧(FV w b).out.length≤12:=by
 have hb:0≤b∧b < 6:=h.b
 obtain⟨g,hk⟩:=SE h
 unfold FV
 split
 ·rw [(DD _ _ _).2.1,(DD _ _ _).2.2]
  refine⟨AD.Kv (X:=(Ge w b).w) g.fit.gd hb.1 hb.2 (by decide) fun i i0 i9 e1 e2=>absurd ⟨e1,e2⟩ (hk i i0 i9),ET (X:=(Ge w b).w) g.fit.br (by decide),?_⟩
  rw [(M7 w b).2,HW]
  exact(by decide:(0:Nat)+1≤12)
 ·have f:=O8 h
  have hl:=NN ((JV w b).kind 17)
  refine⟨by rw [hl.1];exact f.gd,by rw [hl.1];exact f.br,?_⟩
  have h2:=hl.2.2
  rw [HW,(Vd w b).2.1,HW] at h2
  exact Nat.le_trans h2 (by decide:(0:Nat)+1+1+9≤12)
theorem C6 {s:AD × List Event}{draw b:Int}(hg:s.1.A5=true)(hw:s.1.Cs)(h0:0≤b)(h6:b < 6):(DW draw b s).1.A5=true∧(DW draw b s).1.Cs∧(DW draw b s).2.length≤s.2.length+13:=by
 have kb:=GN hg h0 h6
 have hn:=MQ (draw:=draw) h0
 unfold DW
 split
 ·exact⟨hg,hw,by omega⟩
 ·rename_i h1
  simp only [Bool.or_eq_true,Bool.not_eq_true',decide_eq_true_eq,not_or,Bool.not_eq_false] at h1
  have kf:=kb.A2
  split
  ·exact⟨KK hg h0 h6 ⟨kb.room,kb.AW,⟨Int.le_refl _,show(0:Int)≤6 by decide⟩,fun _=>rfl,kb.alive⟩ fun h=>h,ET hw (hw.be b),Nat.le_add_right _ _⟩
  ·rename_i h2
   simp only [Bool.or_eq_true,Bool.not_eq_true',decide_eq_false_iff_not,not_or,Bool.not_eq_false,Decidable.not_not] at h2
   have hf:=Jk (b:=b) (n:=hit draw b) hg hw (A2:=(s.1.AF.at b).A2 - 1) (by omega) (by omega) h2.1
   have hso:(Aq s.1 b ((s.1.AF.at b).A2 - 1) (hit draw b)).out.length=1:=rfl
   split
   ·obtain⟨d1,d2,d3⟩:=Qy hf
    refine⟨d1,d2,?_⟩
    show((s.2++_)++_).length≤_
    rw [List.length_append,List.length_append,hso];omega
   ·rename_i h3
    have h3':¬ ((Aq s.1 b ((s.1.AF.at b).A2 - 1) (hit draw b)).w.AF.at ((s.1.AF.at b).A2 - 1)).AW=0:=fun e=>h3 (decide_eq_true e)
    have e:((Aq s.1 b ((s.1.AF.at b).A2 - 1) (hit draw b)).w.AF.at ((s.1.AF.at b).A2 - 1))={ s.1.AF.at ((s.1.AF.at b).A2 - 1) with AW:=max 0 ((s.1.AF.at ((s.1.AF.at b).A2 - 1)).AW - hit draw b) }:=Vector.Bi (by omega) (by omega)
    rw [e] at h3'
    have h3'':¬ max 0 ((s.1.AF.at ((s.1.AF.at b).A2 - 1)).AW - hit draw b)=0:=h3'
    obtain⟨d1,d2⟩:=Uy (b:=b) (n:=hit draw b) hg hw (A2:=(s.1.AF.at b).A2 - 1) (by omega) (by omega) h2.1 (by omega) (by omega)
    refine⟨d1,d2,?_⟩
    show(s.2++_).length≤_
    rw [List.length_append,hso];omega
end AA
end Go.Ing
/- What a round takes: plain laws. -/
namespace Go.Ing
open Go
namespace AA
def RB (v:Vector Int 6)(e:Event):Vector Int 6:=if decide (e.kind=14)=true then v.put e.other (v.at e.other+e.n) else v
def Qz (v:Vector Bool 6)(e:Event):Vector Bool 6:=if decide (e.kind=15)=true then v.put e.Al true else v
def Dq (l:List Event):Vector Int 6:=l.foldl RB (Vector.replicate 6 default)
def FM (l:List Event):Vector Bool 6:=l.foldl Qz (Vector.replicate 6 default)
theorem PZ (l:List Event)(e:Event):Dq (l ++ [e])=RB (Dq l) e:=by simp [Dq]
theorem O9 (l:List Event)(e:Event):FM (l ++ [e])=Qz (FM l) e:=by simp [FM]
def Quiet (q:List Event):Prop:=∀ e∈q,e.kind≠14∧e.kind≠15
theorem PH:∀ {q:List Event} (v:Vector Int 6) (u:Vector Bool 6),Quiet q→q.foldl RB v=v∧q.foldl Qz u=u
 | [],_,_,_=>⟨rfl,rfl⟩
 | e :: r,v,u,h=>by
  have he:=h e (List.mem_cons_self ..)
  have hr:Quiet r:=fun x hx=>h x (List.mem_cons_of_mem _ hx)
  rw [List.foldl_cons,List.foldl_cons,RB,if_neg (by simp [he.1]),Qz,if_neg (by simp [he.2])]
  exact PH v u hr
theorem UB {l q:List Event}(h:Quiet q):Dq (l++q)=Dq l∧FM (l++q)=FM l:=by
 unfold Dq FM
 rw [List.foldl_append,List.foldl_append]
 exact PH _ _ h
theorem H0 (T:AA)(e:Event):∃ x:Event,(T.Am e).out=T.out ++ [x]∧x.kind=e.kind∧x.Al=T.b∧x.other=e.other∧x.n=e.n:=by
 obtain⟨a1,a2,_,a4,a5,_⟩:=AD.M4 T.w (T.DT e) 6
 have e2:(T.DT e).kind=e.kind∧(T.DT e).Al=T.b∧(T.DT e).other=e.other∧(T.DT e).n=e.n:=by
  unfold DT
  split<;>exact⟨rfl,rfl,rfl,rfl⟩
 exact⟨_,rfl,a1.trans e2.1,a2.trans e2.2.1,a4.trans e2.2.2.1,a5.trans e2.2.2.2⟩
def Ny (T T':AA):Prop:=∃ q,T'.out=T.out++q∧∀ e∈q,e.kind=16
theorem Ny.refl (T:AA):Ny T T:=⟨[],by simp,fun _ h=>by cases h⟩
theorem Ny.tell {T T':AA}(h:Ny T T')(s:AL):Ny T (T'.tell s):=by
 obtain⟨q,e,k⟩:=h
 obtain⟨x,e2,k2,_⟩:=H0 T' { Dn 16 with text:=s }
 refine⟨q ++ [x],?_,fun y hy=>?_⟩
 ·show(T'.Am _).out=_
  rw [e2,e,List.append_assoc]
 ·rcases List.mem_append.1 hy with hy | hy
  ·exact k y hy
  ·have:y=x:=by simpa using hy
   rw [this];exact k2
theorem Ny.look {T T':AA}(h:Ny T T'):Ny T T'.look:=by
 have hk:∀ {T'':AA},Ny T T''→∀ k:Nat,Ny T (T''.D5 k):=fun {T''} h' k=>by
  induction k with
  | zero=>exact h'
  | succ k ih=>
   unfold D5
   split
   ·exact ih.tell _
   ·exact ih
 unfold AA.look
 split
 ·exact h.tell _
 ·refine hk ?_ 6
  have ha:Ny T T'.D6:=(h.tell _).tell _
  unfold BU
  split
  ·exact ha.tell _
  ·exact ha
/-! #### who is struck, who dies -/
def calm (b:Int)(x:A6):A6:={ x with A2:=if x.A2=b+1 then 0 else x.A2 }
theorem ZZ {b:Int}{x:A6}(h:x.A2=b+1):calm b x={ x with A2:=0 }:=by unfold calm;rw [if_pos h]
theorem ZY {b:Int}{x:A6}(h:¬ x.A2=b+1):calm b x=x:=by unfold calm;rw [if_neg h]
theorem MI (T:AA)(hb:0≤T.b):∀ k:Nat,k≤6→∀ c:Int,0≤c→c < 6→(T.CR k).w.AF.at c=if c < (k:Int) then calm T.b (T.w.AF.at c) else T.w.AF.at c
 | 0,_,c,c0,_=>by rw [if_neg (by omega)];rfl
 | k+1,hk,c,c0,c6=>by
  have ih:=MI T hb k (by omega)
  have ihk:=ih k (by omega) (by omega)
  rw [if_neg (by omega)] at ihk
  have ihc:=ih c c0 c6
  unfold CR
  rw [ihk]
  by_cases e:(T.w.AF.at (k:Int)).A2=T.b+1
  ·rw [if_pos (decide_eq_true e)]
   show(((T.CR k).w.AF.put (k:Int) { (T.CR k).w.AF.at (k:Int) with A2:=0 }).at c)=_
   rw [IW _ _ _ _ (by omega) (by omega) c0]
   by_cases ec:c=(k:Int)
   ·subst ec
    rw [if_pos rfl,if_pos (by omega),ihk,ZZ e]
   ·rw [if_neg ec,ihc]
    by_cases hl:c < (k:Int)
    ·rw [if_pos hl,if_pos (by omega)]
    ·rw [if_neg hl,if_neg (by omega)]
  ·rw [if_neg (by simpa using e),ihc]
   by_cases hl:c < (k:Int)
   ·rw [if_pos hl,if_pos (by omega)]
   ·rw [if_neg hl]
    by_cases ec:c=(k:Int)
    ·subst ec
     rw [if_pos (by omega),ZY e]
    ·rw [if_neg (by omega)]
theorem Ld:∀(l:List Int) (T:AA),(T.BP l).w.AF=T.w.AF
 | [],_=>rfl
 | i :: r,T=>(Ld r (T.C0 i)).trans rfl
theorem cZ (T:AA)(hb:0≤T.b∧T.b < 6){c:Int}(c0:0≤c)(c6:c < 6):T.EF.w.AF.at c=if c=T.b then { T.w.AF.at c with A2:=0 } else calm T.b (T.w.AF.at c):=by
 have hd:=Ld T.own T
 have hdb:=(Dg T.own T).1
 have hk:=MI (T.BP T.own) (by rw [hdb];exact hb.1) 6 (Nat.le_refl _)
 rw [hd,hdb] at hk
 rw [JX]
 generalize (T.BP T.own).CR 6=D at *
 show(D.w.AF.put T.b { D.w.AF.at T.b with A2:=0 }).at c=_
 rw [IW _ _ _ _ hb.1 hb.2 c0]
 have hc:=hk c c0 c6
 rw [if_pos (by omega)] at hc
 by_cases e:c=T.b
 ·rw [if_pos e,if_pos e,← e,hc];rfl
 ·rw [if_neg e,if_neg e,hc]
structure gW (w w':AD)(f:Int):Prop where
 jO:∀ c,0≤c→c < 6→c≠f→(w'.AF.at c).AW=(w.AF.at c).AW∧(w'.AF.at c).room=(w.AF.at c).room∧(w'.AF.at c).here=(w.AF.at c).here∧((w'.AF.at c).A2=(w.AF.at c).A2∨(w'.AF.at c).A2=0)∧(w'.AF.at c).A2≠f+1
 here:(w'.AF.at f).here=decide (2≤f)
 A2:(w'.AF.at f).A2=0
theorem Wj {w:AD}{f c:Int}(hf:0≤f∧f < 6)(c0:0≤c)(c6:c < 6):(Ge w f).w.AF.at c=if c=f then { (Ee w f).w.AF.at c with A2:=0 } else calm f ((Ee w f).w.AF.at c):=cZ ((Ee w f).kind 15) hf c0 c6
theorem Zd {w:AD}{f c:Int}(hf:0≤f∧f < 6)(c0:0≤c)(c6:c < 6)(hn:c≠f):(Ge w f).w.AF.at c=calm f (w.AF.at c):=by
 have h0:(Ee w f).w.AF.at c=w.AF.at c:=AD.H4 hf.1 hf.2 c0 hn _
 rw [Wj hf c0 c6,h0,if_neg hn]
theorem cT (f:Int)(hf:0≤f)(x:A6):(calm f x).AW=x.AW∧(calm f x).room=x.room∧(calm f x).here=x.here∧((calm f x).A2=x.A2∨(calm f x).A2=0)∧(calm f x).A2≠f+1:=by
 by_cases e:x.A2=f+1
 ·rw [ZZ e]
  refine⟨rfl,rfl,rfl, .inr rfl,?_⟩
  show(0:Int)≠f+1
  omega
 ·rw [ZY e]
  exact⟨rfl,rfl,rfl, .inl rfl,e⟩
theorem Wk {w w1 w':AD}{f:Int}(hf:0≤f∧f < 6)(ho:∀ c,0≤c→c < 6→c≠f→w1.AF.at c=calm f (w.AF.at c))(he:∀ c,0≤c→c < 6→c≠f→w'.AF.at c=w1.AF.at c)(h1:(w'.AF.at f).here=decide (2≤f))(h2:(w'.AF.at f).A2=0):gW w w' f:=by
 refine⟨fun c c0 c6 hn=>?_,h1,h2⟩
 rw [he c c0 c6 hn,ho c c0 c6 hn]
 exact cT f hf.1 _
theorem XY {w:AD}{f:Int}(h:(Ee w f).Fit):gW w (FV w f).w f∧∃ x q,(FV w f).out=x :: q∧x.kind=15∧x.Al=f∧Quiet q:=by
 have hf:0≤f∧f < 6:=h.b
 have ho:∀ c,0≤c→c < 6→c≠f→(Ge w f).w.AF.at c=calm f (w.AF.at c):=fun c c0 c6 hn=>Zd hf c0 c6 hn
 obtain⟨x,e1,k1,k2,_⟩:=H0 (Ee w f) (Dn 15)
 have hout:((Ee w f).kind 15).out = [x]:=e1
 have g:=(SE h).1.fit
 have gh:=g.here
 rw [(M7 w f).1] at gh
 have hme:=Wj (w:=w) hf hf.1 hf.2
 rw [if_pos rfl] at hme
 have hfoe:((Ge w f).w.AF.at f).A2=0:=by rw [hme]
 unfold FV
 split
 ·rename_i c2
  have c2':=of_decide_eq_true c2
  rw [(DD _ _ _).2.1,(DD _ _ _).2.2,(M7 w f).2,hout]
  generalize (Ge w f).w=D at *
  refine⟨Wk (w1:=D) hf ho (fun c c0 _ hn=>AD.H4 hf.1 hf.2 c0 hn _) ?_ ?_,x,[],rfl,k1,k2,fun e he=>by cases he⟩
  ·show((D.Bb f default).AF.at f).here=_
   rw [AD.Dw hf.1 hf.2,decide_eq_false (by omega)];rfl
  ·show((D.Bb f default).AF.at f).A2=_
   rw [AD.Dw hf.1 hf.2];rfl
 ·rename_i c2
  have c2':¬ f < 2:=fun e=>c2 (decide_eq_true e)
  have hl:=NN ((JV w f).kind 17)
  have e2:=Vd w f
  obtain⟨y,e3,k3,_⟩:=H0 (JV w f) (Dn 17)
  obtain⟨q,e4,k4⟩:=(Ny.refl ((JV w f).kind 17)).look
  have e3':((JV w f).kind 17).out = [x] ++ [y]:=by rw [show((JV w f).kind 17).out=_ from e3,e2.2.1,hout]
  rw [hl.1,e4,e3',show((JV w f).kind 17).w=(JV w f).w from rfl,e2.2.2]
  generalize (Ge w f).w=D at *
  refine⟨Wk (w1:=D) hf ho (fun c c0 _ hn=>AD.H4 hf.1 hf.2 c0 hn _) ?_ ?_,x,y :: q,rfl,k1,k2,fun e he=>?_⟩
  ·rw [AD.Dw hf.1 hf.2,decide_eq_true (by omega)];exact gh
  ·rw [AD.Dw hf.1 hf.2];exact hfoe
  ·rcases List.mem_cons.1 he with he | he
   ·rw [he,k3];exact⟨by decide,by decide⟩
   ·rw [k4 e he];exact⟨by decide,by decide⟩
/-! #### the count of a round -/
def jn (e:Event):Prop:=(e.kind=14→1≤e.n∧e.n≤3∧0≤e.other∧e.other < 6)∧(e.kind=15→0≤e.Al∧e.Al < 6)
structure VJ (X:AD)(s:AD × List Event):Prop where
 ev:∀ e∈s.2,jn e
 un:∀ c,0≤c→c < 6→(FM s.2).at c=false→(s.1.AF.at c).AW=(X.AF.at c).AW - (Dq s.2).at c∧(s.1.AF.at c).room=(X.AF.at c).room∧(s.1.AF.at c).here=(X.AF.at c).here
 di:∀ c,0≤c→c < 6→(FM s.2).at c=true→(X.AF.at c).AW≤(Dq s.2).at c∧(s.1.AF.at c).here=decide (2≤c)∧(s.1.AF.at c).A2=0∧∀ a,0≤a→a < 6→(s.1.AF.at a).A2≠c+1
theorem aR {α:Type}[Inhabited α](c:Int)(c0:0≤c)(c6:c < 6):(Vector.replicate 6 (default:α)).at c=default:=by
 have:c=0∨c=1∨c=2∨c=3∨c=4∨c=5:=by omega
 rcases this with rfl | rfl | rfl | rfl | rfl | rfl<;>rfl
theorem VJ.start (X:AD):VJ X (X,[]):=by
 have hh:∀ c,0≤c→c < 6→(Dq []).at c=0:=fun c c0 c6=>aR c c0 c6
 have hd:∀ c,0≤c→c < 6→(FM []).at c=false:=fun c c0 c6=>aR c c0 c6
 refine⟨fun _ h=>(by cases h),fun c c0 c6 _=>⟨?_,rfl,rfl⟩,fun c c0 c6 h=>?_⟩
 ·show(X.AF.at c).AW=(X.AF.at c).AW - (Dq []).at c
  rw [hh c c0 c6];omega
 ·have h':(FM []).at c=true:=h
  rw [hd c c0 c6] at h';cases h'
theorem VJ.next {X:AD}{s:AD × List Event}{draw b:Int}(h:VJ X s)(hg:s.1.A5=true)(hw:s.1.Cs)(h0:0≤b)(h6:b < 6):VJ X (DW draw b s):=by
 have kb:=GN hg h0 h6
 have hn:=MQ (draw:=draw) h0
 unfold DW
 split
 ·exact h
 ·rename_i h1
  simp only [Bool.or_eq_true,Bool.not_eq_true',decide_eq_true_eq,not_or,Bool.not_eq_false] at h1
  have kf:=kb.A2
  split
  ·have hb:∀ c,0≤c→((s.1.Bb b { s.1.AF.at b with A2:=0 }).AF.at c).AW=(s.1.AF.at c).AW∧((s.1.Bb b { s.1.AF.at b with A2:=0 }).AF.at c).room=(s.1.AF.at c).room∧((s.1.Bb b { s.1.AF.at b with A2:=0 }).AF.at c).here=(s.1.AF.at c).here∧(((s.1.Bb b { s.1.AF.at b with A2:=0 }).AF.at c).A2=(s.1.AF.at c).A2∨((s.1.Bb b { s.1.AF.at b with A2:=0 }).AF.at c).A2=0):=fun c c0=>by
    by_cases e:c=b
    ·subst e;rw [AD.Dw h0 h6];exact⟨rfl,rfl,rfl, .inr rfl⟩
    ·rw [AD.H4 h0 h6 c0 e];exact⟨rfl,rfl,rfl, .inl rfl⟩
   refine⟨h.ev,fun c c0 c6 hd=>?_,fun c c0 c6 hd=>?_⟩
   ·obtain⟨q1,q2,q3⟩:=h.un c c0 c6 hd
    obtain⟨r1,r2,r3,_⟩:=hb c c0
    exact⟨r1.trans q1,r2.trans q2,r3.trans q3⟩
   ·obtain⟨q1,q2,q3,q4⟩:=h.di c c0 c6 hd
    obtain⟨_,_,r3,r4⟩:=hb c c0
    refine⟨q1,r3.trans q2,?_,fun a a0 a6=>?_⟩
    ·rcases r4 with r4 | r4
     ·exact r4.trans q3
     ·exact r4
    ·have:=q4 a a0 a6
     rcases (hb a a0).2.2.2 with r | r
     ·rw [r];exact this
     ·rw [r];omega
  ·rename_i h2
   simp only [Bool.or_eq_true,Bool.not_eq_true',decide_eq_false_iff_not,not_or,Bool.not_eq_false,Decidable.not_not] at h2
   generalize hfo:(s.1.AF.at b).A2 - 1=f at *
   generalize hit draw b=n at *
   have f0:0≤f:=by omega
   have f6:f < 6:=by omega
   have hf:=Jk (b:=b) (n:=n) hg hw (A2:=f) f0 f6 h2.1
   have kf2:=(GN hg f0 f6).AW
   obtain⟨x,ex,k1,k2,k3,k4⟩:=H0 ⟨s.1,b,[]⟩ { Dn 14 with other:=f,n:=n }
   have hso:(Aq s.1 b f n).out = [x]:=ex
   have hsw:(Aq s.1 b f n).w=s.1.Bb f { s.1.AF.at f with AW:=max 0 ((s.1.AF.at f).AW - n) }:=rfl
   have k1':x.kind=14:=k1
   have k3':x.other=f:=k3
   have k4':x.n=n:=k4
   have hH:Dq (s.2 ++ [x])=(Dq s.2).put f ((Dq s.2).at f+n):=by rw [PZ,RB,if_pos (decide_eq_true k1'),k3',k4']
   have hD:FM (s.2 ++ [x])=FM s.2:=by rw [O9,Qz,if_neg (by rw [k1'];decide)]
   have hnd:(FM s.2).at f=false:=by
    cases hh:(FM s.2).at f with
    | false=>rfl
    | true=>exact absurd (by omega:(s.1.AF.at b).A2=f+1) ((h.di f f0 f6 hh).2.2.2 b h0 h6)
   have hfe:=h.un f f0 f6 hnd
   have hxe:jn x:=⟨fun _=>by rw [k3',k4'];omega,fun e=>by rw [k1'] at e;cases e⟩
   have hev:∀ e∈s.2 ++ [x],jn e:=fun e he=>by
    rcases List.mem_append.1 he with he | he
    ·exact h.ev e he
    ·have:e=x:=by simpa using he
     rw [this];exact hxe
   have hwc:∀ c,0≤c→c≠f→(Aq s.1 b f n).w.AF.at c=s.1.AF.at c:=fun c c0 hne=>by rw [hsw];exact AD.H4 f0 f6 c0 hne _
   have hwf:(Aq s.1 b f n).w.AF.at f={ s.1.AF.at f with AW:=max 0 ((s.1.AF.at f).AW - n) }:=by rw [hsw];exact AD.Dw f0 f6 _
   have hwa:∀ a,0≤a→((Aq s.1 b f n).w.AF.at a).A2=(s.1.AF.at a).A2:=fun a a0=>by
    by_cases e:a=f
    ·rw [e,hwf]
    ·rw [hwc a a0 e]
   have hHc:∀ c,0≤c→c≠f→((Dq s.2).put f ((Dq s.2).at f+n)).at c=(Dq s.2).at c:=fun c c0 hne=>Vector.EK f0 f6 c0 hne
   have hHf:((Dq s.2).put f ((Dq s.2).at f+n)).at f=(Dq s.2).at f+n:=Vector.Bi f0 f6
   split
   ·rename_i h3
    have h3':=of_decide_eq_true h3
    rw [hwf] at h3'
    have h3'':max 0 ((s.1.AF.at f).AW - n)=0:=h3'
    obtain⟨dd,y,q,e2,y1,y2,y3⟩:=XY hf
    rw [e2,hso]
    generalize (FV (Aq s.1 b f n).w f).w=W at *
    have hA:Dq (s.2 ++ [x]++y :: q)=(Dq s.2).put f ((Dq s.2).at f+n)∧FM (s.2 ++ [x]++y :: q)=(FM s.2).put f true:=by
     have hq:=UB (l:=s.2 ++ [x] ++ [y]) y3
     rw [show s.2 ++ [x]++y :: q=s.2 ++ [x] ++ [y]++q by simp,hq.1,hq.2,PZ,O9,hH,hD,RB,if_neg (by rw [y1];decide),Qz,if_pos (decide_eq_true y1),y2]
     exact⟨rfl,rfl⟩
    refine⟨fun e he=>?_,fun c c0 c6 hd=>?_,fun c c0 c6 hd=>?_⟩
    ·rcases List.mem_append.1 he with he | he
     ·exact hev e he
     ·rcases List.mem_cons.1 he with he | he
      ·rw [he];exact⟨fun e=>absurd (y1.symm.trans e) (by decide),fun _=>by rw [y2];exact⟨f0,f6⟩⟩
      ·exact⟨fun e'=>absurd e' (y3 e he).1,fun e'=>absurd e' (y3 e he).2⟩
    ·have hd':((FM s.2).put f true).at c=false:=by rw [← hA.2];exact hd
     have hne:c≠f:=fun e=>by
      rw [e,Vector.Bi f0 f6] at hd';cases hd'
     rw [Vector.EK f0 f6 c0 hne] at hd'
     obtain⟨q1,q2,q3⟩:=h.un c c0 c6 hd'
     obtain⟨r1,r2,r3,_⟩:=dd.jO c c0 c6 hne
     rw [hwc c c0 hne] at r1 r2 r3
     show(W.AF.at c).AW=(X.AF.at c).AW - (Dq (s.2 ++ [x]++y :: q)).at c∧_
     rw [hA.1,hHc c c0 hne]
     exact⟨r1.trans q1,r2.trans q2,r3.trans q3⟩
    ·have hd':((FM s.2).put f true).at c=true:=by rw [← hA.2];exact hd
     show(X.AF.at c).AW≤(Dq (s.2 ++ [x]++y :: q)).at c∧_
     rw [hA.1]
     by_cases hne:c=f
     ·subst hne
      rw [hHf]
      refine⟨by omega,dd.here,dd.A2,fun a a0 a6=>?_⟩
      by_cases ea:a=c
      ·rw [ea,dd.A2];omega
      ·exact(dd.jO a a0 a6 ea).2.2.2.2
     ·rw [Vector.EK f0 f6 c0 hne] at hd'
      rw [hHc c c0 hne]
      obtain⟨q1,q2,q3,q4⟩:=h.di c c0 c6 hd'
      obtain⟨_,_,r3,r4,_⟩:=dd.jO c c0 c6 hne
      rw [hwc c c0 hne] at r3 r4
      refine⟨q1,r3.trans q2,?_,fun a a0 a6=>?_⟩
      ·rcases r4 with r4 | r4
       ·exact r4.trans q3
       ·exact r4
      ·by_cases ea:a=f
       ·rw [ea,dd.A2];omega
       ·have:=q4 a a0 a6
        have r:=(dd.jO a a0 a6 ea).2.2.2.1
        rw [hwc a a0 ea] at r
        rcases r with r | r
        ·rw [r];exact this
        ·rw [r];omega
   ·rename_i h3
    have h3':¬ ((Aq s.1 b f n).w.AF.at f).AW=0:=fun e=>h3 (decide_eq_true e)
    rw [hwf] at h3'
    have h3'':¬ max 0 ((s.1.AF.at f).AW - n)=0:=h3'
    rw [hso]
    refine⟨hev,fun c c0 c6 hd=>?_,fun c c0 c6 hd=>?_⟩
    ·have hd':(FM s.2).at c=false:=by rw [← hD];exact hd
     show((Aq s.1 b f n).w.AF.at c).AW=(X.AF.at c).AW - (Dq (s.2 ++ [x])).at c∧_
     rw [hH]
     by_cases hne:c=f
     ·subst hne
      rw [hHf,hwf]
      refine⟨?_,hfe.2.1,hfe.2.2⟩
      show max 0 ((s.1.AF.at c).AW - n)=_
      have:=hfe.1
      omega
     ·rw [hHc c c0 hne,hwc c c0 hne]
      exact h.un c c0 c6 hd'
    ·have hd':(FM s.2).at c=true:=by rw [← hD];exact hd
     have hne:c≠f:=fun e=>by rw [e,hnd] at hd';cases hd'
     show(X.AF.at c).AW≤(Dq (s.2 ++ [x])).at c∧_
     rw [hH,hHc c c0 hne]
     obtain⟨q1,q2,q3,q4⟩:=h.di c c0 c6 hd'
     refine⟨q1,by rw [hwc c c0 hne];exact q2,by rw [hwc c c0 hne];exact q3,fun a a0 a6=>by rw [hwa a a0];exact q4 a a0 a6⟩
theorem RR {X:AD}{draw:Int}(hg:X.A5=true)(hw:X.Cs):∀ k:Nat,k≤6→VJ X (DG X draw k)∧(DG X draw k).1.A5=true∧(DG X draw k).1.Cs∧(DG X draw k).2.length≤13 * k
 | 0,_=>⟨.start X,hg,hw,Nat.le_refl _⟩
 | k+1,hk=>by
  obtain⟨h1,h2,h3,h4⟩:=RR hg hw k (by omega)
  obtain⟨g1,g2,g3⟩:=C6 (draw:=draw) (b:=(k:Int)) h2 h3 (by omega) (by omega)
  exact⟨h1.next h2 h3 (by omega) (by omega),g1,g2,by show(DW draw k (DG X draw k)).2.length≤_;omega⟩
theorem aS {X:AD}{draw:Int}(hw:X.Cs)(h:(BX X draw).2.2=0):VJ X ((BX X draw).1,(BX X draw).2.1)∧(BX X draw).1.A5=true∧(BX X draw).2.1.length≤78:=by
 unfold BX at h ⊢
 split at h
 ·cases h
 ·rename_i h1
  rw [if_neg h1]
  obtain⟨q1,q2,_,q4⟩:=RR (draw:=draw) (by simpa using h1) hw 6 (Nat.le_refl _)
  generalize DG X draw 6=S at *
  exact⟨q1,q2,Nat.le_trans q4 (by decide)⟩
end AA
end Go.Ing
/- The document's side of what beings do: plain functions and laws. -/
namespace Go.Ing
open Go
namespace AA
theorem NK (w:AD)(a:AL):∀(l:List Int) (s:AL),CX w (a++s) l=a++CX w s l
 | [],s=>rfl
 | i :: r,s=>by
  rw [CX,CX]
  split
  ·rw [← NK w a r];simp
  ·rw [← NK w a r];simp
theorem K0 (w:AD):∀(l:List Int) (s:AL),s.length≤(CX w s l).length
 | [],s=>Nat.le_refl _
 | i :: r,s=>by
  rw [CX]
  split
  ·refine Nat.le_trans ?_ (K0 w r _);simp
  ·refine Nat.le_trans ?_ (K0 w r _);simp
def G4 (w:AD)(l:List Int):AL:=if decide (CX w [] l = [])=true then [32,110,111,116,104,105,110,103,46] else CX w [] l ++ [46]
theorem Lw (T:AA)(s:AL)(l:List Int):T.tell (s++G4 T.w l)=T.list s l:=by
 have hs:CX T.w s l=s++CX T.w [] l:=by have:=NK T.w s l [];rwa [List.append_nil] at this
 unfold list RH G4
 cases l with
 | nil=>
  rw [if_pos (by simp [CX]),if_pos (by simp [CX])]
  rw [hs]
  simp [CX]
 | cons i r=>
  have hne:CX T.w [] (i :: r)≠ []:=by
   intro e
   have h2:1≤(CX T.w [] (i :: r)).length:=by
    rw [CX]
    split
    ·refine Nat.le_trans ?_ (K0 T.w r _);simp
    ·refine Nat.le_trans ?_ (K0 T.w r _);simp
   rw [e] at h2;simp at h2
  rw [if_neg (by simpa using hne),if_neg (by simp;omega),hs,List.append_assoc]
theorem RG {w:AD}(hw:w.Cs):∀(l:List Int) (s:AL),(CX w s l).length≤s.length+l.length * 140737488351234
 | [],s=>by simp [CX]
 | i :: r,s=>by
  have hn:=hw.th i
  rw [CX]
  have ih:=RG hw r
  split
  ·refine Nat.le_trans (ih _) ?_
   simp only [List.length_append,List.length_cons,List.length_nil];omega
  ·refine Nat.le_trans (ih _) ?_
   simp only [List.length_append,List.length_cons,List.length_nil];omega
theorem Lv {w:AD}(hw:w.Cs){l:List Int}(hl:l.length≤9):(G4 w l).length≤1266637395161115:=by
 have h:=RG hw l []
 unfold G4
 split
 ·simp
 ·simp only [List.length_append,List.length_cons,List.length_nil] at h ⊢;omega
theorem Uh {T:AA}(h:(!T.w.ED T.me.room)=false):T.seen=T.w.has 0 T.me.room:=if_neg (by rw [h];decide)
theorem iN (T:AA){k o d n:Int}{x u:AL}(h:decide (0≤o)=true):T.Am { Dn k with other:=o,dir:=d,n:=n,AQ:=x,text:=u }={ T with out:=T.out ++ [T.w.GZ ⟨k,(T.w.AF.at T.b).room,T.b,o,d,n,(T.w.AF.at T.b).name,(T.w.AF.at o).name,x,u,default⟩ 6] }:=by
 unfold Am DT
 rw [if_pos h];rfl
theorem iM (T:AA){k o d n:Int}{x u:AL}(h:decide (0≤o)=false):T.Am { Dn k with other:=o,dir:=d,n:=n,AQ:=x,text:=u }={ T with out:=T.out ++ [T.w.GZ ⟨k,(T.w.AF.at T.b).room,T.b,o,d,n,(T.w.AF.at T.b).name,[],x,u,default⟩ 6] }:=by
 unfold Am DT
 rw [if_neg (by rw [h];decide)];rfl
/-! #### names of players -/
def low (c:UInt8):Bool:=decide ((c.toNat:Int) < 97) || decide (122 < (c.toNat:Int))
def G3 (s:AL)(k:Nat):Bool:=(s.drop k).all fun c=>!low c
theorem RJ {s:AL}{k:Int}(h0:0≤k)(h1:k < s.length):G3 s k.toNat=(!low (s.getD k.toNat 0) && G3 s (k+1).toNat):=by
 have hk:k.toNat < s.length:=by omega
 unfold G3
 rw [List.drop_eq_getElem_cons hk,show(k+1).toNat=k.toNat+1 by omega,List.getD_eq_getElem?_getD,List.getElem?_eq_getElem hk]
 rfl
theorem UO (s:AL):G3 s (s.length:Int).toNat=true:=by
 unfold G3
 rw [show(s.length:Int).toNat=s.length by omega,List.drop_length];rfl
def Ur:AL:= [115,111,109,101,111,110,101]
def jH:AL:= [121,111,117]
def GO (s:AL):Bool:=G3 s 0 && (decide (1≤(s.length:Int)) && decide ((s.length:Int)≤8) && !decide (s=Ur) && !decide (s=jH))
def MT (s:AL):Bool:=if (decide (s=Ur) || decide (s=jH) || decide (s = []) || decide (8 < (s.length:Int)))=true then false else G3 s 0
theorem Lu (s:AL):MT s=GO s:=by
 unfold MT GO
 split
 ·rename_i h
  simp only [Bool.or_eq_true,decide_eq_true_eq] at h
  rcases h with ((h | h) | h) | h
  ·simp [h]
  ·simp [h]
  ·simp [h]
  ·rw [decide_eq_false (by omega:¬ (s.length:Int)≤8)];simp
 ·rename_i h
  simp only [Bool.or_eq_true,decide_eq_true_eq,not_or] at h
  obtain⟨⟨⟨h1,h2⟩,h3⟩,h4⟩:=h
  have h5:1≤(s.length:Int):=by
   cases s with
   | nil=>exact absurd rfl h3
   | cons c r=>simp;omega
  rw [decide_eq_true h5,decide_eq_true (by omega:(s.length:Int)≤8),decide_eq_false h1,decide_eq_false h2]
  simp
/-! #### who enters -/
def IM (X:AD)(s:AL)(k:Int):Bool:=(X.AF.at k).here && decide ((X.AF.at k).name=s)
def Ci (X:AD):Nat→Int
 | 0=>-1
 | n+1=>if (!(X.AF.at ((5 - n:Nat):Int)).here && decide (2≤((5 - n:Nat):Int)))=true then((5 - n:Nat):Int) else Ci X n
theorem JY {X:AD}{k:Int}(h0:0≤k)(h5:k≤5):Ci X (5 - (k - 1)).toNat=if (!(X.AF.at k).here && decide (2≤k))=true then k else Ci X (5 - k).toNat:=by
 have e:(5 - (k - 1)).toNat=(5 - k).toNat+1:=by omega
 rw [e,Ci,show((5 - (5 - k).toNat:Nat):Int)=k by omega]
theorem Zr {X:AD}{k:Int}(h2:2≤k)(h5:k≤5)(h:(!(X.AF.at k).here)=false):Ci X (5 - (k - 1)).toNat=Ci X (5 - k).toNat:=by
 rw [JY (by omega) h5,h];rfl
theorem Xi {X:AD}{k:Int}(h2:2≤k)(h5:k≤5)(h:(!(X.AF.at k).here)=true):Ci X (5 - (k - 1)).toNat=k:=by
 rw [JY (by omega) h5,h,decide_eq_true h2];rfl
theorem Xj (X:AD):Ci X 6=Ci X 4:=by
 have h1:Ci X 6=Ci X 5:=by
  rw [Ci,if_neg (by simp)]
 have h2:Ci X 5=Ci X 4:=by
  rw [Ci,if_neg (by simp)]
 rw [h1,h2]
theorem NC (X:AD):∀ n:Nat,n≤6→Ci X n=-1∨(2≤Ci X n∧Ci X n≤5)
 | 0,_=> .inl rfl
 | n+1,h=>by
  unfold Ci
  split
  ·rename_i c
   rw [Bool.and_eq_true] at c
   have:=of_decide_eq_true c.2
   exact .inr ⟨this,by omega⟩
  ·exact NC X n (by omega)
def KQ (s:AL):A6:={ (default:A6) with name:=s,here:=true,AW:=10 }
def Zl (X:AD)(s:AL)(b:Int):AA:=((⟨X.Bb b (KQ s),b,[]⟩:AA).kind 17).look
def Ao (X:AD)(s:AL):AD × Int × List Event × Int:=
 if (!X.A5)=true then(X,0,[],2)
 else if (!GO s)=true then(X,0,[],1)
 else if (!A4 6 (fun k=>!IM X s k) 6)=true then(X,0,[],1)
 else if decide (Ci X 6 < 0)=true then(X,0,[],4)
 else((Zl X s (Ci X 6)).w,Ci X 6,(Zl X s (Ci X 6)).out,0)
theorem M9 (X:AD)(s:AL):(Ao X s).2.2.1.length≤10:=by
 unfold Ao
 split
 ·exact Nat.zero_le _
 ·split
  ·exact Nat.zero_le _
  ·split
   ·exact Nat.zero_le _
   ·split
    ·exact Nat.zero_le _
    ·exact(NN _).2.2
theorem Q3 {X:AD}{s:AL}{b:Int}(hg:X.A5=true)(hw:X.Cs)(hs:s.length≤140737488351232)(h0:0≤b)(h6:b < 6):Fit ⟨X.Bb b (KQ s),b,[]⟩:=
 ⟨⟨h0,h6⟩,ET hw hs,KK hg h0 h6 ⟨⟨Int.le_refl _,show(0:Int) < 6 by decide⟩,⟨show(0:Int)≤10 by decide,show(10:Int)≤10 by decide⟩,⟨Int.le_refl _,show(0:Int)≤6 by decide⟩,fun _=>rfl,rfl⟩ fun _=>rfl,by
  show((X.Bb b (KQ s)).AF.at b).here=true
  rw [AD.Dw h0 h6];rfl⟩
end AA
end Go.Ing
/- A round, as the document says it: plain laws. -/
namespace Go.Ing
open Go
theorem Ob {α:Type}[Inhabited α]{n:Nat}{v u:Vector α n}(h:∀ i:Int,0≤i→i < n→v.at i=u.at i):v=u:=by
 apply Vector.ext
 intro i hi
 have:=h (i:Int) (by omega) (by omega)
 unfold Vector.at at this
 rw [List.getD_eq_getElem?_getD,List.getD_eq_getElem?_getD] at this
 simpa [hi] using this
namespace AA
def C1 (T:AA):Nat→AA
 | 0=>T
 | k+1=>if (decide (((C1 T k).w.AH.at (k:Int)).BZ=1) && decide (((C1 T k).w.AH.at (k:Int)).at_=(C1 T k).b))=true then(C1 T k).C0 k else C1 T k
theorem KN {T:AA}{k:Int}(h:0≤k):C1 T (k+1).toNat=if (decide (((C1 T k.toNat).w.AH.at k).BZ=1) && decide (((C1 T k.toNat).w.AH.at k).at_=(C1 T k.toNat).b))=true then(C1 T k.toNat).C0 k else C1 T k.toNat:=by
 obtain⟨m,rfl⟩:=Int.eq_ofNat_of_zero_le h
 rfl
theorem MM:∀(l:List Int) (T:AA) (i:Int),T.BP (l ++ [i])=(T.BP l).C0 i
 | [],_,_=>rfl
 | j :: r,T,i=>by rw [List.cons_append,BP,MM r,BP]
theorem SP {X:AD}{a c:Int}{n:Nat}{i:Int}(h:i∈X.Lj a c n):0≤i∧i < n:=by
 unfold AD.Lj at h
 obtain⟨m,hm,rfl⟩:=List.mem_map.1 (List.mem_filter.1 h).1
 have:=List.mem_range.1 hm
 exact⟨by simp,by show((m:Nat):Int) < n;omega⟩
theorem Nd:∀ {l:List Int} {T:AA} {j:Int},(∀ i∈l,0≤i∧i < 9)→0≤j→j ∉ l→(T.BP l).w.AH.at j=T.w.AH.at j
 | [],_,_,_,_,_=>rfl
 | i :: r,T,j,hm,j0,hn=>by
  have hi:=hm i (List.mem_cons_self ..)
  rw [BP,Nd (fun x hx=>hm x (List.mem_cons_of_mem _ hx)) j0 (fun hx=>hn (List.mem_cons_of_mem _ hx)),HU hi.1 hi.2 j0,if_neg (fun e=>hn (by rw [e];exact List.mem_cons_self ..))]
theorem Kz (T:AA):∀ k:Nat,k≤9→C1 T k=T.BP (T.w.Lj 1 T.b k)
 | 0,_=>rfl
 | k+1,hk=>by
  have ih:=Kz T k (by omega)
  have ht:(C1 T k).w.AH.at (k:Int)=T.w.AH.at (k:Int):=by
   rw [ih]
   exact Nd (fun i hi=>by have:=SP hi;omega) (by omega) (fun hi=>by have:=SP hi;omega)
  have hb:(C1 T k).b=T.b:=by rw [ih];exact(Dg _ _).1
  unfold C1
  rw [ht,hb]
  have e1:((k:Int)+1).toNat=k+1:=by omega
  have e2:((k:Int)).toNat=k:=by omega
  by_cases c:(decide ((T.w.AH.at (k:Int)).BZ=1) && decide ((T.w.AH.at (k:Int)).at_=T.b))=true
  ·have:=AD.Vn (X:=T.w) (k:=(k:Int)) (by omega) c
   rw [e1,e2] at this
   rw [if_pos c,this,MM,ih]
  ·have:=AD.Vm (X:=T.w) (k:=(k:Int)) (by omega) (Bool.eq_false_iff.2 c)
   rw [e1,e2] at this
   rw [if_neg c,this,ih]
theorem OJ (T:AA):∀ k:Nat,(T.CR k).w.Ad=T.w.Ad∧(T.CR k).w.AH=T.w.AH
 | 0=>⟨rfl,rfl⟩
 | k+1=>by
  unfold CR
  split
  ·exact OJ T k
  ·exact OJ T k
theorem bN {A B:AA}(h1:A.w.Ad=B.w.Ad)(h2:A.w.AH=B.w.AH)(h3:A.w.AF=B.w.AF)(h4:A.b=B.b)(h5:A.out=B.out):A=B:=by
 cases A with
 | mk w b o=>
  cases B with
  | mk w' b' o'=>
   cases w;cases w'
   simp only at h1 h2 h3 h4 h5
   subst h1;subst h2;subst h3;subst h4;subst h5
   rfl
theorem Vu (T:AA)(hb:0≤T.b∧T.b < 6):((C1 T 9).BW (C1 T 9).b 0).CR 6=T.EF:=by
 have e:C1 T 9=T.BP T.own:=Kz T 9 (Nat.le_refl _)
 have eb:(T.BP T.own).b=T.b:=(Dg _ _).1
 rw [e,JX,eb]
 generalize T.BP T.own=D at *
 rw [← eb] at hb ⊢
 have c1:=OJ (D.BW D.b 0) 6
 have c2:=OJ D 6
 have b1:=MH (D.BW D.b 0) 6
 have b2:=MH D 6
 have k1:=MI (D.BW D.b 0) hb.1 6 (Nat.le_refl _)
 have k2:=MI D hb.1 6 (Nat.le_refl _)
 have hs:∀ c,0≤c→(D.BW D.b 0).w.AF.at c=if c=D.b then { D.w.AF.at D.b with A2:=0 } else D.w.AF.at c:=fun c c0=>IW _ _ _ _ hb.1 hb.2 c0
 generalize D.CR 6=C at *
 generalize (D.BW D.b 0).CR 6=C' at *
 have hs2:∀ c,0≤c→((C).BW D.b 0).w.AF.at c=if c=D.b then { C.w.AF.at D.b with A2:=0 } else C.w.AF.at c:=fun c c0=>IW _ _ _ _ hb.1 hb.2 c0
 refine bN (c1.1.trans (c2.1.symm)) (c1.2.trans (c2.2.symm)) (Ob fun c c0 c6=>?_) (b1.1.trans b2.1.symm) (b1.2.trans b2.2.symm)
 have q1:=k1 c c0 (by omega)
 have q2:=k2 c c0 (by omega)
 have q3:=k2 D.b hb.1 hb.2
 rw [if_pos (by omega)] at q1 q2 q3
 rw [hs2 c c0,q1,hs c c0]
 by_cases e2:c=D.b
 ·rw [if_pos e2,if_pos e2,q3]
  unfold calm
  by_cases e3:(0:Int)=D.b+1
  ·simp [← e3]
  ·show({ D.w.AF.at D.b with A2:=if (0:Int)=D.b+1 then 0 else 0 }:A6)=_
   rw [if_neg e3]
 ·rw [if_neg e2,if_neg e2,q2];rfl
theorem Q1:∀(l:List Int) (A B:AA),A.w=B.w→A.b=B.b→(A.BP l).w=(B.BP l).w
 | [],_,_,h,_=>h
 | i :: r,A,B,h,hb=>Q1 r _ _ (by unfold C0 Co me;rw [h,hb]) hb
theorem Tf {A B:AA}(h:A.w=B.w)(hb:A.b=B.b):∀ k:Nat,(A.CR k).w=(B.CR k).w
 | 0=>h
 | k+1=>by
  have ih:=Tf h hb k
  unfold CR
  rw [ih,hb]
  split
  ·show({ (A.CR k).w with AF:=_ }:AD)=_
   rw [ih];rfl
  ·exact ih
theorem fS {A B:AA}(h:A.w=B.w)(hb:A.b=B.b):A.EF.w=B.EF.w:=by
 have e:A.own=B.own:=by unfold own;rw [h,hb]
 have h1:=Q1 A.own A B h hb
 have b1:(A.BP A.own).b=(B.BP A.own).b:=(Dg _ _).1.trans (hb.trans (Dg _ _).1.symm)
 have h2:=Tf h1 b1 6
 rw [JX,JX,← e,← hb]
 show({ ((A.BP A.own).CR 6).w with AF:=_ }:AD)=_
 rw [h2];rfl
def pre (o:List Event)(T:AA):AA:=⟨T.w,T.b,o++T.out⟩
theorem Nk (o:List Event)(T:AA)(e:Event):(pre o T).Am e=pre o (T.Am e):=by
 show(⟨T.w,T.b,(o++T.out) ++ [_]⟩:AA)=⟨T.w,T.b,o++(T.out ++ [_])⟩
 rw [List.append_assoc];rfl
theorem Kd (o:List Event)(T:AA)(s:AL):(pre o T).tell s=pre o (T.tell s):=Nk o T _
theorem RA (o:List Event)(T:AA):∀ k:Nat,(pre o T).D5 k=pre o (T.D5 k)
 | 0=>rfl
 | k+1=>by
  unfold D5
  rw [show(pre o T).b=T.b from rfl,show(pre o T).w=T.w from rfl,RA o T k]
  split
  ·exact Kd o _ _
  ·rfl
theorem aA (o:List Event)(T:AA):(pre o T).look=pre o T.look:=by
 have ha:(pre o T).D6=pre o T.D6:=by
  unfold D6
  rw [show(pre o T).w=T.w from rfl,show(pre o T).me=T.me from rfl,Kd,Kd]
 have hb:(pre o T).BU=pre o T.BU:=by
  unfold BU
  rw [show(pre o T).w=T.w from rfl,show(pre o T).me=T.me from rfl,ha]
  split
  ·exact Kd o _ _
  ·rfl
 unfold look
 rw [show(pre o T).w=T.w from rfl,show(pre o T).me=T.me from rfl,hb,Kd,RA]
 split<;>rfl
theorem Vq {d k:Int}(h0:0≤k)(h6:k < 6):([1,2,3]:List Int).getD ((((d.tmod 3+3).tmod 3+k).tmod 3).toNat) 0=hit d k∧0≤((d.tmod 3+3).tmod 3+k).tmod 3∧((d.tmod 3+3).tmod 3+k).tmod 3 < 3:=by
 have hm:=Cq d
 unfold hit
 generalize d.tmod 3=m at *
 have e1:(m+3).tmod 3=(m+3) % 3:=Int.tmod_eq_emod_of_nonneg (by omega)
 rw [e1]
 have e2:((m+3) % 3+k).tmod 3=((m+3) % 3+k) % 3:=Int.tmod_eq_emod_of_nonneg (by omega)
 have e3:(m+3+k).tmod 3=(m+3+k) % 3:=Int.tmod_eq_emod_of_nonneg (by omega)
 rw [e2,e3]
 have e4:((m+3) % 3+k) % 3=(m+3+k) % 3:=by omega
 rw [e4]
 have hr:(m+3+k) % 3=0∨(m+3+k) % 3=1∨(m+3+k) % 3=2:=by omega
 rcases hr with e | e | e<;>rw [e]<;>exact⟨rfl,by decide,by decide⟩
theorem Vt {T:AA}(h:T.Fit)(k:Nat)(hk:k≤9):Ew T (C1 T k):=by
 rw [Kz T k hk]
 refine(HH h fun i hi=>?_).1
 have h1:=SP hi
 unfold AD.Lj at hi
 have h2:=(List.mem_filter.1 hi).2
 rw [Bool.and_eq_true] at h2
 exact⟨h1.1,by omega,fun _=>of_decide_eq_true h2.2⟩
theorem OO (T:AA){i:Int}(h0:0≤i)(h9:i < 9)(c:decide ((((T.w.AH.put i { T.w.AH.at i with BZ:=0 }).put i { (T.w.AH.put i { T.w.AH.at i with BZ:=0 }).at i with at_:=(T.w.AF.at T.b).room }).at i).kind=2)=true):({ T.w with AH:=((T.w.AH.put i { T.w.AH.at i with BZ:=0 }).put i { (T.w.AH.put i { T.w.AH.at i with BZ:=0 }).at i with at_:=(T.w.AF.at T.b).room }).put i { ((T.w.AH.put i { T.w.AH.at i with BZ:=0 }).put i { (T.w.AH.put i { T.w.AH.at i with BZ:=0 }).at i with at_:=(T.w.AF.at T.b).room }).at i with on:=false } }:AD)=(T.C0 i).w:=by
 rw [Vector.Bi h0 h9,Vector.Bi h0 h9] at c
 rw [Vector.Bi h0 h9,Vector.EY,Vector.Bi h0 h9,Vector.EY]
 unfold C0
 rw [if_pos (show decide ((T.w.AH.at i).kind=2)=true from c)];rfl
theorem Sc (T:AA){i:Int}(h0:0≤i)(h9:i < 9)(c:decide ((((T.w.AH.put i { T.w.AH.at i with BZ:=0 }).put i { (T.w.AH.put i { T.w.AH.at i with BZ:=0 }).at i with at_:=(T.w.AF.at T.b).room }).at i).kind=2)=false):({ T.w with AH:=(T.w.AH.put i { T.w.AH.at i with BZ:=0 }).put i { (T.w.AH.put i { T.w.AH.at i with BZ:=0 }).at i with at_:=(T.w.AF.at T.b).room } }:AD)=(T.C0 i).w:=by
 rw [Vector.Bi h0 h9,Vector.Bi h0 h9] at c
 rw [Vector.Bi h0 h9,Vector.EY]
 unfold C0
 rw [if_neg (show ¬ decide ((T.w.AH.at i).kind=2)=true from by rw [show decide ((T.w.AH.at i).kind=2)=false from c];decide)];rfl
theorem Z0 (T:AA)(k:Nat)(h:k≤9):(C1 T k).b=T.b∧(C1 T k).out=T.out∧(C1 T k).w.AF=T.w.AF:=by
 rw [Kz T k h]
 exact⟨(Dg _ _).1,(Dg _ _).2,Ld _ _⟩
theorem Yg {w:AD}{b f n:Int}(h:n < (w.AF.at f).AW):(Aq w b f n).w={ w with AF:=w.AF.put f { w.AF.at f with AW:=(w.AF.at f).AW - n } }:=by
 show w.Bb f { w.AF.at f with AW:=max 0 ((w.AF.at f).AW - n) }=_
 rw [show max 0 ((w.AF.at f).AW - n)=(w.AF.at f).AW - n by omega];rfl
theorem NV {w:AD}{b f n:Int}(f0:0≤f)(f6:f < 6):((Aq w b f n).w.AF.at f).AW=max 0 ((w.AF.at f).AW - n):=by
 show((w.Bb f _).AF.at f).AW=_
 rw [AD.Dw f0 f6]
theorem Vc {w:AD}{b f n:Int}(f0:0≤f)(f6:f < 6):Ee (Aq w b f n).w f=⟨w.Bb f { w.AF.at f with AW:=1 },f,[]⟩:=by
 unfold Ee
 have e:(Aq w b f n).w.Bb f { (Aq w b f n).w.AF.at f with AW:=1 }=w.Bb f { w.AF.at f with AW:=1 }:=by
  show(w.Bb f _).Bb f { (w.Bb f _).AF.at f with AW:=1 }=_
  rw [RQ,AD.Dw f0 f6]
 rw [e]
theorem Sp {w F:AD}{b f n:Int}{o:List Event}(f0:0≤f)(f6:f < 6)(h:F=(AA.kind ⟨w.Bb f { w.AF.at f with AW:=1 },f,o⟩ 15).EF.w):F=((Ee (Aq w b f n).w f).kind 15).EF.w∧(AA.kind ⟨w.Bb f { w.AF.at f with AW:=1 },f,o⟩ 15).out=o++((Ee (Aq w b f n).w f).kind 15).out:=by
 rw [Vc f0 f6]
 exact⟨h.trans (fS rfl rfl),rfl⟩
theorem Ua {w F:AD}{b f n:Int}{o:List Event}(f0:0≤f)(f6:f < 6)(h2:decide (f < 2)=true)(h:F=(AA.kind ⟨w.Bb f { w.AF.at f with AW:=1 },f,o++(Aq w b f n).out⟩ 15).EF.w):((FV (Aq w b f n).w f).w,(o++(Aq w b f n).out)++(FV (Aq w b f n).w f).out)=({ F with AF:=F.AF.put f default },(AA.kind ⟨w.Bb f { w.AF.at f with AW:=1 },f,o++(Aq w b f n).out⟩ 15).out):=by
 obtain⟨e1,e2⟩:=Sp (b:=b) (n:=n) f0 f6 h
 have hd:FV (Aq w b f n).w f=_:=if_pos h2
 rw [SD e1] at hd
 rw [hd,e2];rfl
theorem UZ {w F:AD}{b f n:Int}{o:List Event}(f0:0≤f)(f6:f < 6)(h2:decide (f < 2)=false)(h:F=(AA.kind ⟨w.Bb f { w.AF.at f with AW:=1 },f,o++(Aq w b f n).out⟩ 15).EF.w):((FV (Aq w b f n).w f).w,(o++(Aq w b f n).out)++(FV (Aq w b f n).w f).out)=((AA.kind ⟨F.Bb f { F.AF.at f with room:=0,AW:=10 },f,(AA.kind ⟨w.Bb f { w.AF.at f with AW:=1 },f,o++(Aq w b f n).out⟩ 15).out⟩ 17).look.w,(AA.kind ⟨F.Bb f { F.AF.at f with room:=0,AW:=10 },f,(AA.kind ⟨w.Bb f { w.AF.at f with AW:=1 },f,o++(Aq w b f n).out⟩ 15).out⟩ 17).look.out):=by
 obtain⟨e1,e2⟩:=Sp (b:=b) (n:=n) f0 f6 h
 have hd:FV (Aq w b f n).w f=((JV (Aq w b f n).w f).kind 17).look:=if_neg (by rw [h2];decide)
 rw [SF e1] at hd
 rw [hd,e2]
 generalize o++(Aq w b f n).out=O at *
 generalize ((Ee (Aq w b f n).w f).kind 15).out=R at *
 have hp:AA.kind ⟨F.Bb f { F.AF.at f with room:=0,AW:=10 },f,O++R⟩ 17=pre O (AA.kind ⟨F.Bb f { F.AF.at f with room:=0,AW:=10 },f,R⟩ 17):=Nk O ⟨F.Bb f { F.AF.at f with room:=0,AW:=10 },f,R⟩ (Dn 17)
 rw [hp,aA]
 rfl
theorem aQ {w F:AD}{b f n:Int}{o:List Event}(f0:0≤f)(f6:f < 6)(hs:(Ee (Aq w b f n).w f).Fit)(h:F=(AA.kind ⟨w.Bb f { w.AF.at f with AW:=1 },f,o⟩ 15).EF.w)(R:List Event):Fit ⟨F.Bb f { F.AF.at f with room:=0,AW:=10 },f,R⟩:=by
 have hf2:=O8 hs
 rw [SF (Sp (b:=b) (n:=n) f0 f6 h).1] at hf2
 exact hf2.Fc rfl rfl
theorem cq {x:A6}(h:Yq x)(hf:¬ x.A2=0):x.here=true:=by
 cases hh:x.here with
 | true=>rfl
 | false=>exact absurd (h.off hh) hf
theorem La {w:AD}{f:Int}(f0:0≤f)(f6:f < 6):w.AV f=(w.AF.at f).here:=by
 unfold AD.AV
 rw [decide_eq_true f0,decide_eq_true f6];rfl
theorem NR {X:AD}(hw:X.Cs)(draw:Int):(BX X draw).2.1.length≤78:=by
 by_cases h:(BX X draw).2.2=0
 ·exact(aS hw h).2.2
 ·unfold BX at h ⊢
  split
  ·exact Nat.zero_le _
  ·rename_i h1
   rw [if_neg h1] at h
   exact absurd rfl h
end AA
end Go.Ing
/- What beings do, as the document says it: plain laws. -/
namespace Go.Ing
open Go
namespace AA
def dn (z:Int):Int:=IntKind.i64.wrap (z - 1)
theorem dp {z:Int}(h:-9223372036854775807≤z)(h2:z≤9223372036854775807):dn z=z - 1:=IntWalk.i64_in _ (by omega)
theorem fN:dn (-9223372036854775808)=9223372036854775807:=by decide
def Ik (a:Bool):List Int→Int→List Int
 | [],_=> []
 | i :: r,z=>if (a || decide (dn z=0))=true then i :: Ik a r (dn z) else Ik a r (dn z)
def skip (w:AD)(u:AL)(i:Int):Bool:=!decide (u = []) && !decide (u=(w.AH.at i).name)
def GG (w:AD)(u:AL)(a:Bool):List Int→Int→List Int
 | [],_=> []
 | i :: r,z=>if skip w u i=true then GG w u a r z else if (a || decide (dn z=0))=true then i :: GG w u a r (dn z) else GG w u a r (dn z)
theorem dV (w:AD)(u:AL)(i:Int):skip w u i=!(decide (u = []) || decide ((w.AH.at i).name=u)):=by
 unfold skip
 by_cases h:u = []
 ·simp [h]
 ·by_cases h2:u=(w.AH.at i).name
  ·simp [h,← h2]
  ·have h3:¬ (w.AH.at i).name=u:=fun e=>h2 e.symm
   simp [h,h2,h3]
theorem QE (w:AD)(u:AL)(a:Bool):∀(l:List Int) (z:Int),GG w u a l z=Ik a (Hc w u l) z
 | [],_=>rfl
 | i :: r,z=>by
  unfold GG Hc
  rw [List.filter_cons,dV]
  by_cases c:(decide (u = []) || decide ((w.AH.at i).name=u))=true
  ·rw [if_neg (by rw [c];decide),if_pos c,Ik,QE w u a r]
   rfl
  ·rw [if_pos (by simpa using c),if_neg c]
   exact QE w u a r z
theorem QF:∀(l:List Int) (z:Int),Ik true l z=l
 | [],_=>rfl
 | i :: r,z=>by rw [Ik,if_pos (by simp),QF r]
theorem Nw (l:List Int):∀(z:Int),(l.length:Int)≤1000→(z≤0∨(l.length:Int) < z)→-9223372036854775808≤z→z≤9223372036854775807→Ik false l z = []:=by
 induction l with
 | nil=>intro z _ _ _ _;rfl
 | cons i r ih=>
  intro z hl h h0 h1
  rw [List.length_cons] at hl h
  rw [Ik]
  by_cases e:z=-9223372036854775808
  ·subst e
   rw [fN,if_neg (by decide)]
   exact ih _ (by omega) (.inr (by omega)) (by omega) (by omega)
  ·rw [dp (by omega) h1,if_neg (by
    rw [Bool.false_or,decide_eq_true_eq];omega)]
   exact ih _ (by omega) (by omega) (by omega) (by omega)
theorem WM (l:List Int):∀(z:Int),1≤z→z≤l.length→(l.length:Int)≤1000→Ik false l z=(l.take z.toNat).drop (z - 1).toNat:=by
 induction l with
 | nil=>intro z h1 h2 _;simp at h2;omega
 | cons i r ih=>
  intro z h1 h2 hl
  rw [List.length_cons] at hl h2
  rw [Ik,dp (by omega) (by omega)]
  by_cases e:z=1
  ·subst e
   rw [if_pos (by simp),Nw r _ (by omega) (.inl (by omega)) (by omega) (by omega)]
   simp
  ·rw [if_neg (by rw [Bool.false_or,decide_eq_true_eq];omega),ih (z - 1) (by omega) (by omega) (by omega)]
   have e1:z.toNat=(z - 1).toNat+1:=by omega
   have e2:(z - 1).toNat=(z - 1 - 1).toNat+1:=by omega
   rw [e1,List.take_succ_cons]
   conv=>rhs;rw [e2]
   rw [List.drop_succ_cons,← e2]
theorem WN (w:AD)(u:AL)(a:Bool){l:List Int}(hl:l.length≤100){z:Int}(h0:-9223372036854775808≤z)(h1:z≤9223372036854775807):GG w u a l z=AS w l z u a:=by
 have hp:=RO w u l
 rw [QE]
 unfold AS
 cases a with
 | true=>rw [if_pos rfl];exact QF _ _
 | false=>
  rw [if_neg (by decide)]
  by_cases c:(decide (z < 1) || decide (((Hc w u l).length:Int) < z))=true
  ·rw [if_pos c]
   simp only [Bool.or_eq_true,decide_eq_true_eq] at c
   exact Nw _ _ (by omega) (by omega) h0 h1
  ·rw [if_neg c]
   simp only [Bool.or_eq_true,decide_eq_true_eq,not_or] at c
   exact WM _ _ (by omega) (by omega) (by omega)
theorem U0 {w:AD}{u:AL}{a:Bool}{l:List Int}{k z:Int}(h0:0≤k)(h1:k < l.length):GG w u a (l.drop k.toNat) z=if skip w u (l.getD k.toNat 0)=true then GG w u a (l.drop (k+1).toNat) z else if (a || decide (dn z=0))=true then l.getD k.toNat 0 :: GG w u a (l.drop (k+1).toNat) (dn z) else GG w u a (l.drop (k+1).toNat) (dn z):=by
 rw [MO h0 h1];rfl
theorem fO (z:Int):-9223372036854775808≤dn z∧dn z≤9223372036854775807:=by
 have:=Go.wf_wrap .i64 (z - 1)
 exact Go.bounds_i64 this
def De (T:AA)(u:AL):Int:=if (T.box u).2.2=true then(T.box u).2.1 else -1
def EN (T:AA)(u:AL):Int:=if (T.AU u).2.2=true then(T.AU u).2.1 else -1
def W4 (u:AL):Bool:=decide ((Words.Bq u).2.2.2=0) && !(Words.Bq u).2.2.1
def Jq (T:AA)(u:AL):List Int:=AS T.w (T.own++T.seen) (Words.Bq u).1 (Words.Bq u).2.1 false
theorem Py {u:AL}:(!decide ((Words.Bq u).2.2.2=0) || (Words.Bq u).2.2.1)=!W4 u:=by
 unfold W4;cases decide ((Words.Bq u).2.2.2=0)<;>cases (Words.Bq u).2.2.1<;>rfl
theorem fY {T:AA}{u:AL}(h:W4 u=false):T.one u=(0,false):=if_pos (by rw [Py,h];rfl)
theorem aM {T:AA}{u:AL}(h:W4 u=true)(c:decide (((T.Jq u).length:Int)=0)=true):T.one u=(0,false):=(if_neg (by rw [Py,h];decide)).trans (if_pos c)
theorem UR {T:AA}{u:AL}(h:W4 u=true)(c:decide (((T.Jq u).length:Int)=0)=false):T.one u=((T.Jq u).getD 0 0,true):=(if_neg (by rw [Py,h];decide)).trans (if_neg (by rw [show decide (((AS T.w (T.own++T.seen) (Words.Bq u).1 (Words.Bq u).2.1 false).length:Int)=0)=false from c];decide))
theorem cP {T:AA}{u:AL}(h:W4 u=false):T.box u=(T.tell HK,0,false):=if_pos (by rw [fY h];rfl)
theorem cQ {T:AA}{u:AL}(h:W4 u=true)(c:(decide (((T.Jq u).length:Int)=0) || !decide ((T.w.AH.at ((T.Jq u).getD 0 0)).kind=3))=true):T.box u=(T.tell HK,0,false):=by
 cases c1:decide (((T.Jq u).length:Int)=0) with
 | true=>exact if_pos (by rw [aM h c1];rfl)
 | false=>
  rw [c1,Bool.false_or] at c
  exact if_pos (by rw [UR h c1];exact c)
theorem Td {T:AA}{u:AL}(h:W4 u=true)(c:(decide (((T.Jq u).length:Int)=0) || !decide ((T.w.AH.at ((T.Jq u).getD 0 0)).kind=3))=false):T.box u=if (!(T.w.AH.at ((T.Jq u).getD 0 0)).on)=true then(T.tell SZ,0,false) else(T,(T.Jq u).getD 0 0,true):=by
 rw [Bool.or_eq_false_iff] at c
 have e:=UR h c.1
 unfold box
 rw [e,if_neg (by show ¬ (!true || !decide ((T.w.AH.at ((T.Jq u).getD 0 0)).kind=3))=true;rw [c.2];decide)]
theorem OI {T:AA}{u:AL}{X:AA}{i:Int}{b:Bool}(h:T.box u=(X,i,b)):T.De u=if b=true then i else -1:=by unfold De;rw [h]
theorem Up {T:AA}{u:AL}{X:AA}{i:Int}{b:Bool}(h:T.AU u=(X,i,b)):T.EN u=if b=true then i else -1:=by unfold EN;rw [h]
theorem dW {T:AA}{u:AL}(h:W4 u=false):T.AU u=(T.tell KR,0,false):=if_neg (by rw [show(decide ((Words.Bq u).2.2.2=0) && !(Words.Bq u).2.2.1)=false from h];decide)
theorem Yc {T:AA}{u:AL}(h:W4 u=true)(hs:T.Fx (Words.Bq u).2.1 6 (Words.Bq u).1=none):T.AU u=(T.tell KR,0,false):=(show T.AU u=_ from if_pos h).trans (by simp only [hs])
theorem bD {T:AA}{u:AL}{k:Int}(h:W4 u=true)(hs:T.Fx (Words.Bq u).2.1 6 (Words.Bq u).1=some k):T.AU u=(T,k,true):=(show T.AU u=_ from if_pos h).trans (by simp only [hs])
theorem Tc {T:AA}{u:AL}:decide (T.De u < 0)=(!(T.box u).2.2):=by
 unfold De
 have:=T.Wh u
 cases h:(T.box u).2.2 with
 | true=>rw [if_pos rfl];exact decide_eq_false (by omega)
 | false=>rw [if_neg (by decide)];rfl
theorem RW {T:AA}{u:AL}:decide (T.EN u < 0)=(!(T.AU u).2.2):=by
 unfold EN
 have:=T.HO u
 cases h:(T.AU u).2.2 with
 | true=>rw [if_pos rfl];exact decide_eq_false (by omega)
 | false=>rw [if_neg (by decide)];rfl
theorem Sl {d:Int}(h0:0≤d)(h6:d < 6):AD.opposite d=(d+3).tmod 6:=by
 unfold AD.opposite
 rw [show max 0 (min d 5)=d by omega]
theorem W6 {d:Int}(h0:0≤d):0≤(d+3).tmod 6∧(d+3).tmod 6 < 6:=⟨Int.tmod_nonneg 6 (by omega),Int.tmod_lt_of_pos _ (by decide)⟩
/-! #### what is taken -/
theorem cO {T:AA}{u:AL}(h:decide (T.De u < 0)=true):(T.box u).2.2=false:=by
 rw [Tc] at h;simpa using h
theorem ZX {T:AA}{u:AL}(h:decide (T.De u < 0)=false):(T.box u).2.2=true∧T.De u=(T.box u).2.1:=by
 rw [Tc] at h
 have h2:(T.box u).2.2=true:=by simpa using h
 exact⟨h2,if_pos h2⟩
theorem bC {T:AA}{u:AL}(h:decide (T.EN u < 0)=true):(T.AU u).2.2=false:=by
 rw [RW] at h;simpa using h
theorem Yb {T:AA}{u:AL}(h:decide (T.EN u < 0)=false):(T.AU u).2.2=true∧T.EN u=(T.AU u).2.1:=by
 rw [RW] at h
 have h2:(T.AU u).2.2=true:=by simpa using h
 exact⟨h2,if_pos h2⟩
theorem fV {T:AA}{o:Order}(h:(!decide (o.second = []))=true)(c:decide (T.De o.second < 0)=true):T.get o=(T.box o.second).1:=
 (if_pos h).trans (if_pos (by rw [cO c];rfl))
theorem Wu {T:AA}{o:Order}(h:(!decide (o.second = []))=true)(c:decide (T.De o.second < 0)=false):T.get o=(T.box o.second).1.PJ ((T.box o.second).1.w.has 2 (T.De o.second)) o:=by
 obtain⟨h1,h2⟩:=ZX c
 rw [h2]
 exact(if_pos h).trans (if_neg (by rw [h1];decide))
theorem Tu {T:AA}{o:Order}(h:(!decide (o.second = []))=false):T.get o=T.PJ T.seen o:=if_neg (by rw [h];decide)
/-! #### what is set -/
theorem ie {v:Int}(h0:12≤v)(h1:v≤17):([3,1,2]:List Int).getD ((v - 12).tdiv 2).toNat 0=setKind v∧0≤(v - 12).tdiv 2∧(v - 12).tdiv 2 < 3:=by
 have h:v=12∨v=13∨v=14∨v=15∨v=16∨v=17:=by omega
 rcases h with e | e | e | e | e | e<;>rw [e]<;>exact⟨rfl,by decide,by decide⟩
theorem bB (a b:Bool):(a == !b)=(a != b):=by cases a<;>cases b<;>rfl
theorem cX {T:AA}{d:Int}{p:Bool}{k:Int}(h:decide ((T.w.Ad.at (T.w.AF.at T.b).room).BH.at d - 1 < 0)=true):T.Hr d p k=T.tell HK:=if_pos h
theorem cY {T:AA}{d:Int}{p:Bool}{k:Int}(h:decide ((T.w.Ad.at (T.w.AF.at T.b).room).BH.at d - 1 < 0)=false)(h2:((T.w.Ad.at (T.w.AF.at T.b).room).shut.at d == !p)=true):T.Hr d p k=T.tell Zu:=
 (if_neg (by show ¬ decide ((T.w.Ad.at (T.w.AF.at T.b).room).BH.at d - 1 < 0)=true;rw [h];decide)).trans (if_pos (by rw [bB] at h2;exact h2))
theorem Zj {T:AA}{d:Int}{p:Bool}{k:Int}(d0:0≤d)(d6:d < 6)(h:decide ((T.w.Ad.at (T.w.AF.at T.b).room).BH.at d - 1 < 0)=false)(h2:((T.w.Ad.at (T.w.AF.at T.b).room).shut.at d == !p)=false)
  (h3:decide (((T.B0 (T.w.AF.at T.b).room d (!p)).w.Ad.at ((T.w.Ad.at (T.w.AF.at T.b).room).BH.at d - 1)).BH.at ((d+3).tmod 6)=(T.w.AF.at T.b).room+1)=true) :
  T.Hr d p k=((T.B0 (T.w.AF.at T.b).room d (!p)).B0 ((T.w.Ad.at (T.w.AF.at T.b).room).BH.at d - 1) ((d+3).tmod 6) (!p)).Am { Dn k with other:=-1,dir:=0,n:=0,AQ:=Jp,text:= [] }:=by
 rw [← Sl d0 d6] at h3 ⊢
 exact((if_neg (by show ¬ decide ((T.w.Ad.at (T.w.AF.at T.b).room).BH.at d - 1 < 0)=true;rw [h];decide)).trans (if_neg (by rw [bB] at h2;show ¬ ((T.w.Ad.at (T.w.AF.at T.b).room).shut.at d != p)=true;rw [h2];decide))).trans (congrArg (fun q=>AA.Am q { Dn k with AQ:=Jp }) (if_pos h3))
theorem Zi {T:AA}{d:Int}{p:Bool}{k:Int}(d0:0≤d)(d6:d < 6)(h:decide ((T.w.Ad.at (T.w.AF.at T.b).room).BH.at d - 1 < 0)=false)(h2:((T.w.Ad.at (T.w.AF.at T.b).room).shut.at d == !p)=false)
  (h3:decide (((T.B0 (T.w.AF.at T.b).room d (!p)).w.Ad.at ((T.w.Ad.at (T.w.AF.at T.b).room).BH.at d - 1)).BH.at ((d+3).tmod 6)=(T.w.AF.at T.b).room+1)=false) :
  T.Hr d p k=(T.B0 (T.w.AF.at T.b).room d (!p)).Am { Dn k with other:=-1,dir:=0,n:=0,AQ:=Jp,text:= [] }:=by
 rw [← Sl d0 d6] at h3
 exact((if_neg (by show ¬ decide ((T.w.Ad.at (T.w.AF.at T.b).room).BH.at d - 1 < 0)=true;rw [h];decide)).trans (if_neg (by rw [bB] at h2;show ¬ ((T.w.Ad.at (T.w.AF.at T.b).room).shut.at d != p)=true;rw [h2];decide))).trans (congrArg (fun q=>AA.Am q { Dn k with AQ:=Jp }) (if_neg (by rw [show decide (((T.B0 T.me.room d (!p)).w.Ad.at ((T.w.Ad.at T.me.room).BH.at d - 1)).BH.at (AD.opposite d)=T.me.room+1)=false from h3];decide)))
theorem Ml {T:AA}{o:Order}(h:((Words.dir o.name).2 && decide (setKind o.verb=3))=true):T.set o=T.Hr (Words.dir o.name).1 (CC o.verb) (RV o.verb):=if_pos h
theorem Um {T:AA}{o:Order}(h:decide (setKind o.verb=3)=true):T.B8 o=AS T.w (T.own++T.seen) (max 1 o.nth) o.name false:=by
 rw [Int.max_comm];exact congrArg (fun q=>AS T.w q _ _ _) (if_pos h)
theorem Un {T:AA}{o:Order}(h:decide (setKind o.verb=3)=false):T.B8 o=AS T.w T.own (max 1 o.nth) o.name false:=by
 rw [Int.max_comm];exact congrArg (fun q=>AS T.w q _ _ _) (if_neg (by rw [h];decide))
theorem Uo {T:AA}{o:Order}(h:((Words.dir o.name).2 && decide (setKind o.verb=3))=false)(h2:(decide (((T.B8 o).length:Int)=0) || !decide ((T.w.AH.at ((T.B8 o).getD 0 0)).kind=setKind o.verb))=true):T.set o=T.tell HK:=(if_neg (by rw [h];decide)).trans (if_pos h2)
theorem ax {T:AA}{o:Order}(h:((Words.dir o.name).2 && decide (setKind o.verb=3))=false)(h2:(decide (((T.B8 o).length:Int)=0) || !decide ((T.w.AH.at ((T.B8 o).getD 0 0)).kind=setKind o.verb))=false)(h3:((T.w.AH.at ((T.B8 o).getD 0 0)).on == CC o.verb)=true):T.set o=T.tell Zu:=
 (if_neg (by rw [h];decide)).trans ((if_neg (by rw [h2];decide)).trans (if_pos h3))
theorem Mm {T:AA}{o:Order}(h:((Words.dir o.name).2 && decide (setKind o.verb=3))=false)(h2:(decide (((T.B8 o).length:Int)=0) || !decide ((T.w.AH.at ((T.B8 o).getD 0 0)).kind=setKind o.verb))=false)(h3:((T.w.AH.at ((T.B8 o).getD 0 0)).on == CC o.verb)=false):T.set o=T.before (CC o.verb != decide (setKind o.verb=2)) ((T.B8 o).getD 0 0) (CC o.verb) (RV o.verb):=by
 refine(if_neg (by rw [h];decide)).trans ((if_neg (by rw [h2];decide)).trans ((if_neg (by rw [h3];decide)).trans ?_))
 cases CC o.verb<;>cases decide (setKind o.verb=2)<;>rfl
/-! #### what is let go of -/
def Pj (T:AA)(o:Order):Int:=if (T.B3 o).2.2=true then(T.B3 o).2.1 else -1
theorem cz {T:AA}{o:Order}(h:decide (o.verb=9)=true):(T.B3 o).1=(T.box o.second).1∧T.Pj o=T.De o.second:=by
 have e:T.B3 o=T.box o.second:=if_pos h
 unfold Pj De
 rw [e];exact⟨rfl,rfl⟩
theorem Z9 {T:AA}{o:Order}(h:decide (o.verb=9)=false)(h2:decide (o.verb=10)=true):(T.B3 o).1=(T.AU o.second).1∧T.Pj o=T.EN o.second:=by
 have e:T.B3 o=T.AU o.second:=(if_neg (by rw [h];decide)).trans (if_pos h2)
 unfold Pj EN
 rw [e];exact⟨rfl,rfl⟩
theorem cy {T:AA}{o:Order}(h:decide (o.verb=9)=false)(h2:decide (o.verb=10)=false):(T.B3 o).1=T∧T.Pj o=0:=by
 have e:T.B3 o=(T,0,true):=(if_neg (by rw [h];decide)).trans (if_neg (by rw [h2];decide))
 unfold Pj
 rw [e];exact⟨rfl,rfl⟩
theorem Se (T:AA)(o:Order):(T.B3 o).1.w=T.w∧(T.B3 o).1.b=T.b:=by
 unfold B3
 split
 ·exact T.KD o.second
 ·split
  ·exact T.Hl o.second
  ·exact⟨rfl,rfl⟩
theorem Iz (T:AA)(o:Order):0≤(T.B3 o).2.1∧(T.B3 o).2.1 < 9:=by
 unfold B3
 split
 ·exact T.Wh o.second
 ·split
  ·have:=T.HO o.second;omega
  ·exact⟨Int.le_refl 0,show(0:Int) < 9 by decide⟩
theorem UJ {T:AA}{o:Order}(hv:o.verb=8∨o.verb=9∨o.verb=10)(h:(T.B3 o).2.2=true):N2 (T.B3 o).1 o.verb (T.B3 o).2.1:=by
 unfold N2
 rw [(T.Se o).1]
 unfold B3 at h ⊢
 split at h
 ·rename_i h2
  rw [if_pos h2]
  obtain⟨a0,a9,hk,_⟩:=fL h
  have:=of_decide_eq_true h2
  exact .inr (.inr ⟨by omega,by omega,a0,a9,hk⟩)
 ·rename_i h2
  rw [if_neg h2]
  split at h
  ·rename_i h3
   rw [if_pos h3]
   obtain⟨a0,a6,_,hs⟩:=Uq h
   exact .inr (.inl ⟨of_decide_eq_true h3,a0,a6,(AD.F5 (AD.WC hs).2.1).2.2⟩)
  ·rename_i h3
   rw [if_neg h3]
   refine .inl ?_
   rcases hv with e | e | e
   ·exact e
   ·exact absurd (decide_eq_true e) h2
   ·exact absurd (decide_eq_true e) h3
theorem UG {T:AA}{o:Order}:decide (T.Pj o < 0)=(!(T.B3 o).2.2):=by
 unfold Pj
 have:=T.Iz o
 cases h:(T.B3 o).2.2 with
 | true=>rw [if_pos rfl];exact decide_eq_false (by omega)
 | false=>rw [if_neg (by decide)];rfl
theorem Z1 {T X:AA}{o:Order}{to:Int}(hX:X=(T.B3 o).1)(ht:to=T.Pj o)(h:decide (to < 0)=true):T.EM o=X:=by
 rw [ht,UG] at h
 rw [hX]
 exact if_pos h
theorem Xw {T X:AA}{o:Order}{to:Int}(hX:X=(T.B3 o).1)(ht:to=T.Pj o)(h:decide (to < 0)=false):T.EM o=X.Xx to o∧0≤to∧to < 9∧(o.verb=8∨o.verb=9∨o.verb=10→N2 X o.verb to):=by
 rw [ht,UG] at h
 have h2:(T.B3 o).2.2=true:=by simpa using h
 have e:to=(T.B3 o).2.1:=ht.trans (if_pos h2)
 rw [hX,e]
 exact⟨if_neg (by rw [h];decide),(T.Iz o).1,(T.Iz o).2,fun hv=>UJ hv h2⟩
def Lq (T:AA)(o:Order):List Int:=AS T.w T.own o.nth o.name o.An
def Pn (T:AA)(o:Order):AA:=if decide (((T.Lq o).length:Int)=0)=true then T.tell Sj else T
theorem Z7 {T:AA}{o:Order}(h:decide (((T.Lq o).length:Int)=0)=true):T.Pn o=T.tell Sj:=if_pos h
theorem Z6 {T:AA}{o:Order}(h:decide (((T.Lq o).length:Int)=0)=false):T.Pn o=T:=if_neg (by rw [h];decide)
theorem Z8 (T:AA)(o:Order):(T.Pn o).w=T.w∧(T.Pn o).b=T.b∧(T.Pn o).out.length≤T.out.length+1:=by
 unfold Pn
 split
 ·exact⟨rfl,rfl,by rw [BQ];exact Nat.le_refl _⟩
 ·exact⟨rfl,rfl,Nat.le_succ _⟩
def Ph (T:AA)(to:Int)(o:Order)(k:Nat):AA:=(T.Pn o).Fb o.verb to ((T.Lq o).take k)
theorem No {v to:Int}:∀(l:List Int) (T:AA) (i:Int),T.Fb v to (l ++ [i])=(T.Fb v to l).Bf v to i
 | [],_,_=>rfl
 | _ :: r,_,i=>No r _ i
theorem dZ {l:List Int}{k:Int}(h0:0≤k)(h1:k < l.length):l.take (k+1).toNat=l.take k.toNat ++ [l.getD k.toNat 0]:=by
 obtain⟨m,rfl⟩:=Int.eq_ofNat_of_zero_le h0
 have hm:m < l.length:=by omega
 show l.take (m+1)=l.take m ++ [l.getD m 0]
 rw [List.take_add_one,List.getElem?_eq_getElem hm,List.getD_eq_getElem?_getD,List.getElem?_eq_getElem hm]
 rfl
theorem D9 {T:AA}{to:Int}{o:Order}{k:Int}(h0:0≤k)(h1:k < (T.Lq o).length):T.Ph to o (k+1).toNat=(T.Ph to o k.toNat).Bf o.verb to ((T.Lq o).getD k.toNat 0):=by
 unfold Ph
 rw [dZ h0 h1,No]
theorem UE {T:AA}{to:Int}{o:Order}:T.Ph to o ((T.Lq o).length:Int).toNat=T.Xx to o:=by
 unfold Ph
 rw [show((T.Lq o).length:Int).toNat=(T.Lq o).length by omega,List.take_length]
 rfl
theorem KO {T:AA}{o:Order}:(∀ i∈T.Lq o,M1 T.w T.b i)∧(T.Lq o).Nodup∧(T.Lq o).length≤9:=
 ⟨fun _ hi=>(H3 (CO hi)).N8,List.Nodup.sublist (C9 ..) (AD.Xn ..),Nat.le_trans (C9 ..).length_le (AA.Fe T)⟩
theorem Z2 {T:AA}(h:T.Fit){to:Int}{o:Order}(ht:N2 T o.verb to)(k:Nat):(T.Ph to o k).Fit:=by
 have hs:=T.Z8 o
 have g:Ew T (T.Pn o):=h.goes.Fc hs.1 hs.2.1
 refine(Nn g.fit (List.Nodup.sublist (List.take_sublist ..) KO.2.1) (fun i hi=>?_) (ht.next (by rw [hs.1]) fun _ _ _=>by rw [hs.1])).fit
 rw [hs.1,hs.2.1]
 exact KO.1 i (List.mem_of_mem_take hi)
theorem Pd (v to:Int):∀(l:List Int) (T:AA),(T.Fb v to l).out.length≤T.out.length+l.length∧(T.Fb v to l).b=T.b
 | [],_=>⟨Nat.le_refl _,rfl⟩
 | i :: r,T=>by
  obtain⟨h1,h2⟩:=Pd v to r (T.Bf v to i)
  have h3:=T.Pm v to i
  rw [Fb,List.length_cons]
  exact⟨by omega,h2.trans (T.Z5 v to i)⟩
theorem UF (T:AA)(to:Int)(o:Order)(k:Nat):(T.Ph to o k).out.length≤T.out.length+10∧(T.Ph to o k).b=T.b:=by
 have hs:=T.Z8 o
 obtain⟨h1,h2⟩:=Pd o.verb to ((T.Lq o).take k) (T.Pn o)
 have h3:=(KO (T:=T) (o:=o)).2.2
 have h4:((T.Lq o).take k).length≤(T.Lq o).length:=(List.take_sublist ..).length_le
 unfold Ph
 exact⟨by omega,h2.trans hs.2.1⟩
theorem UI {T:AA}{v to i:Int}(h:(decide ((T.w.AH.at i).kind=2) && (T.w.AH.at i).on)=true):T.Bf v to i=T.tell fo:=if_pos h
theorem Sd {T:AA}{v to i:Int}(h:(decide ((T.w.AH.at i).kind=2) && (T.w.AH.at i).on)=false)(h2:(decide (v=9) && T.w.Pb to i)=true):T.Bf v to i=T.tell aG:=by
 rw [Bool.and_eq_true] at h2
 have:=of_decide_eq_true h2.1
 exact(if_neg (by rw [h];decide)).trans ((if_neg (by rw [decide_eq_true_eq];omega)).trans ((if_neg (by rw [decide_eq_true_eq];omega)).trans (if_pos h2.2)))
theorem Z3 {T:AA}{v to i:Int}(hi:0≤i∧i < 9)(h:(decide ((T.w.AH.at i).kind=2) && (T.w.AH.at i).on)=false)(h2:decide (v=8)=true):T.Bf v to i=(T.place i 0 T.me.room).Am { Dn 4 with other:=-1,dir:=0,n:=0,AQ:=(T.w.AH.at i).name,text:= [] }:=
 ((if_neg (by rw [h];decide)).trans (if_pos h2)).trans (by unfold AQ;rw [DA hi.1 hi.2];rfl)
theorem Z4 {T:AA}{v to i:Int}(hi:0≤i∧i < 9)(ht:0≤to)(h:(decide ((T.w.AH.at i).kind=2) && (T.w.AH.at i).on)=false)(h2:(decide (v=9) && T.w.Pb to i)=false)(h3:decide (v=9)=true):T.Bf v to i=(T.place i 2 to).Am { Dn 5 with other:=-1,dir:=0,n:=0,AQ:=(T.w.AH.at i).name,text:=((T.place i 2 to).w.AH.at to).name }:=by
 have:=of_decide_eq_true h3
 rw [Ck hi.1 hi.2 ht]
 rw [h3,Bool.true_and] at h2
 exact(if_neg (by rw [h];decide)).trans ((if_neg (by rw [decide_eq_true_eq];omega)).trans ((if_neg (by rw [decide_eq_true_eq];omega)).trans ((if_neg (by rw [h2];decide)).trans rfl)))
theorem Xy {T:AA}{v to i:Int}(h:(decide ((T.w.AH.at i).kind=2) && (T.w.AH.at i).on)=false)(h3:decide (v=10)=true):T.Bf v to i=(T.place i 1 to).Am { Dn 6 with other:=to,dir:=0,n:=0,AQ:=(T.w.AH.at i).name,text:= [] }:=by
 have:=of_decide_eq_true h3
 exact(if_neg (by rw [h];decide)).trans ((if_neg (by rw [decide_eq_true_eq];omega)).trans ((if_pos h3).trans rfl))
theorem N2.kc {T:AA}{v to:Int}(h:N2 T v to)(hv:v=10):to < 6:=by
 rcases h with h | ⟨_,_,h,_⟩ | ⟨_,h,_⟩<;>omega
theorem Xu {T X:AA}{o:Order}{p:Bool}(hX:X=(T.B3 o).1)(hp:p=(T.B3 o).2.2)(h:(!p)=true):T.EM o=X:=by
 rw [hp] at h
 rw [hX]
 exact if_pos h
theorem Vv {T X:AA}{o:Order}{to:Int}{p:Bool}(hX:X=(T.B3 o).1)(ht:to=(T.B3 o).2.1)(hp:p=(T.B3 o).2.2)(h:(!p)=false):T.EM o=X.Xx to o∧0≤to∧to < 9∧(o.verb=8∨o.verb=9∨o.verb=10→N2 X o.verb to):=by
 rw [hp] at h
 have h2:(T.B3 o).2.2=true:=by simpa using h
 rw [hX,ht]
 exact⟨if_neg (by rw [h];decide),(T.Iz o).1,(T.Iz o).2,fun hv=>UJ hv h2⟩
/-! #### what a being does -/
theorem F4 {T:AA}{o:Order}(h:o.verb < 6):T.act o=T.walk o.verb:=by
 unfold act;rw [if_pos (decide_eq_true h)]
theorem iK {T:AA}{o:Order}(h:o.verb=6):T.act o=T.look:=by
 unfold act;rw [if_neg (by rw [decide_eq_true_eq];omega),if_pos (decide_eq_true h)]
theorem fF {T:AA}{o:Order}(h:o.verb=19):T.act o=T.tell ([89,111,117,32,104,97,118,101]++G4 T.w T.own):=by
 unfold act;rw [if_neg (by rw [decide_eq_true_eq];omega),if_neg (by rw [decide_eq_true_eq];omega),if_pos (decide_eq_true h),Lw];rfl
theorem fE {T:AA}{o:Order}(h:o.verb=11):T.act o=T.Am { Dn 7 with other:=-1,dir:=0,n:=0,AQ:= [],text:=o.text }:=by
 unfold act;rw [if_neg (by rw [decide_eq_true_eq];omega),if_neg (by rw [decide_eq_true_eq];omega),if_neg (by rw [decide_eq_true_eq];omega),if_pos (decide_eq_true h)];rfl
theorem fG {T:AA}{o:Order}(h:o.verb=20):T.act o=T.KG:=by
 unfold act;rw [if_neg (by rw [decide_eq_true_eq];omega),if_neg (by rw [decide_eq_true_eq];omega),if_neg (by rw [decide_eq_true_eq];omega),if_neg (by rw [decide_eq_true_eq];omega),if_pos (decide_eq_true h)]
theorem VU {T:AA}{o:Order}(h:o.verb=18):T.act o=T.FY o:=by
 unfold act;rw [if_neg (by rw [decide_eq_true_eq];omega),if_neg (by rw [decide_eq_true_eq];omega),if_neg (by rw [decide_eq_true_eq];omega),if_neg (by rw [decide_eq_true_eq];omega),if_neg (by rw [decide_eq_true_eq];omega),if_pos (decide_eq_true h)]
theorem cJ {T:AA}{o:Order}(h:8≤o.verb∧o.verb≤10):T.act o=T.EM o:=by
 have e:(decide (o.verb=8) || decide (o.verb=9) || decide (o.verb=10))=true:=by
  rw [Bool.or_eq_true,Bool.or_eq_true,decide_eq_true_eq,decide_eq_true_eq,decide_eq_true_eq];omega
 unfold act;rw [if_neg (by rw [decide_eq_true_eq];omega),if_neg (by rw [decide_eq_true_eq];omega),if_neg (by rw [decide_eq_true_eq];omega),if_neg (by rw [decide_eq_true_eq];omega),if_neg (by rw [decide_eq_true_eq];omega),if_neg (by rw [decide_eq_true_eq];omega),if_neg (by rw [decide_eq_true_eq];omega),if_pos e]
theorem cL {T:AA}{o:Order}(h:12≤o.verb∧o.verb≤17):T.act o=T.set o:=by
 have e:¬ (decide (o.verb=8) || decide (o.verb=9) || decide (o.verb=10))=true:=by
  rw [Bool.or_eq_true,Bool.or_eq_true,decide_eq_true_eq,decide_eq_true_eq,decide_eq_true_eq];omega
 unfold act;rw [if_neg (by rw [decide_eq_true_eq];omega),if_neg (by rw [decide_eq_true_eq];omega),if_neg (by rw [decide_eq_true_eq];omega),if_neg (by rw [decide_eq_true_eq];omega),if_neg (by rw [decide_eq_true_eq];omega),if_neg (by rw [decide_eq_true_eq];omega),if_neg (by rw [decide_eq_true_eq];omega),if_neg e]
def Ba (o:Order):AL:=if (!decide (o.nth=1) || o.An)=true then [] else o.name
theorem Zq {T:AA}{o:Order}(h:decide (0≤T.EN (Ba o))=false):T.FY o=(T.AU (Ba o)).1:=
 if_pos (by
  have h2:decide (T.EN (Ba o) < 0)=true:=decide_eq_true (by have:=of_decide_eq_false h;omega)
  have h3:=bC h2
  show(!(T.AU (Ba o)).2.2)=true
  rw [h3];rfl)
theorem Xh {T:AA}{o:Order}(h:decide (0≤T.EN (Ba o))=true):0≤T.EN (Ba o)∧T.EN (Ba o) < 6∧T.FY o=(if decide ((((T.AU (Ba o)).1.BW T.b (T.EN (Ba o)+1)).w.AF.at (T.EN (Ba o))).A2=0)=true then((T.AU (Ba o)).1.BW T.b (T.EN (Ba o)+1)).BW (T.EN (Ba o)) (T.b+1) else(T.AU (Ba o)).1.BW T.b (T.EN (Ba o)+1)).tell IX:=by
 have h2:decide (T.EN (Ba o) < 0)=false:=decide_eq_false (by have:=of_decide_eq_true h;omega)
 obtain⟨h3,h4⟩:=Yb h2
 have hr:=T.HO (Ba o)
 rw [h4]
 refine⟨hr.1,hr.2,(if_neg (by show ¬ (!(T.AU (Ba o)).2.2)=true;rw [h3];decide)).trans ?_⟩
 show(if decide ((((T.AU (Ba o)).1.BW (T.AU (Ba o)).1.b ((T.AU (Ba o)).2.1+1)).w.AF.at (T.AU (Ba o)).2.1).A2=0)=true then((T.AU (Ba o)).1.BW (T.AU (Ba o)).1.b ((T.AU (Ba o)).2.1+1)).BW (T.AU (Ba o)).2.1 ((T.AU (Ba o)).1.b+1) else((T.AU (Ba o)).1.BW (T.AU (Ba o)).1.b ((T.AU (Ba o)).2.1+1))).tell IX=_
 rw [(T.Hl (Ba o)).2]
theorem Zo {T:AA}{F:AD}(h:F=(T.kind 18).EF.w):T.KG=⟨{ F with AF:=F.AF.put T.b default },T.b,(T.kind 18).out⟩:=by
 obtain⟨h1,h2,h3⟩:=T.Vh
 rw [← h] at h3
 cases e:T.KG with
 | mk w b out=>
  rw [e] at h1 h2 h3
  subst h1 h2 h3
  rfl
theorem RL (X:AD)(b:Int):(!X.AV b)=(decide (b < 0) || decide (6≤b) || !(X.AF.at b).here):=by
 have e0:decide (b < 0)=!decide (0≤b):=by
  by_cases h:0≤b
  ·rw [decide_eq_true h,decide_eq_false (by omega)];rfl
  ·rw [decide_eq_false h,decide_eq_true (by omega)];rfl
 have e1:decide (6≤b)=!decide (b < 6):=by
  by_cases h:b < 6
  ·rw [decide_eq_true h,decide_eq_false (by omega)];rfl
  ·rw [decide_eq_false h,decide_eq_true (by omega)];rfl
 rw [e0,e1]
 unfold AD.AV
 cases decide (0≤b)<;>cases decide (b < 6)<;>rfl
theorem Kp (X:AD)(b:Int)(o:Order):(Dk X b o).2.1.length≤11:=by
 unfold Dk
 split
 ·exact Nat.zero_le _
 ·split
  ·exact Nat.zero_le _
  ·split
   ·exact Nat.zero_le _
   ·have:=cK (⟨X,b,[]⟩:AA) o
    exact Nat.le_trans this (Nat.le_refl 11)
end AA
end Go.Ing
/- Engine: the same rules, said shorter. -/
namespace Go.Ing
open Go
section
variable {F:List (Nat × Value)} {v0 v1 v2 v3 v4 v5 v6 v7 v8 v9 v10 v11:Value}
theorem Sub.t1 (k0:Nat)(h0:lk k0 F=some v0:=by rfl):Sub F [(k0,v0)]:= .cons h0 (.nil _)
theorem Sub.t2 (k0 k1:Nat)(h0:lk k0 F=some v0:=by rfl)(h1:lk k1 F=some v1:=by rfl):Sub F [(k0,v0),(k1,v1)]:= .cons h0 (.cons h1 (.nil _))
theorem Sub.t3 (k0 k1 k2:Nat)(h0:lk k0 F=some v0:=by rfl)(h1:lk k1 F=some v1:=by rfl)(h2:lk k2 F=some v2:=by rfl):Sub F [(k0,v0),(k1,v1),(k2,v2)]:= .cons h0 (.cons h1 (.cons h2 (.nil _)))
theorem Sub.t4 (k0 k1 k2 k3:Nat)(h0:lk k0 F=some v0:=by rfl)(h1:lk k1 F=some v1:=by rfl)(h2:lk k2 F=some v2:=by rfl)(h3:lk k3 F=some v3:=by rfl):Sub F [(k0,v0),(k1,v1),(k2,v2),(k3,v3)]:= .cons h0 (.cons h1 (.cons h2 (.cons h3 (.nil _))))
theorem Sub.t5 (k0 k1 k2 k3 k4:Nat)(h0:lk k0 F=some v0:=by rfl)(h1:lk k1 F=some v1:=by rfl)(h2:lk k2 F=some v2:=by rfl)(h3:lk k3 F=some v3:=by rfl)(h4:lk k4 F=some v4:=by rfl):Sub F [(k0,v0),(k1,v1),(k2,v2),(k3,v3),(k4,v4)]:= .cons h0 (.cons h1 (.cons h2 (.cons h3 (.cons h4 (.nil _)))))
theorem Sub.t6 (k0 k1 k2 k3 k4 k5:Nat)(h0:lk k0 F=some v0:=by rfl)(h1:lk k1 F=some v1:=by rfl)(h2:lk k2 F=some v2:=by rfl)(h3:lk k3 F=some v3:=by rfl)(h4:lk k4 F=some v4:=by rfl)(h5:lk k5 F=some v5:=by rfl):Sub F [(k0,v0),(k1,v1),(k2,v2),(k3,v3),(k4,v4),(k5,v5)]:= .cons h0 (.cons h1 (.cons h2 (.cons h3 (.cons h4 (.cons h5 (.nil _))))))
theorem Sub.t7 (k0 k1 k2 k3 k4 k5 k6:Nat)(h0:lk k0 F=some v0:=by rfl)(h1:lk k1 F=some v1:=by rfl)(h2:lk k2 F=some v2:=by rfl)(h3:lk k3 F=some v3:=by rfl)(h4:lk k4 F=some v4:=by rfl)(h5:lk k5 F=some v5:=by rfl)(h6:lk k6 F=some v6:=by rfl):Sub F [(k0,v0),(k1,v1),(k2,v2),(k3,v3),(k4,v4),(k5,v5),(k6,v6)]:= .cons h0 (.cons h1 (.cons h2 (.cons h3 (.cons h4 (.cons h5 (.cons h6 (.nil _)))))))
theorem Sub.t8 (k0 k1 k2 k3 k4 k5 k6 k7:Nat)(h0:lk k0 F=some v0:=by rfl)(h1:lk k1 F=some v1:=by rfl)(h2:lk k2 F=some v2:=by rfl)(h3:lk k3 F=some v3:=by rfl)(h4:lk k4 F=some v4:=by rfl)(h5:lk k5 F=some v5:=by rfl)(h6:lk k6 F=some v6:=by rfl)(h7:lk k7 F=some v7:=by rfl):Sub F [(k0,v0),(k1,v1),(k2,v2),(k3,v3),(k4,v4),(k5,v5),(k6,v6),(k7,v7)]:= .cons h0 (.cons h1 (.cons h2 (.cons h3 (.cons h4 (.cons h5 (.cons h6 (.cons h7 (.nil _))))))))
theorem Sub.t9 (k0 k1 k2 k3 k4 k5 k6 k7 k8:Nat)(h0:lk k0 F=some v0:=by rfl)(h1:lk k1 F=some v1:=by rfl)(h2:lk k2 F=some v2:=by rfl)(h3:lk k3 F=some v3:=by rfl)(h4:lk k4 F=some v4:=by rfl)(h5:lk k5 F=some v5:=by rfl)(h6:lk k6 F=some v6:=by rfl)(h7:lk k7 F=some v7:=by rfl)(h8:lk k8 F=some v8:=by rfl):Sub F [(k0,v0),(k1,v1),(k2,v2),(k3,v3),(k4,v4),(k5,v5),(k6,v6),(k7,v7),(k8,v8)]:= .cons h0 (.cons h1 (.cons h2 (.cons h3 (.cons h4 (.cons h5 (.cons h6 (.cons h7 (.cons h8 (.nil _)))))))))
end
section
variable {P:Program} {n:Nat} {w0:World} {M:List Nat} {Q:Exit→Go.Act→World→Prop} {F F':List (Nat × Value)} {L L' A K:List AJ} {ops:Array Oper} {rest l:List Oper} {d id:Nat} {op:Op} {T:TypeId} {pos:String} {Bl:Array Edge} {v v':Value} {x y:Code}
theorem Gs (h:GL P n w0 M l.toArray (Exit.then (y.wp P Q) Q) l F L):G P n w0 M (.seq (.region id l.toArray false) y) Q F L:=Y5 (KA h)
theorem Gn (hs:Sub F F')(h:G P n w0 M y Q F' L):GL P n w0 M ops (Exit.then (y.wp P Q) Q) [] F L:=Oe (Y1 hs (Rq h))
theorem Gt (h:PS P n w0 M op T F L v L')(k:GL P n w0 M ops Q rest ((d,v) :: F) L')(hd:Nat.blt d n=true:=by rfl):GL P n w0 M ops Q (⟨some d,op,T,pos,Bl,none⟩ :: rest) F L:=Kj hd h k
theorem Gm {x:Operand}(h:ev F x=some v)(k:GL P n w0 M ops Q rest ((d,v) :: F) L)(hd:Nat.blt d n=true:=by rfl):GL P n w0 M ops Q (⟨some d, .move x,T,pos,Bl,none⟩ :: rest) F L:=Kj hd (JQ h) k
theorem kr {j:Nat}{z:Bool}(t:Nat)(hj:(ops[j]?).bind (·.dst)=some t)(hb:lk t F=some (.bool z))(h:z=true→PS P n w0 M op T F L v L)(k:GL P n w0 M ops Q rest ((d,cv z v) :: F) L)(hd:Nat.blt d n=true:=by rfl):GL P n w0 M ops Q (⟨some d,op,T,pos,Bl,some (j,true)⟩ :: rest) F L:=Yv hj hb hd h k
theorem kq {j:Nat}{z:Bool}(t:Nat)(hj:(ops[j]?).bind (·.dst)=some t)(hb:lk t F=some (.bool z))(h:z=false→PS P n w0 M op T F L v L)(k:GL P n w0 M ops Q rest ((d,cv (!z) v) :: F) L)(hd:Nat.blt d n=true:=by rfl):GL P n w0 M ops Q (⟨some d,op,T,pos,Bl,some (j,false)⟩ :: rest) F L:=Yu hj hb hd h k
end
section
variable {P:Program} {n:Nat} {w0:World} {M:List Nat} {Q:Exit→Go.Act→World→Prop} {l:List Oper} {Rs:List Nat} {F:List (Nat × Value)}
variable {k i j d:Nat} {V A:List Nat} {D:List (Nat × (Nat × Value))} {L:List AJ} {op:Op} {T:TypeId} {pos:String} {Bl:Array Edge} {v v':Value}
theorem Pf (i:Nat)(ho:l[i]?=some ⟨some d,op,T,pos,Bl,none⟩)(h:PS P n w0 M op T (DS D Bl.toList++F) L v L)(k':IU P n w0 M Q l Rs F k (i :: V) (i :: A) ((i,(d,v)) :: D) L)(hc:cg l V i Bl.toList=true:=by kernel_rfl)(hlk:X0 F d v:=by first | exact .inl rfl | exact .inr rfl):IU P n w0 M Q l Rs F (k+1) V A D L:=
 Ow i ho rfl hc (bz (L8 h)) k' hlk
theorem Pk (h:HS P n w0 M Q l Rs F i D L A)(hr:reaches Rs i j=true:=by kernel_rfl):HS P n w0 M Q l Rs F i D L (j :: A):=Qr hr h
theorem Po (ho:l[j]?=some ⟨some d,op,T,pos,Bl,none⟩)(h:PS P n w0 M op T (DS D Bl.toList++F) L v' L)(hl:Np j D=some (d,v))(e:v'=v)(k':HS P n w0 M Q l Rs F i D L A):HS P n w0 M Q l Rs F i D L (j :: A):=TL ho (bz (L8 h)) hl e k'
end
section
variable {P:Program} {n:Nat} {w0:World} {M:List Nat} {F:List (Nat × Value)} {L:List AJ}
theorem cF {x:Operand}{c:Bool}{v:Value}(h:ev F x=some (cv (!c) v))(q:c=false):ev F x=some v:=iT h (by rw [q];rfl)
theorem iI {T U f off b o:Nat}{x:Operand}(hf:FA P T f off)(hx:ev F x=some (.pointer (some ⟨b,o,none⟩))):PS P n w0 M (.fieldAddr T x f) U F L (.pointer (some ⟨b,o+off,none⟩)) L:=JO hf hx
theorem iJ {T:TypeId}{x:Operand}{p:Addr}(hx:ev F x=some (.pointer (some p))):PS P n w0 M (.nilCheck x) T F L (.pointer (some p)) L:=Na hx
end
theorem Ac.ar {α:Type}{n:Nat}[Inhabited α]{e:α→List Value}{sz:Nat}(fe:Flat e sz){i:Int}(h:0≤i∧i < (n:Int)):Ac (BO (n:=n) e) e (i.toNat * sz) sz (fun v=>v.at i) (fun v y=>v.put i y):=Ac.arr fe h.1 h.2
class Nz (a:Prop) (b:outParam Prop):Prop where
 h:a→b
theorem kz {a b:Prop}[i:Nz a b](h:a):b:=i.h h
section
variable {p:Prop} [Decidable p] {a b:Bool} {x y:Prop} {m n:Int}
instance (priority:=low):Nz p p:=⟨id⟩
instance:Nz (decide p=true) p:=⟨of_decide_eq_true⟩
instance (priority:=low):Nz (decide p=false) (¬ p):=⟨of_decide_eq_false⟩
instance:Nz (decide (m < n)=false) (n≤m):=⟨fun h=>Int.not_lt.1 (of_decide_eq_false h)⟩
instance:Nz (decide (m≤n)=false) (n < m):=⟨fun h=>Int.not_le.1 (of_decide_eq_false h)⟩
instance [i:Nz (a=false) x]:Nz ((!a)=true) x:=⟨fun h=>i.h (by simpa using h)⟩
instance [i:Nz (a=true) x]:Nz ((!a)=false) x:=⟨fun h=>i.h (by simpa using h)⟩
instance [i:Nz (a=true) x][j:Nz (b=true) y]:Nz ((a && b)=true) (x∧y):=⟨fun h=>⟨i.h (kZ ▸ h).1,j.h (kZ ▸ h).2⟩⟩
instance [i:Nz (a=false) x][j:Nz (b=false) y]:Nz ((a || b)=false) (x∧y):=⟨fun h=>⟨i.h (kA ▸ h).1,j.h (kA ▸ h).2⟩⟩
instance [i:Nz (a=true) x][j:Nz (b=true) y]:Nz ((a || b)=true) (x∨y):=⟨fun h=>(lL ▸ h:a=true∨b=true).imp i.h j.h⟩
instance [i:Nz (a=false) x][j:Nz (b=false) y]:Nz ((a && b)=false) (x∨y):=⟨fun h=>(lJ ▸ h:a=false∨b=false).imp i.h j.h⟩
end
section
variable {F:List (Nat × Value)} {P:Program} {L L' K rs:List AJ} {r r' s:AJ} {x:Operand} {v:Value} {xs:List Operand} {vs:List Value}
theorem Ip.h:Ip (r :: L) r r' (r' :: L):= .head
theorem Ip.t (h:Ip L r r' L'):Ip (s :: L) r r' (s :: L'):= .tail h
theorem ME.h:ME (r :: L) r L:= .head
theorem ME.t (h:ME L r L'):ME (s :: L) r (s :: L'):= .tail h
theorem AK.n:AK L [] L:= .nil
theorem AK.c (h:ME L r L')(hs:AK L' rs K):AK L (r :: rs) K:= .cons h hs
theorem OD.n:OD F [] []:= .nil
theorem OD.c (h:ev F x=some v)(hs:OD F xs vs):OD F (x :: xs) (v :: vs):= .cons h hs
theorem Rs.n:Rs P F L [] []:= .nil
end
section
variable {α:Type} {a b c d e f g h i j:α} {l:List α}
theorem _root_.List.Mem.m0:List.Mem a (a :: l):= .head _
theorem _root_.List.Mem.m1:List.Mem a (b :: a :: l):= .tail _ .m0
theorem _root_.List.Mem.m2:List.Mem a (b :: c :: a :: l):= .tail _ .m1
theorem _root_.List.Mem.m3:List.Mem a (b :: c :: d :: a :: l):= .tail _ .m2
theorem _root_.List.Mem.m4:List.Mem a (b :: c :: d :: e :: a :: l):= .tail _ .m3
theorem _root_.List.Mem.m5:List.Mem a (b :: c :: d :: e :: f :: a :: l):= .tail _ .m4
theorem _root_.List.Mem.m6:List.Mem a (b :: c :: d :: e :: f :: g :: a :: l):= .tail _ .m5
theorem _root_.List.Mem.m7:List.Mem a (b :: c :: d :: e :: f :: g :: h :: a :: l):= .tail _ .m6
theorem _root_.List.Mem.m8:List.Mem a (b :: c :: d :: e :: f :: g :: h :: i :: a :: l):= .tail _ .m7
end
end Go.Ing
/- A house's data, in Lean, and their parts. -/
namespace Go.Ing
open Go
structure A0 where
 state:Int
 AV:Int
 Da:AI
 Ax:BN
 out:A9
 told:Hd
instance:Inhabited A0:=⟨⟨0,0,default,⟨[],false,false,⟨none,0,0⟩⟩,⟨⟨none,0,0⟩,0,false,[],false⟩,⟨none,0,0⟩⟩⟩
def A0.enc (x:A0):List Value:=AT x.state++AT x.AV++AI.enc x.Da++BN.enc x.Ax++A9.enc x.out++EE x.told
instance A0.fl:Flat A0.enc 22:=⟨fun x=>by simp [A0.enc,BN.fl.len,A9.fl.len,AI.fl.len,QT.len,Bm.len],fun x v hv=>by
 simp only [A0.enc,List.mem_append] at hv
 rcases hv with ((((h | h) | h) | h) | h) | h
 ·exact Bm.one _ v h
 ·exact Bm.one _ v h
 ·exact AI.fl.one _ v h
 ·exact BN.fl.one _ v h
 ·exact A9.fl.one _ v h
 ·exact QT.one _ v h⟩
instance A0.l0:Ac A0.enc (AT) 0 1 (fun x=>x.state) (fun x y=>{ x with state:=y }):=
 Ac.ER Bm (fun _=> []) (fun x=>AT x.AV++AI.enc x.Da++BN.enc x.Ax++A9.enc x.out++EE x.told) (fun _=>rfl) (fun x=>by simp [A0.enc]) (fun x y=>by simp [A0.enc])
instance A0.l1:Ac A0.enc (AT) 1 1 (fun x=>x.AV) (fun x y=>{ x with AV:=y }):=
 Ac.ER Bm (fun x=>AT x.state) (fun x=>AI.enc x.Da++BN.enc x.Ax++A9.enc x.out++EE x.told) (fun x=>by simp [Bm.len]) (fun x=>by simp [A0.enc]) (fun x y=>by simp [A0.enc])
instance A0.l2:Ac A0.enc (AI.enc) 2 10 (fun x=>x.Da) (fun x y=>{ x with Da:=y }):=
 Ac.ER AI.fl (fun x=>AT x.state++AT x.AV) (fun x=>BN.enc x.Ax++A9.enc x.out++EE x.told) (fun x=>by simp [Bm.len]) (fun x=>by simp [A0.enc]) (fun x y=>by simp [A0.enc])
instance A0.l3:Ac A0.enc (BN.enc) 12 4 (fun x=>x.Ax) (fun x y=>{ x with Ax:=y }):=
 Ac.ER BN.fl (fun x=>AT x.state++AT x.AV++AI.enc x.Da) (fun x=>A9.enc x.out++EE x.told) (fun x=>by simp [AI.fl.len,Bm.len]) (fun x=>by simp [A0.enc]) (fun x y=>by simp [A0.enc])
instance A0.l4:Ac A0.enc (A9.enc) 16 5 (fun x=>x.out) (fun x y=>{ x with out:=y }):=
 Ac.ER A9.fl (fun x=>AT x.state++AT x.AV++AI.enc x.Da++BN.enc x.Ax) (fun x=>EE x.told) (fun x=>by simp [BN.fl.len,AI.fl.len,Bm.len]) (fun x=>by simp [A0.enc]) (fun x y=>by simp [A0.enc])
instance A0.l5:Ac A0.enc (EE) 21 1 (fun x=>x.told) (fun x y=>{ x with told:=y }):=
 Ac.ER QT (fun x=>AT x.state++AT x.AV++AI.enc x.Da++BN.enc x.Ax++A9.enc x.out) (fun _=> []) (fun x=>by simp [BN.fl.len,A9.fl.len,AI.fl.len,Bm.len]) (fun x=>by simp [A0.enc]) (fun x y=>by simp [A0.enc])
structure AE where
 w:AD
 AP:QR A0 4
 Bp:Int
 last:Hd
def AE.enc (x:AE):List Value:=AD.enc x.w++BO A0.enc x.AP++AT x.Bp++EE x.last
instance AE.fl:Flat AE.enc 255:=⟨fun x=>by simp [AE.enc,(IY A0.fl).len,AD.fl.len,QT.len,Bm.len],fun x v hv=>by
 simp only [AE.enc,List.mem_append] at hv
 rcases hv with ((h | h) | h) | h
 ·exact AD.fl.one _ v h
 ·exact(IY A0.fl).one _ v h
 ·exact Bm.one _ v h
 ·exact QT.one _ v h⟩
instance AE.l0:Ac AE.enc (AD.enc) 0 165 (fun x=>x.w) (fun x y=>{ x with w:=y }):=
 Ac.ER AD.fl (fun _=> []) (fun x=>BO A0.enc x.AP++AT x.Bp++EE x.last) (fun _=>rfl) (fun x=>by simp [AE.enc]) (fun x y=>by simp [AE.enc])
instance AE.l1:Ac AE.enc (BO A0.enc) 165 88 (fun x=>x.AP) (fun x y=>{ x with AP:=y }):=
 Ac.ER (IY A0.fl) (fun x=>AD.enc x.w) (fun x=>AT x.Bp++EE x.last) (fun x=>by simp [AD.fl.len]) (fun x=>by simp [AE.enc]) (fun x y=>by simp [AE.enc])
instance AE.l2:Ac AE.enc (AT) 253 1 (fun x=>x.Bp) (fun x y=>{ x with Bp:=y }):=
 Ac.ER Bm (fun x=>AD.enc x.w++BO A0.enc x.AP) (fun x=>EE x.last) (fun x=>by simp [(IY A0.fl).len,AD.fl.len]) (fun x=>by simp [AE.enc]) (fun x y=>by simp [AE.enc])
instance AE.l3:Ac AE.enc (EE) 254 1 (fun x=>x.last) (fun x y=>{ x with last:=y }):=
 Ac.ER QT (fun x=>AD.enc x.w++BO A0.enc x.AP++AT x.Bp) (fun _=> []) (fun x=>by simp [(IY A0.fl).len,AD.fl.len,Bm.len]) (fun x=>by simp [AE.enc]) (fun x y=>by simp [AE.enc])
end Go.Ing
/- What a house does: plain functions. -/
namespace Go.Ing
open Go
structure Ak where
 state:Int
 AV:Int
 Da:AI
 now:AL
 long:Bool
 ret:Bool
 queue:List AL
 pg:Page.Pg
 wait:List AL
 told:List AL
instance:Inhabited Ak:=⟨⟨0,0,default,[],false,false,[],⟨0,false,[],false⟩,[],[]⟩⟩
structure AG where
 w:AD
 AP:Vector Ak 4
 Bp:Int
 last:List Event
namespace Ak
def P2 (s:Ak):Bool:=decide ((s.wait.length:Int)≤60) && decide ((s.pg.ring.length:Int)≤700) && decide (0≤s.pg.shown) && decide (s.pg.shown≤200)
def line (s:Ak)(u:AL):Ak:=
 if (!s.P2)=true then s else if s.pg.cut=true then s
 else if decide (60≤(s.wait.length:Int))=true then { s with pg:={ s.pg with cut:=true } } else { s with wait:=s.wait ++ [u] }
def note (s:Ak)(u:AL):Ak:=if (!s.pg.cut)=true then { s with told:=s.told ++ [u] } else s
def tell (s:Ak)(u:AL):Ak:=(s.line u).note u
def send (s:Ak)(u:AL):Ak:=if (!s.P2)=true then s else if s.pg.cut=true then s else { s with pg:=Page.put s.pg u }
def BJ (s:Ak):Ak:=
 if (!s.P2 || decide (s.Da.Bw < 0) || decide (200 < s.Da.Bw))=true then s
 else { s with pg:=(Page.BJ s.Da.Bw s.wait s.pg).1,wait:=(Page.BJ s.Da.Bw s.wait s.pg).2 }
def Ev (s:Ak):Ak:={ s with pg:={ s.pg with shown:=0,BL:=false } }
def iS (s:Ak)(n:Int):Nat:=(max 0 (min n (s.pg.ring.length:Int))).toNat
def Jl (s:Ak)(n:Int):Ak:={ s with pg:={ s.pg with ring:=s.pg.ring.drop (s.iS n) } }
def out (s:Ak)(n:Int):AL:=s.pg.ring.take (s.iS n)
def Lr (s:Ak):Bool:=
 !(decide (60 < (s.now.length:Int)) || decide (6 < (s.queue.length:Int)) || (s.long && decide (60 < (s.now.length:Int))) || (s.ret && (!decide (s.now = []) || s.long))) && (s.queue ++ [s.now]).all Aa.E2
def typed (s:Ak)(u:AL):Ak × Int:=
 if (!s.Lr)=true then(s,0)
 else
  let x:=Aa.feed ⟨s.now,s.long,s.ret,s.queue,0⟩ u
  ({ s with now:=x.now,long:=x.long,ret:=x.ret,queue:=x.queue },x.lost)
def bytes (s:Ak)(u:AL):Ak × AL:=({ s with Da:=(s.Da.CM u).1 }.send (s.Da.CM u).2.2.1,(s.Da.CM u).2.1)
def offer (s:Ak)(opt:Int):Ak:=
 if decide ((s.Da.Cu opt).2.1 = [])=true then { s with Da:=((s.Da.Cu opt).1.Ask opt).1 }.send ([]++((s.Da.Cu opt).1.Ask opt).2.1)
 else { s with Da:=(s.Da.Cu opt).1 }.send ((s.Da.Cu opt).2.1 ++ [])
end Ak
namespace AG
def at_ (H:AG)(k:Int):Ak:=H.AP.at k
def set (H:AG)(k:Int)(s:Ak):AG:={ H with AP:=H.AP.put k s }
def tell (H:AG)(k:Int)(u:AL):AG:=H.set k ((H.at_ k).tell u)
def CB (e:Event)(H:AG):Nat→AG
 | 0=>H
 | k+1=>if (!decide (((CB e H k).at_ k).state=2))=true then CB e H k else if (AD.tell e ((CB e H k).at_ k).AV).2=true then(CB e H k).tell k (AD.tell e ((CB e H k).at_ k).AV).1 else CB e H k
def Ix (H:AG)(l:List Event):AG:=l.foldl (fun X e=>CB e X 4) H
def Ft (H:AG)(l:List Event):AG:={ H with last:=H.last++l }.Ix l
def DN:Order:={ (default:Order) with verb:=20 }
def Vs (H:AG)(k:Int):AG:={ H with w:=(AA.Dk H.w (H.at_ k).AV DN).1 }
def leave (H:AG)(k:Int):AG:=
 (if (decide ((H.at_ k).state=2) && (H.w.AF.at (H.at_ k).AV).here)=true then((H.Vs k).set k default).Ft (AA.Dk H.w (H.at_ k).AV DN).2.1 else H).set k default
def CH (H:AG):Nat→AG × Bool
 | 0=>(H,false)
 | k+1=>
  if decide (((CH H k).1.at_ k).state=0)=true then CH H k
  else if (((CH H k).1.at_ k).BJ).pg.cut=true then(((CH H k).1.set k (((CH H k).1.at_ k).BJ)).leave k,true)
  else((CH H k).1.set k (((CH H k).1.at_ k).BJ),(CH H k).2)
def HV (H:AG):Nat→AG
 | 0=>H
 | n+1=>if (!(H.CH 4).2)=true then(H.CH 4).1 else(H.CH 4).1.HV n
def BJ (H:AG):AG:=H.HV 5
def CS:AL:= [87,104,111,32,97,114,101,32,121,111,117,63]
def Tl:AL:= [78,111,116,32,115,111,32,102,97,115,116,46]
def fp:AL:= [87,104,97,116,63]
def Sk:AL:= [84,104,97,116,32,105,115,32,110,111,32,110,97,109,101,46]
def noRoom:AL:= [84,104,101,114,101,32,105,115,32,110,111,32,114,111,111,109,46]
def QZ (H:AG)(k:Int):AG:=((H.set k ((({ (default:Ak) with state:=1,AV:=-1 }).offer 3).offer 31)).tell k CS).BJ
def named (H:AG)(k:Int)(u:AL):AG:=
 if decide ((AA.Ao H.w u).2.2.2=0)=true then({ H with w:=(AA.Ao H.w u).1 }.set k { H.at_ k with state:=2,AV:=(AA.Ao H.w u).2.1 }).Ft (AA.Ao H.w u).2.2.1
 else if decide ((AA.Ao H.w u).2.2.2=4)=true then H.tell k noRoom
 else H.tell k Sk
def order (H:AG)(k:Int)(u:AL):AG:=
 if (!decide ((Words.parse u).2=0))=true then H.tell k fp
 else if decide ((Words.parse u).1.verb=20)=true then H.leave k
 else { H with w:=(AA.Dk H.w (H.at_ k).AV (Words.parse u).1).1 }.Ft (AA.Dk H.w (H.at_ k).AV (Words.parse u).1).2.1
def Dy (H:AG)(k:Int):AG:=
 if decide ((H.at_ k).state=0)=true then H
 else match (H.at_ k).queue with
  | []=>H
  | q :: r=>
   let H1:=H.set k { H.at_ k with queue:=r }.Ev
   if (H.at_ k).pg.BL=true then H1
   else if decide ((H.at_ k).state=1)=true then H1.named k (Words.DH 32 (Words.Dx 32 q))
   else H1.order k q
def turns (H:AG):Nat→AG
 | 0=>H
 | k+1=>(turns H k).Dy k
def P4 (H:AG)(d:Int):AG:=
 let X:=H.turns 4
 ({ X with w:=(AA.BX X.w d).1 }.Ft (AA.BX X.w d).2.1).BJ
def Dz (H:AG):Nat→AG
 | 0=>H
 | k+1=>(Dz H k).set k { (Dz H k).at_ k with told:= [] }
def begun (H:AG):AG:={ H with Bp:=H.Bp+1,last:= [] }.Dz 4
def ok:Cg:=⟨0,[]⟩
def byte (H:AG)(k:Int)(u:AL):AG:=
 let s1:=(H.at_ k).bytes u
 let s2:=s1.1.typed s1.2
 ((if decide (0 < s2.2)=true then(H.set k s2.1).tell k Tl else H.set k s2.1)).BJ
def Ed (X:AG)(a:CD):AG × Cg:=
 if decide (a.kind=5)=true then(X.P4 a.n,ok)
 else if (decide (a.kind < 1) || decide (5 < a.kind))=true then(X,⟨5,[]⟩)
 else if (decide (a.AZ < 0) || decide (4≤a.AZ))=true then(X,⟨2,[]⟩)
 else if (decide ((X.at_ a.AZ).state=0) != decide (a.kind=1))=true then(X,⟨3,[]⟩)
 else if decide (a.kind=1)=true then(X.QZ a.AZ,ok)
 else if decide (a.kind=2)=true then(X.byte a.AZ a.bytes,ok)
 else if decide (a.kind=3)=true then((X.set a.AZ ((X.at_ a.AZ).Jl a.n)).BJ,⟨0,(X.at_ a.AZ).out a.n⟩)
 else((X.leave a.AZ).BJ,ok)
def act (H:AG)(a:CD):AG × Cg:=if decide (400≤H.Bp)=true then(H,⟨4,[]⟩) else H.begun.Ed a
def new:AG:=⟨AD.new,Vector.replicate 4 default,0,[]⟩
def run:AG→List CD→AG × List Cg
 | H,[]=>(H,[])
 | H,a :: l=>((run (H.act a).1 l).1,(H.act a).2 :: (run (H.act a).1 l).2)
end AG
end Go.Ing
/- Engine: several slices together; a seat of a house. -/
namespace Go.Ing
open Go
def AJ.CI (l:List AJ):AJ where
 Bn:=l.flatMap AJ.Bn
 ok w:=(∀ r∈l,r.ok w)∧l.Pairwise fun r s=>∀ b:Nat,b∈r.Bn→b ∉ s.Bn
 loc w w' h hw:=⟨fun r hr=>r.loc w w' (fun b hb=>h b (List.mem_flatMap.2 ⟨r,hr,hb⟩)) (hw.1 r hr),hw.2⟩
section
variable {w0 w:World} {M:List Nat} {l L:List AJ}
theorem St.eF (h:St w0 M w (AJ.CI l :: L)):St w0 M w (l++L):=by
 have hm:∀ r∈l,∀ b∈r.Bn,b∈(AJ.CI l).Bn:=fun r hr b hb=>List.mem_flatMap.2 ⟨r,hr,hb⟩
 have hf:=h.ok (AJ.CI l) (List.mem_cons_self ..)
 refine⟨h.os,h.tape,h.output,h.size,h.Il,fun r hr=>?_,fun r hr=>?_,List.pairwise_append.2 ⟨hf.2,(List.pairwise_cons.1 h.Ir).2,fun r hr s hs b hb=>(List.pairwise_cons.1 h.Ir).1 s hs b (hm r hr b hb)⟩⟩
 ·rcases List.mem_append.1 hr with hr | hr
  ·exact hf.1 r hr
  ·exact h.ok r (List.mem_cons_of_mem _ hr)
 ·rcases List.mem_append.1 hr with hr | hr
  ·exact fun b hb=>h.Bn _ (List.mem_cons_self ..) b (hm r hr b hb)
  ·exact h.Bn r (List.mem_cons_of_mem _ hr)
theorem St.eA (h:St w0 M w (l++L)):St w0 M w (AJ.CI l :: L):=by
 have hd:=List.pairwise_append.1 h.Ir
 refine⟨h.os,h.tape,h.output,h.size,h.Il,fun r hr=>?_,fun r hr=>?_,List.pairwise_cons.2 ⟨fun s hs b hb=>?_,hd.2.1⟩⟩
 ·rcases List.mem_cons.1 hr with rfl | hr
  ·exact⟨fun r hr=>h.ok r (List.mem_append_left _ hr),hd.1⟩
  ·exact h.ok r (List.mem_append_right _ hr)
 ·rcases List.mem_cons.1 hr with rfl | hr
  ·intro b hb
   obtain⟨r,hr,hb'⟩:=List.mem_flatMap.1 hb
   exact h.Bn r (List.mem_append_left _ hr) b hb'
  ·exact h.Bn r (List.mem_append_right _ hr)
 ·obtain⟨r,hr,hb'⟩:=List.mem_flatMap.1 hb
  exact hd.2.2 r hr s hs b hb'
end
structure Ae where
 queue:List AL
 wait:List AL
 told:List AL
 deriving Inhabited
def FH (T:Nat)(v:A0)(l:Ae):List AJ:= [AJ.own v.Ax.queue T 1 (l.queue.flatMap AX),AJ.own v.out.wait T 1 (l.wait.flatMap AX),AJ.own v.told T 1 (l.told.flatMap AX)]
def BB (T:Nat)(vs:Vector A0 4)(ls:Vector Ae 4):List AJ:=FH T (vs.at 0) (ls.at 0)++(FH T (vs.at 1) (ls.at 1)++(FH T (vs.at 2) (ls.at 2)++FH T (vs.at 3) (ls.at 3)))
def Gf (T:Nat)(k:Int)(vs:Vector A0 4)(ls:Vector Ae 4):List AJ:=
 if k=0 then FH T (vs.at 1) (ls.at 1)++(FH T (vs.at 2) (ls.at 2)++FH T (vs.at 3) (ls.at 3))
 else if k=1 then FH T (vs.at 0) (ls.at 0)++(FH T (vs.at 2) (ls.at 2)++FH T (vs.at 3) (ls.at 3))
 else if k=2 then FH T (vs.at 0) (ls.at 0)++(FH T (vs.at 1) (ls.at 1)++FH T (vs.at 3) (ls.at 3))
 else FH T (vs.at 0) (ls.at 0)++(FH T (vs.at 1) (ls.at 1)++FH T (vs.at 2) (ls.at 2))
theorem Jf {α:Type}(a b c:List α):(a++(b++c)).Perm (b++(a++c)):=by
 rw [← List.append_assoc,← List.append_assoc]
 exact List.perm_append_comm.append_right c
theorem four {k:Int}(h0:0≤k)(h1:k < 4):k=0∨k=1∨k=2∨k=3:=by omega
theorem NG (T:Nat){k:Int}(h0:0≤k)(h1:k < 4)(vs:Vector A0 4)(ls:Vector Ae 4):(BB T vs ls).Perm (FH T (vs.at k) (ls.at k)++Gf T k vs ls):=by
 unfold BB Gf
 rcases four h0 h1 with e | e | e | e<;>subst e
 ·exact .refl _
 ·exact Jf _ _ _
 ·exact((Jf _ _ _).append_left _).trans (Jf _ _ _)
 ·exact(((List.perm_append_comm).append_left _).append_left _).trans (((Jf _ _ _).append_left _).trans (Jf _ _ _))
theorem Xo (T:Nat){k:Int}(h0:0≤k)(h1:k < 4)(vs:Vector A0 4)(ls:Vector Ae 4)(v:A0)(l:Ae):Gf T k (vs.put k v) (ls.put k l)=Gf T k vs ls:=by
 have hv:∀ i:Int,0≤i→i≠k→(vs.put k v).at i=vs.at i:=fun i hi hn=>Vector.EK h0 h1 hi hn
 have hl:∀ i:Int,0≤i→i≠k→(ls.put k l).at i=ls.at i:=fun i hi hn=>Vector.EK h0 h1 hi hn
 unfold Gf
 rcases four h0 h1 with e | e | e | e<;>subst e
 ·rw [if_pos rfl,if_pos rfl,hv 1 (by decide) (by decide),hv 2 (by decide) (by decide),hv 3 (by decide) (by decide),hl 1 (by decide) (by decide),hl 2 (by decide) (by decide),hl 3 (by decide) (by decide)]
 ·rw [if_neg (by decide),if_pos rfl,if_neg (by decide),if_pos rfl,hv 0 (by decide) (by decide),hv 2 (by decide) (by decide),hv 3 (by decide) (by decide),hl 0 (by decide) (by decide),hl 2 (by decide) (by decide),hl 3 (by decide) (by decide)]
 ·rw [if_neg (by decide),if_neg (by decide),if_pos rfl,if_neg (by decide),if_neg (by decide),if_pos rfl,hv 0 (by decide) (by decide),hv 1 (by decide) (by decide),hv 3 (by decide) (by decide),hl 0 (by decide) (by decide),hl 1 (by decide) (by decide),hl 3 (by decide) (by decide)]
 ·rw [if_neg (by decide),if_neg (by decide),if_neg (by decide),if_neg (by decide),if_neg (by decide),if_neg (by decide),hv 0 (by decide) (by decide),hv 1 (by decide) (by decide),hv 2 (by decide) (by decide),hl 0 (by decide) (by decide),hl 1 (by decide) (by decide),hl 2 (by decide) (by decide)]
def AE.AZ (V:AE)(k:Int)(s:A0):AE:={ V with AP:=V.AP.put k s }
def Fw (V:AE)(k:Int)(s:A0):List Value:=(V.AZ k s).enc
theorem Ac.AZ (V:AE){k:Int}(h0:0≤k)(h1:k < 4):Ac (Fw V k) A0.enc (165+k.toNat * 22) 22 (fun s=>s) (fun _ y=>y):=by
 have hl:=AE.l1.comp (Ac.arr (n:=4) A0.fl h0 h1)
 refine⟨fun x=>?_,hl.len,fun x=>hl.Yn _,fun x y=>?_,hl.one⟩
 ·have:=hl.get (V.AZ k x)
  rw [show((V.AZ k x).AP.at k)=x from Vector.Bi h0 h1] at this
  exact this
 ·have:=hl.set (V.AZ k x) y
  rw [show({ V.AZ k x with AP:=(V.AZ k x).AP.put k y }:AE)=V.AZ k y from by unfold AE.AZ;rw [Vector.EY]] at this
  exact this
theorem Vector.MW {α:Type}[Inhabited α]{n:Nat}(v:Vector α n){k:Int}(h0:0≤k)(h1:k < n):v.put k (v.at k)=v:=by
 apply Ob
 intro i i0 i1
 by_cases e:i=k
 ·subst e;rw [Vector.Bi h0 h1]
 ·rw [Vector.EK h0 h1 i0 e]
theorem AE.K7 (V:AE){k:Int}(h0:0≤k)(h1:k < 4):V.AZ k (V.AP.at k)=V:=by
 unfold AE.AZ;rw [Vector.MW _ h0 h1]
def Bz (v:A0)(l:Ae):Ak:=⟨v.state,v.AV,v.Da,v.Ax.now,v.Ax.long,v.Ax.ret,l.queue,Page.of v.out,l.wait,l.told⟩
def AO (V:AE)(ls:Vector Ae 4)(ev:List Event):AG:=⟨V.w,Vector.ofFn fun i=>Bz (V.AP.at ((i:Nat):Int)) (ls.at ((i:Nat):Int)),V.Bp,ev⟩
theorem Bu (V:AE)(ls:Vector Ae 4)(ev:List Event){k:Int}(h0:0≤k)(h1:k < 4):(AO V ls ev).at_ k=Bz (V.AP.at k) (ls.at k):=by
 rcases four h0 h1 with e | e | e | e<;>subst e<;>rfl
theorem F3 (V:AE)(ls:Vector Ae 4)(ev:List Event){k:Int}(h0:0≤k)(h1:k < 4)(v:A0)(l:Ae):AO (V.AZ k v) (ls.put k l) ev=(AO V ls ev).set k (Bz v l):=by
 unfold AO AG.set AE.AZ
 congr 1
 apply Ob
 intro i i0 i1
 have hof:∀(f:Fin 4→Ak),(Vector.ofFn f).at i=f ⟨i.toNat,by omega⟩:=fun f=>by
  rcases four i0 i1 with e | e | e | e<;>subst e<;>rfl
 rw [hof]
 have hi:((i.toNat:Nat):Int)=i:=by omega
 by_cases e:i=k
 ·subst e
  rw [Vector.Bi h0 h1]
  show Bz ((V.AP.put i v).at ((i.toNat:Nat):Int)) ((ls.put i l).at ((i.toNat:Nat):Int))=_
  rw [hi,Vector.Bi h0 h1,Vector.Bi h0 h1]
 ·rw [Vector.EK h0 h1 i0 e,hof]
  show Bz ((V.AP.put k v).at ((i.toNat:Nat):Int)) ((ls.put k l).at ((i.toNat:Nat):Int))=Bz (V.AP.at ((i.toNat:Nat):Int)) (ls.at ((i.toNat:Nat):Int))
  rw [hi,Vector.EK h0 h1 i0 e,Vector.EK h0 h1 i0 e]
section
variable {P:Program} {n:Nat} {w0 w:World} {M:List Nat} {Q:Exit→Go.Act→World→Prop} {F:List (Nat × Value)} {L K:List AJ} {cd:Code} {b T TS:Nat} {V:AE} {ls:Vector Ae 4} {k:Int}
theorem St.ij (h0:0≤k)(h1:k < 4)(h:St w0 M w (AJ.box b T V.enc :: AJ.CI (BB TS V.AP ls) :: K)) :
  St w0 M w (AJ.own (V.AP.at k).Ax.queue TS 1 ((ls.at k).queue.flatMap AX) :: AJ.own (V.AP.at k).out.wait TS 1 ((ls.at k).wait.flatMap AX) :: AJ.own (V.AP.at k).told TS 1 ((ls.at k).told.flatMap AX) :: AJ.box b T (Fw V k (V.AP.at k)) :: AJ.CI (Gf TS k V.AP ls) :: K):=by
 have h2:St w0 M w (BB TS V.AP ls++(AJ.box b T V.enc :: K)):=(h.perm (List.Perm.swap ..)).eF
 have h3:=h2.perm ((NG TS h0 h1 V.AP ls).append_right _)
 have h4:St w0 M w (Gf TS k V.AP ls++(FH TS (V.AP.at k) (ls.at k)++(AJ.box b T V.enc :: K))):=by
  refine h3.perm ?_
  rw [List.append_assoc]
  exact Jf _ _ _
 have h5:=h4.eA
 unfold Fw
 rw [V.K7 h0 h1]
 refine h5.perm ?_
 exact(Jf [AJ.CI (Gf TS k V.AP ls)] (FH TS (V.AP.at k) (ls.at k) ++ [AJ.box b T V.enc]) K).trans (.of_eq (by simp [FH]))
theorem St.close' (h0:0≤k)(h1:k < 4){s:A0}{qs ws ts:List AL}{q w' t:Hd}(hq:s.Ax.queue=q)(hw:s.out.wait=w')(ht:s.told=t)
  (h:St w0 M w (AJ.own q TS 1 (qs.flatMap AX) :: AJ.own w' TS 1 (ws.flatMap AX) :: AJ.own t TS 1 (ts.flatMap AX) :: AJ.box b T (Fw V k s) :: AJ.CI (Gf TS k V.AP ls) :: K)) :
  St w0 M w (AJ.box b T (V.AZ k s).enc :: AJ.CI (BB TS (V.AZ k s).AP (ls.put k ⟨qs,ws,ts⟩)) :: K):=by
 subst hq hw ht
 have e1:(V.AZ k s).AP.at k=s:=Vector.Bi h0 h1
 have e2:(ls.put k ⟨qs,ws,ts⟩).at k=⟨qs,ws,ts⟩:=Vector.Bi h0 h1
 have hp:=NG TS h0 h1 (V.AZ k s).AP (ls.put k ⟨qs,ws,ts⟩)
 rw [e1,e2,show Gf TS k (V.AZ k s).AP (ls.put k ⟨qs,ws,ts⟩)=Gf TS k V.AP ls from Xo TS h0 h1 _ _ _ _] at hp
 have h2:St w0 M w (AJ.CI (Gf TS k V.AP ls) :: (FH TS s ⟨qs,ws,ts⟩++(AJ.box b T (V.AZ k s).enc :: K))):=
  h.perm ((Jf [AJ.CI (Gf TS k V.AP ls)] (FH TS s ⟨qs,ws,ts⟩ ++ [AJ.box b T (V.AZ k s).enc]) K).symm.trans (.of_eq (by simp [FH]))|>.symm.symm)
 have h3:=h2.eF
 have h4:St w0 M w ((FH TS s ⟨qs,ws,ts⟩++Gf TS k V.AP ls)++(AJ.box b T (V.AZ k s).enc :: K)):=h3.perm (by rw [List.append_assoc];exact Jf _ _ _)
 have h5:=(h4.perm (hp.symm.append_right _)).eA
 exact h5.perm (List.Perm.swap ..)
theorem Cj (h0:0≤k)(h1:k < 4)(h:∀ s l,V.AP.at k=s→ls.at k=l→(s.Ax.queue.len=l.queue.length∧s.out.wait.len=l.wait.length∧s.told.len=l.told.length)→G P n w0 M cd Q F (AJ.own s.Ax.queue TS 1 (l.queue.flatMap AX) :: AJ.own s.out.wait TS 1 (l.wait.flatMap AX) :: AJ.own s.told TS 1 (l.told.flatMap AX) :: AJ.box b T (Fw V k s) :: AJ.CI (Gf TS k V.AP ls) :: K)) :
  G P n w0 M cd Q F (AJ.box b T V.enc :: AJ.CI (BB TS V.AP ls) :: K):=fun a w hF hS=>
 have hO:=hS.ij h0 h1
 h _ _ rfl rfl ⟨(Kn.own (.head _) w hO).Gh Cr (by decide),(Kn.own (.tail _ (.head _)) w hO).Gh Cr (by decide),(Kn.own (.tail _ (.tail _ (.head _))) w hO).Gh Cr (by decide)⟩ a w hF hO
theorem Ct (h0:0≤k)(h1:k < 4){s:A0}{qs ws ts:List AL}{q w' t:Hd}(hq:s.Ax.queue=q)(hw:s.out.wait=w')(ht:s.told=t)(h:G P n w0 M cd Q F (AJ.box b T (V.AZ k s).enc :: AJ.CI (BB TS (V.AZ k s).AP (ls.put k ⟨qs,ws,ts⟩)) :: K)) :
  G P n w0 M cd Q F (AJ.own q TS 1 (qs.flatMap AX) :: AJ.own w' TS 1 (ws.flatMap AX) :: AJ.own t TS 1 (ts.flatMap AX) :: AJ.box b T (Fw V k s) :: AJ.CI (Gf TS k V.AP ls) :: K):=fun a w hF hS=>h a w hF (hS.close' h0 h1 hq hw ht)
theorem MB {x:Exit}(h0:0≤k)(h1:k < 4){s:A0}{qs ws ts:List AL}{q w' t:Hd}(hq:s.Ax.queue=q)(hw:s.out.wait=w')(ht:s.told=t)(h:GQ n w0 M Q x F (AJ.box b T (V.AZ k s).enc :: AJ.CI (BB TS (V.AZ k s).AP (ls.put k ⟨qs,ws,ts⟩)) :: K)) :
  GQ n w0 M Q x F (AJ.own q TS 1 (qs.flatMap AX) :: AJ.own w' TS 1 (ws.flatMap AX) :: AJ.own t TS 1 (ts.flatMap AX) :: AJ.box b T (Fw V k s) :: AJ.CI (Gf TS k V.AP ls) :: K):=fun a w hF hS=>h a w hF (hS.close' h0 h1 hq hw ht)
end
theorem B4 {V:AE}{ls:Vector Ae 4}{ev:List Event}{k:Int}(h0:0≤k)(h1:k < 4){s v:A0}{l l':Ae}(hs:V.AP.at k=s)(hl:ls.at k=l){f:Ak→Ak}(e:Bz v l'=f (Bz s l)):AO (V.AZ k v) (ls.put k l') ev=(AO V ls ev).set k (f ((AO V ls ev).at_ k)):=by
 rw [F3 V ls ev h0 h1,Bu V ls ev h0 h1,hs,hl,e]
theorem Jg {v:A0}{l:Ae}(h:v.out.wait.len=l.wait.length):(Bz v l).P2=Page.A5 v.out:=by
 unfold Ak.P2 Page.A5
 rw [h];rfl
end Go.Ing
/- A house: plain laws for the walks. -/
namespace Go.Ing
open Go
theorem UK {v:A0}{l:Ae}{u:AL}(hw:v.out.wait.len=l.wait.length)(h:Page.A5 v.out=false):(Bz v l).line u=Bz v l:=if_pos (by rw [Jg hw,h];rfl)
theorem UL {v:A0}{l:Ae}{u:AL}(hw:v.out.wait.len=l.wait.length)(h:Page.A5 v.out=true)(c:v.out.cut=true):(Bz v l).line u=Bz v l:=(if_neg (by rw [Jg hw,h];decide)).trans (if_pos c)
theorem RD {v:A0}{l:Ae}{u:AL}(hw:v.out.wait.len=l.wait.length)(h:Page.A5 v.out=true)(c:v.out.cut=false)(n:60≤l.wait.length):(Bz v l).line u=Bz { v with out:=⟨v.out.wait,v.out.shown,v.out.BL,v.out.ring,true⟩ } l:=
 (if_neg (by rw [Jg hw,h];decide)).trans ((if_neg (by show ¬ v.out.cut=true;rw [c];decide)).trans (if_pos (decide_eq_true (show(60:Int)≤(l.wait.length:Int) by omega))))
theorem RE {v:A0}{l:Ae}{u:AL}(hw:v.out.wait.len=l.wait.length)(h:Page.A5 v.out=true)(c:v.out.cut=false)(n:l.wait.length < 60)(w:Hd):(Bz v l).line u=Bz { v with out:=⟨w,v.out.shown,v.out.BL,v.out.ring,v.out.cut⟩ } ⟨l.queue,l.wait ++ [u],l.told⟩:=
 (if_neg (by rw [Jg hw,h];decide)).trans ((if_neg (by show ¬ v.out.cut=true;rw [c];decide)).trans (if_neg (by rw [decide_eq_true_eq];show ¬ (60:Int)≤(l.wait.length:Int);omega)))
theorem aI {v:A0}{l:Ae}{u:AL}(h:(!v.out.cut)=true)(t:Hd):(Bz v l).note u=Bz { v with told:=t } ⟨l.queue,l.wait,l.told ++ [u]⟩:=if_pos h
theorem aH {v:A0}{l:Ae}{u:AL}(h:(!v.out.cut)=false):(Bz v l).note u=Bz v l:=if_neg (by show ¬ (!v.out.cut)=true;rw [h];decide)
theorem AG.GC (H:AG){k j:Int}(h0:0≤k)(h1:k < 4)(j0:0≤j)(s:Ak):(H.set k s).at_ j=if j=k then s else H.at_ j:=by
 unfold AG.set AG.at_
 by_cases e:j=k
 ·subst e;rw [if_pos rfl];exact Vector.Bi h0 h1
 ·rw [if_neg e];exact Vector.EK h0 h1 j0 e
theorem BQ (s:Ak)(u:AL):(s.tell u).told.length≤s.told.length+1:=by
 have h:(s.line u).told=s.told:=by
  unfold Ak.line;split
  ·rfl
  ·split
   ·rfl
   ·split<;>rfl
 unfold Ak.tell Ak.note
 split
 ·show((s.line u).told ++ [u]).length≤_
  rw [h,List.length_append];exact Nat.le_refl _
 ·rw [h];exact Nat.le_succ _
theorem GF {V V':AE}{ls ls':Vector Ae 4}{ev ev':List Event}{k:Int}{u:AL}(h0:0≤k)(h1:k < 4)(e:AO V' ls' ev'=(AO V ls ev).tell k u){j:Int}(j0:0≤j)(j1:j < 4) :
  (ls'.at j).told.length≤(ls.at j).told.length+1∧(j≠k→(ls'.at j).told=(ls.at j).told):=by
 have h:=congrArg (fun H=>(AG.at_ H j).told) e
 simp only [AG.tell] at h
 rw [Bu _ _ _ j0 j1,AG.GC _ h0 h1 j0] at h
 have h':(ls'.at j).told=(if j=k then((AO V ls ev).at_ k).tell u else(AO V ls ev).at_ j).told:=h
 by_cases c:j=k
 ·subst c
  rw [if_pos rfl,Bu _ _ _ j0 j1] at h'
  exact⟨by rw [h'];exact BQ _ _,fun hn=>absurd rfl hn⟩
 ·rw [if_neg c,Bu _ _ _ j0 j1] at h'
  exact⟨by rw [h'];exact Nat.le_succ _,fun _=>h'⟩
theorem F8 {V:AE}{ls:Vector Ae 4}{ev:List Event}{e:Event}{X:AG}{i:Int}(h0:0≤i)(h1:i < 4)(h:AO V ls ev=AG.CB e X i.toNat):AG.CB e X (i+1).toNat=if (!decide ((V.AP.at i).state=2))=true then AO V ls ev else if (AD.tell e (V.AP.at i).AV).2=true then(AO V ls ev).tell i (AD.tell e (V.AP.at i).AV).1 else AO V ls ev:=by
 obtain⟨m,rfl⟩:=Int.eq_ofNat_of_zero_le h0
 have ha:=Bu V ls ev h0 h1
 rw [show((m:Int)+1).toNat=m+1 by omega,AG.CB]
 rw [show((m:Int)).toNat=m by omega] at h
 rw [← h,ha]
 rfl
theorem PT {H:AG}{es:List Event}{k:Int}(h0:0≤k)(h1:k < es.length):H.Ix (es.take (k+1).toNat)=AG.CB (es.getD k.toNat default) (H.Ix (es.take k.toNat)) 4:=by
 obtain⟨m,rfl⟩:=Int.eq_ofNat_of_zero_le h0
 have hm:m < es.length:=by omega
 show H.Ix (es.take (m+1))=AG.CB (es.getD m default) (H.Ix (es.take m)) 4
 unfold AG.Ix
 rw [List.take_add_one,List.getElem?_eq_getElem hm,List.foldl_append,List.getD_eq_getElem?_getD,List.getElem?_eq_getElem hm]
 rfl
def TO (ls:Vector Ae 4)(n:Nat):Prop:=∀ j:Int,0≤j→j < 4→(ls.at j).told.length≤n
theorem Tz {H:AG}{ev es:List Event}(h:H.last=ev):AG.Ft H es=({ H with last:=ev++es }:AG).Ix es:=by subst h;rfl
end Go.Ing
/- What is said in a land of short names is short: plain laws. -/
namespace Go.Ing
open Go
namespace AD
structure Mz (w:AD):Prop where
 th:∀ i,(w.AH.at i).name.length≤100
 be:∀ i,(w.AF.at i).name.length≤100
 ro:∀ i,(w.Ad.at i).name.length≤100
theorem Mz.Gb {w:AD}(h:w.Mz):w.Cs:=⟨fun i=>Nat.le_trans (h.th i) (by decide),fun i=>Nat.le_trans (h.be i) (by decide),fun i=>Nat.le_trans (h.ro i) (by decide)⟩
theorem bT {X:AD}(h:X.Mz){i:Int}{t:A3}(ht:t.name.length≤100):(X.I2 i t).Mz:=⟨fun j=>by
 rcases Vector.Qu X.AH i j t with e | e
 ·show((X.AH.put i t).at j).name.length≤_;rw [e];exact ht
 ·show((X.AH.put i t).at j).name.length≤_;rw [e];exact h.th j,h.be,h.ro⟩
theorem JG {X:AD}(h:X.Mz){i:Int}{t:A6}(ht:t.name.length≤100):(X.Bb i t).Mz:=⟨h.th,fun j=>by
 rcases Vector.Qu X.AF i j t with e | e
 ·show((X.AF.put i t).at j).name.length≤_;rw [e];exact ht
 ·show((X.AF.put i t).at j).name.length≤_;rw [e];exact h.be j,h.ro⟩
theorem bS {X:AD}(h:X.Mz){r d:Int}{v:Bool}:(X.P5 r d v).Mz:=⟨h.th,h.be,fun j=>by
 rcases Vector.Qu X.Ad r j { X.Ad.at r with shut:=(X.Ad.at r).shut.put d v } with e | e
 ·show((X.Ad.put r _).at j).name.length≤_;rw [e];exact h.ro r
 ·show((X.Ad.put r _).at j).name.length≤_;rw [e];exact h.ro j⟩
end AD
namespace AA
structure CQ (T:AA):Prop where
 Fp:T.w.Mz
 out:∀ e∈T.out,AD.Small e
theorem NL {w:AD}(hw:w.Mz):∀(l:List Int) (s:AL),(CX w s l).length≤s.length+l.length * 102
 | [],s=>by simp [CX]
 | i :: r,s=>by
  have hn:=hw.th i
  unfold CX
  split
  ·have:=NL hw r (s ++ [32]++(w.AH.at i).name ++ [42])
   simp only [List.length_append,List.length_cons,List.length_nil] at this ⊢
   omega
  ·have:=NL hw r (s ++ [32]++(w.AH.at i).name)
   simp only [List.length_append,List.length_cons,List.length_nil] at this ⊢
   omega
theorem Nc:(default:A6).name.length≤100:=by decide
section
variable {T:AA}
theorem CQ.Am (h:CQ T){e:Event}(h1:e.AQ.length≤1000000)(h2:e.text.length≤1000000)(h3:e.D7.length≤1000000)(h4:-9223372036854775808≤e.n)(h5:e.n≤9223372036854775807):CQ (T.Am e):=by
 refine⟨h.Fp,fun x hx=>?_⟩
 rcases List.mem_append.1 (show x∈T.out ++ [T.w.GZ (T.DT e) 6] from hx) with hx | hx
 ·exact h.out x hx
 ·have hx':x=T.w.GZ (T.DT e) 6:=by simpa using hx
  subst hx'
  obtain⟨a1,a2,a3,a4,a5,a6,a7,a8,a9⟩:=AD.M4 T.w (T.DT e) 6
  have e2:(T.DT e).n=e.n∧(T.DT e).CS=T.me.name∧(T.DT e).D7.length≤1000000∧(T.DT e).AQ=e.AQ∧(T.DT e).text=e.text:=by
   unfold DT
   split
   ·exact⟨rfl,rfl,Nat.le_trans (h.Fp.be _) (by decide),rfl,rfl⟩
   ·exact⟨rfl,rfl,h3,rfl,rfl⟩
  obtain⟨b4,b5,b6,b7,b8⟩:=e2
  refine⟨?_,?_,?_,?_,?_,?_⟩
  ·rw [a6,b5];exact Nat.le_trans (h.Fp.be T.b) (by decide)
  ·rw [a7];exact Nat.le_trans b6 (by decide)
  ·rw [a8,b7];exact Nat.le_trans h1 (by decide)
  ·rw [a9,b8];exact Nat.le_trans h2 (by decide)
  ·rw [a5,b4];exact h4
  ·rw [a5,b4];exact h5
theorem CQ.tell (h:CQ T){s:AL}(hs:s.length≤1000000):CQ (T.tell s):=h.Am (Nat.zero_le _) hs (Nat.zero_le _) (show(-9223372036854775808:Int)≤0 by decide) (show(0:Int)≤9223372036854775807 by decide)
theorem CQ.kind (h:CQ T)(k:Int):CQ (T.kind k):=h.Am (Nat.zero_le _) (Nat.zero_le _) (Nat.zero_le _) (show(-9223372036854775808:Int)≤0 by decide) (show(0:Int)≤9223372036854775807 by decide)
theorem CQ.AQ (h:CQ T)(k i:Int):CQ (T.AQ k i):=h.Am (Nat.le_trans (h.Fp.th i) (by decide)) (Nat.zero_le _) (Nat.zero_le _) (show(-9223372036854775808:Int)≤0 by decide) (show(0:Int)≤9223372036854775807 by decide)
theorem CQ.land (h:CQ T){w':AD}(ht:w'.Mz):CQ { T with w:=w' }:=⟨ht,h.out⟩
theorem CQ.Co (h:CQ T){i:Int}{t:A3}(ht:t.name=(T.w.AH.at i).name):CQ (T.Co i t):=h.land (w':=T.w.I2 i t) (AD.bT h.Fp (by rw [ht];exact h.Fp.th i))
theorem CQ.place (h:CQ T)(i BZ at_:Int):CQ (T.place i BZ at_):=h.Co rfl
theorem CQ.BW (h:CQ T)(k f:Int):CQ (T.BW k f):=h.land (w':=T.w.Bb k { T.w.AF.at k with A2:=f }) (AD.JG h.Fp (h.Fp.be k))
theorem CQ.Cy (h:CQ T)(k:Int){x:A6}(hx:x.name.length≤100):CQ (T.Cy k x):=h.land (w':=T.w.Bb k x) (AD.JG h.Fp hx)
theorem CQ.B0 (h:CQ T)(r d:Int)(v:Bool):CQ (T.B0 r d v):=h.land (w':=T.w.P5 r d v) (AD.bS h.Fp)
theorem CQ.Ha (h:CQ T)(r:Int):CQ (T.Ha r):=h.land (w':=T.w.Bb T.b { T.me with room:=r,A2:=0 }) (AD.JG h.Fp (h.Fp.be T.b))
theorem CQ.list (h:CQ T){s:AL}(hs:s.length≤100){l:List Int}(hl:l.length≤9):CQ (T.list s l):=by
 refine h.tell ?_
 have:=NL h.Fp l s
 unfold RH
 split<;>simp only [List.length_append,List.length_cons,List.length_nil]<;>omega
theorem CQ.look (h:CQ T):CQ T.look:=by
 have hk:∀ {T':AA},CQ T'→∀ k:Nat,CQ (T'.D5 k):=fun {T'} h' k=>by
  induction k with
  | zero=>exact h'
  | succ k ih=>
   unfold D5
   split
   ·exact ih.tell (by
     have:=ih.Fp.be k
     have e:(T'.D5 k).w=T'.w:=(HJ T' k).1
     rw [e] at this
     simp only [List.length_append,List.length_cons,List.length_nil];omega)
   ·exact ih
 unfold AA.look
 split
 ·exact h.tell (by show([73,116,32,105,115,32,100,97,114,107,46]:AL).length≤_;decide)
 ·refine hk ?_ 6
  have ha:CQ T.D6:=(h.tell (by
   have:=h.Fp.ro T.me.room
   simp only [List.length_append,List.length_cons,List.length_nil];omega)).tell (by
   have:=GH (T.w.Ad.at T.me.room) 6
   omega)
  unfold BU
  split
  ·exact ha.list (by decide) (AD.F7 ..)
  ·exact ha
theorem CQ.walk (h:CQ T)(d:Int):CQ (T.walk d):=by
 unfold AA.walk
 split
 ·exact h.tell (by decide)
 ·split
  ·exact h.tell (by decide)
  ·have i1:CQ (T.Am { Dn 1 with dir:=d }):=h.Am (Nat.zero_le _) (Nat.zero_le _) (Nat.zero_le _) (show(-9223372036854775808:Int)≤0 by decide) (show(0:Int)≤9223372036854775807 by decide)
   exact((i1.Ha _).Am (e:={ Dn 2 with dir:=AD.opposite d }) (Nat.zero_le _) (Nat.zero_le _) (Nat.zero_le _) (show(-9223372036854775808:Int)≤0 by decide) (show(0:Int)≤9223372036854775807 by decide)).look
theorem CQ.box (h:CQ T)(u:AL):CQ (T.box u).1:=by
 unfold AA.box
 split
 ·exact h.tell (by decide)
 ·split
  ·exact h.tell (by decide)
  ·exact h
theorem CQ.AU (h:CQ T)(u:AL):CQ (T.AU u).1:=by
 unfold AA.AU
 split
 ·split
  ·exact h
  ·exact h.tell (by decide)
 ·exact h.tell (by decide)
theorem CQ.CL (l:List Int):∀ {T':AA},CQ T'→CQ (T'.CL l):=by
 induction l with
 | nil=>exact fun h=>h
 | cons i r ih=>exact fun {T'} h=>ih ((h.place i 1 T'.b).AQ 3 i)
theorem CQ.PJ (h:CQ T)(l:List Int)(o:Order):CQ (T.PJ l o):=by
 unfold AA.PJ
 refine CQ.CL _ ?_
 split
 ·exact h.tell (by decide)
 ·exact h
theorem CQ.get (h:CQ T)(o:Order):CQ (T.get o):=by
 unfold AA.get
 split
 ·split
  ·exact h.box _
  ·exact(h.box _).PJ _ _
 ·exact h.PJ _ _
theorem CQ.Bf (h:CQ T)(v to i:Int):CQ (T.Bf v to i):=by
 unfold AA.Bf
 split
 ·exact h.tell (by decide)
 ·split
  ·exact(h.place _ _ _).AQ _ _
  ·split
   ·exact(h.place i 1 to).Am (e:={ Dn 6 with other:=to,AQ:=(T.w.AH.at i).name }) (Nat.le_trans (h.Fp.th i) (by decide)) (Nat.zero_le _) (Nat.zero_le _) (show(-9223372036854775808:Int)≤0 by decide) (show(0:Int)≤9223372036854775807 by decide)
   ·split
    ·exact h.tell (by decide)
    ·exact(h.place i 2 to).Am (e:={ Dn 5 with AQ:=(T.w.AH.at i).name,text:=(T.w.AH.at to).name }) (Nat.le_trans (h.Fp.th i) (by decide)) (Nat.le_trans (h.Fp.th to) (by decide)) (Nat.zero_le _) (show(-9223372036854775808:Int)≤0 by decide) (show(0:Int)≤9223372036854775807 by decide)
theorem CQ.Fb {v to:Int}(l:List Int):∀ {T':AA},CQ T'→CQ (T'.Fb v to l):=by
 induction l with
 | nil=>exact fun h=>h
 | cons i r ih=>exact fun h=>ih (h.Bf v to i)
theorem CQ.EM (h:CQ T)(o:Order):CQ (T.EM o):=by
 have ht:CQ (T.B3 o).1:=by
  unfold B3
  split
  ·exact h.box _
  ·split
   ·exact h.AU _
   ·exact h
 unfold AA.EM
 split
 ·exact ht
 ·unfold Xx
  refine CQ.Fb _ ?_
  split
  ·exact ht.tell (by decide)
  ·exact ht
theorem CQ.FY (h:CQ T)(o:Order):CQ (T.FY o):=by
 unfold AA.FY
 generalize (if (!decide (o.nth=1) || o.An)=true then [] else o.name)=nm
 have hs:=h.AU nm
 split
 ·exact hs
 ·refine CQ.tell ?_ (by decide)
  split
  ·exact(hs.BW _ _).BW _ _
  ·exact hs.BW _ _
theorem CQ.before (h:CQ T)(first:Bool)(i:Int)(v:Bool)(k:Int):CQ (T.before first i v k):=by
 unfold AA.before
 split
 ·exact(CQ.Co h (i:=i) (t:={ T.w.AH.at i with on:=v }) rfl).AQ _ _
 ·exact(h.AQ k i).Co rfl
theorem CQ.Hr (h:CQ T)(d:Int)(on:Bool)(k:Int):CQ (T.Hr d on k):=by
 unfold AA.Hr
 split
 ·exact h.tell (by decide)
 ·split
  ·exact h.tell (by decide)
  ·refine CQ.Am ?_ (by show([100,111,111,114]:AL).length≤1000000;decide) (Nat.zero_le _) (Nat.zero_le _) (show(-9223372036854775808:Int)≤0 by decide) (show(0:Int)≤9223372036854775807 by decide)
   split
   ·exact(h.B0 _ _ _).B0 _ _ _
   ·exact h.B0 _ _ _
theorem CQ.set (h:CQ T)(o:Order):CQ (T.set o):=by
 unfold AA.set
 split
 ·exact h.Hr _ _ _
 ·split
  ·exact h.tell (by decide)
  ·split
   ·exact h.tell (by decide)
   ·split
    ·exact h.before _ _ _ _
    ·exact h.before _ _ _ _
theorem CQ.BP (l:List Int):∀ {T':AA},CQ T'→CQ (T'.BP l):=by
 induction l with
 | nil=>exact fun h=>h
 | cons i r ih=>exact fun {T'} h=>ih (CQ.Co h (i:=i) rfl)
theorem CQ.CR (h:CQ T):∀ k:Nat,CQ (T.CR k)
 | 0=>h
 | k+1=>by
  unfold AA.CR
  split
  ·exact(CQ.CR h k).BW _ _
  ·exact CQ.CR h k
theorem CQ.EF (h:CQ T):CQ T.EF:=by
 rw [JX]
 exact((CQ.BP _ h).CR 6).BW _ _
theorem CQ.KG (h:CQ T):CQ T.KG:=by
 have hf:=CQ.EF (h.kind 18)
 unfold AA.KG
 generalize (T.kind 18).EF=F at *
 exact hf.Cy T.b (x:=default) Nc
theorem CQ.act (h:CQ T){o:Order}(hx:o.text.length≤1000000):CQ (T.act o):=by
 unfold AA.act
 split
 ·exact h.walk _
 ·split
  ·exact h.look
  ·split
   ·exact h.list (by decide) (AD.F7 ..)
   ·split
    ·exact h.Am (e:={ Dn 7 with text:=o.text }) (Nat.zero_le _) hx (Nat.zero_le _) (show(-9223372036854775808:Int)≤0 by decide) (show(0:Int)≤9223372036854775807 by decide)
    ·split
     ·exact h.KG
     ·split
      ·exact h.FY _
      ·split
       ·exact h.get _
       ·split
        ·exact h.EM _
        ·exact h.set _
end
theorem Kq {X:AD}{b:Int}{o:Order}(hw:X.Mz)(hx:o.text.length≤1000000):(Dk X b o).1.Mz∧∀ e∈(Dk X b o).2.1,AD.Small e:=by
 unfold Dk
 split
 ·exact⟨hw,fun e h=>by cases h⟩
 ·split
  ·exact⟨hw,fun e h=>by cases h⟩
  ·split
   ·exact⟨hw,fun e h=>by cases h⟩
   ·have:=CQ.act (T:=⟨X,b,[]⟩) ⟨hw,fun e h=>by cases h⟩ hx
    exact⟨this.Fp,this.out⟩
theorem JW {X:AD}{s:AL}(hw:X.Mz):(Ao X s).1.Mz∧∀ e∈(Ao X s).2.2.1,AD.Small e:=by
 unfold Ao
 split
 ·exact⟨hw,fun e h=>by cases h⟩
 ·split
  ·exact⟨hw,fun e h=>by cases h⟩
  ·rename_i h1
   split
   ·exact⟨hw,fun e h=>by cases h⟩
   ·split
    ·exact⟨hw,fun e h=>by cases h⟩
    ·have hn:s.length≤8:=by
      have h2:GO s=true:=by simpa using h1
      simp only [GO,Bool.and_eq_true,decide_eq_true_eq] at h2
      omega
     have h0:CQ ⟨X.Bb (Ci X 6) (KQ s),Ci X 6,[]⟩:=⟨AD.JG hw (by show s.length≤100;omega),fun e h=>by cases h⟩
     have:=(h0.kind 17).look
     exact⟨this.Fp,this.out⟩
theorem WL {w:AD}{b A2 n:Int}(hw:w.Mz)(h0:1≤n)(h1:n≤3):CQ (Aq w b A2 n):=by
 have hs:CQ ⟨w,b,[]⟩:=⟨hw,fun e h=>by cases h⟩
 unfold Aq
 exact(hs.Am (e:={ Dn 14 with other:=A2,n:=n }) (Nat.zero_le _) (Nat.zero_le _) (Nat.zero_le _) (show -9223372036854775808≤n by omega) (show n≤9223372036854775807 by omega)).Cy _ (hw.be A2)
theorem CQ.j8 {T:AA}(h:CQ T)(b:Int):CQ (T.Cy b { T.w.AF.at b with room:=0,AW:=10 }):=h.Cy b (h.Fp.be b)
theorem Ze {w:AD}{b:Int}(hw:w.Mz):CQ (FV w b):=by
 have h0:CQ (Ee w b):=⟨AD.JG hw (hw.be b),fun e h=>by cases h⟩
 have h1:CQ (Ge w b):=by unfold Ge;exact(h0.kind 15).EF
 unfold FV
 split
 ·generalize Ge w b=F at *
  exact h1.Cy b (x:=default) Nc
 ·have h2:CQ (JV w b):=by unfold JV;exact h1.j8 b
  exact(h2.kind 17).look
theorem WA {draw b:Int}(hb:0≤b){s:AD × List Event}(h:s.1.Mz∧∀ e∈s.2,AD.Small e):(DW draw b s).1.Mz∧∀ e∈(DW draw b s).2,AD.Small e:=by
 have hh:=MQ (draw:=draw) hb
 unfold DW
 split
 ·exact h
 ·split
  ·exact⟨AD.JG h.1 (h.1.be b),h.2⟩
  ·have hk:=WL (b:=b) (A2:=(s.1.AF.at b).A2 - 1) h.1 hh.1 hh.2
   split
   ·have hd:=Ze (b:=(s.1.AF.at b).A2 - 1) hk.Fp
    refine⟨hd.Fp,fun e he=>?_⟩
    rcases List.mem_append.1 he with he | he
    ·rcases List.mem_append.1 he with he | he
     ·exact h.2 e he
     ·exact hk.out e he
    ·exact hd.out e he
   ·refine⟨hk.Fp,fun e he=>?_⟩
    rcases List.mem_append.1 he with he | he
    ·exact h.2 e he
    ·exact hk.out e he
theorem P8 {X:AD}{draw:Int}(hw:X.Mz):∀ k:Nat,(DG X draw k).1.Mz∧∀ e∈(DG X draw k).2,AD.Small e
 | 0=>⟨hw,fun e h=>by cases h⟩
 | k+1=>WA (by omega) (P8 hw k)
theorem L1 {X:AD}{draw:Int}(hw:X.Mz):(BX X draw).1.Mz∧∀ e∈(BX X draw).2.1,AD.Small e:=by
 unfold BX
 split
 ·exact⟨hw,fun e h=>by cases h⟩
 ·have h:=P8 (draw:=draw) hw 6
  generalize DG X draw 6=r at *
  exact h
end AA
end Go.Ing
/- What a house keeps: plain laws. -/
namespace Go.Ing
open Go
namespace AG
def fD (q:List AL):Prop:=q.length≤6∧∀ s∈q,s.length≤60
structure Fit (H:AG)(n m:Nat):Prop where
 Fp:H.w.Mz
 told:∀ k:Int,0≤k→k < 4→(H.at_ k).told.length≤n
 last:H.last.length≤m
 AV:∀ k:Int,0≤k→k < 4→(H.at_ k).state=2→0≤(H.at_ k).AV∧(H.at_ k).AV < 6
 wait:∀ k:Int,0≤k→k < 4→∀ s∈(H.at_ k).wait,s.length≤70368744000000
 queue:∀ k:Int,0≤k→k < 4→fD (H.at_ k).queue
variable {H:AG} {n m:Nat}
theorem Fit.mono (h:H.Fit n m){n' m':Nat}(hn:n≤n')(hm:m≤m'):H.Fit n' m':=⟨h.Fp,fun k a b=>Nat.le_trans (h.told k a b) hn,Nat.le_trans h.last hm,h.AV,h.wait,h.queue⟩
theorem Fit.set (h:H.Fit n m){k:Int}(h0:0≤k)(h1:k < 4){s:Ak}(ht:s.told.length≤n)(hb:s.state=2→0≤s.AV∧s.AV < 6)(hw:∀ u∈s.wait,u.length≤70368744000000)(hq:fD s.queue):(H.set k s).Fit n m:=by
 have e:∀ j:Int,0≤j→(H.set k s).at_ j=if j=k then s else H.at_ j:=fun j j0=>AG.GC H h0 h1 j0 s
 refine⟨h.Fp,fun j a b=>?_,h.last,fun j a b=>?_,fun j a b=>?_,fun j a b=>?_⟩<;>rw [e j a]<;>split
 ·exact ht
 ·exact h.told j a b
 ·exact hb
 ·exact h.AV j a b
 ·exact hw
 ·exact h.wait j a b
 ·exact hq
 ·exact h.queue j a b
theorem Fit.land (h:H.Fit n m){w:AD}(hw:w.Mz):({ H with w:=w }:AG).Fit n m:=⟨hw,h.told,h.last,h.AV,h.wait,h.queue⟩
theorem RF (s:Ak)(u:AL):(s.line u).wait=s.wait∨(s.line u).wait=s.wait ++ [u]:=by
 unfold Ak.line
 split
 ·exact .inl rfl
 ·split
  ·exact .inl rfl
  ·split
   ·exact .inl rfl
   ·exact .inr rfl
theorem Xz (s:Ak)(u:AL):(s.line u).state=s.state∧(s.line u).AV=s.AV∧(s.line u).queue=s.queue∧(s.line u).told=s.told:=by
 unfold Ak.line
 split
 ·exact⟨rfl,rfl,rfl,rfl⟩
 ·split
  ·exact⟨rfl,rfl,rfl,rfl⟩
  ·split<;>exact⟨rfl,rfl,rfl,rfl⟩
theorem K8 (s:Ak)(u:AL):(s.tell u).state=s.state∧(s.tell u).AV=s.AV∧(s.tell u).queue=s.queue∧(s.tell u).wait=(s.line u).wait:=by
 obtain⟨a,b,c,_⟩:=Xz s u
 unfold Ak.tell Ak.note
 split
 ·exact⟨a,b,c,rfl⟩
 ·exact⟨a,b,c,rfl⟩
theorem Fit.tell (h:H.Fit n m){k:Int}(h0:0≤k)(h1:k < 4){u:AL}(hu:u.length≤70368744000000):(H.tell k u).Fit (n+1) m:=by
 obtain⟨a,b,c,d⟩:=K8 (H.at_ k) u
 refine(h.mono (Nat.le_succ n) (Nat.le_refl m)).set h0 h1 (Nat.le_trans (BQ _ _) (Nat.succ_le_succ (h.told k h0 h1))) (by rw [a,b];exact h.AV k h0 h1) (fun s hs=>?_) (by rw [c];exact h.queue k h0 h1)
 rw [d] at hs
 rcases RF (H.at_ k) u with e | e<;>rw [e] at hs
 ·exact h.wait k h0 h1 s hs
 ·rcases List.mem_append.1 hs with hs | hs
  ·exact h.wait k h0 h1 s hs
  ·rw [List.mem_singleton.1 hs];exact hu
theorem da {e:Event}(he:AD.Small e)(b:Int):(AD.tell e b).1.length≤70368744000000:=by
 unfold AD.tell
 split
 ·exact Nat.zero_le _
 ·split
  ·exact Nat.zero_le _
  ·refine Nat.le_trans (AD.QH he (AD.Rj he b) (AD.L7 he b) _ _) ?_
   have:=AD.QD e b
   omega
theorem Wf {k j:Int}(h0:0≤k)(h1:k < 4)(j0:0≤j)(hn:j≠k)(u:AL):(H.tell k u).at_ j=H.at_ j:=by
 unfold AG.tell
 rw [AG.GC H h0 h1 j0,if_neg hn]
theorem Lk (e:Event)(H:AG):∀ k:Nat,k≤4→∀ j:Int,(k:Int)≤j→j < 4→(CB e H k).at_ j=H.at_ j
 | 0,_,_,_,_=>rfl
 | k+1,hk,j,h0,h1=>by
  have ih:=Lk e H k (by omega) j (by omega) h1
  unfold CB
  split
  ·exact ih
  ·split
   ·rw [Wf (by omega) (by omega) (by omega) (by omega)];exact ih
   ·exact ih
theorem PQ {e:Event}(he:AD.Small e)(h:H.Fit n m):∀ k:Nat,k≤4→(CB e H k).Fit (n+1) m
 | 0,_=>h.mono (Nat.le_succ n) (Nat.le_refl m)
 | k+1,hk=>by
  have ih:=PQ he h k (by omega)
  unfold CB
  split
  ·exact ih
  ·split
   ·have hr:=Lk e H k (by omega) k (Int.le_refl _) (by omega)
    obtain⟨a,b,c,d⟩:=K8 ((CB e H k).at_ k) (AD.tell e ((CB e H k).at_ k).AV).1
    unfold AG.tell
    refine ih.set (by omega) (by omega) ?_ (by rw [a,b];exact ih.AV k (by omega) (by omega)) (fun s hs=>?_) (by rw [c];exact ih.queue k (by omega) (by omega))
    ·refine Nat.le_trans (BQ _ _) ?_
     rw [hr];exact Nat.succ_le_succ (h.told k (by omega) (by omega))
    ·rw [d] at hs
     rcases RF ((CB e H k).at_ k) (AD.tell e ((CB e H k).at_ k).AV).1 with q | q<;>rw [q] at hs
     ·exact ih.wait k (by omega) (by omega) s hs
     ·rcases List.mem_append.1 hs with hs | hs
      ·exact ih.wait k (by omega) (by omega) s hs
      ·rw [List.mem_singleton.1 hs];exact da he _
   ·exact ih
theorem Q9:∀(es:List Event) {H:AG} {n:Nat},(∀ e∈es,AD.Small e)→H.Fit n m→(H.Ix es).Fit (n+es.length) m
 | [],_,_,_,h=>h
 | e :: r,H,n,he,h=>by
  have h1:=PQ (he e (List.mem_cons_self ..)) h 4 (Nat.le_refl 4)
  have h2:=Q9 r (fun x hx=>he x (List.mem_cons_of_mem _ hx)) h1
  rw [List.length_cons,show n+(r.length+1)=n+1+r.length by omega]
  exact h2
theorem Fit.Ft (h:H.Fit n m){es:List Event}(he:∀ e∈es,AD.Small e):(H.Ft es).Fit (n+es.length) (m+es.length):=by
 refine Q9 (m:=m+es.length) es he ?_
 exact⟨h.Fp,h.told,by show(H.last++es).length≤_;rw [List.length_append];exact Nat.add_le_add_right h.last _,h.AV,h.wait,h.queue⟩
theorem Fit.free (h:H.Fit n m){k:Int}(h0:0≤k)(h1:k < 4):(H.set k default).Fit n m:=
 h.set h0 h1 (Nat.zero_le _) (fun e=>absurd (show(0:Int)=2 from e) (by decide)) (fun u hu=>by cases hu) ⟨Nat.zero_le _,fun u hu=>by cases hu⟩
theorem NP:DN.text.length≤1000000:=Nat.zero_le _
theorem Fit.leave (h:H.Fit n m){k:Int}(h0:0≤k)(h1:k < 4):(H.leave k).Fit (n+11) (m+11):=by
 unfold AG.leave
 refine Fit.free ?_ h0 h1
 split
 ·have hd:=AA.Kq (b:=(H.at_ k).AV) (o:=DN) h.Fp NP
  have hl:=AA.Kp H.w (H.at_ k).AV DN
  exact(((h.land hd.1).free h0 h1).Ft hd.2).mono (Nat.add_le_add_left hl n) (Nat.add_le_add_left hl m)
 ·exact h.mono (Nat.le_add_right ..) (Nat.le_add_right ..)
theorem Tn (ht:Int):∀(l:List AL) (x:Page.Pg),∀ s∈(Page.BJ ht l x).2,s∈l
 | [],_,s,h=>h
 | q :: r,x,s,h=>by
  unfold Page.BJ at h
  split at h
  ·exact h
  ·split at h
   ·exact h
   ·exact List.mem_cons_of_mem _ (Tn ht r _ s h)
theorem RT (s:Ak):s.BJ.told=s.told∧s.BJ.state=s.state∧s.BJ.AV=s.AV∧s.BJ.queue=s.queue∧∀ u∈s.BJ.wait,u∈s.wait:=by
 unfold Ak.BJ
 split
 ·exact⟨rfl,rfl,rfl,rfl,fun _ h=>h⟩
 ·exact⟨rfl,rfl,rfl,rfl,Tn _ _ _⟩
theorem Fit.Wp (h:H.Fit n m){k:Int}(h0:0≤k)(h1:k < 4):(H.set k (H.at_ k).BJ).Fit n m:=by
 obtain⟨a,b,c,d,e⟩:=RT (H.at_ k)
 exact h.set h0 h1 (by rw [a];exact h.told k h0 h1) (by rw [b,c];exact h.AV k h0 h1) (fun u hu=>h.wait k h0 h1 u (e u hu)) (by rw [d];exact h.queue k h0 h1)
theorem Kr (h:H.Fit n m):∀ k:Nat,k≤4→(H.CH k).1.Fit (n+11 * k) (m+11 * k)
 | 0,_=>h
 | k+1,hk=>by
  have ih:=Kr h k (by omega)
  unfold CH
  split
  ·exact ih.mono (by omega) (by omega)
  ·split
   ·exact((ih.Wp (by omega) (by omega)).leave (by omega) (by omega)).mono (by omega) (by omega)
   ·exact(ih.Wp (by omega) (by omega)).mono (by omega) (by omega)
theorem Q7:∀(r:Nat) {H:AG} {n m:Nat},H.Fit n m→(H.HV r).Fit (n+44 * r) (m+44 * r)
 | 0,_,_,_,h=>h
 | r+1,H,n,m,h=>by
  have h1:=Kr h 4 (Nat.le_refl 4)
  unfold HV
  split
  ·exact h1.mono (by omega) (by omega)
  ·exact(Q7 r h1).mono (by omega) (by omega)
theorem Fit.BJ (h:H.Fit n m):H.BJ.Fit (n+220) (m+220):=Q7 5 h
end AG
end Go.Ing
/- A house: plain laws for the walks, on. -/
namespace Go.Ing
open Go
theorem FL {V:AE}{ls:Vector Ae 4}{ev:List Event}{k:Int}(h0:0≤k)(h1:k < 4):AO (V.AZ k default) (ls.put k ⟨[],[],[]⟩) ev=(AO V ls ev).set k default:=F3 V ls ev h0 h1 _ _
theorem JS {V:AE}{ls:Vector Ae 4}{ev:List Event}{w:AD}:AO { V with w:=w } ls ev={ AO V ls ev with w:=w }:=rfl
theorem OO {V V4:AE}{ls ls4:Vector Ae 4}{ev ev4:List Event}{k:Int}(h0:0≤k)(h1:k < 4)(c:(decide ((V.AP.at k).state=2) && (V.w.AF.at (V.AP.at k).AV).here)=true)
  (e:AO V4 ls4 ev4=(AO (AE.AZ { V with w:=(AA.Dk V.w (V.AP.at k).AV AG.DN).1 } k default) (ls.put k ⟨[],[],[]⟩) ev).Ft (AA.Dk V.w (V.AP.at k).AV AG.DN).2.1) :
  AO (V4.AZ k default) (ls4.put k ⟨[],[],[]⟩) ev4=(AO V ls ev).leave k:=by
 rw [FL h0 h1,e,FL h0 h1,JS]
 have ha:=Bu V ls ev h0 h1
 unfold AG.leave AG.Vs
 rw [ha]
 rw [if_pos (show(decide ((Bz (V.AP.at k) (ls.at k)).state=2) && ((AO V ls ev).w.AF.at (Bz (V.AP.at k) (ls.at k)).AV).here)=true from c)]
 rfl
theorem Sc {V:AE}{ls:Vector Ae 4}{ev:List Event}{k:Int}(h0:0≤k)(h1:k < 4)(c:(decide ((V.AP.at k).state=2) && (V.w.AF.at (V.AP.at k).AV).here)=false) :
  AO (V.AZ k default) (ls.put k ⟨[],[],[]⟩) ev=(AO V ls ev).leave k:=by
 rw [FL h0 h1]
 have ha:=Bu V ls ev h0 h1
 unfold AG.leave
 rw [ha]
 rw [if_neg (show ¬ (decide ((Bz (V.AP.at k) (ls.at k)).state=2) && ((AO V ls ev).w.AF.at (Bz (V.AP.at k) (ls.at k)).AV).here)=true by rw [show(decide ((Bz (V.AP.at k) (ls.at k)).state=2) && ((AO V ls ev).w.AF.at (Bz (V.AP.at k) (ls.at k)).AV).here)=false from c];decide)]
theorem Cx {V:AE}{ls:Vector Ae 4}{ev:List Event}{n m:Nat}(h:(AO V ls ev).Fit n m):TO ls n:=fun j j0 j1=>by
 have:=h.told j j0 j1
 rw [Bu V ls ev j0 j1] at this
 exact this
theorem XM {V:AE}{ls:Vector Ae 4}{ev:List Event}{n m:Nat}(h:(AO V ls ev).Fit n m){k:Int}(h0:0≤k)(h1:k < 4):(V.AP.at k).state≠2∨(0≤(V.AP.at k).AV∧(V.AP.at k).AV < 6):=by
 have:=h.AV k h0 h1
 rw [Bu V ls ev h0 h1] at this
 by_cases c:(V.AP.at k).state=2
 ·exact .inr (this c)
 ·exact .inl c
theorem St.or {w0 w:World}{M:List Nat}{L:List AJ}{T TS:Nat}{h f g:Hd}{xs qs zs:List AL}(ho:fw T h xs TS f qs TS g zs)(hS:St w0 M w (AJ.own g TS 1 (zs.flatMap AX) :: AJ.own f TS 1 (qs.flatMap AX) :: L)):St w0 M w (AJ.own h TS 1 (xs.flatMap AX) :: L):=by
 rcases ho with ⟨_,rfl,rfl,_,_⟩ | ⟨_,rfl,rfl⟩
 ·exact hS.sub (List.sublist_cons_self ..)
 ·exact hS.sub (List.Sublist.cons_cons _ (List.sublist_cons_self ..))
theorem gY {n:Nat}{w0:World}{M:List Nat}{Q:Exit→Go.Act→World→Prop}{F:List (Nat × Value)}{L:List AJ}{x:Exit}{T TS:Nat}{h f g:Hd}{xs qs zs:List AL}(ho:fw T h xs TS f qs TS g zs)(k:GQ n w0 M Q x F (AJ.own h TS 1 (xs.flatMap AX) :: L)):GQ n w0 M Q x F (AJ.own g TS 1 (zs.flatMap AX) :: AJ.own f TS 1 (qs.flatMap AX) :: L):=fun a w hF hS=>k a w hF (St.or ho hS)
theorem PF {v:A0}{l:Ae}(hw:v.out.wait.len=l.wait.length)(h:(!Page.A5 v.out || decide (v.Da.Bw < 0) || decide (200 < v.Da.Bw))=true):Bz v l=(Bz v l).BJ:=
 (if_pos (show(!(Bz v l).P2 || decide (v.Da.Bw < 0) || decide (200 < v.Da.Bw))=true by rw [Jg hw];exact h)).symm
theorem Wq {v:A0}{l:Ae}(hw:v.out.wait.len=l.wait.length)(h:(!Page.A5 v.out || decide (v.Da.Bw < 0) || decide (200 < v.Da.Bw))=false)(w:Hd) :
  Bz { v with out:=⟨w,(Page.BJ v.Da.Bw l.wait (Page.of v.out)).1.shown,(Page.BJ v.Da.Bw l.wait (Page.of v.out)).1.BL,(Page.BJ v.Da.Bw l.wait (Page.of v.out)).1.ring,(Page.BJ v.Da.Bw l.wait (Page.of v.out)).1.cut⟩ } ⟨l.queue,(Page.BJ v.Da.Bw l.wait (Page.of v.out)).2,l.told⟩=(Bz v l).BJ:=
 ((if_neg (show ¬ (!(Bz v l).P2 || decide (v.Da.Bw < 0) || decide (200 < v.Da.Bw))=true by rw [Jg hw,h];decide)).trans rfl).symm
theorem F6 {V:AE}{ls:Vector Ae 4}{ev:List Event}{c:Bool}{H:AG}{i:Int}(h0:0≤i)(h1:i < 4)(h:(AO V ls ev,c)=H.CH i.toNat) :
  H.CH (i+1).toNat=if decide ((V.AP.at i).state=0)=true then(AO V ls ev,c) else if (((AO V ls ev).at_ i).BJ).pg.cut=true then(((AO V ls ev).set i ((AO V ls ev).at_ i).BJ).leave i,true) else((AO V ls ev).set i ((AO V ls ev).at_ i).BJ,c):=by
 obtain⟨m,rfl⟩:=Int.eq_ofNat_of_zero_le h0
 have ha:=Bu V ls ev h0 h1
 rw [show((m:Int)+1).toNat=m+1 by omega,AG.CH]
 rw [show((m:Int)).toNat=m by omega] at h
 rw [← h]
 rw [show decide (((AO V ls ev).at_ (m:Int)).state=0)=decide ((V.AP.at (m:Int)).state=0) by rw [ha];rfl]
theorem OV {V V':AE}{ls ls':Vector Ae 4}{ev ev':List Event}{i:Int}(h0:0≤i)(h1:i < 4){s:Ak}(e:AO V' ls' ev'=(AO V ls ev).set i s):(V'.AP.at i).out.cut=s.pg.cut:=by
 have h:=congrArg (fun H=>(AG.at_ H i).pg.cut) e
 rw [Bu V' ls' ev' h0 h1,AG.GC _ h0 h1 h0,if_pos rfl] at h
 exact h
theorem PE {X:AG}{k:Int}(h0:0≤k)(h1:k < 5):X.HV (5 - k).toNat=if (!(X.CH 4).2)=true then(X.CH 4).1 else(X.CH 4).1.HV (5 - (k+1)).toNat:=by
 rw [show(5 - k).toNat=(5 - (k+1)).toNat+1 by omega,AG.HV]
theorem NB {H:AG}{n m:Nat}(h:H.Fit n m){V:AE}{ls:Vector Ae 4}{ev:List Event}{c:Bool}{i:Int}(h0:0≤i)(h1:i≤4)(e:(AO V ls ev,c)=H.CH i.toNat):(AO V ls ev).Fit (n+44) (m+44):=by
 have:=AG.Kr h i.toNat (by omega)
 rw [← e] at this
 exact this.mono (by omega) (by omega)
theorem S5 {V:AE}{ls:Vector Ae 4}{ev:List Event}{n m:Nat}(h:(AO V ls ev).Fit n m){k:Int}(h0:0≤k)(h1:k < 4):∀ s∈(ls.at k).wait,s.length≤70368744000000:=by
 have:=h.wait k h0 h1
 rw [Bu V ls ev h0 h1] at this
 exact this
end Go.Ing
/- A house: who comes, and what is typed: plain laws for the walks. -/
namespace Go.Ing
open Go
namespace Words
def Ox (N:Nat)(o:Order):Prop:=o.name.length≤N∧o.second.length≤N∧o.text.length≤N
theorem FN (N:Nat):Ox N default:=⟨Nat.zero_le _,Nat.zero_le _,Nat.zero_le _⟩
theorem Zc (u p:AL):(Gd u p).1.length≤u.length:=by
 unfold Gd
 split
 ·exact Nat.le_refl _
 ·show(List.drop _ u).length≤_
  rw [List.length_drop];omega
theorem aJ (u:AL):(Bq u).2.1.length≤u.length:=by
 unfold Bq
 split
 ·exact Nat.zero_le _
 ·split
  ·exact Zc u _
  ·split
   ·split
    ·exact Nat.zero_le _
    ·exact Nat.le_refl _
   ·unfold LB
    have:=(OL 46 u).2
    split
    ·split
     ·exact Nat.zero_le _
     ·exact this
    ·exact Nat.zero_le _
theorem ay {N:Nat}{o:Order}{j:AL × Bool}{W:List AL}{m:Nat}(h:Ox N o)(hw:(W.getD 0 []).length≤N):Ox N (KS o j W m).1:=by
 unfold KS
 split
 ·exact h
 ·split
  ·exact FN N
  ·exact⟨h.1,hw,h.2.2⟩
theorem fh {N:Nat}{o:Order}{j:AL × Bool}{W:List AL}{m:Nat}(h:Ox N o)(hw:∀ i,(W.getD i []).length≤N):Ox N (Lz o j W m).1:=by
 unfold Lz
 split
 ·split
  ·exact FN N
  ·refine ay h ?_
   have:=hw 1
   rw [List.getD_eq_getElem?_getD,List.getElem?_drop,← List.getD_eq_getElem?_getD]
   exact this
 ·exact ay h (hw 0)
theorem bA {N:Nat}{v:Int}{W:List AL}{m:Nat}(hw:∀ i,(W.getD i []).length≤N):Ox N (KT v W m).1:=by
 unfold KT
 split
 ·exact FN N
 ·refine fh ⟨Nat.le_trans (aJ _) (hw 0),Nat.zero_le _,Nat.zero_le _⟩ (fun i=>?_)
  rw [List.getD_eq_getElem?_getD,List.getElem?_drop,← List.getD_eq_getElem?_getD]
  exact hw (1+i)
theorem U8 (i:Nat):(AD.DF.getD i []).length≤20:=by
 rw [List.getD_eq_getElem?_getD]
 cases h:AD.DF[i]? with
 | none=>exact Nat.zero_le _
 | some w=>
  have hm:w∈AD.DF:=List.mem_of_getElem? h
  have:∀ w∈AD.DF,w.length≤20:=by decide
  exact this w hm
theorem KU (s:AL):Ox (s.length+20) (parse s).1:=by
 have hw:∀ i,(((words s).drop 1).getD i []).length≤s.length+20:=fun i=>Nat.le_trans (K9 s i 1) (by omega)
 unfold parse
 split
 ·exact FN _
 ·split
  ·exact FN _
  ·unfold P1
   split
   ·split
    ·exact FN _
    ·refine⟨Nat.zero_le _,Nat.zero_le _,?_⟩
     show(said s).length≤_
     unfold said
     have h1:=Mr 32 (Dx 32 (cut 32 (DH 32 s)).2.1)
     have h2:=Oa 32 (cut 32 (DH 32 s)).2.1
     have h3:=(OL 32 (DH 32 s)).2
     have h4:=Mr 32 s
     omega
   ·split
    ·split
     ·exact FN _
     ·exact⟨Nat.zero_le _,Nat.zero_le _,Nat.zero_le _⟩
    ·split
     ·exact FN _
     ·split
      ·split
       ·exact⟨Nat.le_trans (U8 _) (by omega),Nat.zero_le _,Nat.zero_le _⟩
       ·exact bA hw
      ·exact bA hw
end Words
theorem Qo {V:AE}{ls:Vector Ae 4}{ev:List Event}{n m:Nat}(h:(AO V ls ev).Fit n m){k:Int}(h0:0≤k)(h1:k < 4):AG.fD (ls.at k).queue:=by
 have:=h.queue k h0 h1
 rw [Bu V ls ev h0 h1] at this
 exact this
theorem AG.JA (H:AG){k:Int}(h0:0≤k)(h1:k < 4):H.set k (H.at_ k)=H:=by
 unfold AG.set AG.at_
 rw [Vector.MW _ h0 h1]
theorem Tj {X:AD}{s:AL}(h:(AA.Ao X s).2.2.2=0):0≤(AA.Ao X s).2.1∧(AA.Ao X s).2.1 < 6:=by
 have hf:=AA.NC X 6 (Nat.le_refl 6)
 unfold AA.Ao at h ⊢
 split
 ·exact⟨Int.le_refl 0,show(0:Int) < 6 by decide⟩
 ·split
  ·exact⟨Int.le_refl 0,show(0:Int) < 6 by decide⟩
  ·split
   ·exact⟨Int.le_refl 0,show(0:Int) < 6 by decide⟩
   ·split
    ·rename_i h1 h2 h3 h4
     rw [if_neg h1,if_neg h2,if_neg h3,if_pos h4] at h
     exact absurd h (show ¬ (4:Int)=0 by decide)
    ·rename_i h4
     show 0≤AA.Ci X 6∧AA.Ci X 6 < 6
     rw [decide_eq_true_eq] at h4
     omega
namespace AG
variable {H:AG} {n m:Nat}
theorem Fit.enters (h:H.Fit n m){k:Int}(h0:0≤k)(h1:k < 4){u:AL}(c:(AA.Ao H.w u).2.2.2=0):(({ H with w:=(AA.Ao H.w u).1 }:AG).set k { H.at_ k with state:=2,AV:=(AA.Ao H.w u).2.1 }).Fit n m:=by
 have hs:=AA.JW (s:=u) h.Fp
 exact(h.land hs.1).set h0 h1 (h.told k h0 h1) (fun _=>Tj c) (h.wait k h0 h1) (h.queue k h0 h1)
theorem Fit.named (h:H.Fit n m){k:Int}(h0:0≤k)(h1:k < 4)(u:AL):(H.named k u).Fit (n+11) (m+11):=by
 unfold AG.named
 split
 ·rename_i c
  have hs:=AA.JW (s:=u) h.Fp
  have hl:=AA.M9 H.w u
  exact((h.enters h0 h1 (of_decide_eq_true c)).Ft hs.2).mono (by omega) (by omega)
 ·split
  ·exact(h.tell h0 h1 (show noRoom.length≤_ by decide)).mono (by omega) (by omega)
  ·exact(h.tell h0 h1 (show Sk.length≤_ by decide)).mono (by omega) (by omega)
theorem Fit.order (h:H.Fit n m){k:Int}(h0:0≤k)(h1:k < 4){u:AL}(hu:u.length≤1000):(H.order k u).Fit (n+11) (m+11):=by
 unfold AG.order
 split
 ·exact(h.tell h0 h1 (show fp.length≤_ by decide)).mono (by omega) (by omega)
 ·split
  ·exact h.leave h0 h1
  ·have hp:=Words.KU u
   have hd:=AA.Kq (b:=(H.at_ k).AV) (o:=(Words.parse u).1) h.Fp (by have:=hp.2.2;omega)
   have hl:=AA.Kp H.w (H.at_ k).AV (Words.parse u).1
   exact((h.land hd.1).Ft hd.2).mono (by omega) (by omega)
theorem Fit.Ev (h:H.Fit n m){k:Int}(h0:0≤k)(h1:k < 4){q:AL}{r:List AL}(e:(H.at_ k).queue=q :: r):(H.set k { H.at_ k with queue:=r }.Ev).Fit n m:=
 h.set h0 h1 (h.told k h0 h1) (h.AV k h0 h1) (h.wait k h0 h1) (by
  have hq:=h.queue k h0 h1
  rw [e] at hq
  exact⟨Nat.le_of_succ_le hq.1,fun u hu=>hq.2 u (List.mem_cons_of_mem _ hu)⟩)
theorem Fit.Dy (h:H.Fit n m){k:Int}(h0:0≤k)(h1:k < 4):(H.Dy k).Fit (n+11) (m+11):=by
 unfold AG.Dy
 split
 ·exact h.mono (by omega) (by omega)
 ·split
  ·exact h.mono (by omega) (by omega)
  ·rename_i q r e
   have ht:=h.Ev h0 h1 e
   have hq:=(h.queue k h0 h1).2 q (by rw [e];exact List.mem_cons_self ..)
   simp only []
   split
   ·exact ht.mono (by omega) (by omega)
   ·split
    ·exact ht.named h0 h1 _
    ·exact ht.order h0 h1 (by omega)
theorem HQ (h:H.Fit n m):∀ k:Nat,k≤4→(H.turns k).Fit (n+11 * k) (m+11 * k)
 | 0,_=>h
 | k+1,hk=>by
  have ih:=HQ h k (by omega)
  unfold AG.turns
  exact(ih.Dy (by omega) (by omega)).mono (by omega) (by omega)
end AG
theorem Si {V V3 V4:AE}{ls ls3 ls4:Vector Ae 4}{ev ev4:List Event}{k:Int}{u:AL}(c:decide ((AA.Ao V.w u).2.2.2=0)=true)
  (e3:AO V3 ls3 ev=({ AO V ls ev with w:=(AA.Ao V.w u).1 }:AG).set k { (AO V ls ev).at_ k with state:=2,AV:=(AA.Ao V.w u).2.1 })
  (e:AO V4 ls4 ev4=(AO V3 ls3 ev).Ft (AA.Ao V.w u).2.2.1):AO V4 ls4 ev4=(AO V ls ev).named k u:=by
 rw [e,e3]
 exact(if_pos c).symm
theorem Sh {V V4:AE}{ls ls4:Vector Ae 4}{ev ev4:List Event}{k:Int}{u:AL}(c:decide ((AA.Ao V.w u).2.2.2=0)=false)(c2:decide ((AA.Ao V.w u).2.2.2=4)=true)
  (e:AO V4 ls4 ev4=(AO V ls ev).tell k AG.noRoom):AO V4 ls4 ev4=(AO V ls ev).named k u:=e.trans ((if_neg (by show ¬ decide ((AA.Ao V.w u).2.2.2=0)=true;rw [c];decide)).trans (if_pos c2)).symm
theorem Sg {V V4:AE}{ls ls4:Vector Ae 4}{ev ev4:List Event}{k:Int}{u:AL}(c:decide ((AA.Ao V.w u).2.2.2=0)=false)(c2:decide ((AA.Ao V.w u).2.2.2=4)=false)
  (e:AO V4 ls4 ev4=(AO V ls ev).tell k AG.Sk):AO V4 ls4 ev4=(AO V ls ev).named k u:=e.trans ((if_neg (by show ¬ decide ((AA.Ao V.w u).2.2.2=0)=true;rw [c];decide)).trans (if_neg (by show ¬ decide ((AA.Ao V.w u).2.2.2=4)=true;rw [c2];decide))).symm
theorem OR {V V4:AE}{ls ls4:Vector Ae 4}{ev ev4:List Event}{k:Int}{u:AL}(h0:0≤k)(h1:k < 4)(c:(!decide ((Words.parse u).2=0))=false)(c2:decide ((Words.parse u).1.verb=20)=false)
  (e:AO V4 ls4 ev4=(AO { V with w:=(AA.Dk V.w (V.AP.at k).AV (Words.parse u).1).1 } ls ev).Ft (AA.Dk V.w (V.AP.at k).AV (Words.parse u).1).2.1):AO V4 ls4 ev4=(AO V ls ev).order k u:=by
 rw [e,JS]
 have ha:=Bu V ls ev h0 h1
 unfold AG.order
 rw [if_neg (by rw [c];decide),if_neg (by rw [c2];decide),ha]
 rfl
theorem Rc {V:AE}{ls:Vector Ae 4}{ev:List Event}{k:Int}(h0:0≤k)(h1:k < 4)(c:decide ((V.AP.at k).state=0)=true):AO V ls ev=(AO V ls ev).Dy k:=by
 have ha:=Bu V ls ev h0 h1
 exact(if_pos (show decide (((AO V ls ev).at_ k).state=0)=true by rw [ha];exact c)).symm
theorem Re {V:AE}{ls:Vector Ae 4}{ev:List Event}{k:Int}(h0:0≤k)(h1:k < 4){sv:A0}{sl:Ae}(hs:V.AP.at k=sv)(hl:ls.at k=sl)(hq:sl.queue = [])(c:decide ((V.AP.at k).state=0)=false) :
  AO (V.AZ k sv) (ls.put k ⟨sl.queue,sl.wait,sl.told⟩) ev=(AO V ls ev).Dy k:=by
 have ha:=Bu V ls ev h0 h1
 rw [B4 h0 h1 hs hl (f:=fun x=>x) rfl,AG.JA _ h0 h1]
 unfold AG.Dy
 rw [if_neg (show ¬ decide (((AO V ls ev).at_ k).state=0)=true by rw [ha];show ¬ decide ((V.AP.at k).state=0)=true;rw [c];decide)]
 have e:((AO V ls ev).at_ k).queue = []:=by rw [ha,hl];exact hq
 split
 ·rfl
 ·rename_i q r e2;rw [e] at e2;cases e2
theorem CV {V:AE}{ls:Vector Ae 4}{ev:List Event}{k:Int}(h0:0≤k)(h1:k < 4){sv:A0}{sl:Ae}(hs:V.AP.at k=sv)(hl:ls.at k=sl){q:AL}{r:List AL}(hq:sl.queue=q :: r)(c:decide ((V.AP.at k).state=0)=false)(h':Hd) :
  AO (V.AZ k { sv with Ax:=⟨sv.Ax.now,sv.Ax.long,sv.Ax.ret,h'⟩,out:=⟨sv.out.wait,0,false,sv.out.ring,sv.out.cut⟩ }) (ls.put k ⟨r,sl.wait,sl.told⟩) ev=(AO V ls ev).set k { (AO V ls ev).at_ k with queue:=r }.Ev∧((AO V ls ev).at_ k).queue=q :: r ∧
  (AO V ls ev).Dy k=if sv.out.BL=true then(AO V ls ev).set k { (AO V ls ev).at_ k with queue:=r }.Ev else if decide (sv.state=1)=true then((AO V ls ev).set k { (AO V ls ev).at_ k with queue:=r }.Ev).named k (Words.DH 32 (Words.Dx 32 q)) else((AO V ls ev).set k { (AO V ls ev).at_ k with queue:=r }.Ev).order k q:=by
 have ha:=Bu V ls ev h0 h1
 have e:((AO V ls ev).at_ k).queue=q :: r:=by rw [ha,hl];exact hq
 refine⟨B4 h0 h1 hs hl (f:=fun x=>{ x with queue:=r }.Ev) rfl,e,?_⟩
 unfold AG.Dy
 rw [if_neg (show ¬ decide (((AO V ls ev).at_ k).state=0)=true by rw [ha];show ¬ decide ((V.AP.at k).state=0)=true;rw [c];decide)]
 split
 ·rename_i e2;rw [e] at e2;cases e2
 ·rename_i q' r' e2
  rw [e] at e2
  obtain⟨rfl,rfl⟩:=List.cons.inj e2
  have e3:((AO V ls ev).at_ k).pg.BL=sv.out.BL:=by rw [ha,hs];rfl
  have e4:((AO V ls ev).at_ k).state=sv.state:=by rw [ha,hs];rfl
  simp only [e3,e4]
theorem QJ {H:AG}{i:Int}(h0:0≤i):H.turns (i+1).toNat=(H.turns i.toNat).Dy i:=by
 obtain⟨m,rfl⟩:=Int.eq_ofNat_of_zero_le h0
 rfl
end Go.Ing
/- A house: who comes, bytes that come: plain laws for the walks. -/
namespace Go.Ing
open Go
def dI:Hd:=⟨none,0,0⟩
def Df (t:AI)(g:Page.Pg):A0:=⟨1,-1,t,⟨[],false,false,dI⟩,⟨dI,g.shown,g.BL,g.ring,g.cut⟩,dI⟩
def aF:Ae:=⟨[],[],[]⟩
theorem Uj {v:A0}{l:Ae}{u:AL}(hw:v.out.wait.len=l.wait.length):(Bz v l).send u=Bz { v with out:=⟨v.out.wait,(Page.send v.out u).1.shown,(Page.send v.out u).1.BL,(Page.send v.out u).1.ring,(Page.send v.out u).1.cut⟩ } l:=by
 unfold Ak.send Page.send
 rw [Jg hw]
 cases h:Page.A5 v.out with
 | false=>rfl
 | true=>
  have e:(Bz v l).pg.cut=v.out.cut:=rfl
  cases hc:v.out.cut with
  | true=>rw [e,hc];show Bz v l=Bz { v with out:=⟨v.out.wait,v.out.shown,v.out.BL,v.out.ring,v.out.cut⟩ } l;rfl
  | false=>rw [e,hc];rfl
def Ig (t:AI)(opt:Int):AI:=if decide ((t.Cu opt).2.1 = [])=true then((t.Cu opt).1.Ask opt).1 else(t.Cu opt).1
def NO (t:AI)(opt:Int):AL:=if decide ((t.Cu opt).2.1 = [])=true then(t.Cu opt).2.1++((t.Cu opt).1.Ask opt).2.1 else(t.Cu opt).2.1 ++ []
def Lx (t:AI)(g:Page.Pg)(opt:Int):Page.Pg:=(Page.send ⟨dI,g.shown,g.BL,g.ring,g.cut⟩ (NO t opt)).1
theorem Nq (t:AI)(g:Page.Pg)(opt:Int):(Bz (Df t g) aF).offer opt=Bz (Df (Ig t opt) (Lx t g opt)) aF:=by
 have h:=Uj (v:=Df (Ig t opt) g) (l:=aF) (u:=NO t opt) rfl
 unfold Ak.offer
 have e:(Bz (Df t g) aF).Da=t:=rfl
 rw [e]
 by_cases c:decide ((t.Cu opt).2.1 = [])=true
 ·rw [if_pos c]
  have e1:Ig t opt=((t.Cu opt).1.Ask opt).1:=if_pos c
  have e2:NO t opt = []++((t.Cu opt).1.Ask opt).2.1:=(if_pos c).trans (by rw [of_decide_eq_true c])
  rw [← e1,← e2]
  exact h
 ·rw [if_neg c]
  have e1:Ig t opt=(t.Cu opt).1:=if_neg c
  have e2:NO t opt=(t.Cu opt).2.1 ++ []:=if_neg c
  rw [← e1,← e2]
  exact h
def EG (j:Int):Int:=(((Vector.replicate 2 (default:Int)).put 0 3).put 1 31).at j
def CJ:Nat→AI × Page.Pg
 | 0=>(default,⟨0,false,[],false⟩)
 | j+1=>(Ig (CJ j).1 (EG j),Lx (CJ j).1 (CJ j).2 (EG j))
theorem HL {j:Int}(h0:0≤j):CJ (j+1).toNat=(Ig (CJ j.toNat).1 (EG j),Lx (CJ j.toNat).1 (CJ j.toNat).2 (EG j)):=by
 obtain⟨m,rfl⟩:=Int.eq_ofNat_of_zero_le h0
 rfl
theorem Ly:Bz (Df (CJ 2).1 (CJ 2).2) aF=(({ (default:Ak) with state:=1,AV:=-1 }).offer 3).offer 31:=by
 have h0:({ (default:Ak) with state:=1,AV:=-1 }:Ak)=Bz (Df (CJ 0).1 (CJ 0).2) aF:=rfl
 rw [h0,Nq,Nq]
 rfl
theorem FJ (t:AI)(opt:Int):(t.Cu opt).2.1.length≤3:=by
 unfold AI.Cu
 split
 ·exact Nat.zero_le _
 ·split
  ·exact Nat.zero_le _
  ·split
   ·exact Nat.zero_le _
   ·exact Nat.le_refl 3
theorem Hw (t:AI)(opt:Int):(t.Ask opt).2.1.length≤3:=by
 unfold AI.Ask
 split
 ·exact Nat.zero_le _
 ·split
  ·exact Nat.zero_le _
  ·split
   ·exact Nat.zero_le _
   ·exact Nat.le_refl 3
theorem AG.Fit.comes {H:AG}{n m:Nat}(h:H.Fit n m){k:Int}(h0:0≤k)(h1:k < 4)(t:AI)(g:Page.Pg):(H.set k (Bz (Df t g) aF)).Fit n m:=
 h.set h0 h1 (Nat.zero_le _) (fun e=>absurd (show(1:Int)=2 from e) (by decide)) (fun u hu=>by cases hu) ⟨Nat.zero_le _,fun u hu=>by cases hu⟩
theorem AG.Fit.QZ {H:AG}{n m:Nat}(h:H.Fit n m){k:Int}(h0:0≤k)(h1:k < 4):(H.QZ k).Fit (n+221) (m+220):=by
 unfold AG.QZ
 rw [← Ly]
 exact((h.comes h0 h1 _ _).tell h0 h1 (show AG.CS.length≤_ by decide)).BJ.mono (by omega) (by omega)
end Go.Ing
/- A house: an act: plain laws for the walks. -/
namespace Go.Ing
open Go
theorem RC {v:A0}{l:Ae}(h:v.Ax.queue.len=l.queue.length):(Bz v l).Lr=Aa.A5 v.Ax l.queue:=by
 unfold Ak.Lr Aa.A5 Aa.Hy
 rw [h];rfl
theorem Yj {v:A0}{l:Ae}{u:AL}(h:v.Ax.queue.len=l.queue.length)(c:Aa.A5 v.Ax l.queue=false):(Bz v l).typed u=(Bz v l,0):=if_pos (by rw [RC h,c];rfl)
theorem bP {v:A0}{l:Ae}{u:AL}(h:v.Ax.queue.len=l.queue.length)(c:Aa.A5 v.Ax l.queue=true)(q:Hd) :
  (Bz v l).typed u=(Bz { v with Ax:=⟨(Aa.feed (Aa.start v.Ax l.queue) u).now,(Aa.feed (Aa.start v.Ax l.queue) u).long,(Aa.feed (Aa.start v.Ax l.queue) u).ret,q⟩ } ⟨(Aa.feed (Aa.start v.Ax l.queue) u).queue,l.wait,l.told⟩,(Aa.feed (Aa.start v.Ax l.queue) u).lost):=
 (if_neg (by rw [RC h,c];decide)).trans rfl
theorem U5 (s:Ak)(u:AL):(s.typed u).1.told=s.told∧(s.typed u).1.state=s.state∧(s.typed u).1.AV=s.AV∧(s.typed u).1.wait=s.wait∧(AG.fD s.queue→AG.fD (s.typed u).1.queue):=by
 unfold Ak.typed
 split
 ·exact⟨rfl,rfl,rfl,rfl,fun h=>h⟩
 ·rename_i c
  refine⟨rfl,rfl,rfl,rfl,fun _=>?_⟩
  have hg:Aa.A5 ⟨s.now,s.long,s.ret,⟨none,s.queue.length,0⟩⟩ s.queue=true:=by
   have:s.Lr=true:=by simpa using c
   exact this
  have ho:=Aa.Wo u ((Aa.EU (l:=⟨s.now,s.long,s.ret,⟨none,s.queue.length,0⟩⟩) rfl).1 hg)
  exact⟨ho.len,fun q hq=>((Aa.Di q).1 (ho.queue q hq)).1⟩
theorem WD (s:Ak)(u:AL):(s.send u).told=s.told∧(s.send u).state=s.state∧(s.send u).AV=s.AV∧(s.send u).wait=s.wait∧(s.send u).queue=s.queue:=by
 unfold Ak.send
 split
 ·exact⟨rfl,rfl,rfl,rfl,rfl⟩
 ·split<;>exact⟨rfl,rfl,rfl,rfl,rfl⟩
def DE (s:Ak)(u:AL):Ak × Int:=(s.bytes u).1.typed (s.bytes u).2
theorem S0 (s:Ak)(u:AL):(DE s u).1.told=s.told∧(DE s u).1.state=s.state∧(DE s u).1.AV=s.AV∧(DE s u).1.wait=s.wait∧(AG.fD s.queue→AG.fD (DE s u).1.queue):=by
 have h1:=U5 (s.bytes u).1 (s.bytes u).2
 have h2:=WD { s with Da:=(s.Da.CM u).1 } (s.Da.CM u).2.2.1
 obtain⟨a,b,c,d,e⟩:=h1
 obtain⟨a',b',c',d',e'⟩:=h2
 exact⟨a.trans a',b.trans b',c.trans c',d.trans d',fun hq=>e (by rw [show(s.bytes u).1.queue=s.queue from e'];exact hq)⟩
theorem MG (H:AG)(k:Int)(u:AL):H.byte k u=(if decide (0 < (DE (H.at_ k) u).2)=true then(H.set k (DE (H.at_ k) u).1).tell k AG.Tl else H.set k (DE (H.at_ k) u).1).BJ:=rfl
def heard (v:A0)(u:AL):A0:={ v with Da:=(v.Da.CM u).1,out:=⟨v.out.wait,(Page.send v.out (v.Da.CM u).2.2.1).1.shown,(Page.send v.out (v.Da.CM u).2.2.1).1.BL,(Page.send v.out (v.Da.CM u).2.2.1).1.ring,(Page.send v.out (v.Da.CM u).2.2.1).1.cut⟩ }
theorem Qv {v:A0}{l:Ae}{u:AL}(hw:v.out.wait.len=l.wait.length):(Bz v l).bytes u=(Bz (heard v u) l,(v.Da.CM u).2.1):=by
 unfold Ak.bytes
 exact congrArg (fun x=>(x,_)) (Uj (v:={ v with Da:=(v.Da.CM u).1 }) (l:=l) (u:=(v.Da.CM u).2.2.1) hw)
theorem Jm {v:A0}{l:Ae}{u:AL}(hw:v.out.wait.len=l.wait.length)(h:v.Ax.queue.len=l.queue.length)(c:Aa.A5 v.Ax l.queue=false):DE (Bz v l) u=(Bz (heard v u) l,0):=by
 unfold DE
 rw [Qv hw]
 exact Yj (v:=heard v u) h c
theorem EB {v:A0}{l:Ae}{u:AL}(hw:v.out.wait.len=l.wait.length)(h:v.Ax.queue.len=l.queue.length)(c:Aa.A5 v.Ax l.queue=true)(q:Hd) :
  DE (Bz v l) u=(Bz { heard v u with Ax:=⟨(Aa.feed (Aa.start v.Ax l.queue) (v.Da.CM u).2.1).now,(Aa.feed (Aa.start v.Ax l.queue) (v.Da.CM u).2.1).long,(Aa.feed (Aa.start v.Ax l.queue) (v.Da.CM u).2.1).ret,q⟩ } ⟨(Aa.feed (Aa.start v.Ax l.queue) (v.Da.CM u).2.1).queue,l.wait,l.told⟩,(Aa.feed (Aa.start v.Ax l.queue) (v.Da.CM u).2.1).lost):=by
 unfold DE
 rw [Qv hw]
 exact bP (v:=heard v u) h c q
namespace AG
variable {H:AG} {n m:Nat}
theorem Mu {i:Int}(h0:0≤i):H.Dz (i+1).toNat=(H.Dz i.toNat).set i { (H.Dz i.toNat).at_ i with told:= [] }:=by
 obtain⟨k,rfl⟩:=Int.eq_ofNat_of_zero_le h0
 rfl
theorem Jn:∀ k:Nat,(H.Dz k).w=H.w∧(H.Dz k).last=H.last∧(H.Dz k).Bp=H.Bp
 | 0=>⟨rfl,rfl,rfl⟩
 | k+1=>Jn k
theorem QM:∀ k:Nat,k≤4→∀ j:Int,0≤j→j < 4→(H.Dz k).at_ j=if j < k then { H.at_ j with told:= [] } else H.at_ j
 | 0,_,j,j0,_=>by rw [if_neg (by omega)];rfl
 | k+1,hk,j,j0,j1=>by
  have ih:=QM k (by omega)
  show(((H.Dz k).set k _).at_ j)=_
  rw [GC _ (by omega) (by omega) j0]
  by_cases c:j=(k:Int)
  ·subst c
   rw [if_pos rfl,if_pos (by omega),ih _ j0 j1,if_neg (by omega)]
  ·rw [if_neg c,ih j j0 j1]
   by_cases c2:j < (k:Int)
   ·rw [if_pos c2,if_pos (by omega)]
   ·rw [if_neg c2,if_neg (by omega)]
theorem Tb {j:Int}(j0:0≤j)(j1:j < 4):H.begun.at_ j={ H.at_ j with told:= [] }:=by
 have:=QM (H:={ H with Bp:=H.Bp+1,last:= [] }) 4 (Nat.le_refl 4) j j0 j1
 rw [if_pos (by omega)] at this
 exact this
theorem Fit.begun (h:H.Fit n m):H.begun.Fit 0 0:=by
 have hs:=Jn (H:={ H with Bp:=H.Bp+1,last:= [] }) 4
 refine⟨by show(Dz _ 4).w.Mz;rw [hs.1];exact h.Fp,fun j a b=>?_,by show(Dz _ 4).last.length≤0;rw [hs.2.1];exact Nat.le_refl 0,fun j a b=>?_,fun j a b=>?_,fun j a b=>?_⟩<;>rw [Tb a b]
 ·exact Nat.le_refl 0
 ·exact h.AV j a b
 ·exact h.wait j a b
 ·exact h.queue j a b
theorem Fit.typed (h:H.Fit n m){k:Int}(h0:0≤k)(h1:k < 4)(u:AL):(H.set k (DE (H.at_ k) u).1).Fit n m:=by
 obtain⟨a,b,c,d,e⟩:=S0 (H.at_ k) u
 exact h.set h0 h1 (by rw [a];exact h.told k h0 h1) (by rw [b,c];exact h.AV k h0 h1) (by rw [d];exact h.wait k h0 h1) (e (h.queue k h0 h1))
theorem Fit.Jl (h:H.Fit n m){k:Int}(h0:0≤k)(h1:k < 4)(z:Int):(H.set k ((H.at_ k).Jl z)).Fit n m:=
 h.set h0 h1 (h.told k h0 h1) (h.AV k h0 h1) (h.wait k h0 h1) (h.queue k h0 h1)
theorem Fit.P4 (h:H.Fit n m)(d:Int):(H.P4 d).Fit (n+400) (m+400):=by
 have h1:=HQ h 4 (Nat.le_refl 4)
 have hr:=AA.L1 (draw:=d) h1.Fp
 have hl:=AA.NR h1.Fp.Gb d
 exact(((h1.land hr.1).Ft hr.2).BJ).mono (by omega) (by omega)
theorem Fit.byte (h:H.Fit 0 0){k:Int}(h0:0≤k)(h1:k < 4)(u:AL):(H.byte k u).Fit 1000 1000:=by
 rw [MG]
 refine(Fit.BJ (n:=1) (m:=0) ?_).mono (by omega) (by omega)
 split
 ·exact(h.typed h0 h1 _).tell h0 h1 (show Tl.length≤_ by decide)
 ·exact(h.typed h0 h1 _).mono (by omega) (by omega)
theorem LZ (P:AG→Prop)(h0:P H)(hp:∀ d,P (H.P4 d))(hc:∀ k,0≤k→k < 4→P (H.QZ k))(hb:∀ k u,0≤k→k < 4→P (H.byte k u))(ht:∀ k z,0≤k→k < 4→P ((H.set k ((H.at_ k).Jl z)).BJ))(hl:∀ k,0≤k→k < 4→P (H.leave k).BJ)(a:CD):P (H.Ed a).1:=by
 unfold AG.Ed
 split
 ·dsimp only;exact hp a.n
 ·split
  ·dsimp only;exact h0
  ·split
   ·dsimp only;exact h0
   ·rename_i c
    have hs:0≤a.AZ∧a.AZ < 4:=by simp only [Bool.or_eq_true,decide_eq_true_eq] at c;omega
    split
    ·dsimp only;exact h0
    ·split
     ·dsimp only;exact hc _ hs.1 hs.2
     ·split
      ·dsimp only;exact hb _ _ hs.1 hs.2
      ·split
       ·dsimp only;exact ht _ _ hs.1 hs.2
       ·dsimp only;exact hl _ hs.1 hs.2
theorem Fit.Ed (h:H.Fit 0 0)(a:CD):(H.Ed a).1.Fit 1000 1000:=
 LZ (fun X=>X.Fit 1000 1000) (h.mono (by omega) (by omega)) (fun d=>(h.P4 d).mono (by omega) (by omega)) (fun k h0 h1=>(h.QZ h0 h1).mono (by omega) (by omega)) (fun k u h0 h1=>h.byte h0 h1 u)
  (fun k z h0 h1=>((h.Jl h0 h1 z).BJ).mono (by omega) (by omega)) (fun k h0 h1=>((h.leave h0 h1).BJ).mono (by omega) (by omega)) a
theorem Fit.act (h:H.Fit n m)(a:CD):(H.act a).1.Fit (n+1000) (m+1000):=by
 unfold AG.act
 split
 ·exact h.mono (by omega) (by omega)
 ·exact(h.begun.Ed a).mono (by omega) (by omega)
theorem F4 {H:AG}(c:decide (400≤H.Bp)=false)(a:CD):H.act a=H.begun.Ed a:=if_neg (by rw [c];decide)
end AG
theorem DP (V:AE)(ls:Vector Ae 4)(ev:List Event){k:Int}(h0:0≤k)(h1:k < 4):decide (((AO V ls ev).at_ k).state=0)=decide ((V.AP.at k).state=0):=by rw [Bu V ls ev h0 h1];rfl
theorem DL {V:AE}{ls:Vector Ae 4}{ev:List Event}{k:Int}(h0:0≤k)(h1:k < 4){sv v:A0}{sl l:Ae}(hs:V.AP.at k=sv)(hl:ls.at k=sl){u:AL}{z:Int}(e:DE (Bz sv sl) u=(Bz v l,z)) :
  AO (V.AZ k v) (ls.put k l) ev=(AO V ls ev).set k (DE ((AO V ls ev).at_ k) u).1∧(DE ((AO V ls ev).at_ k) u).2=z:=by
 have ha:DE ((AO V ls ev).at_ k) u=(Bz v l,z):=by rw [Bu V ls ev h0 h1,hs,hl];exact e
 rw [F3 V ls ev h0 h1,ha]
 exact⟨rfl,rfl⟩
theorem Gc {V V2:AE}{ls ls2:Vector Ae 4}{ev:List Event}{k:Int}(h0:0≤k)(h1:k < 4){u:AL}{z:Int}(e:AO V2 ls2 ev=(AO V ls ev).set k (DE ((AO V ls ev).at_ k) u).1∧(DE ((AO V ls ev).at_ k) u).2=z)(hF:(AO V ls ev).Fit 0 0):(AO V2 ls2 ev).Fit 0 0:=by
 rw [e.1];exact hF.typed h0 h1 u
theorem Iq {V V2 V3 V4:AE}{ls ls2 ls3 ls4:Vector Ae 4}{ev ev3 ev4:List Event}{k:Int}(_:0≤k)(_:k < 4){u:AL}{z:Int}(e:AO V2 ls2 ev=(AO V ls ev).set k (DE ((AO V ls ev).at_ k) u).1∧(DE ((AO V ls ev).at_ k) u).2=z)
  (e3:(decide (0 < z)=true∧AO V3 ls3 ev3=(AO V2 ls2 ev).tell k AG.Tl)∨(decide (0 < z)=false∧AO V3 ls3 ev3=AO V2 ls2 ev)) (e4:AO V4 ls4 ev4=(AO V3 ls3 ev3).BJ):AO V4 ls4 ev4=(AO V ls ev).byte k u:=by
 rw [e4,MG,e.2]
 rcases e3 with ⟨c,e3⟩ | ⟨c,e3⟩
 ·rw [e3,if_pos c,e.1]
 ·rw [e3,if_neg (by rw [c];decide),e.1]
theorem U3 (V:AE)(ls:Vector Ae 4)(ev:List Event){k:Int}(h0:0≤k)(h1:k < 4){sv:A0}(hs:V.AP.at k=sv)(n:Int):sv.out.ring.take (max 0 (min n (sv.out.ring.length:Int))).toNat=((AO V ls ev).at_ k).out n:=by
 rw [Bu V ls ev h0 h1,hs];rfl
theorem Qm (t:AI)(u:AL):(t.CM u).2.1.length≤u.length:=by
 unfold AI.CM
 split
 ·exact Nat.zero_le _
 ·exact(AI.Zp u t).1
end Go.Ing
/- A house, from outside: plain laws for the walks. -/
namespace Go.Ing
open Go
namespace AG
def OX (H:AG)(i:Int):Int × Int:=if decide ((H.at_ i).state=2)=true then(2,(H.at_ i).AV) else((H.at_ i).state,-1)
def Fits (H:AG):Prop:=∃ n m,H.Fit n m
theorem Fits.act {H:AG}(h:H.Fits)(a:CD):(H.act a).1.Fits:=by
 obtain⟨n,m,h⟩:=h
 exact⟨_,_,h.act a⟩
theorem Fits.run:∀(l:List CD) {H:AG},H.Fits→(run H l).1.Fits
 | [],_,h=>h
 | a :: r,_,h=>Fits.run r (h.act a)
theorem dH:AD.new.Mz:=by
 refine⟨fun i=>?_,fun i=>?_,fun i=>?_⟩
 ·rcases Vector.O1 AD.new.AH i with e | ⟨j,j0,j1,e⟩
  ·rw [e];exact Nat.zero_le _
  ·rw [e]
   have:j=0∨j=1∨j=2∨j=3∨j=4∨j=5∨j=6∨j=7∨j=8:=by omega
   rcases this with h | h | h | h | h | h | h | h | h<;>subst h<;>decide
 ·rcases Vector.O1 AD.new.AF i with e | ⟨j,j0,j1,e⟩
  ·rw [e];exact Nat.zero_le _
  ·rw [e]
   have:j=0∨j=1∨j=2∨j=3∨j=4∨j=5:=by omega
   rcases this with h | h | h | h | h | h<;>subst h<;>decide
 ·rcases Vector.O1 AD.new.Ad i with e | ⟨j,j0,j1,e⟩
  ·rw [e];exact Nat.zero_le _
  ·rw [e]
   have:j=0∨j=1∨j=2∨j=3∨j=4∨j=5:=by omega
   rcases this with h | h | h | h | h | h<;>subst h<;>decide
theorem aD {k:Int}(h0:0≤k)(h1:k < 4):AG.new.at_ k=default:=by
 rcases four h0 h1 with e | e | e | e<;>subst e<;>rfl
theorem dF:AG.new.Fit 0 0:=by
 refine⟨dH,fun k a b=>?_,Nat.le_refl 0,fun k a b=>?_,fun k a b=>?_,fun k a b=>?_⟩<;>rw [aD a b]
 ·exact Nat.le_refl 0
 ·exact fun e=>absurd (show(0:Int)=2 from e) (by decide)
 ·exact fun u hu=>by cases hu
 ·exact⟨Nat.zero_le _,fun u hu=>by cases hu⟩
end AG
theorem St.Wn {w0 w:World}{M:List Nat}{L l:List AJ}(h:St w0 M w L)(hl:∀ r∈l,r.Bn = []∧r.ok w):St w0 M w (AJ.CI l :: L):=by
 have hf:(AJ.CI l).Bn = []:=by
  show l.flatMap AJ.Bn = []
  rw [List.flatMap_eq_nil_iff]
  exact fun r hr=>(hl r hr).1
 refine⟨h.os,h.tape,h.output,h.size,h.Il,fun r hr=>?_,fun r hr=>?_,List.pairwise_cons.2 ⟨fun s hs b hb=>?_,h.Ir⟩⟩
 ·rcases List.mem_cons.1 hr with rfl | hr
  ·refine⟨fun r hr=>(hl r hr).2,?_⟩
   refine List.Pairwise.imp_of_mem (R:=fun _ _=>True) (fun {a b} ha hb _ x hx=>?_) (List.pairwise_of_forall (fun _ _=>trivial))
   rw [(hl a ha).1] at hx;cases hx
  ·exact h.ok r hr
 ·rcases List.mem_cons.1 hr with rfl | hr
  ·rw [hf];exact fun b hb=>by cases hb
  ·exact h.Bn r hr
 ·rw [hf] at hb;cases hb
def K2:Vector A0 4:=Vector.replicate 4 default
def K1:Vector Ae 4:=Vector.replicate 4 ⟨[],[],[]⟩
theorem UA (T:Nat)(w:World):∀ r∈BB T K2 K1,r.Bn = []∧r.ok w:=by
 have hs:∀ r∈FH T default ⟨[],[],[]⟩,r.Bn = []∧r.ok w:=fun r hr=>by
  unfold FH at hr
  simp only [List.mem_cons,List.mem_nil_iff,or_false] at hr
  rcases hr with rfl | rfl | rfl<;>exact⟨rfl, .inl ⟨rfl,rfl⟩⟩
 intro r hr
 have e:BB T K2 K1=FH T default ⟨[],[],[]⟩++(FH T default ⟨[],[],[]⟩++(FH T default ⟨[],[],[]⟩++FH T default ⟨[],[],[]⟩)):=rfl
 rw [e] at hr
 simp only [List.mem_append] at hr
 rcases hr with h | h | h | h<;>exact hs r h
def Ce (v:A0):Int × Int:=if decide (v.state=2)=true then(2,v.AV) else(v.state,-1)
end Go.Ing
/- Engine: calls of closures that read what they are handed; slices that are only read, beside boxes. -/
namespace Go.Ing
open Go
section
variable {P:Program} {n:Nat} {w0:World} {M:List Nat} {Q:Exit→Go.Act→World→Prop} {F:List (Nat × Value)} {L:List AJ} {ops:Array Oper} {rest:List Oper}
def lB (w:World)(M:List Nat)(h:Hd)(T sz:Nat)(cs:List Value):Prop:=Rd w h T sz cs∧(cs≠ []→∀ b o,h.a=some ⟨b,o,none⟩→b ∉ M)
end
theorem Rd.pull {w0 w:World}{L A K:List AJ}{h:Hd}{T sz:Nat}{cs:List Value}(hr:Rd w0 h T sz cs)(hS:St w0 [] w L)(hp:AK L A K):lB w (BV A) h T sz cs:=
 ⟨hS.rd hr,fun hne b o e=>by
  obtain⟨b',o',C,fz,h1,h2,_⟩:=hr.2 hne
  rw [e] at h1
  injection h1 with h1
  injection h1 with h1
  subst h1
  exact Pv h2 (by simp) hS hp⟩
instance:Inhabited AE:=⟨⟨default,Vector.replicate 4 default,0,⟨none,0,0⟩⟩⟩
end Go.Ing
/- Engine: the texts in a slice of acts that came in, and how much they can take. -/
namespace Go.Ing
open Go Go.RowKit Go.ChangeShapes Go.WideShapes Go.ChangeAt
section
variable {H:Type} {enc:TypeId × Value→H} {P:Program} {w:World}
theorem Nx {e:TypeId}{d:DataW H}:∀ {l:List (DataW H)},d∈l→∀ n∈d.weights P e,n∈DataW.weightsAll P e l
 | [],h,_,_=>by cases h
 | x :: r,h,n,hn=>by
  simp only [DataW.weightsAll]
  rcases List.mem_cons.1 h with rfl | h
  ·exact List.mem_append_left _ hn
  ·exact List.mem_append_right _ (Nx h n hn)
theorem VV {t E TS:TypeId}{fs:Array Field}{h:Hd}{d:DataW H}{p:List MemPlace}{T0:Nat}{xs:List CD}(hT:P.underlying t=some (.slice E))(hE:P.underlying E=some (.struct fs))(hf:(fs[3]?).map (fun f=>(f.type,f.offset))=some (TS,3))(hS:P.underlying TS=some .string)(zE:P.cellsOf E=4)(zS:P.cellsOf TS=1)
  (hd:DataW.Trod enc P w 0 (fun _=>true) true t h.val d p) (hr:Rd w h T0 4 (xs.flatMap CD.enc)) (hw:∀ n∈d.weights P t,n≤reachBytes):∀ a∈xs,a.bytes.length≤140737488351232:=by
 have hlen:h.len=xs.length:=hr.Gh CD.fl (by decide)
 intro a ha
 obtain⟨i,hi,rfl⟩:=List.getElem_of_mem ha
 have hb:∃ b o,h.a=some ⟨b,o,none⟩:=by
  have hne:xs.flatMap CD.enc≠ []:=fun e=>by
   have:=congrArg List.length e
   rw [CW CD.fl.len] at this
   simp only [List.length_nil] at this
   omega
  obtain⟨b,o,_,_,e,_⟩:=hr.2 hne
  exact⟨b,o,e⟩
 obtain⟨b,o,hb⟩:=hb
 obtain⟨fuel,hfu⟩:=hd
 have hv:h.val = .slice (some ⟨b,o,none⟩) h.len h.cap:=by rw [← hb];rfl
 have hcs:h.val.cells.toList = [.slice (some ⟨b,o,none⟩) h.len h.cap]:=by rw [hv];rfl
 rw [hcs] at hfu
 rcases DataW.trod_slice hT hfu with ⟨h3,_⟩ | ⟨a',len,cap,elems,rest,m,_,h3,h4,_,hlc,_,h5,hel,_⟩
 ·simp at h3
 ·simp at h3
  obtain⟨rfl,rfl,rfl⟩:=h3
  have hd':d = .slice (elems.map (·.1)) (rest.map (·.1)):=congrArg Prod.fst h4
  have h6:=hel i (by omega)
  have hi':i < elems.length:=by omega
  rw [List.getElem?_eq_getElem hi',Option.bind_eq_some_iff] at h6
  obtain⟨c,h7,h9⟩:=h6
  obtain⟨ys,q,_,hx,hl,hlen',hfl⟩:=DataW.trod_struct hE h9
  cases hf3:fs[3]? with
  | none=>rw [hf3] at hf;cases hf
  | some f=>
   rw [hf3] at hf
   simp at hf
   obtain⟨rfl,hoff⟩:=hf
   have h1:=hfl 3 f hf3
   have h3s:3 < fs.size:=by
    rcases Nat.lt_or_ge 3 fs.size with h' | h'
    ·exact h'
    ·rw [Array.getElem?_eq_none h'] at hf3;cases hf3
   have h2:ys[3]?=some (ys[3]'(by omega)):=List.getElem?_eq_getElem (by omega)
   rw [h2,zS,hoff] at h1
   obtain⟨s,e1,e2,_⟩:=DataW.trod_string hS h1
   have hc:=World.cells?_some h7
   rw [zE] at hc
   have h10:=hc.2.2 3 (by omega)
   have h11:c[3]?=some (.string s):=by
    have:=congrArg (fun l=>l[0]?) e1
    simp only [List.getElem?_take,List.getElem?_drop] at this
    simpa using this
   obtain⟨b',o',C,fz,k1,k2,k3,k4⟩:=Pc CD.fl CD.l3 hr hi (by decide)
   have k1':(some ⟨b,o,none⟩:Option Addr)=some ⟨b',o',none⟩:=hb.symm.trans k1
   injection k1' with k1'
   injection k1' with kb ko
   subst kb;subst ko
   rw [EC,EC] at h10
   unfold World.cell? at h10
   simp only [k2] at h10
   have k5:C[o+i * 4+3]?=some (Ag xs[i].bytes):=by
    have:=congrArg (fun l=>l[0]?) k4
    simp only [List.getElem?_take,List.getElem?_drop] at this
    simpa [AX] using this
   have k6:Ag xs[i].bytes = .string s:=by
    rw [h11] at h10
    have:C[o+i * 4+3]?=some (Value.string s):=by simpa using h10
    rw [k5] at this
    injection this
   have k7:s.data.toList=xs[i].bytes:=by
    simp [Ag] at k6
    rw [← k6]
   have hmem:xs[i].bytes.length∈d.weights P t:=by
    rw [hd']
    simp only [DataW.weights,hT]
    refine List.mem_cons_of_mem _ (List.mem_append_left _ (Nx (d:=elems[i].1) (List.mem_map.2 ⟨elems[i],List.getElem_mem _,rfl⟩) _ ?_))
    have hx':elems[i].1 = .agg (ys.map (·.1)):=congrArg Prod.fst hx
    rw [hx']
    simp only [DataW.weights,hE]
    refine DataW.weights_mem_each (j:=3) (t:=f.type) (d:=(ys[3]'(by omega)).1) ?_ ?_ _ ?_
    ·rw [List.getElem?_map];simp [hf3]
    ·rw [List.getElem?_map,h2];rfl
    ·rw [e2,k7];simp [DataW.weights]
   exact hw _ hmem
end
end Go.Ing
/- What every turn keeps: a principle. -/
namespace Go.Ing
open Go
namespace AA
inductive XT (w:AD):AL→Prop
 | word {s:AL}:s∈ [KF,Za,SZ,HK,Sj,KR,fo,aG,Zu,IX]→XT w s
 | room (r:Int):XT w ([84,104,101,32]++(w.Ad.at r).name ++ [46])
 | ways (r:Room):XT w (Gv r 6)
 | list {s:AL} (l:List Int):s∈ [[72,101,114,101,32,105,115],[89,111,117,32,104,97,118,101]]→XT w (RH w s l ++ [46])
 | seen (k:Int):XT w ((w.AF.at k).name ++ [32,105,115,32,104,101,114,101,46])
inductive Shape (x:AL)(w:AD):Event→Prop
 | lO {s:AL}:XT w s→Shape x w { Dn 16 with text:=s }
 | said:Shape x w { Dn 7 with text:=x }
 | kind {k:Int}:k=15∨k=17→Shape x w (Dn k)
 | dir {k d:Int}:k=1∨k=2→Shape x w { Dn k with dir:=d }
 | AQ {k i:Int}:k=3∨k=4∨(8≤k∧k≤13)→Shape x w { Dn k with AQ:=(w.AH.at i).name }
 | Hr {k:Int}:k=8∨k=9→Shape x w { Dn k with AQ:=Jp }
 | lH {i to:Int}:Shape x w { Dn 6 with other:=to,AQ:=(w.AH.at i).name }
 | kD {i to:Int}:Shape x w { Dn 5 with AQ:=(w.AH.at i).name,text:=(w.AH.at to).name }
 | Aq {A2 n:Int}:1≤n→n≤3→Shape x w { Dn 14 with other:=A2,n:=n }
def ev (w:AD)(b:Int)(e:Event):Event:=w.GZ (DT ⟨w,b,[]⟩ e) 6
structure Rel (x:AL)(q:Prop)(b:Int)(R:AD→List Event→AD→Prop):Prop where
 refl:∀ w,R w [] w
 trans:∀ {X l Y m Z},R X l Y→R Y m Z→R X (l++m) Z
 hap:∀ {w e},Shape x w e→R w [ev w b e] w
 AQ:∀ {w:AD} {i:Int} {t:A3},t.name=(w.AH.at i).name→t.kind=(w.AH.at i).kind→R w [] (w.I2 i t)
 A2:∀ {w:AD} {k f:Int},R w [] (w.Bb k { w.AF.at k with A2:=f })
 shut:∀ {w:AD} {r d:Int} {v:Bool},R w [] (w.P5 r d v)
 Ha:∀ {w:AD} {d r:Int},R w [ev w b { Dn 1 with dir:=d }] (w.Bb b { w.AF.at b with room:=r,A2:=0 })
 KG:q→∀ {w},R w [ev w b (Dn 18)] w
 gone:∀ {X l w},R X l w→(∃ e∈l,(e.kind=18∨(e.kind=15∧b < 2))∧e.Al=b)→R X l (w.Bb b default)
section
variable {x:AL} {q:Prop} {b:Int} {R:AD→List Event→AD→Prop} (K:Rel x q b R) {X:AD} {T:AA}
include K
end
end AA
end Go.Ing
/- What every round of fights keeps, and every coming in: a principle. -/
namespace Go.Ing
open Go
namespace AA
structure jr (R:AD→List Event→AD→Prop):Prop where
 all:∀ b,0≤b→b < 6→Rel [] False b R
 lI:∀ {w:AD} {k h:Int},R w [] (w.Bb k { w.AF.at k with AW:=h })
 lP:∀ {X l w} {b:Int},2≤b→R X l w→(∃ e∈l,e.kind=15∧e.Al=b)→R X l (w.Bb b { w.AF.at b with room:=0,AW:=10 })
section
variable {R:AD→List Event→AD→Prop} (K:jr R)
include K
omit K in
end
end AA
end Go.Ing
/- What happens within an act of a house, in small steps. -/
namespace Go.Ing
open Go
namespace Ak
def CB (s:Ak)(e:Event):Ak:=if (AD.tell e s.AV).2=true then s.tell (AD.tell e s.AV).1 else s
def G9 (s:Ak)(es:List Event):Ak:=if s.state=2 then es.foldl CB s else s
end Ak
theorem lt_next {j:Int}{k:Nat}(c:¬ j=(k:Int)):(j < ((k+1:Nat):Int))=(j < (k:Int)):=propext ⟨fun _=>by omega,fun _=>by omega⟩
namespace AG
theorem LJ (e:Event)(H:AG):∀ k:Nat,k≤4→∀ j:Int,0≤j→j < 4→(CB e H k).at_ j=if j < k∧(H.at_ j).state=2 then(H.at_ j).CB e else H.at_ j
 | 0,_,j,h0,_=>by rw [if_neg (by omega)];rfl
 | k+1,hk,j,h0,h1=>by
  have ih:=LJ e H k (by omega) j h0 h1
  have ihk:=Lk e H k (by omega) k (Int.le_refl _) (by omega)
  by_cases c:j=(k:Int)
  ·subst c
   unfold CB
   rw [ihk]
   split
   ·rename_i c1
    rw [if_neg (by simp at c1;exact fun h=>c1 h.2)];exact ihk
   ·rename_i c1
    have hr:(if (k:Int) < ((k+1:Nat):Int)∧(H.at_ k).state=2 then(H.at_ k).CB e else H.at_ k)=if (AD.tell e (H.at_ k).AV).2=true then(H.at_ k).tell (AD.tell e (H.at_ k).AV).1 else H.at_ k:=if_pos ⟨by omega,by simpa using c1⟩
    rw [hr]
    by_cases c2:(AD.tell e (H.at_ k).AV).2=true
    ·rw [if_pos c2,if_pos c2]
     unfold AG.tell
     rw [AG.GC _ (by omega) (by omega) h0,if_pos rfl,ihk]
    ·rw [if_neg c2,if_neg c2];exact ihk
  ·have e2:(CB e H (k+1)).at_ j=(CB e H k).at_ j:=by
    rw [CB.eq_2]
    split
    ·rfl
    ·split
     ·exact Wf (by omega) (by omega) h0 c _
     ·rfl
   rw [e2,ih];simp only [lt_next c]
theorem XC (s:Ak)(e:Event):(s.CB e).state=s.state∧(s.CB e).AV=s.AV:=by
 unfold Ak.CB
 split
 ·exact⟨(K8 _ _).1,(K8 _ _).2.1⟩
 ·exact⟨rfl,rfl⟩
theorem Ty {j:Int}(j0:0≤j)(j1:j < 4):∀(es:List Event) (H:AG),(H.Ix es).at_ j=(H.at_ j).G9 es
 | [],H=>by show H.at_ j=_;unfold Ak.G9;split<;>rfl
 | e :: r,H=>by
  have ih:=Ty j0 j1 r (CB e H 4)
  show((CB e H 4).Ix r).at_ j=_
  have h1:=LJ e H 4 (Nat.le_refl 4) j j0 j1
  rw [ih,h1]
  by_cases c:(H.at_ j).state=2
  ·rw [if_pos ⟨by omega,c⟩]
   unfold Ak.G9
   rw [if_pos c,if_pos (by rw [(XC _ e).1];exact c)]
   rfl
  ·rw [if_neg (fun h=>c h.2)]
   unfold Ak.G9
   rw [if_neg c,if_neg c]
theorem Wx (H:AG)(es:List Event){j:Int}(j0:0≤j)(j1:j < 4):(H.Ft es).at_ j=(H.at_ j).G9 es:=Ty j0 j1 es _
theorem fR {H K:AG}(h1:H.w=K.w)(h2:∀ j,0≤j→j < 4→H.at_ j=K.at_ j)(h3:H.Bp=K.Bp)(h4:H.last=K.last):H=K:=by
 cases H;cases K
 simp only at h1 h3 h4
 subst h1 h3 h4
 congr 1
 exact Ob fun i i0 i1=>h2 i i0 i1
def dN:List AL:= [CS,Tl,fp,Sk,noRoom]
inductive Ew (U:AL→Prop)(H:AG):Int→AD→Ak→List Event→Prop
 | left {k:Int}:(H.at_ k).state=2→(H.w.AF.at (H.at_ k).AV).here=true→Ew U H k (AA.Dk H.w (H.at_ k).AV DN).1 default (AA.Dk H.w (H.at_ k).AV DN).2.1
 | cU {k:Int} {u:AL}:(H.at_ k).state=1→(AA.Ao H.w u).2.2.2=0→Ew U H k (AA.Ao H.w u).1 { H.at_ k with state:=2,AV:=(AA.Ao H.w u).2.1 } (AA.Ao H.w u).2.2.1
 | kX {k:Int} {q:AL}:U q→(H.at_ k).state≠0→(H.at_ k).state≠1→(Words.parse q).1.verb≠20→Ew U H k (AA.Dk H.w (H.at_ k).AV (Words.parse q).1).1 (H.at_ k) (AA.Dk H.w (H.at_ k).AV (Words.parse q).1).2.1
 | round {d:Int}:Ew U H 0 (AA.BX H.w d).1 (H.at_ 0) (AA.BX H.w d).2.1
def OB (H:AG)(k:Int)(w:AD)(s:Ak)(es:List Event):AG:=({ H with w:=w }.set k s).Ft es
inductive Step (U:AL→Prop)(H:AG):AG→Prop
 | told {k:Int} {u:AL}:0≤k→k < 4→(H.at_ k).state≠0→u∈dN→Step U H (H.tell k u)
 | BJ {k:Int}:0≤k→k < 4→(H.at_ k).state≠0→Step U H (H.set k (H.at_ k).BJ)
 | goes {k:Int} {w:AD} {s:Ak} {es:List Event}:0≤k→k < 4→Ew U H k w s es→Step U H (H.OB k w s es)
 | free {k:Int}:0≤k→k < 4→¬ ((H.at_ k).state=2∧(H.w.AF.at (H.at_ k).AV).here=true)→Step U H (H.set k default)
inductive Steps (U:AL→Prop)(H:AG):AG→Prop
 | refl:Steps U H H
 | tail {X Y:AG}:Steps U H X→Step U X Y→Steps U H Y
section
variable {U:AL→Prop} {H X Y:AG}
theorem Step.one (h:Step U H X):Steps U H X:= .tail .refl h
theorem Steps.trans (h:Steps U H X)(k:Steps U X Y):Steps U H Y:=by
 induction k with
 | refl=>exact h
 | tail _ s ih=>exact ih.tail s
theorem Steps.Ll {P:AG→Prop}(hs:∀ {H X:AG},P H→Step U H X→P X)(h:P H)(k:Steps U H X):P X:=by
 induction k with
 | refl=>exact h
 | tail _ s ih=>exact hs ih s
theorem S2 (H:AG){k:Int}(h0:0≤k)(h1:k < 4)(w:AD)(s:Ak)(es:List Event){j:Int}(j0:0≤j)(j1:j < 4):(H.OB k w s es).at_ j=(if j=k then s else H.at_ j).G9 es:=by
 unfold OB
 rw [Wx _ _ j0 j1,GC _ h0 h1 j0]
 rfl
theorem PV (es:List Event):(default:Ak).G9 es=default:=if_neg (show ¬ (0:Int)=2 by decide)
theorem Kc (H:AG){k:Int}(h0:0≤k)(h1:k < 4):Steps U H (H.leave k):=by
 unfold AG.leave
 split
 ·rename_i c
  rw [Bool.and_eq_true,decide_eq_true_eq] at c
  have s:Step U H (H.OB k (AA.Dk H.w (H.at_ k).AV DN).1 default (AA.Dk H.w (H.at_ k).AV DN).2.1):= .goes h0 h1 (.left c.1 c.2)
  have e:(((H.Vs k).set k default).Ft (AA.Dk H.w (H.at_ k).AV DN).2.1).set k default=H.OB k (AA.Dk H.w (H.at_ k).AV DN).1 default (AA.Dk H.w (H.at_ k).AV DN).2.1:=by
   show(H.OB k _ default _).set k default=_
   have:=S2 H h0 h1 (AA.Dk H.w (H.at_ k).AV DN).1 default (AA.Dk H.w (H.at_ k).AV DN).2.1 h0 h1
   rw [if_pos rfl,PV] at this
   have h2:=JA (H.OB k (AA.Dk H.w (H.at_ k).AV DN).1 default (AA.Dk H.w (H.at_ k).AV DN).2.1) h0 h1
   rw [this] at h2
   exact h2
  rw [e]
  exact s.one
 ·rename_i c
  exact(Step.free h0 h1 (fun h=>c (by rw [Bool.and_eq_true,decide_eq_true_eq];exact h))).one
theorem Kb (H:AG):∀ k:Nat,k≤4→Steps U H (H.CH k).1
 | 0,_=> .refl
 | k+1,hk=>by
  have ih:=Kb H k (by omega)
  unfold CH
  split
  ·exact ih
  ·rename_i c
   have s:Step U (H.CH k).1 ((H.CH k).1.set k (((H.CH k).1.at_ k).BJ)):= .BJ (by omega) (by omega) (by simpa using c)
   split
   ·exact(ih.tail s).trans (Kc _ (by omega) (by omega))
   ·exact ih.tail s
theorem Nu:∀(n:Nat) (H:AG),Steps U H (H.HV n)
 | 0,_=> .refl
 | n+1,H=>by
  unfold HV
  split
  ·exact Kb H 4 (Nat.le_refl 4)
  ·exact(Kb H 4 (Nat.le_refl 4)).trans (Nu n _)
theorem WK (H:AG):Steps U H H.BJ:=Nu 5 H
theorem Uu (H:AG){k:Int}(h0:0≤k)(h1:k < 4)(hs:(H.at_ k).state=1)(u:AL):Steps U H (H.named k u):=by
 unfold AG.named
 split
 ·rename_i c
  exact(Step.goes h0 h1 (.cU hs (of_decide_eq_true c))).one
 ·have hn:(H.at_ k).state≠0:=by omega
  split
  ·exact(Step.told h0 h1 hn (by simp [dN])).one
  ·exact(Step.told h0 h1 hn (by simp [dN])).one
theorem Uv (H:AG){k:Int}(h0:0≤k)(h1:k < 4)(hs:(H.at_ k).state≠0)(h2:(H.at_ k).state≠1){u:AL}(hu:U u):Steps U H (H.order k u):=by
 unfold AG.order
 split
 ·exact(Step.told h0 h1 hs (by simp [dN])).one
 ·split
  ·exact Kc H h0 h1
  ·rename_i c
   have:=(Step.goes (H:=H) h0 h1 (.kX hu hs h2 (fun e=>c (decide_eq_true e)))).one
   unfold OB at this
   rw [show({ H with w:=(AA.Dk H.w (H.at_ k).AV (Words.parse u).1).1 }:AG).set k (H.at_ k)={ H with w:=(AA.Dk H.w (H.at_ k).AV (Words.parse u).1).1 } from JA { H with w:=(AA.Dk H.w (H.at_ k).AV (Words.parse u).1).1 } h0 h1] at this
   exact this
theorem Uw (H:AG)(d:Int):Steps U H ({ H with w:=(AA.BX H.w d).1 }.Ft (AA.BX H.w d).2.1):=by
 have:=(Step.goes (U:=U) (H:=H) (Int.le_refl 0) (by decide) (.round (d:=d))).one
 unfold OB at this
 rw [show({ H with w:=(AA.BX H.w d).1 }:AG).set 0 (H.at_ 0)={ H with w:=(AA.BX H.w d).1 } from JA { H with w:=(AA.BX H.w d).1 } (Int.le_refl 0) (by decide)] at this
 exact this
def next (H:AG)(k:Int)(r:List AL):AG:=H.set k { H.at_ k with queue:=r }.Ev
theorem WS (H:AG){k:Int}(h0:0≤k)(h1:k < 4)(hU:∀ q∈(H.at_ k).queue,U q):(((H.at_ k).state=0∨(H.at_ k).queue = [])∧H.Dy k=H)∨∃ q r,(H.at_ k).state≠0∧(H.at_ k).queue=q :: r∧Steps U (H.next k r) (H.Dy k):=by
 unfold AG.Dy
 split
 ·rename_i c;exact .inl ⟨.inl (of_decide_eq_true c),rfl⟩
 ·rename_i c
  have c':(H.at_ k).state≠0:=fun e=>c (decide_eq_true e)
  split
  ·rename_i e;exact .inl ⟨.inr e,rfl⟩
  ·rename_i q r e
   refine .inr ⟨q,r,c',e,?_⟩
   have ha:(H.next k r).at_ k={ H.at_ k with queue:=r }.Ev:=by unfold next;rw [GC _ h0 h1 h0,if_pos rfl]
   have hst:((H.next k r).at_ k).state=(H.at_ k).state:=by rw [ha];rfl
   show Steps U (H.next k r) (if (H.at_ k).pg.BL=true then H.next k r else if decide ((H.at_ k).state=1)=true then(H.next k r).named k (Words.DH 32 (Words.Dx 32 q)) else(H.next k r).order k q)
   split
   ·exact .refl
   ·split
    ·rename_i c2
     exact Uu _ h0 h1 (by rw [hst];exact of_decide_eq_true c2) _
    ·rename_i c2
     exact Uv _ h0 h1 (by rw [hst];exact c') (by rw [hst];exact fun e=>c2 (decide_eq_true e)) (hU q (by rw [e];exact List.mem_cons_self ..))
end
end AG
end Go.Ing
/- What a seat is behind every act: plain laws. -/
namespace Go.Ing
open Go
namespace Page
theorem PG (ht:Int):∀(l:List AL) (x:Pg),x.ring.length≤700→0≤x.shown→x.shown≤200→(BJ ht l x).1.ring.length≤700∧0≤(BJ ht l x).1.shown∧(BJ ht l x).1.shown≤200
 | [],x,h1,h2,h3=>⟨h1,h2,h3⟩
 | s :: r,x,h1,h2,h3=>by
  unfold BJ
  split
  ·exact⟨h1,h2,h3⟩
  ·split
   ·refine⟨MY h1,?_,?_⟩<;>rw [HP]
    ·exact h2
    ·exact h3
   ·refine PG ht r _ (MY h1) ?_ ?_<;>rw [HP]
    ·show 0≤min (x.shown+1) 200;omega
    ·show min (x.shown+1) 200≤200;omega
end Page
namespace Ak
structure Ok (s:Ak):Prop where
 st:0≤s.state∧s.state≤2
 n:s.wait.length≤60
 ring:s.pg.ring.length≤700
 s0:0≤s.pg.shown
 s1:s.pg.shown≤200
 ln:Aa.Ok ⟨s.now,s.long,s.ret,s.queue,0⟩
theorem fZ (s:Ak):s.P2=true↔s.wait.length≤60∧s.pg.ring.length≤700∧0≤s.pg.shown∧s.pg.shown≤200:=by
 simp only [P2,Bool.and_eq_true,decide_eq_true_eq];omega
theorem fX (s:Ak):s.Lr=true↔Aa.Ok ⟨s.now,s.long,s.ret,s.queue,0⟩:=
 Aa.EU (l:=⟨s.now,s.long,s.ret,⟨none,s.queue.length,0⟩⟩) (qs:=s.queue) rfl
variable {s:Ak}
theorem Ok.P2 (h:s.Ok):s.P2=true:=(fZ s).2 ⟨h.n,h.ring,h.s0,h.s1⟩
theorem Ok.Lr (h:s.Ok):s.Lr=true:=(fX s).2 h.ln
theorem H2:(default:Ak).Ok:=⟨⟨Int.le_refl 0,by decide⟩,Nat.zero_le _,Nat.zero_le _,Int.le_refl 0,by decide,(⟨Aa.NU,(fun s hs=>by cases hs),Nat.zero_le _,(fun h=>by cases h)⟩:Aa.Ok ⟨[],false,false,[],0⟩)⟩
theorem Ok.line (h:s.Ok)(u:AL):(s.line u).Ok:=by
 unfold Ak.line
 split
 ·exact h
 ·split
  ·exact h
  ·split
   ·exact⟨h.st,h.n,h.ring,h.s0,h.s1,h.ln⟩
   ·rename_i c
    refine⟨h.st,?_,h.ring,h.s0,h.s1,h.ln⟩
    have hn:=h.n
    have c':¬ (60:Int)≤s.wait.length:=fun e=>c (decide_eq_true e)
    show(s.wait ++ [u]).length≤60
    rw [List.length_append,List.length_singleton];omega
theorem Ok.tell (h:s.Ok)(u:AL):(s.tell u).Ok:=by
 have:=h.line u
 unfold Ak.tell Ak.note
 split
 ·exact⟨this.st,this.n,this.ring,this.s0,this.s1,this.ln⟩
 ·exact this
theorem Ok.BJ (h:s.Ok):s.BJ.Ok:=by
 unfold Ak.BJ
 split
 ·exact h
 ·have hk:=Page.PG s.Da.Bw s.wait s.pg h.ring h.s0 h.s1
  exact⟨h.st,Nat.le_trans (Page.ch _ _ _) h.n,hk.1,hk.2.1,hk.2.2,h.ln⟩
theorem Ok.send (h:s.Ok)(u:AL):(s.send u).Ok:=by
 unfold Ak.send
 split
 ·exact h
 ·split
  ·exact h
  ·exact⟨h.st,h.n,Page.MY h.ring,by show 0≤(Page.put s.pg u).shown;rw [Page.HP];exact h.s0,by show(Page.put s.pg u).shown≤200;rw [Page.HP];exact h.s1,h.ln⟩
theorem Ok.Da (h:s.Ok)(t:AI):({ s with Da:=t }:Ak).Ok:=⟨h.st,h.n,h.ring,h.s0,h.s1,h.ln⟩
theorem Ok.offer (h:s.Ok)(opt:Int):(s.offer opt).Ok:=by
 unfold Ak.offer
 split
 ·exact(h.Da _).send _
 ·exact(h.Da _).send _
theorem Ok.Jl (h:s.Ok)(n:Int):(s.Jl n).Ok:=⟨h.st,h.n,by show(s.pg.ring.drop _).length≤700;rw [List.length_drop];have:=h.ring;omega,h.s0,h.s1,h.ln⟩
theorem Ok.next (h:s.Ok){q:AL}{r:List AL}(e:s.queue=q :: r):({ s with queue:=r }:Ak).Ev.Ok:=
 ⟨h.st,h.n,h.ring,Int.le_refl 0,show(0:Int)≤200 by decide,⟨h.ln.now,fun x hx=>h.ln.queue x (by show x∈s.queue;rw [e];exact List.mem_cons_of_mem _ hx),by
  have:=h.ln.len
  have h2:s.queue.length≤6:=this
  rw [e,List.length_cons] at h2
  show r.length≤6;omega,h.ln.ret⟩⟩
theorem Ok.typed (h:s.Ok)(u:AL):(DE s u).1.Ok:=by
 have h1:(s.bytes u).1.Ok:=(h.Da _).send _
 unfold DE Ak.typed
 split
 ·exact h1
 ·have ho:=Aa.Wo (s.bytes u).2 h1.ln
  exact⟨h1.st,h1.n,h1.ring,h1.s0,h1.s1,⟨ho.now,ho.queue,ho.len,ho.ret⟩⟩
theorem Ok.cU (h:s.Ok)(b:Int):({ s with state:=2,AV:=b }:Ak).Ok:=⟨⟨show(0:Int)≤2 by decide,show(2:Int)≤2 by decide⟩,h.n,h.ring,h.s0,h.s1,h.ln⟩
theorem Ok.CB (h:s.Ok)(e:Event):(s.CB e).Ok:=by
 unfold Ak.CB;split
 ·exact h.tell _
 ·exact h
theorem Wt:∀(es:List Event) {s:Ak},s.Ok→(es.foldl Ak.CB s).Ok
 | [],_,h=>h
 | e :: r,_,h=>Wt r (h.CB e)
theorem Ok.G9 (h:s.Ok)(es:List Event):(s.G9 es).Ok:=by
 unfold Ak.G9
 split
 ·exact Wt es h
 ·exact h
theorem Ok.heard (h:s.Ok):({ s with told:= [] }:Ak).Ok:=⟨h.st,h.n,h.ring,h.s0,h.s1,h.ln⟩
theorem Zt (s:Ak)(es:List Event):(s.G9 es).state=s.state∧(s.G9 es).AV=s.AV:=by
 unfold Ak.G9
 split
 ·induction es generalizing s with
  | nil=>exact⟨rfl,rfl⟩
  | cons e r ih=>
   rename_i c
   have h1:=AG.XC s e
   have:=ih (s.CB e) (by rw [h1.1];exact c)
   exact⟨this.1.trans h1.1,this.2.trans h1.2⟩
 ·exact⟨rfl,rfl⟩
theorem PF (s:Ak)(c:(decide (s.Da.Bw < 0) || decide (200 < s.Da.Bw))=true):s.BJ=s:=by
 unfold Ak.BJ
 rw [if_pos]
 rw [Bool.or_assoc,c,Bool.or_true]
end Ak
namespace AG
def JN (H:AG):Prop:=∀ k,0≤k→k < 4→(H.at_ k).Ok
section
variable {U:AL→Prop} {H X:AG}
theorem JN.set (h:H.JN){k:Int}(h0:0≤k)(h1:k < 4){s:Ak}(hs:s.Ok):(H.set k s).JN:=fun j j0 j1=>by
 rw [GC _ h0 h1 j0];split
 ·exact hs
 ·exact h j j0 j1
theorem JN.step (h:H.JN)(s:Step U H X):X.JN:=by
 cases s with
 | told h0 h1 _ _=>exact h.set h0 h1 ((h _ h0 h1).tell _)
 | BJ h0 h1 _=>exact h.set h0 h1 (h _ h0 h1).BJ
 | free h0 h1 _=>exact h.set h0 h1 Ak.H2
 | goes h0 h1 g=>
  intro j j0 j1
  rw [S2 H h0 h1 _ _ _ j0 j1]
  refine Ak.Ok.G9 ?_ _
  split
  ·cases g with
   | left _ _=>exact Ak.H2
   | cU _ _=>exact(h _ h0 h1).cU _
   | kX _ _ _ _=>exact h _ h0 h1
   | round=>exact h _ (Int.le_refl 0) (by decide)
  ·exact h j j0 j1
theorem JN.steps (h:H.JN)(s:Steps U H X):X.JN:=Steps.Ll (P:=JN) (fun h s=>h.step s) h s
/-! #### nobody is cut off behind all that flows -/
def busy (H:AG)(k:Int):Nat:=if (H.at_ k).state=0 then 0 else 1
def HT (H:AG):Nat:=H.busy 0+H.busy 1+H.busy 2+H.busy 3
theorem cR {H X:AG}(h:∀ j,0≤j→j < 4→(H.at_ j).state=0→(X.at_ j).state=0):X.HT≤H.HT∧∀ k,0≤k→k < 4→(H.at_ k).state≠0→(X.at_ k).state=0→X.HT < H.HT:=by
 have hb:∀ j,0≤j→j < 4→X.busy j≤H.busy j∧H.busy j≤1∧((H.at_ j).state≠0→(X.at_ j).state=0→X.busy j < H.busy j):=fun j j0 j1=>by
  have:=h j j0 j1
  unfold busy
  refine⟨?_,?_,?_⟩
  ·split
   ·exact Nat.zero_le _
   ·rename_i c
    rw [if_neg (fun e=>c (this e))];exact Nat.le_refl _
  ·split<;>omega
  ·intro a b
   rw [if_pos b,if_neg a];decide
 have b0:=hb 0 (by decide) (by decide);have b1:=hb 1 (by decide) (by decide);have b2:=hb 2 (by decide) (by decide);have b3:=hb 3 (by decide) (by decide)
 unfold HT
 refine⟨by omega,fun k k0 k1 a b=>?_⟩
 rcases four k0 k1 with e | e | e | e<;>subst e
 ·have:=b0.2.2 a b;omega
 ·have:=b1.2.2 a b;omega
 ·have:=b2.2.2 a b;omega
 ·have:=b3.2.2 a b;omega
theorem UD (H:AG){k:Int}(h0:0≤k)(h1:k < 4){j:Int}(j0:0≤j)(j1:j < 4):(H.leave k).at_ j=if j=k then default else(H.at_ j).G9 (if decide ((H.at_ k).state=2) && (H.w.AF.at (H.at_ k).AV).here then(AA.Dk H.w (H.at_ k).AV DN).2.1 else []):=by
 unfold AG.leave
 rw [GC _ h0 h1 j0]
 split
 ·rfl
 ·rename_i c
  split
  ·rw [Wx _ _ j0 j1,GC _ h0 h1 j0,if_neg c]
   rfl
  ·unfold Ak.G9;split<;>rfl
theorem Li (H:AG):∀ k:Nat,k≤4→∀ j,0≤j→j < 4→(H.at_ j).state=0→((H.CH k).1.at_ j).state=0
 | 0,_,_,_,_,h=>h
 | k+1,hk,j,j0,j1,h=>by
  have ih:=Li H k (by omega) j j0 j1 h
  have hf:(((H.CH k).1.set k (((H.CH k).1.at_ k).BJ)).at_ j).state=0:=by
   rw [GC _ (by omega) (by omega) j0]
   split
   ·rename_i e;subst e;rw [(RT _).2.1];exact ih
   ·exact ih
  unfold CH
  split
  ·exact ih
  ·split
   ·show(AG.at_ (AG.leave _ _) j).state=0
    rw [UD _ (by omega) (by omega) j0 j1]
    split
    ·rfl
    ·rw [(Ak.Zt _ _).1];exact hf
   ·exact hf
theorem Q6 (H:AG):∀ k:Nat,k≤4→(H.CH k).2=true→∃ j,0≤j∧j < 4∧(H.at_ j).state≠0∧((H.CH k).1.at_ j).state=0
 | 0,_,h=>by cases h
 | k+1,hk,h=>by
  have ih:=Q6 H k (by omega)
  have hn:(((H.CH k).1.at_ k).state≠0)→(H.at_ k).state≠0:=fun c e=>c (Li H k (by omega) k (by omega) (by omega) e)
  unfold CH at h ⊢
  split at h
  ·rename_i c
   rw [if_pos c];exact ih h
  ·rename_i c
   have c':((H.CH k).1.at_ k).state≠0:=by simpa using c
   rw [if_neg c]
   split at h
   ·rename_i c2
    rw [if_pos c2]
    refine⟨k,by omega,by omega,hn c',?_⟩
    show(AG.at_ (AG.leave _ _) k).state=0
    rw [UD _ (by omega) (by omega) (by omega) (by omega),if_pos rfl];rfl
   ·rename_i c2
    rw [if_neg c2]
    obtain⟨j,j0,j1,a,b⟩:=ih h
    refine⟨j,j0,j1,a,?_⟩
    show(AG.at_ (AG.set _ _ _) j).state=0
    rw [GC _ (by omega) (by omega) j0]
    split
    ·rename_i e;subst e;exact absurd b c'
    ·exact b
end
end AG
end Go.Ing
/- Acts that are played: plain laws. -/
namespace Go.Ing
open Go
namespace AI
def G5 (t:AI):Nat:=if t.at_=2 then 2 else if t.at_=1 then 1 else 0
theorem Yd (t:AI)(b:UInt8):(t.step b).2.2.length+(t.step b).1.G5≤1+t.G5:=by
 unfold step;dsimp only
 split
 ·rename_i c;have c':=of_decide_eq_true c
  have hp:t.G5=0:=by unfold G5;rw [if_neg (by omega),if_neg (by omega)]
  split
  ·exact Nat.le_add_right 1 _
  ·show 0+t.G5≤1+t.G5;omega
 ·split
  ·rename_i c;have c':=of_decide_eq_true c
   have hp:t.G5=1:=by unfold G5;rw [if_neg (by omega),if_pos c']
   rw [hp]
   split
   ·exact Nat.zero_le _
   ·split
    ·exact Nat.zero_le _
    ·split
     ·exact Nat.le_refl 2
     ·exact Nat.zero_le _
  ·split
   ·rename_i c;have c':=of_decide_eq_true c
    have hp:t.G5=2:=by unfold G5;rw [if_pos c']
    rw [hp]
    exact Ie _ _ _
   ·split
    ·rename_i c;have c':=of_decide_eq_true c
     split
     ·exact Nat.zero_le _
     ·show 0+(t.collect b).G5≤_
      have:(t.collect b).at_=t.at_:=by unfold collect;split<;>rfl
      unfold G5;rw [this];rw [if_neg (by omega),if_neg (by omega)];omega
    ·split
     ·rename_i c;have c':=of_decide_eq_true c
      split
      ·show 0+(collect { t with at_:=3 } b).G5≤_
       have:(collect { t with at_:=3 } b).at_=3:=by unfold collect;split<;>rfl
       unfold G5;rw [this];rw [if_neg (by decide),if_neg (by decide)];omega
      ·split
       ·show 0+G5 { t.measure with at_:=0,sub:= [] }≤_;exact Nat.zero_le _
       ·exact Nat.zero_le _
     ·show 0+t.G5≤_;omega
theorem NA:∀(s:AL) (t:AI),(t.feed s).2.2.length≤s.length+t.G5
 | [],t=>Nat.zero_le _
 | b :: s,t=>by
  have h1:=Yd t b
  have h2:=NA s (t.step b).1
  show((t.step b).2.2++((t.step b).1.feed s).2.2).length≤s.length+1+t.G5
  rw [List.length_append];omega
theorem W7 (t:AI):t.G5≤2:=by unfold G5;split;exact Nat.le_refl 2;split<;>decide
theorem FR.yb {X t:AI}{u x y:AL}{k:Int}(h:FR X u k t x y):y.length≤u.length+2:=by
 have h1:=NA u X
 have h2:=W7 X
 rw [h.e3,List.length_append] at h1
 omega
theorem Qn (t:AI)(u:AL):(t.CM u).2.2.1.length≤u.length+2:=by
 unfold CM
 split
 ·exact Nat.zero_le _
 ·have h1:=NA u t
  have h2:=W7 t
  show(t.feed u).2.2.length≤_
  omega
end AI
namespace AG
section
variable {H:AG}
theorem JN.tell (h:H.JN){k:Int}(h0:0≤k)(h1:k < 4)(u:AL):(H.tell k u).JN:=h.set h0 h1 ((h k h0 h1).tell u)
theorem JN.BJ (h:H.JN):H.BJ.JN:=h.steps (U:=fun _=>True) (WK H)
theorem JN.Dy (h:H.JN){k:Int}(h0:0≤k)(h1:k < 4):(H.Dy k).JN:=by
 rcases WS (U:=fun _=>True) H h0 h1 (fun _ _=>trivial) with ⟨_,e⟩ | ⟨q,r,_,e,s⟩
 ·rw [e];exact h
 ·exact JN.steps (h.set h0 h1 ((h k h0 h1).next e)) s
theorem JN.turns (h:H.JN):∀ k:Nat,k≤4→(H.turns k).JN
 | 0,_=>h
 | k+1,hk=>(JN.turns h k (by omega)).Dy (by omega) (by omega)
theorem JN.begun (h:H.JN):H.begun.JN:=fun k h0 h1=>by rw [Tb h0 h1];exact(h k h0 h1).heard
theorem JN.Ed (h:H.JN)(a:CD):(H.Ed a).1.JN:=
 LZ (fun X=>X.JN) h (fun d=>((h.turns 4 (Nat.le_refl 4)).steps (U:=fun _=>True) (Uw _ d)).BJ)
  (fun k h0 h1=>((h.set h0 h1 (((show({ (default:Ak) with state:=1,AV:=-1 }:Ak).Ok from⟨⟨show(0:Int)≤1 by decide,show(1:Int)≤2 by decide⟩,Ak.H2.n,Ak.H2.ring,Ak.H2.s0,Ak.H2.s1,Ak.H2.ln⟩).offer 3).offer 31)).tell h0 h1 CS).BJ)
  (fun k u h0 h1=>by
   rw [MG]
   refine JN.BJ ?_
   have hs:=h.set h0 h1 ((h k h0 h1).typed u)
   split
   ·exact hs.tell h0 h1 Tl
   ·exact hs)
  (fun k z h0 h1=>(h.set h0 h1 ((h k h0 h1).Jl z)).BJ) (fun k h0 h1=>(h.steps (U:=fun _=>True) (Kc H h0 h1)).BJ) a
theorem JN.act (h:H.JN)(a:CD):(H.act a).1.JN:=by
 unfold AG.act
 split
 ·exact h
 ·exact h.begun.Ed a
end
structure Live (H:AG):Prop where
 fit:H.Fit 1000 1000
 Bp:0≤H.Bp
 jN:H.JN
theorem Live.fits {H:AG}(h:H.Live):H.Fits:=⟨_,_,h.fit⟩
theorem dG:AG.new.JN:=fun k h0 h1=>by rw [aD h0 h1];exact Ak.H2
theorem aE:AG.new.Live:=⟨dF.mono (by decide) (by decide),Int.le_refl 0,dG⟩
section
variable {H X:AG}
theorem PO (e:Event)(H:AG):∀ k:Nat,(CB e H k).Bp=H.Bp
 | 0=>rfl
 | k+1=>by
  have ih:=PO e H k
  rw [CB.eq_2]
  split
  ·exact ih
  ·split<;>exact ih
theorem PR:∀(es:List Event) (H:AG),(H.Ix es).Bp=H.Bp
 | [],_=>rfl
 | e :: r,H=>(PR r _).trans (PO e H 4)
theorem Kw (H:AG)(es:List Event):(H.Ft es).Bp=H.Bp:=PR es _
theorem Lo (H:AG)(k:Int):(H.leave k).Bp=H.Bp:=by
 unfold AG.leave
 split
 ·exact Kw _ _
 ·rfl
theorem Lh (H:AG):∀ k:Nat,(H.CH k).1.Bp=H.Bp
 | 0=>rfl
 | k+1=>by
  have ih:=Lh H k
  unfold CH
  split
  ·exact ih
  ·split
   ·exact(Lo _ _).trans ih
   ·exact ih
theorem PD:∀(n:Nat) (H:AG),(H.HV n).Bp=H.Bp
 | 0,_=>rfl
 | n+1,H=>by
  unfold HV
  split
  ·exact Lh H 4
  ·exact(PD n _).trans (Lh H 4)
theorem It (H:AG):H.BJ.Bp=H.Bp:=PD 5 H
theorem WR (H:AG)(k:Int):(H.Dy k).Bp=H.Bp:=by
 unfold AG.Dy
 split
 ·rfl
 ·split
  ·rfl
  ·dsimp only
   split
   ·rfl
   ·split
    ·unfold AG.named
     split
     ·exact Kw _ _
     ·split<;>rfl
    ·unfold AG.order
     split
     ·rfl
     ·split
      ·exact Lo _ _
      ·exact Kw _ _
theorem QI (H:AG):∀ k:Nat,(H.turns k).Bp=H.Bp
 | 0=>rfl
 | k+1=>(WR _ _).trans (QI H k)
theorem XV (X:AG)(a:CD):(X.Ed a).1.Bp=X.Bp:=
 LZ (fun Y=>Y.Bp=X.Bp) rfl (fun d=>(It _).trans ((Kw _ _).trans (QI X 4))) (fun k _ _=>It _) (fun k u _ _=>by rw [MG,It];split<;>rfl) (fun k z _ _=>It _) (fun k _ _=>(It _).trans (Lo _ _)) a
theorem VW (H:AG):H.begun.Bp=H.Bp+1:=(Jn (H:={ H with Bp:=H.Bp+1,last:= [] }) 4).2.2
theorem TP (H:AG)(a:CD):(H.act a).1.Bp=if 400≤H.Bp then H.Bp else H.Bp+1:=by
 unfold AG.act
 by_cases c:400≤H.Bp
 ·rw [if_pos (decide_eq_true c),if_pos c]
 ·rw [if_neg (fun e=>c (of_decide_eq_true e)),if_neg c]
  exact(XV _ _).trans (VW H)
theorem Live.act (h:H.Live)(a:CD):(H.act a).1.Live:=⟨by
 unfold AG.act
 split
 ·exact h.fit
 ·exact(h.fit.begun).Ed a,by rw [TP];have:=h.Bp;split<;>omega,h.jN.act a⟩
theorem Live.run:∀(l:List CD) {H:AG},H.Live→(H.run l).1.Live
 | [],_,h=>h
 | a :: r,_,h=>Live.run r (h.act a)
end
/-! #### does a house answer at all? -/
theorem Live.told {V:AE}{ls:Vector Ae 4}{ev:List Event}(h:(AO V ls ev).Live){k:Int}(h0:0≤k)(h1:k < 4):(ls.at k).told.length≤1000000:=by
 have:=h.fit.told k h0 h1
 rw [Bu _ _ _ h0 h1] at this
 exact Nat.le_trans this (by decide)
theorem Live.wait {V:AE}{ls:Vector Ae 4}{ev:List Event}(h:(AO V ls ev).Live){k:Int}(h0:0≤k)(h1:k < 4):(ls.at k).wait.length≤1000000:=by
 have:=(h.jN k h0 h1).n
 rw [Bu _ _ _ h0 h1] at this
 exact Nat.le_trans this (by decide)
theorem Live.queue {V:AE}{ls:Vector Ae 4}{ev:List Event}(h:(AO V ls ev).Live){k:Int}(h0:0≤k)(h1:k < 4):(ls.at k).queue.length≤1000000:=by
 have:=(h.jN k h0 h1).ln.len
 rw [Bu _ _ _ h0 h1] at this
 exact Nat.le_trans this (by decide)
theorem Live.last {V:AE}{ls:Vector Ae 4}{ev:List Event}(h:(AO V ls ev).Live):ev.length≤1000000:=Nat.le_trans h.fit.last (by decide)
/-! #### do two houses stand alike? -/
def fg (s t:Ak):Bool:=decide (s.wait=t.wait) && decide (s.pg.shown=t.pg.shown) && (s.pg.BL == t.pg.BL) && decide (s.pg.ring=t.pg.ring) && (s.pg.cut == t.pg.cut)
def ff (s t:Ak):Bool:=decide (s.now=t.now) && (s.long == t.long) && (s.ret == t.ret) && decide (s.queue=t.queue)
def sameAt (H K:AG)(k:Int):Bool:=!(!decide ((H.OX k).1=(K.OX k).1) || !decide ((H.OX k).2=(K.OX k).2) || !fg (H.at_ k) (K.at_ k) || !ff (H.at_ k) (K.at_ k))
def same (H K:AG):Bool:=A4 4 (sameAt H K) 4 && decide (H.w=K.w)
end AG
end Go.Ing
/- An act that is refused, and acts behind the last: plain laws. -/
namespace Go.Ing
open Go
theorem W8 {α:Type}(a b c:α) : [a,b,c].Perm [c,b,a]:=List.reverse_perm [c,b,a]
namespace AG
def zero:CD:=⟨0,0,0,[]⟩
end AG
end Go.Ing
/- The replies to acts: plain laws. -/
namespace Go.Ing
open Go
namespace AG
end AG
end Go.Ing
/- The document's house: plain laws for the walks. -/
namespace Go.Ing
open Go
theorem AA.Zh {X:AD}{b:Int}{o:Order}(h:(X.AF.at b).here=false):(AA.Dk X b o).1=X∧(AA.Dk X b o).2.1 = []:=by
 unfold AA.Dk
 split
 ·exact⟨rfl,rfl⟩
 ·rw [if_pos (by rw [h];simp)]
  exact⟨rfl,rfl⟩
namespace AG
variable {H X:AG}
theorem Xt (H:AG){k:Int}(h0:0≤k)(h1:k < 4)(c:(H.at_ k).state=2):H.leave k=H.OB k (AA.Dk H.w (H.at_ k).AV DN).1 default (AA.Dk H.w (H.at_ k).AV DN).2.1:=by
 unfold AG.leave
 by_cases hh:(H.w.AF.at (H.at_ k).AV).here=true
 ·rw [if_pos (by rw [c,hh];rfl)]
  have a:=S2 H h0 h1 (AA.Dk H.w (H.at_ k).AV DN).1 default (AA.Dk H.w (H.at_ k).AV DN).2.1 h0 h1
  rw [if_pos rfl,PV] at a
  have s:=JA (H.OB k (AA.Dk H.w (H.at_ k).AV DN).1 default (AA.Dk H.w (H.at_ k).AV DN).2.1) h0 h1
  rw [a] at s
  exact s
 ·rw [if_neg (by rw [c];simpa using hh)]
  have g:=AA.Zh (X:=H.w) (b:=(H.at_ k).AV) (o:=DN) (by simpa using hh)
  rw [g.1,g.2]
  unfold AG.OB AG.Ft
  exact fR rfl (fun _ _ _=>rfl) rfl (List.append_nil _).symm
theorem Xs (H:AG){k:Int}(c:(H.at_ k).state≠2):H.leave k=H.set k default:=by
 unfold AG.leave
 rw [if_neg (by rw [decide_eq_false c];simp)]
structure LY (H X:AG)(n m:Nat)(again:Bool)(q:Nat):Prop where
 q5:q≤5
 fit:X.Fit (n+44 * q) (m+44 * q)
 on:again=true→X.HT+q < 5∧H.BJ=X.HV (5 - q)
 off:again=false→H.BJ=X
theorem fM (H:AG):H.HT≤4:=by
 have h:∀ k,H.busy k≤1:=fun k=>by unfold busy;split<;>decide
 have a:=h 0;have b:=h 1;have c:=h 2;have d:=h 3
 unfold HT;omega
theorem LY.start {n m:Nat}(h:H.Fit n m):LY H H n m true 0:=⟨by decide,h,fun _=>⟨by have:=fM H;omega,rfl⟩,fun e=>by cases e⟩
theorem LY.step {n m q:Nat}(h:LY H X n m true q){Y:AG}{c:Bool}(e:(Y,c)=X.CH 4):LY H Y n m c (q+1)∧(c=true→Y.HT < X.HT):=by
 have h1:=h.on rfl
 have hf:=Kr h.fit 4 (Nat.le_refl 4)
 have hc:=Q6 X 4 (Nat.le_refl 4)
 have hb:=cR (H:=X) (X:=(X.CH 4).1) (fun j j0 j1 hs=>Li X 4 (Nat.le_refl 4) j j0 j1 hs)
 rw [← e] at hf hc hb
 have hy:c=true→Y.HT < X.HT:=fun ec=>by
  obtain⟨j,j0,j1,a,b⟩:=hc ec
  exact hb.2 j j0 j1 a b
 refine⟨⟨by omega,hf.mono (by omega) (by omega),fun ec=>⟨by have:=hy ec;omega,?_⟩,fun ec=>?_⟩,hy⟩
 ·rw [h1.2,show 5 - q=(5 - (q+1))+1 by omega,HV,← e,ec];rfl
 ·rw [h1.2,show 5 - q=(5 - (q+1))+1 by omega,HV,← e,ec];rfl
def OW (X:AG)(again:Bool):Nat:=if again=true then X.HT+1 else 0
theorem WG {Y:AG}{c:Bool}(h:c=true→Y.HT < X.HT):OW Y c < OW X true:=by
 unfold OW
 rw [if_pos rfl]
 split
 ·rename_i e;have:=h e;omega
 ·omega
end AG
section
variable {V V4:AE} {ls ls4:Vector Ae 4} {ev ev4:List Event} {k:Int} {sv:A0} {sl:Ae}
theorem Zs (h0:0≤k)(h1:k < 4)(hs:V.AP.at k=sv)(c:decide (sv.state=2)=true)
  (e:AO V4 ls4 ev4=(AO { V.AZ k default with w:=(AA.Dk V.w sv.AV AG.DN).1 } (ls.put k ⟨[],[],[]⟩) ev).Ft (AA.Dk V.w sv.AV AG.DN).2.1):AO V4 ls4 ev4=(AO V ls ev).leave k:=by
 have ha:=Bu V ls ev h0 h1
 subst hs
 rw [AG.Xt (AO V ls ev) h0 h1 (by rw [ha];exact of_decide_eq_true c),e,JS,FL h0 h1,ha]
 rfl
theorem fU (h0:0≤k)(h1:k < 4)(hs:V.AP.at k=sv)(c:decide (sv.state=2)=false):AO (V.AZ k default) (ls.put k ⟨[],[],[]⟩) ev=(AO V ls ev).leave k:=by
 have ha:=Bu V ls ev h0 h1
 subst hs
 rw [AG.Xs (AO V ls ev) (by rw [ha];exact of_decide_eq_false c),FL h0 h1]
theorem Tq (h0:0≤k)(h1:k < 4){n m:Nat}{w:AD}(h:(AO V ls ev).Fit n m)(hw:w.Mz):(AO { V.AZ k default with w:=w } (ls.put k ⟨[],[],[]⟩) ev).Fit n m:=by
 rw [JS,FL h0 h1]
 exact(h.free h0 h1).land hw
theorem Sy (hs:V.AP.at k=sv){b:Bool}(c:(decide (sv.state=0) || b)=false):decide ((V.AP.at k).state=0)=false:=by
 rw [Bool.or_eq_false_iff] at c
 rw [hs];exact c.1
theorem Yi (hl:sv.Ax.queue.len=sl.queue.length){b:Bool}(c:(b || decide ((sv.Ax.queue.len:Int)=0))=false):sl.queue≠ []:=by
 rw [Bool.or_eq_false_iff,decide_eq_false_iff_not,hl] at c
 intro e
 rw [e] at c
 exact c.2 rfl
theorem Yh (h0:0≤k)(h1:k < 4)(hs:V.AP.at k=sv)(hl:ls.at k=sl)(hq:sv.Ax.queue.len=sl.queue.length)(c:(decide (sv.state=0) || decide ((sv.Ax.queue.len:Int)=0))=true):AO (V.AZ k sv) (ls.put k ⟨sl.queue,sl.wait,sl.told⟩) ev=(AO V ls ev).Dy k:=by
 by_cases d:decide ((V.AP.at k).state=0)=true
 ·rw [B4 h0 h1 hs hl (f:=fun x=>x) rfl,AG.JA _ h0 h1]
  exact Rc h0 h1 d
 ·have d':decide ((V.AP.at k).state=0)=false:=by simpa using d
  refine Re h0 h1 hs hl ?_ d'
  rw [Bool.or_eq_true] at c
  rcases c with c | c
  ·rw [hs,c] at d';cases d'
  ·rw [decide_eq_true_eq,hq] at c
   exact List.length_eq_zero_iff.1 (by omega)
end
theorem dJ {V:AE}{ls:Vector Ae 4}{ev:List Event}{k:Int}{sv:A0}(h0:0≤k)(h1:k < 4)(h:(AO V ls ev).JN)(hs:V.AP.at k=sv):sv.Ax.now.length≤9223372036854775807:=by
 have a:=(h k h0 h1).ln.now
 rw [Bu V ls ev h0 h1,hs] at a
 exact Nat.le_trans ((Aa.Di _).1 a).1 (by decide)
theorem Words.RN (s:AL):-9223372036854775808≤(Words.parse s).1.nth∧(Words.parse s).1.nth≤9223372036854775807:=by
 have h:=Words.V0 s
 by_cases c:(Words.parse s).2=0
 ·have a:=(h.1 c).n0
  have b:=(h.1 c).n1
  omega
 ·rw [h.2 c]
  exact⟨by decide,by decide⟩
namespace AG
def D3 (X:AG)(a:CD):AG × Cg:=
 if (decide (a.kind < 1) || decide (5 < a.kind))=true then(X,⟨5,[]⟩)
 else if decide (a.kind=5)=true then(X.P4 a.n,ok)
 else if (decide (a.AZ < 0) || decide (3 < a.AZ))=true then(X,⟨2,[]⟩)
 else if ((decide (a.kind=1) && !decide ((X.at_ a.AZ).state=0)) || (!decide (a.kind=1) && decide ((X.at_ a.AZ).state=0)))=true then(X,⟨3,[]⟩)
 else if decide (a.kind=1)=true then(X.QZ a.AZ,ok)
 else if decide (a.kind=2)=true then(X.byte a.AZ a.bytes,ok)
 else if decide (a.kind=3)=true then((X.set a.AZ ((X.at_ a.AZ).Jl a.n)).BJ,⟨0,(X.at_ a.AZ).out a.n⟩)
 else((X.leave a.AZ).BJ,ok)
theorem ZR (X:AG)(a:CD):D3 X a=X.Ed a:=by
 unfold D3 Ed
 have e1:(decide (4≤a.AZ))=decide (3 < a.AZ):=decide_eq_decide.2 (by omega)
 have e2:((decide (a.kind=1) && !decide ((X.at_ a.AZ).state=0)) || (!decide (a.kind=1) && decide ((X.at_ a.AZ).state=0)))=(decide ((X.at_ a.AZ).state=0) != decide (a.kind=1)):=by
  cases decide (a.kind=1)<;>cases decide ((X.at_ a.AZ).state=0)<;>rfl
 rw [e1,e2]
 by_cases c5:a.kind=5
 ·rw [if_neg (by simp;omega)]
  rw [if_pos (decide_eq_true c5),if_pos (decide_eq_true c5)]
 ·rw [if_neg (c:=decide (a.kind=5)=true) (by simpa using c5),if_neg (c:=decide (a.kind=5)=true) (by simpa using c5)]
theorem FT {H:AG}(c:H.Bp < 400)(a:CD):H.act a=D3 H.begun a:=(F4 (decide_eq_false (by omega)) a).trans (ZR _ a).symm
/-! #### the replies -/
end AG
end Go.Ing
/- Houses from outside, at any place: plain laws for the walks. -/
namespace Go.Ing
open Go
def AE.sat (V:AE)(i:Int):A0:=if (decide (0≤i) && decide (i < 4))=true then V.AP.at i else default
def ON (ls:Vector Ae 4)(i:Int):Ae:=if (decide (0≤i) && decide (i < 4))=true then ls.at i else⟨[],[],[]⟩
section
variable {V W:AE} {ls ms:Vector Ae 4} {ev fv:List Event} {i:Int}
theorem il (c:(decide (0≤i) && decide (i < 4))=true):V.sat i=V.AP.at i:=if_pos c
theorem eB (c:(decide (0≤i) && decide (i < 4))=false):V.sat i=default:=if_neg (by rw [c];decide)
theorem dw (h0:0≤i)(h1:i < 4):(decide (0≤i) && decide (i < 4))=true:=by rw [decide_eq_true h0,decide_eq_true h1];rfl
theorem aO (c:(decide (i < 0) || decide (4≤i))=true):(decide (0≤i) && decide (i < 4))=false:=by
 rw [Bool.or_eq_true,decide_eq_true_eq,decide_eq_true_eq] at c
 rw [Bool.and_eq_false_iff,decide_eq_false_iff_not,decide_eq_false_iff_not]
 omega
theorem L2 (h0:0≤i)(h1:i < 4):V.sat i=V.AP.at i:=if_pos (dw h0 h1)
theorem Ja (h0:0≤i)(h1:i < 4):ON ls i=ls.at i:=if_pos (dw h0 h1)
theorem Sv (c:(decide (i < 0) || decide (4≤i))=true):V.sat i=default:=eB (aO c)
theorem Ky (c:(decide (i < 0) || decide (4≤i))=true):ON ls i=⟨[],[],[]⟩:=if_neg (by rw [aO c];decide)
theorem alike (e:AO V ls ev=AO W ms fv)(i:Int):Bz (V.sat i) (ON ls i)=Bz (W.sat i) (ON ms i):=by
 by_cases c:(decide (0≤i) && decide (i < 4))=true
 ·have c':=c
  rw [Bool.and_eq_true,decide_eq_true_eq,decide_eq_true_eq] at c'
  rw [L2 c'.1 c'.2,L2 c'.1 c'.2,Ja c'.1 c'.2,Ja c'.1 c'.2,← Bu V ls ev c'.1 c'.2,← Bu W ms fv c'.1 c'.2,e]
 ·unfold AE.sat ON
  rw [if_neg c,if_neg c,if_neg c,if_neg c]
theorem kC (v:A0):(Ce v).1=v.state:=by
 unfold Ce
 split
 ·rename_i c;exact(of_decide_eq_true c).symm
 ·rfl
structure js (a b:A0)(l m:Ae):Prop where
 st:(Ce a).1=b.state
 be:(Ce a).2=(Ce b).2
 pg:a.out.shown=b.out.shown∧a.out.BL=b.out.BL∧a.out.ring=b.out.ring∧a.out.cut=b.out.cut
 ln:a.Ax.now=b.Ax.now∧a.Ax.long=b.Ax.long∧a.Ax.ret=b.Ax.ret
 li:l.wait=m.wait∧l.queue=m.queue∧l.told=m.told
theorem dS {a b:A0}{l m:Ae}(e:Bz a l=Bz b m):js a b l m:=by
 have e1:a.state=b.state:=by have q:=congrArg Ak.state e;exact q
 have e2:a.AV=b.AV:=by have q:=congrArg Ak.AV e;exact q
 have e3:l.wait=m.wait:=by have q:=congrArg Ak.wait e;exact q
 have e4:Page.of a.out=Page.of b.out:=by have q:=congrArg Ak.pg e;exact q
 have e5:a.Ax.now=b.Ax.now:=by have q:=congrArg Ak.now e;exact q
 have e6:a.Ax.long=b.Ax.long:=by have q:=congrArg Ak.long e;exact q
 have e7:a.Ax.ret=b.Ax.ret:=by have q:=congrArg Ak.ret e;exact q
 have e8:l.queue=m.queue:=by have q:=congrArg Ak.queue e;exact q
 have e9:l.told=m.told:=by have q:=congrArg Ak.told e;exact q
 refine⟨by rw [kC,e1],by unfold Ce;rw [e1,e2],?_,⟨e5,e6,e7⟩,⟨e3,e8,e9⟩⟩
 injection e4 with a1 a2 a3 a4
 exact⟨a1,a2,a3,a4⟩
theorem cN (c:decide ((V.sat i).state=2)=true):(V.sat i).AV=(Ce (V.sat i)).2:=by unfold Ce;rw [if_pos c]
theorem cM (c:decide ((V.sat i).state=2)=false):(-1:Int)=(Ce (V.sat i)).2:=by unfold Ce;rw [if_neg (by rw [c];decide)]
theorem Live.eG (h:(AO V ls ev).Live)(i:Int):(ON ls i).wait.length≤1000000:=by
 unfold ON;split
 ·rename_i c;rw [Bool.and_eq_true,decide_eq_true_eq,decide_eq_true_eq] at c;exact h.wait c.1 c.2
 ·exact Nat.zero_le _
theorem Live.aP (h:(AO V ls ev).Live)(i:Int):(ON ls i).queue.length≤1000000:=by
 unfold ON;split
 ·rename_i c;rw [Bool.and_eq_true,decide_eq_true_eq,decide_eq_true_eq] at c;exact h.queue c.1 c.2
 ·exact Nat.zero_le _
theorem Live.eD (h:(AO V ls ev).Live)(i:Int):(ON ls i).told.length≤1000000:=by
 unfold ON;split
 ·rename_i c;rw [Bool.and_eq_true,decide_eq_true_eq,decide_eq_true_eq] at c;exact h.told c.1 c.2
 ·exact Nat.zero_le _
end
section
variable {w0:World} {M:List Nat} {L:List AJ} {T:Nat} {V:AE} {ls:Vector Ae 4} {i:Int}
theorem Kn.Vy {h:Hd}{T sz:Nat}{cs:List Value}{rs:List AJ}(hr:AJ.own h T sz cs∈rs)(hm:AJ.CI rs∈L):Kn w0 M L h T sz cs:=fun _ hS=>AJ.Sn ((hS.ok _ hm).1 _ hr)
theorem PY (h0:0≤i)(h1:i < 4){r:AJ}(hr:r∈FH T (V.AP.at i) (ls.at i)):r∈BB T V.AP ls:=(NG T h0 h1 V.AP ls).mem_iff.2 (List.mem_append_left _ hr)
theorem Kn.sat (hm:AJ.CI (BB T V.AP ls)∈L)(i:Int):Kn w0 M L (V.sat i).Ax.queue T 1 ((ON ls i).queue.flatMap AX)∧Kn w0 M L (V.sat i).out.wait T 1 ((ON ls i).wait.flatMap AX)∧Kn w0 M L (V.sat i).told T 1 ((ON ls i).told.flatMap AX):=by
 by_cases c:(decide (0≤i) && decide (i < 4))=true
 ·rw [Bool.and_eq_true,decide_eq_true_eq,decide_eq_true_eq] at c
  rw [L2 c.1 c.2,Ja c.1 c.2]
  exact⟨Kn.Vy (PY c.1 c.2 (.head _)) hm,Kn.Vy (PY c.1 c.2 (.tail _ (.head _))) hm,Kn.Vy (PY c.1 c.2 (.tail _ (.tail _ (.head _)))) hm⟩
 ·unfold AE.sat ON
  rw [if_neg c,if_neg c]
  exact⟨fun w _=>Rd.nil w T 1,fun w _=>Rd.nil w T 1,fun w _=>Rd.nil w T 1⟩
end
end Go.Ing
/- Engine: how many acts a slice that came in can hold. -/
namespace Go.Ing
open Go Go.RowKit Go.ChangeShapes Go.WideShapes Go.ChangeAt
end Go.Ing

/- What the functions that the law HousePlays reaches compute: walks, part 10. No condition. -/
import Derived.Test.YtlmmdjaoikaceaaGreatDoorCards
import Derived.Test.YtlmmdjaoikaceaaGreatDoorTie
import Derived.Deep.DeepHandedRow
import Derived.Test.YtlmmdjaoikaceaaGreatDoorRows
import Derived.Test.YtlmmdjaoikaceaaGreatDoorHousePlaysEc3
import Derived.Test.YtlmmdjaoikaceaaGreatDoorHousePlaysRa1
import Derived.Test.YtlmmdjaoikaceaaGreatDoorHousePlaysRb1
import Derived.Test.YtlmmdjaoikaceaaGreatDoorHousePlaysRc1
import Derived.Test.YtlmmdjaoikaceaaGreatDoorHousePlaysRd1
import Derived.Test.YtlmmdjaoikaceaaGreatDoorHousePlaysWalks
import Derived.Test.YtlmmdjaoikaceaaGreatDoorHousePlaysWalks7
import Derived.Test.YtlmmdjaoikaceaaGreatDoorHousePlaysWalks8
import Derived.Test.YtlmmdjaoikaceaaGreatDoorHousePlaysWalks9
set_option linter.unusedSimpArgs false
set_option linter.unusedVariables false
set_option maxRecDepth 100000
set_option maxHeartbeats 4000000
namespace Go.Proofs.YtlmmdjaoikaceaaGreatDoor
open Go Go.Ing Go.RowKit Go.ChangeShapes Go.WideShapes Go.ChangeAt
theorem SJ (b:Nat)(T:AA)(g:Hd)(o:Order)(hg:g.len=T.out.length)(hF:T.Fit)(hv:o.verb=8∨o.verb=9∨o.verb=10)(hu:o.second.length≤5000000)(hn:T.out.length≤90000)(hz:-9223372036854775808≤o.nth∧o.nth≤9223372036854775807):Cz Tryz.prog 89 #[.pointer (some ⟨b,0,none⟩), .agg o.enc.toArray] [AJ.box b 115 (Ab.enc ⟨T.w,T.b,g⟩),AJ.own g 100 16 (T.out.flatMap Ing.Event.enc)] (fun w=>(Eo 8 w∧8 ∉ BV [AJ.box b 115 (Ab.enc ⟨T.w,T.b,g⟩),AJ.own g 100 16 (T.out.flatMap Ing.Event.enc)])∧(Eo 9 w∧9 ∉ BV [AJ.box b 115 (Ab.enc ⟨T.w,T.b,g⟩),AJ.own g 100 16 (T.out.flatMap Ing.Event.enc)])) (fun v B=>∃ g':Hd,v = .tuple #[]∧g'.len=(T.EM o).out.length∧B = [AJ.box b 115 (Ab.enc ⟨(T.EM o).w,(T.EM o).b,g'⟩),AJ.own g' 100 16 ((T.EM o).out.flatMap Ing.Event.enc)]):=by
 intro w hS0 hH
 obtain⟨⟨gl0,gm0⟩,⟨gl1,gm1⟩⟩:=hH
 have hb:=hF.b
 have hr:=hF.room
 refine AR _ _ Tryz.func89 J J J (hS0) ?_
 refine Ws 100021 ?_
 intro b1
 refine AY (.t (.t .h)) ?_
 refine AY (.t (.t .h)) ?_
 refine OF (Lm:= [_,_]) (fun(X:AA) (to:Int) (h:Hd)=>(o.verb=9→X=(T.box o.second).1∧to=T.De o.second)∧(o.verb≠9→X=T∧to=0)∧h.len=X.out.length) (fun(X:AA) (to:Int) (h:Hd)=> [(4, .int .i64 to)]) (fun(X:AA) (to:Int) (h:Hd)=> [AJ.box b 115 (Ab.enc ⟨X.w,X.b,h⟩),AJ.own h 100 16 (X.out.flatMap Ing.Event.enc)]) (.t2 0 3) J ?_ (fun X to h hC=>?_)
 ·
  refine W ?_
  refine⟨fun c1 c1p=>?_,fun c1 c1p=>?_⟩
  ·
   refine W ?_
   refine Cl (.c .h (.c .h .n)) (LI _ T _ _ hg hF hu (by omega)) (fun v1 B hv=>?_)
   obtain⟨y2,rfl,y3,rfl⟩:=hv
   refine W ?_
   refine E3 _ _ _ ?_ (.t3 4 0 3) (.refl _)
   · exact⟨fun _=>⟨J,J⟩,fun hn9=>absurd (of_decide_eq_true c1) hn9,by assumption⟩
  refine W ?_
  refine E3 _ _ _ ?_ (.t3 4 0 3) (.refl _)
  · exact⟨fun h9=>absurd h9 (of_decide_eq_false c1),fun _=>⟨J,J⟩,hg⟩
 obtain⟨hA1,hA2,hA3⟩:=hC
 refine Ws 100041 ?_
 refine AY (.t .h) ?_
 refine AY (.t .h) ?_
 refine OF (Lm:= [_,_]) (fun(Y:AA) (n:Int) (j:Hd)=>Y=(T.B3 o).1∧n=T.Pj o∧j.len=Y.out.length) (fun(Y:AA) (n:Int) (j:Hd)=> [(4, .int .i64 n)]) (fun(Y:AA) (n:Int) (j:Hd)=> [AJ.box b 115 (Ab.enc ⟨Y.w,Y.b,j⟩),AJ.own j 100 16 (Y.out.flatMap Ing.Event.enc)]) (.t2 0 3) J ?_ (fun Y n j hC=>?_)
 ·
  refine W ?_
  refine⟨fun c2 c2p=>?_,fun c2 c2p=>?_⟩
  ·
   have h9:o.verb≠9:=by omega
   obtain⟨e1,e2⟩:=hA2 h9
   refine W ?_
   refine Cl (.c .h (.c .h .n)) (Iv _ X _ _ hA3 (by rw [e1];exact hF) hu (by rw [e1];omega)) (fun v4 B hv=>?_)
   obtain⟨y5,rfl,y6,rfl⟩:=hv
   refine W ?_
   refine E3 _ _ _ ?_ (.t3 4 0 3) (.refl _)
   · have h9:decide (o.verb=9)=false:=decide_eq_false (by omega)
     have q:=AA.Z9 (T:=T) h9 c2
     exact⟨by rw [e1];exact q.1.symm,by rw [e1];exact q.2.symm,by assumption⟩
  refine W ?_
  refine E3 _ _ _ ?_ (.t3 4 0 3) (.refl _)
  · by_cases h9:o.verb=9
    · obtain⟨e1,e2⟩:=hA1 h9
      have q:=AA.cz (T:=T) (decide_eq_true h9)
      exact⟨e1.trans q.1.symm,e2.trans q.2.symm,hA3⟩
    · obtain⟨e1,e2⟩:=hA2 h9
      have q:=AA.cy (T:=T) (decide_eq_false h9) c2
      exact⟨e1.trans q.1.symm,e2.trans q.2.symm,hA3⟩
 obtain⟨hD1,hD2,hD3⟩:=hC
 have hYw:=T.Se o
 have hYo:Y.out.length≤T.out.length+1:=by rw [hD1];exact T.NJ o
 rw [← hD1] at hYw
 have hYF:Y.Fit:=hF.Fc hYw.1 hYw.2
 have hPl:((AA.AS Y.w Y.own o.nth o.name o.An)).length≤9:=AA.KO.2.2
 refine W ?_
 refine⟨fun c3 c3p=>?_,fun c3 c3p=>?_⟩
 ·
  refine W ?_
  intro w1 hS
  have hS:=(hS.perm (AK.perm (.c .h (.c .h .n)))).AM
  have hq:T.EM o=Y:=AA.Z1 hD1 hD2 c3
  refine⟨_,⟨?gq1,J,?g9l1,?g9B1⟩,hS⟩
  case g9B1=>rw [hq];(try rfl)
  case g9l1=>rw [hq];exact hD3
 obtain⟨hgo,hn0,hn9,hok⟩:=AA.Xw hD1 hD2 c3
 refine W ?_
 refine Cl (.c .h .n) (HI _ Y _ hYF) (fun v7 B hv=>?_)
 obtain⟨y8,rfl,y9,rfl⟩:=hv
 refine W ?_
 refine Cl (.c .h (.c .h .n)) (D8 _ Y _ _ Y.own _ _ _ hYF (by assumption) (Nat.le_trans Y.Fe (by decide)) (fun i hi=>AA.GP hi) hz) (fun v11 B hv=>?_)
 obtain⟨y12,rfl,y13,rfl⟩:=hv
 refine Ws 100081 ?_
 refine AY (.t (.t (.t .h))) ?_
 refine AY (.t .h) ?_
 refine Kk (Lm:= [_,_]) (fun(Z:AA) (m:Hd)=>Z=Y.Pn o∧m.len=Z.out.length) (fun(Z:AA) (m:Hd)=> []) (fun(Z:AA) (m:Hd)=> [AJ.box b 115 (Ab.enc ⟨Z.w,Z.b,m⟩),AJ.own m 100 16 (Z.out.flatMap Ing.Event.enc)]) (.t4 0 3 4 5) J ?_ (fun Z m hC=>?_)
 ·
  refine W ?_
  refine⟨fun c4 c4p=>?_,fun c4 c4p=>?_⟩
  ·
   rw [y13] at c4
   refine W ?_
   refine Cl (.c .h (.c .h .n)) (Au _ Y _ _ (by assumption) (by rw [hYw.2];exact hb) (by omega)) (fun v15 B hv=>?_)
   obtain⟨y16,rfl,y17,rfl⟩:=hv
   refine W ?_
   refine Bx _ _ ?_ (.t4 0 3 4 5) (.refl _)
   · exact⟨(AA.Z7 (T:=Y) (o:=o) c4).symm,by assumption⟩
  rw [y13] at c4
  refine W ?_
  refine Bx _ _ ?_ (.t4 0 3 4 5) (.refl _)
  · exact⟨(AA.Z6 (T:=Y) (o:=o) c4).symm,by exact hD3⟩
 obtain⟨hE1,hE2⟩:=hC
 refine W ?_
 refine Af (.t6 42 0 3 4 40 41) ?_
 refine AY (.t .h) ?_
 refine AY (.t .h) ?_
 refine Bo (fun(k:Int) (V:AA) (f:Hd)=>0≤k∧V=Y.Ph n o k.toNat∧k≤((AA.AS Y.w Y.own o.nth o.name o.An).length:Int)∧f.len=V.out.length) (fun(k:Int) (V:AA) (f:Hd)=>(((AA.AS Y.w Y.own o.nth o.name o.An).length:Int) - k).toNat) (fun(k:Int) (V:AA) (f:Hd)=> [(42, .int .i64 k)]) (fun(k:Int) (V:AA) (f:Hd)=> [AJ.box b 115 (Ab.enc ⟨V.w,V.b,f⟩),AJ.own f 100 16 (V.out.flatMap Ing.Event.enc)]) (0) (_) (_) ?_ J J (fun k V f hI1=>?_)
 · exact⟨by omega,hE1,by omega,hE2⟩
 obtain⟨hI11,hI12,hI13,hI14⟩:=hI1
 refine W ?_
 refine⟨fun c5 c5p=>?_,fun c5 c5p=>?_⟩
 ·
  have hx:0≤((AA.AS Y.w Y.own o.nth o.name o.An).getD k.toNat 0)∧((AA.AS Y.w Y.own o.nth o.name o.An).getD k.toNat 0) < 9:=AA.GP (AA.CO (Aa.CT (xs:=(AA.AS Y.w Y.own o.nth o.name o.An)) (i:=k.toNat) (by omega)))
  have hVK:=AA.UF Y n o k.toNat
  rw [← hI12] at hVK
  have hVb:=hVK.2
  have hVo:=hVK.1
  have hbV:0≤V.b∧V.b < 6:=by rw [hVb,hYw.2];exact hb
  have hVF:V.Fit:=by rw [hI12];exact AA.Z2 hYF (hok hv) _
  refine W ?_
  intro b2
  refine⟨fun c6 c6p=>?_,fun c6 c6p=>?_⟩
  ·
   refine W ?_
   refine Cl (.c (.t .h) (.c (.t .h) .n)) (Au _ V _ _ (by assumption) hbV (by omega)) (fun v18 B hv=>?_)
   obtain⟨y19,rfl,y20,rfl⟩:=hv
   refine W ?_
   refine Ar (.c .h (.c .h (.c (.t .h) (.c (.t .h) (.c (.t .h) .n))))) ?_
   refine Az ?_
   refine Ap (k+1) _ _ ?_ ?_ (.t6 42 0 3 4 40 41) (.refl _)
   · have hq:V.Bf o.verb n ((AA.AS Y.w Y.own o.nth o.name o.An).getD k.toNat 0)=_:=AA.UI c6
     exact⟨by omega,hq.symm.trans ((congrArg (fun q=>AA.Bf q o.verb n ((AA.AS Y.w Y.own o.nth o.name o.An).getD k.toNat 0)) hI12).trans (AA.D9 hI11 (by show k < (((AA.AS Y.w Y.own o.nth o.name o.An)).length:Int);omega)).symm),by omega,by assumption⟩
   · omega
  refine W ?_
  refine⟨fun c7 c7p=>?_,fun c7 c7p=>?_⟩
  ·
   refine W ?_
   refine Cl (.c (.t .h) (.c (.t .h) .n)) (Au _ V _ _ (by assumption) hbV (by omega)) (fun v21 B hv=>?_)
   obtain⟨y22,rfl,y23,rfl⟩:=hv
   refine W ?_
   refine Ar (.c .h (.c .h (.c (.t .h) (.c (.t .h) (.c (.t .h) .n))))) ?_
   refine Az ?_
   refine Ap (k+1) _ _ ?_ ?_ (.t6 42 0 3 4 40 41) (.refl _)
   · have hq:V.Bf o.verb n ((AA.AS Y.w Y.own o.nth o.name o.An).getD k.toNat 0)=_:=AA.Sd c6 c7
     exact⟨by omega,hq.symm.trans ((congrArg (fun q=>AA.Bf q o.verb n ((AA.AS Y.w Y.own o.nth o.name o.An).getD k.toNat 0)) hI12).trans (AA.D9 hI11 (by show k < (((AA.AS Y.w Y.own o.nth o.name o.An)).length:Int);omega)).symm),by omega,by assumption⟩
   · omega
  refine W ?_
  refine⟨fun c8 c8p=>?_,fun c8 c8p=>?_⟩
  ·
   refine W ?_
   refine Cl (.c (.t .h) .n) (B6 _ V _ hVF) (fun v24 B hv=>?_)
   obtain⟨rfl,rfl⟩:=hv
   refine Ws 21 ?_
   refine CY (fun _=> .h) (congrArg (fun q=>Ab.enc ⟨q,_,_⟩) (AA.DM V hx.1 hx.2 0 (V.w.AF.at V.b).room)) ?_
   refine W ?_
   refine Cl (.c .h (.c (.t .h) .n)) (BI _ (V.place ((AA.AS Y.w Y.own o.nth o.name o.An).getD k.toNat 0) 0 (V.w.AF.at V.b).room) _ 4 (-1) 0 0 (V.w.AH.at ((AA.AS Y.w Y.own o.nth o.name o.An).getD k.toNat 0)).name [] (by assumption) hbV (by omega) (show V.out.length≤100000 by omega)) (fun v25 B hv=>?_)
   obtain⟨y26,rfl,y27,rfl⟩:=hv
   refine W ?_
   refine Ar (.c .h (.c .h (.c (.t .h) (.c (.t .h) (.c (.t .h) .n))))) ?_
   refine Az ?_
   refine Ap (k+1) _ _ ?_ ?_ (.t6 42 0 3 4 40 41) (.refl _)
   · have hq:V.Bf o.verb n ((AA.AS Y.w Y.own o.nth o.name o.An).getD k.toNat 0)=_:=AA.Z3 hx c6 c8
     exact⟨by omega,hq.symm.trans ((congrArg (fun q=>AA.Bf q o.verb n ((AA.AS Y.w Y.own o.nth o.name o.An).getD k.toNat 0)) hI12).trans (AA.D9 hI11 (by show k < (((AA.AS Y.w Y.own o.nth o.name o.An)).length:Int);omega)).symm),by omega,by assumption⟩
   · omega
  refine W ?_
  refine⟨fun c9 c9p=>?_,fun c9 c9p=>?_⟩
  ·
   refine Ws 24 ?_
   refine CY (fun _=>(.t .h)) (congrArg (fun q=>Ab.enc ⟨q,_,_⟩) (AA.DM V hx.1 hx.2 2 n)) ?_
   refine W ?_
   refine Cl (.c (.t .h) (.c (.t .h) .n)) (BI _ (V.place ((AA.AS Y.w Y.own o.nth o.name o.An).getD k.toNat 0) 2 n) _ 5 (-1) 0 0 (V.w.AH.at ((AA.AS Y.w Y.own o.nth o.name o.An).getD k.toNat 0)).name ((V.place ((AA.AS Y.w Y.own o.nth o.name o.An).getD k.toNat 0) 2 n).w.AH.at n).name (by assumption) hbV (by omega) (show V.out.length≤100000 by omega)) (fun v28 B hv=>?_)
   obtain⟨y29,rfl,y30,rfl⟩:=hv
   refine W ?_
   refine Ar (.c .h (.c .h (.c (.t .h) (.c (.t .h) (.c (.t .h) .n))))) ?_
   refine Az ?_
   refine Ap (k+1) _ _ ?_ ?_ (.t6 42 0 3 4 40 41) (.refl _)
   · have hq:V.Bf o.verb n ((AA.AS Y.w Y.own o.nth o.name o.An).getD k.toNat 0)=_:=AA.Z4 hx hn0 c6 c7 c9
     exact⟨by omega,hq.symm.trans ((congrArg (fun q=>AA.Bf q o.verb n ((AA.AS Y.w Y.own o.nth o.name o.An).getD k.toNat 0)) hI12).trans (AA.D9 hI11 (by show k < (((AA.AS Y.w Y.own o.nth o.name o.An)).length:Int);omega)).symm),by omega,by assumption⟩
   · omega
  refine W ?_
  refine Kt (decide_eq_true (by omega)) ?_
  refine Ws 27 ?_
  refine CY (fun _=>(.t .h)) (congrArg (fun q=>Ab.enc ⟨q,_,_⟩) (AA.DM V hx.1 hx.2 1 n)) ?_
  refine W ?_
  refine Cl (.c (.t .h) (.c (.t .h) .n)) (BI _ (V.place ((AA.AS Y.w Y.own o.nth o.name o.An).getD k.toNat 0) 1 n) _ 6 n 0 0 (V.w.AH.at ((AA.AS Y.w Y.own o.nth o.name o.An).getD k.toNat 0)).name [] (by assumption) hbV ((hok hv).kc (by omega)) (show V.out.length≤100000 by omega)) (fun v31 B hv=>?_)
  obtain⟨y32,rfl,y33,rfl⟩:=hv
  refine W ?_
  refine Ar (.c .h (.c .h (.c (.t .h) (.c (.t .h) (.c (.t .h) .n))))) ?_
  refine Az ?_
  refine Ap (k+1) _ _ ?_ ?_ (.t6 42 0 3 4 40 41) (.refl _)
  · have hq:V.Bf o.verb n ((AA.AS Y.w Y.own o.nth o.name o.An).getD k.toNat 0)=_:=AA.Xy c6 (decide_eq_true (by omega))
    exact⟨by omega,hq.symm.trans ((congrArg (fun q=>AA.Bf q o.verb n ((AA.AS Y.w Y.own o.nth o.name o.An).getD k.toNat 0)) hI12).trans (AA.D9 hI11 (by show k < (((AA.AS Y.w Y.own o.nth o.name o.An)).length:Int);omega)).symm),by omega,by assumption⟩
  · omega
 obtain rfl:k=((AA.AS Y.w Y.own o.nth o.name o.An).length:Int):=by omega
 refine W ?_
 intro w1 hS
 have hS:=(hS.perm (AK.perm (.c .h (.c .h .n)))).AM
 have hq:T.EM o=V:=hgo.trans (hI12.trans AA.UE).symm
 refine⟨_,⟨?gq2,J,?g9l2,?g9B2⟩,hS⟩
 case g9B2=>rw [hq];(try rfl)
 case g9l2=>rw [hq];exact hI14
theorem Iu (b:Nat)(T:AA)(g:Hd)(hF:T.Fit):Fu Tryz.prog 52 #[.pointer (some ⟨b,0,none⟩)] [AJ.box b 115 (Ab.enc ⟨T.w,T.b,g⟩)] (fun v B=>∃ F:AD,F=T.EF.w∧v = .tuple #[]∧B = [AJ.box b 115 (Ab.enc ⟨F,T.b,g⟩)]):=by
 intro w hS0
 have hb:=hF.b
 have hr:=hF.room
 refine AR _ _ Tryz.func52 J J J (hS0) ?_
 refine W ?_
 refine Af (.t2 5 0) ?_
 refine CZ (fun(k:Int) (X:AA)=>0≤k∧X=T.C1 k.toNat∧X.b=T.b∧k≤9) (fun(k:Int) (X:AA)=>(9 - k).toNat) (fun(k:Int) (X:AA)=> [(5, .int .i64 k)]) (fun(k:Int) (X:AA)=> [AJ.box b 115 (Ab.enc ⟨X.w,X.b,g⟩)]) (0) (_) ?_ J J (fun k X hI1=>?_)
 · exact⟨by omega,rfl,rfl,by omega⟩
 obtain⟨hI11,hI12,hI13,hI14⟩:=hI1
 refine W ?_
 refine⟨fun c1 c1p=>?_,fun c1 c1p=>?_⟩
 ·
  try dsimp only at c1p
  have hgF:=AA.Vt hF k.toNat (by omega)
  rw [← hI12] at hgF
  have hIF:X.Fit:=hgF.fit
  refine W ?_
  refine⟨fun c2 c2p=>?_,fun c2 c2p=>?_⟩
  ·
   try dsimp only at c2p
   refine W ?_
   refine Cl (.c .h .n) (B6 _ X _ (hIF)) (fun v1 B hv=>?_)
   obtain⟨rfl,rfl⟩:=hv
   refine W ?_
   refine⟨fun c3 c3p=>?_,fun c3 c3p=>?_⟩
   ·
    try dsimp only at c3p
    refine Ws 8 ?_
    refine CY (fun _=> .h) (congrArg (fun q=>Ab.enc ⟨q,_,_⟩) (AA.OO X hI11 (show k < 9 by omega) c3)) ?_
    refine W ?_
    refine BC (k+1) (X.C0 k) ?_ ?_ (.t2 5 0) (.refl _)
    · exact⟨by omega,by rw [AA.KN hI11,← hI12,AN c2],hI13,by omega⟩
    · omega
   try dsimp only at c3p
   refine Ws 8 ?_
   refine CY (fun _=> .h) (congrArg (fun q=>Ab.enc ⟨q,_,_⟩) (AA.Sc X hI11 (show k < 9 by omega) c3)) ?_
   refine W ?_
   refine BC (k+1) (X.C0 k) ?_ ?_ (.t2 5 0) (.refl _)
   · exact⟨by omega,by rw [AA.KN hI11,← hI12,AN c2],hI13,by omega⟩
   · omega
  try dsimp only at c2p
  refine W ?_
  refine BC (k+1) (X) ?_ ?_ (.t2 5 0) (.refl _)
  · exact⟨by omega,by rw [AA.KN hI11,← hI12,AB c2],hI13,by omega⟩
  · omega
 try dsimp only at c1p
 obtain rfl:k=9:=by omega
 have hX:X=T.C1 9:=hI12
 refine Ws 9 ?_
 have hb9:=AA.Z0 T 9 (Nat.le_refl _)
 refine W ?_
 refine Af (.t2 57 0) ?_
 refine CZ (fun(k:Int) (Y:AA)=>0≤k∧Y=(AA.BW X X.b 0).CR k.toNat∧Y.b=X.b∧k≤6) (fun(k:Int) (Y:AA)=>(6 - k).toNat) (fun(k:Int) (Y:AA)=> [(57, .int .i64 k)]) (fun(k:Int) (Y:AA)=> [AJ.box b 115 (Ab.enc ⟨Y.w,Y.b,g⟩)]) (0) (AA.BW X X.b 0) ?_ J J (fun k Y hI2=>?_)
 · exact⟨by omega,rfl,rfl,by omega⟩
 obtain⟨hI21,hI22,hI23,hI24⟩:=hI2
 refine W ?_
 refine⟨fun c4 c4p=>?_,fun c4 c4p=>?_⟩
 ·
  try dsimp only at c4p
  refine W ?_
  refine⟨fun c5 c5p=>?_,fun c5 c5p=>?_⟩
  ·
   try dsimp only at c5p
   have hcb:decide ((Y.w.AF.at k).A2=(AA.BW X X.b 0).b+1)=true:=by rw [show(AA.BW X X.b 0).b=X.b from rfl,← hI23];exact c5
   refine W ?_
   refine BC (k+1) (Y.BW k 0) ?_ ?_ (.t2 57 0) (.refl _)
   · exact⟨by omega,by rw [AA.JU hI21,← hI22,AN hcb],hI23,by omega⟩
   · omega
  try dsimp only at c5p
  have hcb:decide ((Y.w.AF.at k).A2=(AA.BW X X.b 0).b+1)=false:=by rw [show(AA.BW X X.b 0).b=X.b from rfl,← hI23];exact c5
  refine W ?_
  refine BC (k+1) (Y) ?_ ?_ (.t2 57 0) (.refl _)
  · exact⟨by omega,by rw [AA.JU hI21,← hI22,AB hcb],hI23,by omega⟩
  · omega
 try dsimp only at c4p
 obtain rfl:k=6:=by omega
 refine W ?_
 intro w1 hS
 have hS:=(hS.perm (AK.perm (.c .h .n))).AM
 have hq:T.EF.w=Y.w:=by rw [← AA.Vu T hb,← hX,hI22];rfl
 exact⟨_,⟨_,J,J,by rw [hq,← hI13,← hI23]⟩,hS⟩
theorem Gj (s:AL)(w:World)(gl0:GV 0 AD.Be w):Ch Tryz.prog 137 #[Ag s] w fun v w'=>v = .tuple #[.int .i64 (Words.dir s).1, .bool (Words.dir s).2]∧BF w w':=by
 refine Rb Tryz.func137 ?_
 refine W ?_
 refine Af (.t2 5 0) ?_
 refine A7 (fun(k:Int)=>0≤k∧k≤6∧Words.M8 s 6=Words.M8 s (6 - k).toNat) (fun(k:Int)=>(6 - k).toNat) (fun(k:Int)=> [(5, .int .i64 k)]) (fun(k:Int)=> []) (0) ?_ J J (fun k hI1=>?_)
 · exact⟨by omega,by omega,rfl⟩
 obtain⟨hI11,hI12,hI13⟩:=hI1
 refine W ?_
 refine⟨fun c1 c1p=>?_,fun c1 c1p=>?_⟩
 ·
  try dsimp only at c1p
  rw [Words.Q0 hI11 (by omega)] at hI13
  refine W ?_
  refine Gt (Ko gl0 J LG (AD.Gu (by omega) (by omega))) ?_
  refine W ?_
  refine⟨fun c2 c2p=>?_,fun c2 c2p=>?_⟩
  ·
   try dsimp only at c2p
   have cp:decide (AD.DF.getD k.toNat []=s)=true:=(decide_eq_decide.2 eq_comm).trans c2
   refine W ?_
   rw [Words.dir,hI13,AN cp];rfl
  try dsimp only at c2p
  have cp:decide (AD.DF.getD k.toNat []=s)=false:=(decide_eq_decide.2 eq_comm).trans c2
  refine W ?_
  refine Aw (k+1) ?_ ?_ (.t2 5 0) (.refl _)
  · exact⟨by omega,by omega,by rw [hI13,AB cp]⟩
  · omega
 try dsimp only at c1p
 obtain rfl:k=6:=by omega
 refine W ?_
 rw [Words.dir,hI13];rfl
instance instP137:DI Tryz.prog 137 (type_of% @Gj):=⟨@Gj⟩
theorem Ts (b:Nat)(T:AA)(g:Hd)(o:Order)(hg:g.len=T.out.length)(hF:T.Fit)(hv:12≤o.verb∧o.verb≤17)(hn:T.out.length≤80000)(hz:-9223372036854775808≤o.nth∧o.nth≤9223372036854775807):Cz Tryz.prog 94 #[.pointer (some ⟨b,0,none⟩), .agg o.enc.toArray] [AJ.box b 115 (Ab.enc ⟨T.w,T.b,g⟩),AJ.own g 100 16 (T.out.flatMap Ing.Event.enc)] (fun w=>(GV 0 AD.Be w∧0 ∉ BV [AJ.box b 115 (Ab.enc ⟨T.w,T.b,g⟩),AJ.own g 100 16 (T.out.flatMap Ing.Event.enc)])) (fun v B=>∃ g':Hd,v = .tuple #[]∧g'.len=(T.set o).out.length∧B = [AJ.box b 115 (Ab.enc ⟨(T.set o).w,(T.set o).b,g'⟩),AJ.own g' 100 16 ((T.set o).out.flatMap Ing.Event.enc)]):=by
 intro w hS0 hH
 obtain⟨gl0,gm0⟩:=hH
 have hb:=hF.b
 have hr:=hF.room
 have ho9:=T.Fe
 have hs9:=T.DC
 have hkd:=AA.ie hv.1 hv.2
 refine AR _ _ Tryz.func94 J J J (hS0) ?_
 refine W ?_
 intro b1
 refine Im (cs:=BO (n:=3) AT (Vector.replicate 3 default)) (cs':=(([3,1,2]:List Int).flatMap AT)) J Tryz.underlying117 ba bc (by decide) (by decide) (by kernel_rfl) (.cons (Ac.arr (n:=3) (i:=0) Bm (by decide) (by decide)) J J J (.cons (Ac.arr (n:=3) (i:=1) Bm (by decide) (by decide)) J J J (.cons (Ac.arr (n:=3) (i:=2) Bm (by decide) (by decide)) J J J .nil))) J (fun b2=>?_)
 refine W ?_
 refine Gt (ew J J (by first | omega | exact hb.1 | exact hb.2 | exact hx0.1 | exact hx0.2 | (have hr9:0≤(AA.me (AA.B0 T (T.w.AF.at T.b).room (Words.dir o.name).1 (!AA.CC o.verb))).room∧(AA.me (AA.B0 T (T.w.AF.at T.b).room (Words.dir o.name).1 (!AA.CC o.verb))).room < 6:=hr;unfold AA.me at hr9;omega) | (dsimp only;omega)) (IntWalk.i64_in _ (by first | omega | exact hb.1 | exact hb.2 | exact hx0.1 | exact hx0.2 | (have hr9:0≤(AA.me (AA.B0 T (T.w.AF.at T.b).room (Words.dir o.name).1 (!AA.CC o.verb))).room∧(AA.me (AA.B0 T (T.w.AF.at T.b).room (Words.dir o.name).1 (!AA.CC o.verb))).room < 6:=hr;unfold AA.me at hr9;omega) | (dsimp only;omega)))) ?_
 refine Ws 3 ?_
 rw [hkd.1]
 refine W ?_
 refine⟨fun c1 c1p=>?_,fun c1 c1p=>?_⟩
 ·
  have hd:=Words.Wl (Bool.and_eq_true_iff.1 c1).1
  have hx:=hF.exit hd.1 hd.2
  have hop:=AA.W6 hd.1
  have hr9:0≤((AA.B0 T (T.w.AF.at T.b).room (Words.dir o.name).1 (!AA.CC o.verb)).w.AF.at (AA.B0 T (T.w.AF.at T.b).room (Words.dir o.name).1 (!AA.CC o.verb)).b).room∧((AA.B0 T (T.w.AF.at T.b).room (Words.dir o.name).1 (!AA.CC o.verb)).w.AF.at (AA.B0 T (T.w.AF.at T.b).room (Words.dir o.name).1 (!AA.CC o.verb)).b).room < 6:=hr
  refine W ?_
  refine Cl (.c (.t (.t .h)) .n) (B6 _ T _ hF) (fun v1 B hv=>?_)
  obtain⟨rfl,rfl⟩:=hv
  refine W ?_
  refine⟨fun c2 c2p=>?_,fun c2 c2p=>?_⟩
  ·
   refine W ?_
   refine Cl (.c .h (.c (.t (.t .h)) .n)) (Au _ _ _ _ hg hb (by omega)) (fun v2 B hv=>?_)
   obtain⟨y3,rfl,y4,rfl⟩:=hv
   refine W ?_
   intro w1 hS
   have hS:=(hS.perm (AK.perm (.c .h (.c .h .n)))).AM
   have hq:T.set o=_:=(AA.Ml c1).trans (AA.cX c2)
   (try rw [hsl] at hq)
   refine⟨_,⟨?gq1,J,?g9l1,?g9B1⟩,hS⟩
   case g9B1=>rw [hq];(try rfl)
   case g9l1=>rw [hq];assumption
  refine W ?_
  refine Cl (.c .h .n) (B6 _ T _ hF) (fun v5 B hv=>?_)
  obtain⟨rfl,rfl⟩:=hv
  refine W ?_
  refine⟨fun c3 c3p=>?_,fun c3 c3p=>?_⟩
  ·
   refine W ?_
   refine Cl (.c .h (.c (.t (.t .h)) .n)) (Au _ _ _ _ hg hb (by omega)) (fun v6 B hv=>?_)
   obtain⟨y7,rfl,y8,rfl⟩:=hv
   refine W ?_
   intro w1 hS
   have hS:=(hS.perm (AK.perm (.c .h (.c .h .n)))).AM
   have hq:T.set o=_:=(AA.Ml c1).trans (AA.cY c2 c3)
   (try rw [hsl] at hq)
   refine⟨_,⟨?gq2,J,?g9l2,?g9B2⟩,hS⟩
   case g9B2=>rw [hq];(try rfl)
   case g9l2=>rw [hq];assumption
  refine W ?_
  refine Cl (.c .h .n) (B6 _ T _ hF) (fun v9 B hv=>?_)
  obtain⟨rfl,rfl⟩:=hv
  refine W ?_
  refine Cl (.c .h .n) (B6 _ (AA.B0 T (T.w.AF.at T.b).room (Words.dir o.name).1 (!AA.CC o.verb)) _ (AA.Sw hF (v:=!AA.CC o.verb) hr.1 hr.2 hd.1 hd.2 (fun _=>by have h0:¬ (((T.w.Ad.at (T.w.AF.at T.b).room).BH.at (Words.dir o.name).1 - 1) < 0):=of_decide_eq_false c2;omega)).fit) (fun v10 B hv=>?_)
  obtain⟨rfl,rfl⟩:=hv
  refine W ?_
  refine⟨fun c4 c4p=>?_,fun c4 c4p=>?_⟩
  ·
   refine W ?_
   refine Cl (.c .h (.c (.t (.t .h)) .n)) (BI _ (AA.B0 (AA.B0 T (T.w.AF.at T.b).room (Words.dir o.name).1 (!AA.CC o.verb)) ((T.w.Ad.at (T.w.AF.at T.b).room).BH.at (Words.dir o.name).1 - 1) (((Words.dir o.name).1+3).tmod 6) (!AA.CC o.verb)) _ (o.verb - 4) (-1) 0 0 AA.Jp [] hg hb (show(-1:Int) < 6 by decide) (show T.out.length≤100000 by omega)) (fun v11 B hv=>?_)
   obtain⟨y12,rfl,y13,rfl⟩:=hv
   refine W ?_
   intro w1 hS
   have hS:=(hS.perm (AK.perm (.c .h (.c .h .n)))).AM
   have hq:T.set o=_:=(AA.Ml c1).trans (AA.Zj hd.1 hd.2 c2 c3 c4)
   (try rw [hsl] at hq)
   refine⟨_,⟨?gq3,J,?g9l3,?g9B3⟩,hS⟩
   case g9B3=>rw [hq];(try rfl)
   case g9l3=>rw [hq];assumption
  refine W ?_
  refine Cl (.c .h (.c (.t (.t .h)) .n)) (BI _ (AA.B0 T (T.w.AF.at T.b).room (Words.dir o.name).1 (!AA.CC o.verb)) _ (o.verb - 4) (-1) 0 0 AA.Jp [] hg hb (show(-1:Int) < 6 by decide) (show T.out.length≤100000 by omega)) (fun v14 B hv=>?_)
  obtain⟨y15,rfl,y16,rfl⟩:=hv
  refine W ?_
  intro w1 hS
  have hS:=(hS.perm (AK.perm (.c .h (.c .h .n)))).AM
  have hq:T.set o=_:=(AA.Ml c1).trans (AA.Zi hd.1 hd.2 c2 c3 c4)
  (try rw [hsl] at hq)
  refine⟨_,⟨?gq4,J,?g9l4,?g9B4⟩,hS⟩
  case g9B4=>rw [hq];(try rfl)
  case g9l4=>rw [hq];assumption
 refine W ?_
 refine Cl (.c (.t (.t .h)) .n) (HI _ T _ hF) (fun v17 B hv=>?_)
 obtain⟨y18,rfl,y19,rfl⟩:=hv
 refine W ?_
 refine⟨fun c5 c5p=>?_,fun c5 c5p=>?_⟩
 ·
  refine W ?_
  refine Cl (.c .h .n) (D4 _ T _ hF) (fun v21 B hv=>?_)
  obtain⟨y22,rfl,y23,rfl⟩:=hv
  refine W ?_
  intro h25 h25l h25z
  refine Cl (.c .h (.c (.t .h) .n)) (D8 _ T _ _ (T.own++T.seen) _ _ _ hF (by rw [List.length_append];omega) (by rw [List.length_append];omega) (fun i hi=>AA.JT hi) (by omega)) (fun v26 B hv=>?_)
  obtain⟨y27,rfl,y28,rfl⟩:=hv
  refine Ws 19 ?_
  have hx0:=AA.KI (l:=(AA.AS T.w (T.own++T.seen) (max 1 o.nth) o.name false)) (fun i hi=>AA.JT (AA.CO hi))
  refine W ?_
  refine⟨fun c6 c6p=>?_,fun c6 c6p=>?_⟩
  ·
   rw [y28] at c6 c6p
   have hsl:T.B8 o=(AA.AS T.w (T.own++T.seen) (max 1 o.nth) o.name false):=AA.Um c5
   refine W ?_
   refine Cl (.c .h (.c (.t (.t (.t (.t (.t .h))))) .n)) (Au _ _ _ _ hg hb (by omega)) (fun v30 B hv=>?_)
   obtain⟨y31,rfl,y32,rfl⟩:=hv
   refine W ?_
   intro w1 hS
   have hS:=(hS.perm (AK.perm (.c .h (.c .h .n)))).AM
   have d0:(decide (((T.B8 o).length:Int)=0) || !decide ((T.w.AH.at ((T.B8 o).getD 0 0)).kind=AA.setKind o.verb))=true:=by rw [hsl];exact c6
   have hq:T.set o=_:=AA.Uo c1 d0
   (try rw [hsl] at hq)
   refine⟨_,⟨?gq5,J,?g9l5,?g9B5⟩,hS⟩
   case g9B5=>rw [hq];(try rfl)
   case g9l5=>rw [hq];assumption
  rw [y28] at c6 c6p
  have hsl:T.B8 o=(AA.AS T.w (T.own++T.seen) (max 1 o.nth) o.name false):=AA.Um c5
  refine W ?_
  refine⟨fun c7 c7p=>?_,fun c7 c7p=>?_⟩
  ·
   refine W ?_
   refine Cl (.c .h (.c (.t (.t (.t (.t (.t .h))))) .n)) (Au _ _ _ _ hg hb (by omega)) (fun v33 B hv=>?_)
   obtain⟨y34,rfl,y35,rfl⟩:=hv
   refine W ?_
   intro w1 hS
   have hS:=(hS.perm (AK.perm (.c .h (.c .h .n)))).AM
   have d0:(decide (((T.B8 o).length:Int)=0) || !decide ((T.w.AH.at ((T.B8 o).getD 0 0)).kind=AA.setKind o.verb))=false:=by rw [hsl];exact c6
   have d1:((T.w.AH.at ((T.B8 o).getD 0 0)).on == AA.CC o.verb)=true:=by rw [hsl];exact c7
   have hq:T.set o=_:=AA.ax c1 d0 d1
   (try rw [hsl] at hq)
   refine⟨_,⟨?gq6,J,?g9l6,?g9B6⟩,hS⟩
   case g9B6=>rw [hq];(try rfl)
   case g9l6=>rw [hq];assumption
  refine W ?_
  refine⟨fun c8 c8p=>?_,fun c8 c8p=>?_⟩
  ·
   refine W ?_
   refine Cl (.c .h (.c (.t (.t (.t (.t (.t .h))))) .n)) (BI _ (AA.Co T ((AA.AS T.w (T.own++T.seen) (max 1 o.nth) o.name false).getD (0:Int).toNat 0) { T.w.AH.at ((AA.AS T.w (T.own++T.seen) (max 1 o.nth) o.name false).getD (0:Int).toNat 0) with on:=AA.CC o.verb }) _ (o.verb - 4) (-1) 0 0 ((AA.Co T ((AA.AS T.w (T.own++T.seen) (max 1 o.nth) o.name false).getD (0:Int).toNat 0) { T.w.AH.at ((AA.AS T.w (T.own++T.seen) (max 1 o.nth) o.name false).getD (0:Int).toNat 0) with on:=AA.CC o.verb }).w.AH.at ((AA.AS T.w (T.own++T.seen) (max 1 o.nth) o.name false).getD (0:Int).toNat 0)).name [] hg hb (show(-1:Int) < 6 by decide) (show T.out.length≤100000 by omega)) (fun v36 B hv=>?_)
   obtain⟨y37,rfl,y38,rfl⟩:=hv
   refine W ?_
   intro w1 hS
   have hS:=(hS.perm (AK.perm (.c .h (.c .h .n)))).AM
   have d0:(decide (((T.B8 o).length:Int)=0) || !decide ((T.w.AH.at ((T.B8 o).getD 0 0)).kind=AA.setKind o.verb))=false:=by rw [hsl];exact c6
   have d1:((T.w.AH.at ((T.B8 o).getD 0 0)).on == AA.CC o.verb)=false:=by rw [hsl];exact c7
   have hq:T.set o=_:=(AA.Mm c1 d0 d1).trans (AN c8)
   (try rw [hsl] at hq)
   refine⟨_,⟨?gq7,J,?g9l7,?g9B7⟩,hS⟩
   case g9B7=>rw [hq];(try rfl)
   case g9l7=>rw [hq];assumption
  refine W ?_
  refine Cl (.c .h (.c (.t (.t (.t (.t (.t .h))))) .n)) (BI _ T _ (o.verb - 4) (-1) 0 0 (T.w.AH.at ((AA.AS T.w (T.own++T.seen) (max 1 o.nth) o.name false).getD (0:Int).toNat 0)).name [] hg hb (show(-1:Int) < 6 by decide) (show T.out.length≤100000 by omega)) (fun v39 B hv=>?_)
  obtain⟨y40,rfl,y41,rfl⟩:=hv
  refine W ?_
  intro w1 hS
  have hS:=(hS.perm (AK.perm (.c .h (.c .h .n)))).AM
  have d0:(decide (((T.B8 o).length:Int)=0) || !decide ((T.w.AH.at ((T.B8 o).getD 0 0)).kind=AA.setKind o.verb))=false:=by rw [hsl];exact c6
  have d1:((T.w.AH.at ((T.B8 o).getD 0 0)).on == AA.CC o.verb)=false:=by rw [hsl];exact c7
  have hq:T.set o=_:=(AA.Mm c1 d0 d1).trans (AB c8)
  (try rw [hsl] at hq)
  refine⟨_,⟨?gq8,J,?g9l8,?g9B8⟩,hS⟩
  case g9B8=>rw [hq];(try rfl)
  case g9l8=>rw [hq];assumption
 refine W ?_
 refine Cl (.c .h (.c .h .n)) (D8 _ T _ _ T.own _ _ _ hF (by assumption) (by omega) (fun i hi=>AA.GP hi) (by omega)) (fun v42 B hv=>?_)
 obtain⟨y43,rfl,y44,rfl⟩:=hv
 refine Ws 19 ?_
 have hx0:=AA.KI (l:=(AA.AS T.w T.own (max 1 o.nth) o.name false)) (fun i hi=>AA.GP (AA.CO hi))
 refine W ?_
 refine⟨fun c9 c9p=>?_,fun c9 c9p=>?_⟩
 ·
  rw [y44] at c9 c9p
  have hsl:T.B8 o=(AA.AS T.w T.own (max 1 o.nth) o.name false):=AA.Un c5
  refine W ?_
  refine Cl (.c .h (.c (.t (.t (.t (.t .h)))) .n)) (Au _ _ _ _ hg hb (by omega)) (fun v46 B hv=>?_)
  obtain⟨y47,rfl,y48,rfl⟩:=hv
  refine W ?_
  intro w1 hS
  have hS:=(hS.perm (AK.perm (.c .h (.c .h .n)))).AM
  have d0:(decide (((T.B8 o).length:Int)=0) || !decide ((T.w.AH.at ((T.B8 o).getD 0 0)).kind=AA.setKind o.verb))=true:=by rw [hsl];exact c9
  have hq:T.set o=_:=AA.Uo c1 d0
  (try rw [hsl] at hq)
  refine⟨_,⟨?gq9,J,?g9l9,?g9B9⟩,hS⟩
  case g9B9=>rw [hq];(try rfl)
  case g9l9=>rw [hq];assumption
 rw [y44] at c9 c9p
 have hsl:T.B8 o=(AA.AS T.w T.own (max 1 o.nth) o.name false):=AA.Un c5
 refine W ?_
 refine⟨fun c10 c10p=>?_,fun c10 c10p=>?_⟩
 ·
  refine W ?_
  refine Cl (.c .h (.c (.t (.t (.t (.t .h)))) .n)) (Au _ _ _ _ hg hb (by omega)) (fun v49 B hv=>?_)
  obtain⟨y50,rfl,y51,rfl⟩:=hv
  refine W ?_
  intro w1 hS
  have hS:=(hS.perm (AK.perm (.c .h (.c .h .n)))).AM
  have d0:(decide (((T.B8 o).length:Int)=0) || !decide ((T.w.AH.at ((T.B8 o).getD 0 0)).kind=AA.setKind o.verb))=false:=by rw [hsl];exact c9
  have d1:((T.w.AH.at ((T.B8 o).getD 0 0)).on == AA.CC o.verb)=true:=by rw [hsl];exact c10
  have hq:T.set o=_:=AA.ax c1 d0 d1
  (try rw [hsl] at hq)
  refine⟨_,⟨?gq10,J,?g9l10,?g9B10⟩,hS⟩
  case g9B10=>rw [hq];(try rfl)
  case g9l10=>rw [hq];assumption
 refine W ?_
 refine⟨fun c11 c11p=>?_,fun c11 c11p=>?_⟩
 ·
  refine W ?_
  refine Cl (.c .h (.c (.t (.t (.t (.t .h)))) .n)) (BI _ (AA.Co T ((AA.AS T.w T.own (max 1 o.nth) o.name false).getD (0:Int).toNat 0) { T.w.AH.at ((AA.AS T.w T.own (max 1 o.nth) o.name false).getD (0:Int).toNat 0) with on:=AA.CC o.verb }) _ (o.verb - 4) (-1) 0 0 ((AA.Co T ((AA.AS T.w T.own (max 1 o.nth) o.name false).getD (0:Int).toNat 0) { T.w.AH.at ((AA.AS T.w T.own (max 1 o.nth) o.name false).getD (0:Int).toNat 0) with on:=AA.CC o.verb }).w.AH.at ((AA.AS T.w T.own (max 1 o.nth) o.name false).getD (0:Int).toNat 0)).name [] hg hb (show(-1:Int) < 6 by decide) (show T.out.length≤100000 by omega)) (fun v52 B hv=>?_)
  obtain⟨y53,rfl,y54,rfl⟩:=hv
  refine W ?_
  intro w1 hS
  have hS:=(hS.perm (AK.perm (.c .h (.c .h .n)))).AM
  have d0:(decide (((T.B8 o).length:Int)=0) || !decide ((T.w.AH.at ((T.B8 o).getD 0 0)).kind=AA.setKind o.verb))=false:=by rw [hsl];exact c9
  have d1:((T.w.AH.at ((T.B8 o).getD 0 0)).on == AA.CC o.verb)=false:=by rw [hsl];exact c10
  have hq:T.set o=_:=(AA.Mm c1 d0 d1).trans (AN c11)
  (try rw [hsl] at hq)
  refine⟨_,⟨?gq11,J,?g9l11,?g9B11⟩,hS⟩
  case g9B11=>rw [hq];(try rfl)
  case g9l11=>rw [hq];assumption
 refine W ?_
 refine Cl (.c .h (.c (.t (.t (.t (.t .h)))) .n)) (BI _ T _ (o.verb - 4) (-1) 0 0 (T.w.AH.at ((AA.AS T.w T.own (max 1 o.nth) o.name false).getD (0:Int).toNat 0)).name [] hg hb (show(-1:Int) < 6 by decide) (show T.out.length≤100000 by omega)) (fun v55 B hv=>?_)
 obtain⟨y56,rfl,y57,rfl⟩:=hv
 refine W ?_
 intro w1 hS
 have hS:=(hS.perm (AK.perm (.c .h (.c .h .n)))).AM
 have d0:(decide (((T.B8 o).length:Int)=0) || !decide ((T.w.AH.at ((T.B8 o).getD 0 0)).kind=AA.setKind o.verb))=false:=by rw [hsl];exact c9
 have d1:((T.w.AH.at ((T.B8 o).getD 0 0)).on == AA.CC o.verb)=false:=by rw [hsl];exact c10
 have hq:T.set o=_:=(AA.Mm c1 d0 d1).trans (AB c11)
 (try rw [hsl] at hq)
 refine⟨_,⟨?gq12,J,?g9l12,?g9B12⟩,hS⟩
 case g9B12=>rw [hq];(try rfl)
 case g9l12=>rw [hq];assumption
theorem HM (X:AD)(b:Int)(o:Order)(hw:X.Cs)(hu:o.second.length≤5000000)(hm:o.name.length≤5000000)(hz:-9223372036854775808≤o.nth∧o.nth≤9223372036854775807):Cz Tryz.prog 48 #[.agg X.enc.toArray, .int .i64 b, .agg o.enc.toArray] [] (fun w=>(GV 0 AD.Be w∧0 ∉ BV [])∧(Eo 8 w∧8 ∉ BV [])∧(Eo 9 w∧9 ∉ BV [])) (fun v B=>∃ h:Hd,v = .tuple #[.agg ((AA.Dk X b o).1.enc).toArray,h.val, .int .i64 (AA.Dk X b o).2.2]∧h.len=(AA.Dk X b o).2.1.length∧B = [AJ.own h 100 16 ((AA.Dk X b o).2.1.flatMap Ing.Event.enc)]):=by
 intro w hS0 hH
 obtain⟨⟨gl0,gm0⟩,⟨gl1,gm1⟩,⟨gl2,gm2⟩⟩:=hH
 refine AR _ _ Tryz.func48 J J J (hS0) ?_
 refine W ?_
 intro b1 b2 b3
 refine⟨fun c1 c1p=>?_,fun c1 c1p=>?_⟩
 ·
  rw [AD.Cd] at c1
  refine W ?_
  intro w1 hS
  have hS:=hS.BT 100 16
  have hS:=(hS.perm (AK.perm (.c .h .n))).AM
  have hq:AA.Dk X b o=_:=(AN c1)
  refine⟨_,⟨⟨none,0,0⟩,?g9v1,?g9l1,?g9B1⟩,hS⟩
  case g9v1=>rw [hq];rfl
  case g9l1=>rw [hq];rfl
  case g9B1=>rw [hq];rfl
 rw [AD.Cd] at c1
 refine W ?_
 refine⟨fun c2 c2p=>?_,fun c2 c2p=>?_⟩
 ·
  rw [AA.RL] at c2
  refine W ?_
  intro w1 hS
  have hS:=hS.BT 100 16
  have hS:=(hS.perm (AK.perm (.c .h .n))).AM
  have hq:AA.Dk X b o=_:=((AB c1).trans (AN c2))
  refine⟨_,⟨⟨none,0,0⟩,?g9v2,?g9l2,?g9B2⟩,hS⟩
  case g9v2=>rw [hq];rfl
  case g9l2=>rw [hq];rfl
  case g9B2=>rw [hq];rfl
 rw [AA.RL] at c2
 refine W ?_
 refine⟨fun c3 c3p=>?_,fun c3 c3p=>?_⟩
 ·
  refine W ?_
  intro w1 hS
  have hS:=hS.BT 100 16
  have hS:=(hS.perm (AK.perm (.c .h .n))).AM
  have hq:AA.Dk X b o=_:=((AB c1).trans ((AB c2).trans (AN c3)))
  refine⟨_,⟨⟨none,0,0⟩,?g9v3,?g9l3,?g9B3⟩,hS⟩
  case g9v3=>rw [hq];rfl
  case g9l3=>rw [hq];rfl
  case g9B3=>rw [hq];rfl
 have hF:=AA.RX hw c1 c2
 have hb:=hF.b
 have hbb:0≤b∧b < 6:=hF.b
 have hnl:=AA.Lv hw (AA.Fe (⟨X,b,[]⟩:AA))
 refine Ws 100081 ?_
 intro b4
 refine CG Ing.Event.enc 100 16 ?_
 refine AY (.t .h) ?_
 refine AY (.t .h) ?_
 refine Kk (Lm:= [_,_]) (fun(Y:AA) (j:Hd)=>AA.act (⟨X,b,[]⟩:AA) o=Y∧j.len=Y.out.length) (fun(Y:AA) (j:Hd)=> []) (fun(Y:AA) (j:Hd)=> [AJ.own j 100 16 (Y.out.flatMap Ing.Event.enc),AJ.box b4 115 (Ab.enc ⟨Y.w,Y.b,j⟩)]) (.t2 6 9) J ?_ (fun Y j hC=>?_)
 ·
  refine Ws 100101 ?_
  refine OE (Lm:= []) (fun(p:Bool)=>p=decide (o.verb < 6)) (fun(p:Bool)=> [(39, .bool p)]) (fun(p:Bool)=> []) (.t5 1 5 6 9 35) J ?_ (fun p hC=>?_)
  ·
   refine W ?_
   refine⟨fun c4 c4p=>?_,fun c4 c4p=>?_⟩
   ·
    refine W ?_
    refine Ec _ ?_ (.t6 39 1 5 6 9 35) (.refl _)
    · rw [Bool.eq_iff_iff,decide_eq_true_eq,decide_eq_true_eq];omega
   refine W ?_
   refine⟨fun c5 c5p=>?_,fun c5 c5p=>?_⟩
   ·
    refine W ?_
    refine Ec _ ?_ (.t6 39 1 5 6 9 35) (.refl _)
    · rw [Bool.eq_iff_iff,decide_eq_true_eq,decide_eq_true_eq];omega
   refine W ?_
   refine⟨fun c6 c6p=>?_,fun c6 c6p=>?_⟩
   ·
    refine W ?_
    refine Ec _ ?_ (.t6 39 1 5 6 9 35) (.refl _)
    · rw [Bool.eq_iff_iff,decide_eq_true_eq,decide_eq_true_eq];omega
   refine W ?_
   refine⟨fun c7 c7p=>?_,fun c7 c7p=>?_⟩
   ·
    refine W ?_
    refine Ec _ ?_ (.t6 39 1 5 6 9 35) (.refl _)
    · rw [Bool.eq_iff_iff,decide_eq_true_eq,decide_eq_true_eq];omega
   refine W ?_
   refine⟨fun c8 c8p=>?_,fun c8 c8p=>?_⟩
   ·
    refine W ?_
    refine Ec _ ?_ (.t6 39 1 5 6 9 35) (.refl _)
    · rw [Bool.eq_iff_iff,decide_eq_true_eq,decide_eq_true_eq];omega
   refine W ?_
   refine Ec _ ?_ (.t6 39 1 5 6 9 35) (.refl _)
   · rw [Bool.eq_iff_iff,decide_eq_true_eq,decide_eq_true_eq];omega
  have hP:=hC
  refine W ?_
  refine⟨fun c9 c9p=>?_,fun c9 c9p=>?_⟩
  ·
   have hv6:o.verb < 6:=of_decide_eq_true (hP.symm.trans c9)
   refine W ?_
   refine Cm (.c (.t .h) (.c .h .n)) (SK _ (⟨X,b,[]⟩:AA) _ o.verb J hF (by omega) (Nat.zero_le _)) (fun v4 B hv=>?_)
   obtain⟨y5,rfl,y6,rfl⟩:=hv
   refine W ?_
   refine Ar (.c (.t .h) (.c .h (.c .h (.c .h (.c .h .n))))) ?_
   refine Az ?_
   refine Bx _ _ ?_ (.t2 6 9) (.refl _)
   · exact⟨AA.F4 hv6,by(try assumption)⟩
  have hv6:¬ o.verb < 6:=of_decide_eq_false (hP.symm.trans c9)
  refine W ?_
  refine⟨fun c10 c10p=>?_,fun c10 c10p=>?_⟩
  ·
   refine W ?_
   refine Cm (.c (.t .h) (.c .h .n)) (FZ _ (⟨X,b,[]⟩:AA) _ J hF (Nat.zero_le _)) (fun v7 B hv=>?_)
   obtain⟨y8,rfl,y9,rfl⟩:=hv
   refine W ?_
   refine Ar (.c (.t .h) (.c .h (.c .h (.c .h (.c .h .n))))) ?_
   refine Az ?_
   refine Bx _ _ ?_ (.t2 6 9) (.refl _)
   · exact⟨AA.iK (by omega),by(try assumption)⟩
  refine W ?_
  refine⟨fun c11 c11p=>?_,fun c11 c11p=>?_⟩
  ·
   refine W ?_
   refine Cm (.c (.t .h) (.c .h .n)) (Tr _ (⟨X,b,[]⟩:AA) _ o J hF hu (Nat.zero_le _) hz) (fun v10 B hv=>?_)
   obtain⟨y11,rfl,y12,rfl⟩:=hv
   refine W ?_
   refine Ar (.c (.t .h) (.c .h (.c .h (.c .h (.c .h .n))))) ?_
   refine Az ?_
   refine Bx _ _ ?_ (.t2 6 9) (.refl _)
   · exact⟨AA.iL (by omega),by(try assumption)⟩
  refine Ws 100211 ?_
  refine OE (Lm:= []) (fun(r:Bool)=>r=decide (8≤o.verb∧o.verb≤10)) (fun(r:Bool)=> [(59, .bool r)]) (fun(r:Bool)=> []) (.t5 1 5 6 9 35) J ?_ (fun r hC=>?_)
  ·
   refine W ?_
   refine⟨fun c12 c12p=>?_,fun c12 c12p=>?_⟩
   ·
    refine W ?_
    refine Ec _ ?_ (.t6 59 1 5 6 9 35) (.refl _)
    · rw [Bool.eq_iff_iff,decide_eq_true_eq,decide_eq_true_eq];omega
   refine W ?_
   refine⟨fun c13 c13p=>?_,fun c13 c13p=>?_⟩
   ·
    refine W ?_
    refine Ec _ ?_ (.t6 59 1 5 6 9 35) (.refl _)
    · rw [Bool.eq_iff_iff,decide_eq_true_eq,decide_eq_true_eq];omega
   refine W ?_
   refine Ec _ ?_ (.t6 59 1 5 6 9 35) (.refl _)
   · rw [Bool.eq_iff_iff,decide_eq_true_eq,decide_eq_true_eq];omega
  have hR:=hC
  refine W ?_
  refine⟨fun c14 c14p=>?_,fun c14 c14p=>?_⟩
  ·
   have hv8:8≤o.verb∧o.verb≤10:=of_decide_eq_true (hR.symm.trans c14)
   refine W ?_
   refine Cm (.c (.t .h) (.c .h .n)) (SJ _ (⟨X,b,[]⟩:AA) _ o J hF (by omega) hu (Nat.zero_le _) hz) (fun v13 B hv=>?_)
   obtain⟨y14,rfl,y15,rfl⟩:=hv
   refine W ?_
   refine Ar (.c (.t .h) (.c .h (.c .h (.c .h (.c .h .n))))) ?_
   refine Az ?_
   refine Bx _ _ ?_ (.t2 6 9) (.refl _)
   · exact⟨AA.cJ hv8,by(try assumption)⟩
  have hv8:¬ (8≤o.verb∧o.verb≤10):=of_decide_eq_false (hR.symm.trans c14)
  refine W ?_
  refine⟨fun c15 c15p=>?_,fun c15 c15p=>?_⟩
  ·
   refine W ?_
   refine Cl (.c (.t .h) (.c .h .n)) (BI _ (⟨X,b,[]⟩:AA) _ 7 (-1) 0 0 [] o.text J hb (show(-1:Int) < 6 by decide) (Nat.zero_le _)) (fun v16 B hv=>?_)
   obtain⟨y17,rfl,y18,rfl⟩:=hv
   refine W ?_
   refine Ar (.c (.t .h) (.c .h (.c .h (.c .h (.c .h .n))))) ?_
   refine Az ?_
   refine Bx _ _ ?_ (.t2 6 9) (.refl _)
   · exact⟨AA.fE (by omega),by(try assumption)⟩
  refine W ?_
  refine⟨fun c16 c16p=>?_,fun c16 c16p=>?_⟩
  ·
   refine Wv ?_
   refine F2 (Ag) (s:=(if (!decide (o.nth=1) || o.An)=true then [] else o.name)) J J J J J ?_
   refine W ?_
   refine Cl (.c (.t .h) (.c .h .n)) (Iv _ (⟨X,b,[]⟩:AA) _ (AA.Ba o) J hF (by unfold AA.Ba;split<;>(try simp)<;>omega) (Nat.zero_le _)) (fun v19 B hv=>?_)
   obtain⟨y20,rfl,y21,rfl⟩:=hv
   refine W ?_
   refine⟨fun c17 c17p=>?_,fun c17 c17p=>?_⟩
   ·
    have hfy:=AA.Xh (T:=(⟨X,b,[]⟩:AA)) (o:=o) c17
    refine W ?_
    refine⟨fun c18 c18p=>?_,fun c18 c18p=>?_⟩
    ·
     refine W ?_
     refine Cl (.c .h (.c .h .n)) (Au _ (AA.BW (AA.BW (AA.AU (⟨X,b,[]⟩:AA) (AA.Ba o)).1 b ((AA.EN (⟨X,b,[]⟩:AA) (AA.Ba o))+1)) (AA.EN (⟨X,b,[]⟩:AA) (AA.Ba o)) (b+1)) _ AA.IX (by assumption) (by show 0≤AA.b (AA.AU (⟨X,b,[]⟩:AA) (AA.Ba o)).1∧AA.b (AA.AU (⟨X,b,[]⟩:AA) (AA.Ba o)).1 < 6;rw [(AA.Hl _ _).2];exact hb) (by show(AA.out (AA.AU (⟨X,b,[]⟩:AA) (AA.Ba o)).1).length≤100000;have:=AA.El (⟨X,b,[]⟩:AA) (AA.Ba o);have e:(AA.out (⟨X,b,[]⟩:AA)).length=0:=rfl;omega)) (fun v22 B hv=>?_)
     obtain⟨y23,rfl,y24,rfl⟩:=hv
     refine W ?_
     refine Ar (.c (.t .h) (.c .h (.c .h (.c .h (.c .h .n))))) ?_
     refine Az ?_
     refine Bx _ _ ?_ (.t2 6 9) (.refl _)
     · exact⟨(AA.VU (by omega)).trans (hfy.2.2.trans (congrArg (fun q=>AA.tell q AA.IX) (AN c18))),by(try assumption)⟩
    refine W ?_
    refine Cl (.c .h (.c .h .n)) (Au _ (AA.BW (AA.AU (⟨X,b,[]⟩:AA) (AA.Ba o)).1 b ((AA.EN (⟨X,b,[]⟩:AA) (AA.Ba o))+1)) _ AA.IX (by assumption) (by show 0≤AA.b (AA.AU (⟨X,b,[]⟩:AA) (AA.Ba o)).1∧AA.b (AA.AU (⟨X,b,[]⟩:AA) (AA.Ba o)).1 < 6;rw [(AA.Hl _ _).2];exact hb) (by show(AA.out (AA.AU (⟨X,b,[]⟩:AA) (AA.Ba o)).1).length≤100000;have:=AA.El (⟨X,b,[]⟩:AA) (AA.Ba o);have e:(AA.out (⟨X,b,[]⟩:AA)).length=0:=rfl;omega)) (fun v25 B hv=>?_)
    obtain⟨y26,rfl,y27,rfl⟩:=hv
    refine W ?_
    refine Ar (.c (.t .h) (.c .h (.c .h (.c .h (.c .h .n))))) ?_
    refine Az ?_
    refine Bx _ _ ?_ (.t2 6 9) (.refl _)
    · exact⟨(AA.VU (by omega)).trans (hfy.2.2.trans (congrArg (fun q=>AA.tell q AA.IX) (AB c18))),by(try assumption)⟩
   refine W ?_
   refine Ar (.c (.t .h) (.c .h (.c .h (.c .h (.c .h .n))))) ?_
   refine Az ?_
   refine Bx _ _ ?_ (.t2 6 9) (.refl _)
   · exact⟨(AA.VU (by omega)).trans (AA.Zq c17),by(try assumption)⟩
  refine W ?_
  refine⟨fun c19 c19p=>?_,fun c19 c19p=>?_⟩
  ·
   refine W ?_
   refine Cl (.c (.t .h) .n) (HI _ (⟨X,b,[]⟩:AA) _ hF) (fun v28 B hv=>?_)
   obtain⟨y29,rfl,y30,rfl⟩:=hv
   refine W ?_
   refine Cl (.c .h (.c .h .n)) (Ia _ (⟨X,b,[]⟩:AA) _ _ (AA.own (⟨X,b,[]⟩:AA)) hF (by assumption) (AA.Fe _) (fun i hi=>AA.GP hi)) (fun v32 B hv=>?_)
   obtain⟨rfl,rfl⟩:=hv
   refine W ?_
   refine Cl (.c .h (.c (.t .h) .n)) (Au _ (⟨X,b,[]⟩:AA) _ _ J hb (Nat.zero_le _)) (fun v33 B hv=>?_)
   obtain⟨y34,rfl,y35,rfl⟩:=hv
   refine W ?_
   refine Ar (.c (.t .h) (.c .h (.c (.t .h) (.c (.t .h) (.c (.t .h) .n))))) ?_
   refine Az ?_
   refine Bx _ _ ?_ (.t2 6 9) (.refl _)
   · exact⟨AA.fF (by omega),by(try assumption)⟩
  refine W ?_
  refine⟨fun c20 c20p=>?_,fun c20 c20p=>?_⟩
  ·
   refine W ?_
   refine Cl (.c (.t .h) (.c .h .n)) (BI _ (⟨X,b,[]⟩:AA) _ 18 (-1) 0 0 [] [] J hb (show(-1:Int) < 6 by decide) (Nat.zero_le _)) (fun v36 B hv=>?_)
   obtain⟨y37,rfl,y38,rfl⟩:=hv
   refine W ?_
   refine Cl (.c .h .n) (Iu _ (AA.kind (⟨X,b,[]⟩:AA) 18) _ (hF.Fc J J)) (fun v39 B hv=>?_)
   obtain⟨y40,y41,rfl,rfl⟩:=hv
   refine W ?_
   refine Ar (.c (.t .h) (.c .h (.c .h (.c .h (.c .h .n))))) ?_
   refine Az ?_
   refine Bx (⟨{ y40 with AF:=y40.AF.put b default },b,(AA.kind (⟨X,b,[]⟩:AA) 18).out⟩) _ ?_ (.t2 6 9) (.refl _)
   · exact⟨(AA.fG (by omega)).trans (AA.Zo y41),by(try assumption)⟩
  refine W ?_
  refine Cm (.c (.t .h) (.c .h .n)) (Ts _ (⟨X,b,[]⟩:AA) _ o J hF (by omega) (Nat.zero_le _) hz) (fun v42 B hv=>?_)
  obtain⟨y43,rfl,y44,rfl⟩:=hv
  refine W ?_
  refine Ar (.c (.t .h) (.c .h (.c .h (.c .h (.c .h .n))))) ?_
  refine Az ?_
  refine Bx _ _ ?_ (.t2 6 9) (.refl _)
  · exact⟨AA.cL (by omega),by(try assumption)⟩
 obtain⟨hE1,hE2⟩:=hC
 refine W ?_
 intro w1 hS
 have hS:=(hS.perm (AK.perm (.c .h .n))).AM
 have hq:AA.Dk X b o=((AA.act (⟨X,b,[]⟩:AA) o).w,(AA.act (⟨X,b,[]⟩:AA) o).out,0):=((AB c1).trans ((AB c2).trans (AB c3)))
 rw [hE1] at hq
 refine⟨_,⟨?gq4,?g9v4,?g9l4,?g9B4⟩,hS⟩
 case g9B4=>rw [hq];(try rfl)
 case g9v4=>rw [hq];(try rfl)
 case g9l4=>rw [hq];exact hE2
theorem Es (b:Nat)(V:AE)(ls:Vector Ae 4)(ev:List Ing.Event)(k:Int)(n m:Nat)(hk:0≤k∧k < 4)(hF:AG.Fit (AO V ls ev) n m)(hn:n≤900000)(hm:m≤900000):Cz Tryz.prog 32 #[.pointer (some ⟨b,0,none⟩), .int .i64 k] [AJ.box b 65 (AE.enc V),AJ.CI (BB 9 (AE.AP V) ls),AJ.own (AE.last V) 100 16 ((ev).flatMap Ing.Event.enc)] (fun w=>(GV 3 EH w∧3 ∉ BV [AJ.box b 65 (AE.enc V),AJ.CI (BB 9 (AE.AP V) ls),AJ.own (AE.last V) 100 16 ((ev).flatMap Ing.Event.enc)])∧(GV 0 AD.Be w∧0 ∉ BV [AJ.box b 65 (AE.enc V),AJ.CI (BB 9 (AE.AP V) ls),AJ.own (AE.last V) 100 16 ((ev).flatMap Ing.Event.enc)])∧(Eo 8 w∧8 ∉ BV [AJ.box b 65 (AE.enc V),AJ.CI (BB 9 (AE.AP V) ls),AJ.own (AE.last V) 100 16 ((ev).flatMap Ing.Event.enc)])∧(Eo 9 w∧9 ∉ BV [AJ.box b 65 (AE.enc V),AJ.CI (BB 9 (AE.AP V) ls),AJ.own (AE.last V) 100 16 ((ev).flatMap Ing.Event.enc)])) (fun v B=>∃ V' ls' ev',v = .tuple #[]∧AO V' ls' ev'=AG.leave (AO V ls ev) k∧B = [AJ.box b 65 (AE.enc V'),AJ.CI (BB 9 (AE.AP V') ls'),AJ.own (AE.last V') 100 16 ((ev').flatMap Ing.Event.enc)]):=by
 intro w hS0 hH
 obtain⟨⟨gl0,gm0⟩,⟨gl1,gm1⟩,⟨gl2,gm2⟩,⟨gl3,gm3⟩⟩:=hH
 refine AR _ _ Tryz.func32 J J J (hS0) ?_
 refine Ws 0 ?_
 refine Cj (k:=k) hk.1 hk.2 (fun sv sl hsv hlv hln=>?_)
 refine Ws 2 ?_
 intro b1
 refine CG AX 9 1 ?_
 refine CG AX 9 1 ?_
 refine CG AX 9 1 ?_
 refine By (.c (.t (.t .h)) (.c (.t .h) (.c .h (.c (.t (.t (.t (.t .h)))) (.c (.t (.t (.t (.t .h)))) .n))))) ?_
 refine Ct hk.1 hk.2 (by rfl) (by rfl) (by rfl) ?_
 refine W ?_
 refine⟨fun c1 c1p=>?_,fun c1 c1p=>?_⟩
 ·
  have hdl:=AA.Kp V.w sv.AV AG.DN
  have hds:=AA.Kq (b:=sv.AV) (o:=AG.DN) hF.Fp AG.NP
  refine W ?_
  refine Ey 7 12 J J (by kernel_rfl) ?_ ?_
  ·
   refine W ?_
   refine Cm .n (HM V.w sv.AV AG.DN hF.Fp.Gb (Nat.zero_le _) (Nat.zero_le _) (by decide)) (fun v4 B hv=>?_)
   obtain⟨y5,rfl,y6,rfl⟩:=hv
   refine W ?_
   intro b2
   refine Cm (.c (.t (.t .h)) (.c (.t (.t .h)) (.c (.t (.t (.t (.t (.t (.t .h)))))) (.c (.t .h) .n)))) (Bv _ { (AE.AZ V k default) with w:=(AA.Dk V.w sv.AV AG.DN).1 } (ls.put k ⟨[],[],[]⟩) ev _ (AA.Dk V.w sv.AV AG.DN).2.1 n (by assumption) (Cx (Tq hk.1 hk.2 hF hds.1)) (by omega) (Nat.le_trans hF.last (by omega)) hds.2) (fun v8 B hv=>?_)
   obtain⟨y9,y10,y11,rfl,y12,rfl⟩:=hv
   refine W ?_
   intro w1 hS
   have hS:=(hS.perm (AK.perm (.c .h (.c .h (.c .h .n))))).AM
   refine⟨_,⟨y9,y10,y11,J,?ga1,J⟩,hS⟩
   case ga1=>exact Zs hk.1 hk.2 hsv c1 y12
  ·
   refine W ?_
   intro b3
   refine Cm .n (HM V.w sv.AV AG.DN hF.Fp.Gb (Nat.zero_le _) (Nat.zero_le _) (by decide)) (fun v13 B hv=>?_)
   obtain⟨y14,rfl,y15,rfl⟩:=hv
   refine W ?_
   refine Cm (.c (.t (.t .h)) (.c (.t (.t .h)) (.c (.t (.t (.t (.t (.t (.t .h)))))) (.c .h .n)))) (Bv _ { (AE.AZ V k default) with w:=(AA.Dk V.w sv.AV AG.DN).1 } (ls.put k ⟨[],[],[]⟩) ev _ (AA.Dk V.w sv.AV AG.DN).2.1 n (by assumption) (Cx (Tq hk.1 hk.2 hF hds.1)) (by omega) (Nat.le_trans hF.last (by omega)) hds.2) (fun v17 B hv=>?_)
   obtain⟨y18,y19,y20,rfl,y21,rfl⟩:=hv
   refine W ?_
   intro w1 hS
   have hS:=(hS.perm (AK.perm (.c .h (.c .h (.c .h .n))))).AM
   refine⟨_,⟨y18,y19,y20,J,?ga2,J⟩,hS⟩
   case ga2=>exact Zs hk.1 hk.2 hsv c1 y21
 refine W ?_
 intro w1 hS
 have hS:=(hS.perm (AK.perm (.c .h (.c .h (.c (.t (.t (.t (.t .h)))) .n))))).AM
 refine⟨_,⟨(AE.AZ V k default),(ls.put k ⟨[],[],[]⟩),ev,J,?ga3,J⟩,hS⟩
 case ga3=>exact fU hk.1 hk.2 hsv c1
end Go.Proofs.YtlmmdjaoikaceaaGreatDoor

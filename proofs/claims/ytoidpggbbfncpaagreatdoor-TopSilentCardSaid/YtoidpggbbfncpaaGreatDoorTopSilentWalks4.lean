/- What the functions that the law TopSilent reaches compute: walks, part 4. No condition. -/
import Derived.Test.YtoidpggbbfncpaaGreatDoorCards
import Derived.Test.YtoidpggbbfncpaaGreatDoorTie
import Derived.Deep.DeepHandedRow
import Derived.Test.YtoidpggbbfncpaaGreatDoorRows
import Derived.Test.YtoidpggbbfncpaaGreatDoorTopSilentEc3
import Derived.Test.YtoidpggbbfncpaaGreatDoorTopSilentRa1
import Derived.Test.YtoidpggbbfncpaaGreatDoorTopSilentRb1
import Derived.Test.YtoidpggbbfncpaaGreatDoorTopSilentRc1
import Derived.Test.YtoidpggbbfncpaaGreatDoorTopSilentWalks
import Derived.Test.YtoidpggbbfncpaaGreatDoorTopSilentWalks2
import Derived.Test.YtoidpggbbfncpaaGreatDoorTopSilentWalks3
set_option linter.unusedSimpArgs false
set_option linter.unusedVariables false
set_option maxRecDepth 100000
set_option maxHeartbeats 1000000
namespace Go.Proofs.YtoidpggbbfncpaaGreatDoor
open Go Go.Ing Go.RowKit Go.ChangeShapes Go.WideShapes Go.ChangeAt
theorem S0 (b:Nat)(T:AF)(g:Hd)(o:Order)(hg:g.len=T.out.length)(hF:T.Fit)(hv:o.verb=8∨o.verb=9∨o.verb=10)(hu:o.second.length≤5000000)(hn:T.out.length≤90000):Fx Tryz.prog 106 #[.pointer (some ⟨b,0,none⟩), .agg o.enc.toArray] [Af.box b 163 (Ag.enc ⟨T.w,T.b,g⟩),Af.own g 56 16 (T.out.flatMap Ing.Event.enc)] (fun w=>(HI 7 w∧7 ∉ Cp [Af.box b 163 (Ag.enc ⟨T.w,T.b,g⟩),Af.own g 56 16 (T.out.flatMap Ing.Event.enc)])∧(HI 8 w∧8 ∉ Cp [Af.box b 163 (Ag.enc ⟨T.w,T.b,g⟩),Af.own g 56 16 (T.out.flatMap Ing.Event.enc)])) (fun v B=>∃ g':Hd,v = .tuple #[]∧g'.len=(T.FM o).out.length∧B = [Af.box b 163 (Ag.enc ⟨(T.FM o).w,(T.FM o).b,g'⟩),Af.own g' 56 16 ((T.FM o).out.flatMap Ing.Event.enc)]):=by
 intro w hS0 hH
 obtain⟨⟨gl0,gm0⟩,⟨gl1,gm1⟩⟩:=hH
 have hb:=hF.b
 have hr:=hF.room
 refine Ao _ _ Tryz.func106 rfl rfl rfl (hS0) ?_
 refine Gs ?_
 refine B4 rfl rfl rfl (fun b1=>?_)
 refine Gn (.t2 0 3) (Gs (Ga rfl (Ga rfl (AT (AA ?_)))))
 refine BZ (.t (.t .h)) ?_
 refine BZ (.t (.t .h)) ?_
 refine Za (Lm:= [_,_]) (fun(X:AF) (to:Int) (p:Bool) (j:Hd)=>X=(T.Cx o).1∧to=(T.Cx o).2.1∧p=(T.Cx o).2.2∧j.len=X.out.length) (fun(X:AF) (to:Int) (p:Bool) (j:Hd)=> [(4, .int .i64 to),(5, .bool p)]) (fun(X:AF) (to:Int) (p:Bool) (j:Hd)=> [Af.box b 163 (Ag.enc ⟨X.w,X.b,j⟩),Af.own j 56 16 (X.out.flatMap Ing.Event.enc)]) (.t2 0 3) rfl ?_ (fun X to p j hC=>?_)
 ·
  refine Gs (Gt (Aj DG rfl) (Gt (AG rfl A5 .m2 Order.l0 rfl rfl) (Gn (.t5 0 3 4 5 11) (Ak (Gs (Gt (Ai rfl rfl) (Ga rfl ?_)))))))
  refine Gn (.t6 0 3 4 5 11 12) ?_
  refine Gc (fun c1=>?_) (fun c1=>?_)
  ·
   have c1p:=kz c1
   refine AK (Gm rfl (Gt (Aj IL rfl) (Gt (AG rfl CK .m2 Order.l4 rfl rfl) ?_)))
   refine BB rfl Z0 (.c rfl (.c rfl .n)) (.c .h (.c .h .n)) (NH _ T _ _ hg hF hu (by omega)) (fun w hS=>⟨gl0.pull gm0 hS (.c .h (.c .h .n)),gl1.pull gm1 hS (.c .h (.c .h .n))⟩) (fun v1 B hv=>?_)
   obtain⟨y2,rfl,y3,rfl⟩:=hv
   refine Gm rfl (Gt (AM rfl rfl) (Gt (AM rfl rfl) (Ga rfl (Ga rfl ?_))))
   refine AT (AB (.t4 0 3 4 5) ?_)
   refine AW ?_
   refine Rj _ _ _ _ ?_ (.t4 4 5 0 3) (.refl _)
   · have ht:T.Cx o=_:=BJ c1
     exact⟨by rw [ht],by rw [ht],by rw [ht],by assumption⟩
  have c1p:=kz c1
  refine Gs (Gt (Ai rfl rfl) (Ga rfl (Gn (.t5 0 3 4 5 21) ?_)))
  refine Gc (fun c2=>?_) (fun c2=>?_)
  ·
   have c2p:=kz c2
   refine AK (Gm rfl (Gt (Aj IL rfl) (Gt (AG rfl CK .m2 Order.l4 rfl rfl) ?_)))
   refine BB rfl Z8 (.c rfl (.c rfl .n)) (.c .h (.c .h .n)) (I8 _ T _ _ hg hF hu (by omega)) (fun w hS=>⟨gl0.pull gm0 hS (.c .h (.c .h .n)),gl1.pull gm1 hS (.c .h (.c .h .n))⟩) (fun v4 B hv=>?_)
   obtain⟨y5,rfl,y6,rfl⟩:=hv
   refine Gm rfl (Gt (AM rfl rfl) (Gt (AM rfl rfl) (Ga rfl (Ga rfl ?_))))
   refine AT (AB (.t4 0 3 4 5) ?_)
   refine AW ?_
   refine Rj _ _ _ _ ?_ (.t4 4 5 0 3) (.refl _)
   · have ht:T.Cx o=_:=(AX c1).trans (BJ c2)
     exact⟨by rw [ht],by rw [ht],by rw [ht],by assumption⟩
  have c2p:=kz c2
  refine Aa ?_
  refine AB (.t4 0 3 4 5) ?_
  refine AW ?_
  refine Rj _ _ _ _ ?_ (.t4 4 5 0 3) (.refl _)
  · have ht:T.Cx o=_:=(AX c1).trans (AX c2)
    exact⟨by rw [ht],by rw [ht],by rw [ht],by assumption⟩
 obtain⟨hD1,hD2,hD3,hD4⟩:=hC
 have hXw:=T.U9 o
 have hXo:X.out.length≤T.out.length+1:=by rw [hD1];exact T.QP o
 rw [← hD1] at hXw
 have hXF:X.Fit:=hF.Em hXw.1 hXw.2
 have hPl:((AF.BT X.w X.own o.nth o.name o.Bn)).length≤9:=AF.S8.2.2
 refine CH (Gm rfl (Gt (BX rfl) (Gn (.t4 0 3 4 31) ?_)))
 refine Gc (fun c3=>?_) (fun c3=>?_)
 ·
  refine Ae (AE ?_)
  refine AZ rfl .n ?_
  intro w1 hS
  have hS:=(hS.perm (Ax.perm (.c .h (.c .h .n)))).A3
  have hq:T.FM o=X:=AF.Vr hD1 hD3 c3
  refine⟨_,⟨?gq1,rfl,?hl1,?hB1⟩,hS⟩
  case hB1=>rw [hq];(try rfl)
  case hl1=>rw [hq];exact hD4
 have c3p:=kz c3
 obtain⟨hgo,hn0,hn9,hok⟩:=AF.TW hD1 hD2 hD3 c3
 refine Aa ?_
 refine AB (.t3 0 3 4) ?_
 refine AA (Au ?_)
 refine BN (N:=11) [0,0,2,0,8,0,32,0,128,511,1023] mix (by kernel_rfl) rfl ?_
 refine Pf 0 rfl (AD rfl) (Pf 1 rfl (AD rfl) (Pf 3 rfl (Aj Gk rfl) (Pf 4 rfl (AG rfl A5 .m2 Order.l1 rfl rfl) (Pf 5 rfl (Aj GF rfl) (Pf 6 rfl (AG rfl CK .m2 Order.l3 rfl rfl) (Pf 7 rfl (Aj HR rfl) (Pf 8 rfl (AG rfl DM .m2 Order.l2 rfl rfl) ?_)))))))
 refine Ab 2 rfl (by kernel_rfl) ?_
 refine Ah rfl Uf (.c rfl .n) (.c .h .n) (II _ X _ hXF) (fun v7 B hv=>?_)
 obtain⟨y8,rfl,y9,rfl⟩:=hv
 refine BH rfl ⟨?_,?_⟩
 · exact(Po rfl (AG rfl DM .m3 Order.l2 rfl rfl) rfl rfl (Po rfl (Aj HR rfl) rfl rfl (Po rfl (AG rfl CK .m3 Order.l3 rfl rfl) rfl rfl (Po rfl (Aj GF rfl) rfl rfl (Po rfl (AG rfl A5 .m3 Order.l1 rfl rfl) rfl rfl (Po rfl (Aj Gk rfl) rfl rfl (Pk (Po rfl (AD rfl) rfl rfl Ac))))))))
 refine Ab 9 rfl (by kernel_rfl) ?_
 refine Ah rfl QW (.c rfl (.c rfl (.c rfl (.c rfl (.c rfl .n))))) (.c .h (.c .h .n)) (FB _ X _ _ X.own _ _ _ hXF (by assumption) (Nat.le_trans X.KW (by decide)) (fun i hi=>AF.MC hi)) (fun v11 B hv=>?_)
 obtain⟨y12,rfl,y13,rfl⟩:=hv
 refine BH rfl ⟨?_,?_⟩
 · exact(Pk (Pk (Pk (Pk (Pk (Pk (Pk (Pk Ac))))))))
 refine Pf 10 rfl (A1 rfl) ?_
 refine Az (by kernel_rfl) ?_
 refine AB (.t4 0 3 4 6) ?_
 refine AA ?_
 refine BZ (.t (.t (.t .h))) ?_
 refine BZ (.t .h) ?_
 refine Rc (Lm:= [_,_]) (fun(Z:AF) (m:Hd)=>Z=X.Qn o∧m.len=Z.out.length) (fun(Z:AF) (m:Hd)=> []) (fun(Z:AF) (m:Hd)=> [Af.box b 163 (Ag.enc ⟨Z.w,Z.b,m⟩),Af.own m 56 16 (Z.out.flatMap Ing.Event.enc)]) (.t4 0 3 4 6) rfl ?_ (fun Z m hC=>?_)
 ·
  refine Gs (Gm rfl (Gt (Av rfl Tryz.underlying169 rfl) (Gt (Ai rfl rfl) (Gn (.t5 0 3 4 6 44) ?_))))
  refine Gc (fun c4=>?_) (fun c4=>?_)
  ·
   have c4p:=kz c4
   rw [y13] at c4
   refine AK (Gm rfl ?_)
   refine Ah rfl EH (.c rfl (.c rfl .n)) (.c .h (.c .h .n)) (Bi _ X _ _ (by assumption) (by rw [hXw.2];exact hb) (by omega)) (fun v15 B hv=>?_)
   obtain⟨y16,rfl,y17,rfl⟩:=hv
   refine AT (AB (.t4 0 3 4 6) ?_)
   refine Ek _ _ ?_ (.t4 0 3 4 6) (.refl _)
   · exact⟨(AF.ag (T:=X) (o:=o) c4).symm,by assumption⟩
  rw [y13] at c4
  refine Aa ?_
  refine AB (.t4 0 3 4 6) ?_
  refine Ek _ _ ?_ (.t4 0 3 4 6) (.refl _)
  · exact⟨(AF.ai (T:=X) (o:=o) c4).symm,by exact hD4⟩
 obtain⟨hE1,hE2⟩:=hC
 refine Gs (Gm rfl (Gt (Av rfl Tryz.underlying169 rfl) (Gm rfl (Gn (.t6 0 3 4 47 48 49) (Ak ?_)))))
 refine Bt (.t6 49 0 3 4 47 48) ?_
 refine BZ (.t .h) ?_
 refine BZ (.t .h) ?_
 refine D1 (fun(k:Int) (V:AF) (f:Hd)=>0≤k∧V=X.Q9 to o k.toNat∧k≤((AF.BT X.w X.own o.nth o.name o.Bn).length:Int)∧f.len=V.out.length) (fun(k:Int) (V:AF) (f:Hd)=>(((AF.BT X.w X.own o.nth o.name o.Bn).length:Int) - k).toNat) (fun(k:Int) (V:AF) (f:Hd)=> [(49, .int .i64 k)]) (fun(k:Int) (V:AF) (f:Hd)=> [Af.box b 163 (Ag.enc ⟨V.w,V.b,f⟩),Af.own f 56 16 (V.out.flatMap Ing.Event.enc)]) (0) (_) (_) ?_ rfl rfl (fun k V f hI1=>?_)
 · exact⟨by omega,hE1,by omega,hE2⟩
 obtain⟨hI11,hI12,hI13,hI14⟩:=hI1
 refine Gs (Gt (BC rfl rfl) (AT (AA (Au ?_))))
 refine Gc (fun c5=>?_) (fun c5=>?_)
 ·
  have c5p:=kz c5
  have hx:0≤((AF.BT X.w X.own o.nth o.name o.Bn).getD k.toNat 0)∧((AF.BT X.w X.own o.nth o.name o.Bn).getD k.toNat 0) < 9:=AF.MC (AF.Dw (Bj.E5 (xs:=(AF.BT X.w X.own o.nth o.name o.Bn)) (i:=k.toNat) (by omega)))
  have hVK:=AF.XV X to o k.toNat
  rw [← hI12] at hVK
  have hVb:=hVK.2
  have hVo:=hVK.1
  have hbV:0≤V.b∧V.b < 6:=by rw [hVb,hXw.2];exact hb
  refine Aa ?_
  refine AB (.t6 0 3 4 47 48 49) ?_
  refine AA (Au (Ak (Gs ?_)))
  refine Gt (Bs Gr (by decide) (Kn.own .m3) rfl rfl (by omega) (by omega)) ?_
  refine Gt (DP rfl A5 (Kn.own .m3) (by omega)) ?_
  refine Ga rfl (Gn (.t7 0 3 4 8 47 48 49) (Gs (Gm rfl (Gm rfl (Gt (Ba rfl) (Gt (Aj BD rfl) (Gt (Aj Cz rfl) ?_)))))))
  refine Gt (AV Gd rfl rfl (by first | omega | exact hbV.1 | exact hbV.2 | (dsimp only;omega)) (by first | omega | exact hbV.1 | exact hbV.2 | (dsimp only;omega))) ?_
  refine Ga rfl (Gn (.t8 0 3 4 8 9 47 48 49) (Ak (Gs (Gm rfl (Gt (Ba rfl) (Gt (Aj HC rfl) ?_))))))
  refine Gt (AG rfl A5 .m0 (((Ag.l0.comp AI.l1).comp (AQ.ar (n:=9) Ap.fl (by first | omega | exact hbV | (dsimp only;omega)))).comp Ap.l1) rfl rfl) ?_
  refine Gt (Ai rfl rfl) (Gm rfl (Bg 87 rfl rfl (fun q=>AD rfl) (Bg 87 rfl rfl (fun q=>Ba (Bc rfl q)) (Bg 87 rfl rfl (fun q=>Aj GX (Bc rfl q)) ?_))))
  refine Bg 87 rfl rfl (fun q=>by have q1:=q;(try simp at q1);exact AG (Bc rfl q) DM .m0 (((Ag.l0.comp AI.l1).comp (AQ.ar (n:=9) Ap.fl (by first | omega | exact hbV | (dsimp only;omega)))).comp Ap.l4) rfl rfl) ?_
  refine Gt (BM rfl rfl (fun h=>h)) (Ga rfl (Gn (.t9 0 3 4 8 9 47 48 49 81) ?_))
  refine Gc (fun c6=>?_) (fun c6=>?_)
  ·
   have c6p:=kz c6
   refine AK (Gm rfl ?_)
   refine Ah rfl EH (.c rfl (.c rfl .n)) (.c .h (.c .h .n)) (Bi _ V _ _ (by assumption) hbV (by omega)) (fun v18 B hv=>?_)
   obtain⟨y19,rfl,y20,rfl⟩:=hv
   refine AT (AB (.t6 0 3 4 47 48 49) ?_)
   refine AW (AW (AA (AK ?_)))
   refine Gt (Ay rfl rfl (IntWalk.i64_in _ (by first | omega | exact hbV.1 | exact hbV.2 | (dsimp only;omega)))) ?_
   refine Gm rfl ?_
   refine AT (AB (.t6 0 3 4 47 48 49) ?_)
   refine B0 (k+1) _ _ ?_ ?_ (.t6 49 0 3 4 47 48) (.refl _)
   · have hq:V.Cu o.verb to ((AF.BT X.w X.own o.nth o.name o.Bn).getD k.toNat 0)=_:=(BJ c6)
     (try rw [AF.D6 hx.1 hx.2] at *)
     (try rw [AF.Di hx.1 hx.2 hn0] at *)
     exact⟨by omega,(by(try rw [AF.D6 hx.1 hx.2]);(try rw [AF.Di hx.1 hx.2 hn0]);exact hq.symm.trans ((congrArg (fun q=>AF.Cu q o.verb to ((AF.BT X.w X.own o.nth o.name o.Bn).getD k.toNat 0)) hI12).trans (AF.I0 hI11 (by show k < (((AF.BT X.w X.own o.nth o.name o.Bn)).length:Int);omega)).symm)),by omega,by assumption⟩
   · omega
  have c6p:=kz c6
  refine Gs (Gt (Aj DG rfl) (Gt (AG rfl A5 .m4 Order.l0 rfl rfl) (Gt (Ai rfl rfl) (Ga rfl (Gn (.t9 0 3 4 8 9 47 48 49 95) ?_)))))
  refine Gc (fun c7=>?_) (fun c7=>?_)
  ·
   have c7p:=kz c7
   refine Au ?_
   refine BN (N:=19) [0,0,0,0,8,24,56,4,132,388,1020,2044,4092,8189,16381,32765,65535,131071,262143] mix (by kernel_rfl) rfl ?_
   refine Pf 0 rfl (AD rfl) (Pf 1 rfl (AD rfl) (Pf 2 rfl (AD rfl) (Pf 3 rfl (AD rfl) (Pf 4 rfl (Ba rfl) (Pf 5 rfl (Aj CW rfl) (Pf 6 rfl (AG rfl A5 .m0 Ag.l1 rfl rfl) (Pf 7 rfl (Ba rfl) ?_)))))))
   refine Pf 8 rfl (Aj BD rfl) (Pf 9 rfl (Aj Br rfl) ?_)
   refine Pf 10 rfl (AV DB rfl rfl (by first | omega | exact hbV.1 | exact hbV.2 | (dsimp only;omega)) (by first | omega | exact hbV.1 | exact hbV.2 | (dsimp only;omega))) ?_
   refine Pf 11 rfl (Aj C9 rfl) ?_
   refine Pf 12 rfl (AG rfl A5 .m0 (((Ag.l0.comp AI.l2).comp (AQ.ar (n:=6) An.fl (by first | omega | exact hbV | (dsimp only;omega)))).comp An.l3) rfl rfl) ?_
   refine Pf 13 rfl (Ba rfl) (Pf 14 rfl (Aj Fh rfl) ?_)
   refine Ab 15 rfl (by kernel_rfl) ?_
   refine AO (AJ (((Ag.l0.comp AI.l1).comp (AQ.ar (n:=9) Ap.fl (by first | omega | exact hbV | (dsimp only;omega)))).comp Ap.l2) rfl rfl rfl DJ rfl .h) ?_
   refine A7 rfl ⟨?_,?_⟩
   · exact(Pk (Pk (Pk (Pk (Pk (Pk (Pk (Pk (Pk (Pk (Pk (Pk (Pk (Po rfl (AD rfl) rfl rfl (Pk Ac)))))))))))))))
   refine Pf 16 rfl (Ba rfl) (Pf 17 rfl (Aj DN rfl) ?_)
   refine Ab 18 rfl (by kernel_rfl) ?_
   refine AO (AJ (((Ag.l0.comp AI.l1).comp (AQ.ar (n:=9) Ap.fl (by first | omega | exact hbV | (dsimp only;omega)))).comp Ap.l3) rfl rfl rfl DJ rfl .h) ?_
   refine A7 rfl ⟨?_,?_⟩
   · exact(Pk (Pk (Pk (Pk (Pk (Pk (Pk (Pk (Pk (Pk (Pk (Pk (Pk (Pk (Pk (Pk (Pk Ac)))))))))))))))))
   refine Az (by kernel_rfl) ?_
   refine AB (.t7 0 3 4 8 47 48 49) ?_
   refine AA ?_
   refine GR (fun _=> .h) (congrArg (fun q=>Ag.enc ⟨q,_,_⟩) (AF.Hp V hx.1 hx.2 0 (V.w.AN.at V.b).room)) ?_
   refine AK (Gm rfl (Gm rfl ?_))
   refine Ah rfl Ox (.c rfl (.c rfl (.c rfl .n))) (.c .h (.c .h .n)) (D8 _ (V.place ((AF.BT X.w X.own o.nth o.name o.Bn).getD k.toNat 0) 0 (V.w.AN.at V.b).room) _ 4 ((AF.BT X.w X.own o.nth o.name o.Bn).getD k.toNat 0) (by assumption) hbV hx (show V.out.length≤100000 by omega)) (fun v21 B hv=>?_)
   obtain⟨y22,rfl,y23,rfl⟩:=hv
   refine AT (AB (.t6 0 3 4 47 48 49) ?_)
   refine AW (AW (AA (AK ?_)))
   refine Gt (Ay rfl rfl (IntWalk.i64_in _ (by first | omega | exact hbV.1 | exact hbV.2 | (dsimp only;omega)))) ?_
   refine Gm rfl ?_
   refine AT (AB (.t6 0 3 4 47 48 49) ?_)
   refine B0 (k+1) _ _ ?_ ?_ (.t6 49 0 3 4 47 48) (.refl _)
   · have hq:V.Cu o.verb to ((AF.BT X.w X.own o.nth o.name o.Bn).getD k.toNat 0)=_:=((AX c6).trans (BJ c7))
     (try rw [AF.D6 hx.1 hx.2] at *)
     (try rw [AF.Di hx.1 hx.2 hn0] at *)
     exact⟨by omega,(by(try rw [AF.D6 hx.1 hx.2]);(try rw [AF.Di hx.1 hx.2 hn0]);exact hq.symm.trans ((congrArg (fun q=>AF.Cu q o.verb to ((AF.BT X.w X.own o.nth o.name o.Bn).getD k.toNat 0)) hI12).trans (AF.I0 hI11 (by show k < (((AF.BT X.w X.own o.nth o.name o.Bn)).length:Int);omega)).symm)),by omega,by assumption⟩
   · omega
  have c7p:=kz c7
  refine Gs (Gt (Aj DG rfl) (Gt (AG rfl A5 .m4 Order.l0 rfl rfl) (Gt (Ai rfl rfl) (Ga rfl (Gn (.t9 0 3 4 8 9 47 48 49 119) ?_)))))
  refine Gc (fun c8=>?_) (fun c8=>?_)
  ·
   have c8p:=kz c8
   refine Gs (Gm rfl (Gm rfl (Gm rfl (Gt (Ba rfl) (Gt (Aj Fh rfl) ?_)))))
   refine AO (AJ (((Ag.l0.comp AI.l1).comp (AQ.ar (n:=9) Ap.fl (by first | omega | exact hbV | (dsimp only;omega)))).comp Ap.l2) rfl rfl rfl DJ rfl .h) ?_
   refine Gt (Ba rfl) (Gt (Aj DN rfl) ?_)
   refine AO (AJ (((Ag.l0.comp AI.l1).comp (AQ.ar (n:=9) Ap.fl (by first | omega | exact hbV | (dsimp only;omega)))).comp Ap.l3) rfl rfl rfl DJ rfl .h) ?_
   refine Gn (.t7 0 3 4 9 47 48 49) ?_
   refine GR (fun _=> .h) (congrArg (fun q=>Ag.enc ⟨q,_,_⟩) (AF.Hp V hx.1 hx.2 1 to)) ?_
   refine AK (Gm rfl (Gm rfl (Gm rfl (Gt (Ba rfl) (Gt (Aj Mu rfl) ?_)))))
   refine Gt (AG rfl CK .m0 (((Ag.l0.comp AI.l1).comp (AQ.ar (n:=9) Ap.fl (by first | omega | exact hbV | (dsimp only;omega)))).comp Ap.l0) rfl rfl) ?_
   refine Gt (BL N3 Iv rfl (.cons Ing.Event.l0 rfl rfl rfl (.cons Ing.Event.l3 rfl rfl rfl (.cons Ing.Event.l8 rfl rfl rfl .nil)))) ?_
   refine Ah rfl Nq (.c rfl (.c rfl .n)) (.c .h (.c .h .n)) (CU _ (V.place ((AF.BT X.w X.own o.nth o.name o.Bn).getD k.toNat 0) 1 to) _ { AF.F8 6 with other:=to,Bw:=((V.place ((AF.BT X.w X.own o.nth o.name o.Bn).getD k.toNat 0) 1 to).w.AP.at ((AF.BT X.w X.own o.nth o.name o.Bn).getD k.toNat 0)).name } (by assumption) hbV (show to < 6 from(hok hv).fh (by omega)) (show V.out.length≤100000 by omega)) (fun v24 B hv=>?_)
   obtain⟨y25,rfl,y26,rfl⟩:=hv
   refine AT (AB (.t6 0 3 4 47 48 49) ?_)
   refine AW (AW (AA (AK ?_)))
   refine Gt (Ay rfl rfl (IntWalk.i64_in _ (by first | omega | exact hbV.1 | exact hbV.2 | (dsimp only;omega)))) ?_
   refine Gm rfl ?_
   refine AT (AB (.t6 0 3 4 47 48 49) ?_)
   refine B0 (k+1) _ _ ?_ ?_ (.t6 49 0 3 4 47 48) (.refl _)
   · have hq:V.Cu o.verb to ((AF.BT X.w X.own o.nth o.name o.Bn).getD k.toNat 0)=_:=((AX c6).trans ((AX c7).trans (BJ c8)))
     (try rw [AF.D6 hx.1 hx.2] at *)
     (try rw [AF.Di hx.1 hx.2 hn0] at *)
     exact⟨by omega,(by(try rw [AF.D6 hx.1 hx.2]);(try rw [AF.Di hx.1 hx.2 hn0]);exact hq.symm.trans ((congrArg (fun q=>AF.Cu q o.verb to ((AF.BT X.w X.own o.nth o.name o.Bn).getD k.toNat 0)) hI12).trans (AF.I0 hI11 (by show k < (((AF.BT X.w X.own o.nth o.name o.Bn)).length:Int);omega)).symm)),by omega,by assumption⟩
   · omega
  have c8p:=kz c8
  refine Gs (Gm rfl (Gt (Ba rfl) (Gt (Aj BD rfl) (Gt (AU rfl Be .m0 Ag.l0 rfl) (Gm rfl (Gm rfl ?_))))))
  refine BE rfl cj (.c rfl (.c rfl (.c rfl .n))) (fun w hS=>Ml _ _ _ w) ?_
  refine Ga rfl (Gn (.t8 0 3 4 9 47 48 49 138) ?_)
  refine Gc (fun c9=>?_) (fun c9=>?_)
  ·
   have c9p:=kz c9
   refine AK (Gm rfl ?_)
   refine Ah rfl EH (.c rfl (.c rfl .n)) (.c .h (.c .h .n)) (Bi _ V _ _ (by assumption) hbV (by omega)) (fun v27 B hv=>?_)
   obtain⟨y28,rfl,y29,rfl⟩:=hv
   refine AT (AB (.t6 0 3 4 47 48 49) ?_)
   refine AW (AW (AA (AK ?_)))
   refine Gt (Ay rfl rfl (IntWalk.i64_in _ (by first | omega | exact hbV.1 | exact hbV.2 | (dsimp only;omega)))) ?_
   refine Gm rfl ?_
   refine AT (AB (.t6 0 3 4 47 48 49) ?_)
   refine B0 (k+1) _ _ ?_ ?_ (.t6 49 0 3 4 47 48) (.refl _)
   · have hq:V.Cu o.verb to ((AF.BT X.w X.own o.nth o.name o.Bn).getD k.toNat 0)=_:=((AX c6).trans ((AX c7).trans ((AX c8).trans (BJ c9))))
     (try rw [AF.D6 hx.1 hx.2] at *)
     (try rw [AF.Di hx.1 hx.2 hn0] at *)
     exact⟨by omega,(by(try rw [AF.D6 hx.1 hx.2]);(try rw [AF.Di hx.1 hx.2 hn0]);exact hq.symm.trans ((congrArg (fun q=>AF.Cu q o.verb to ((AF.BT X.w X.own o.nth o.name o.Bn).getD k.toNat 0)) hI12).trans (AF.I0 hI11 (by show k < (((AF.BT X.w X.own o.nth o.name o.Bn)).length:Int);omega)).symm)),by omega,by assumption⟩
   · omega
  have c9p:=kz c9
  refine Gs (Gm rfl (Gm rfl (Gm rfl (Gt (Ba rfl) (Gt (Aj Fh rfl) ?_)))))
  refine AO (AJ (((Ag.l0.comp AI.l1).comp (AQ.ar (n:=9) Ap.fl (by first | omega | exact hbV | (dsimp only;omega)))).comp Ap.l2) rfl rfl rfl DJ rfl .h) ?_
  refine Gt (Ba rfl) (Gt (Aj DN rfl) ?_)
  refine AO (AJ (((Ag.l0.comp AI.l1).comp (AQ.ar (n:=9) Ap.fl (by first | omega | exact hbV | (dsimp only;omega)))).comp Ap.l3) rfl rfl rfl DJ rfl .h) ?_
  refine Gn (.t7 0 3 4 9 47 48 49) ?_
  refine GR (fun _=> .h) (congrArg (fun q=>Ag.enc ⟨q,_,_⟩) (AF.Hp V hx.1 hx.2 2 to)) ?_
  refine BN (N:=15) [0,0,2,6,14,0,0,32,160,416,992,2016,4064,8190,16383] mix (by kernel_rfl) rfl ?_
  refine Pf 0 rfl (AD rfl) (Pf 1 rfl (AD rfl) (Pf 2 rfl (Ba rfl) (Pf 3 rfl (Aj Mu rfl) ?_)))
  refine Pf 4 rfl (AG rfl CK .m0 (((Ag.l0.comp AI.l1).comp (AQ.ar (n:=9) Ap.fl (by first | omega | exact hbV | (dsimp only;omega)))).comp Ap.l0) rfl rfl) ?_
  refine Pf 5 rfl (AD rfl) (Pf 6 rfl (AD rfl) (Pf 7 rfl (Ba rfl) (Pf 8 rfl (Aj BD rfl) (Pf 9 rfl (Aj Cz rfl) ?_))))
  refine Pf 10 rfl (AV Gd rfl rfl (by first | omega | exact hbV.1 | exact hbV.2 | (dsimp only;omega)) (by first | omega | exact hbV.1 | exact hbV.2 | (dsimp only;omega))) ?_
  refine Pf 11 rfl (Aj Mu rfl) ?_
  refine Pf 12 rfl (AG rfl CK .m0 (((Ag.l0.comp AI.l1).comp (AQ.ar (n:=9) Ap.fl (by first | omega | exact hbV | (dsimp only;omega)))).comp Ap.l0) rfl rfl) ?_
  refine Pf 13 rfl (BL N3 Iv rfl (.cons Ing.Event.l0 rfl rfl rfl (.cons Ing.Event.l3 rfl rfl rfl (.cons Ing.Event.l8 rfl rfl rfl (.cons Ing.Event.l9 rfl rfl rfl .nil))))) ?_
  refine Ab 14 rfl (by kernel_rfl) ?_
  refine Ah rfl Nq (.c rfl (.c rfl .n)) (.c .h (.c .h .n)) (CU _ (V.place ((AF.BT X.w X.own o.nth o.name o.Bn).getD k.toNat 0) 2 to) _ { AF.F8 5 with Bw:=((V.place ((AF.BT X.w X.own o.nth o.name o.Bn).getD k.toNat 0) 2 to).w.AP.at ((AF.BT X.w X.own o.nth o.name o.Bn).getD k.toNat 0)).name,text:=((V.place ((AF.BT X.w X.own o.nth o.name o.Bn).getD k.toNat 0) 2 to).w.AP.at to).name } (by assumption) hbV (show(-1:Int) < 6 by decide) (show V.out.length≤100000 by omega)) (fun v30 B hv=>?_)
  obtain⟨y31,rfl,y32,rfl⟩:=hv
  refine BH rfl ⟨?_,?_⟩
  · exact(Pk (Pk (Pk (Pk (Pk (Pk (Pk (Pk (Pk (Pk (Pk (Pk (Pk (Pk Ac))))))))))))))
  refine Az (by kernel_rfl) ?_
  refine AB (.t6 0 3 4 47 48 49) ?_
  refine AW (AW (AA (AK ?_)))
  refine Gt (Ay rfl rfl (IntWalk.i64_in _ (by first | omega | exact hbV.1 | exact hbV.2 | (dsimp only;omega)))) ?_
  refine Gm rfl ?_
  refine AT (AB (.t6 0 3 4 47 48 49) ?_)
  refine B0 (k+1) _ _ ?_ ?_ (.t6 49 0 3 4 47 48) (.refl _)
  · have hq:V.Cu o.verb to ((AF.BT X.w X.own o.nth o.name o.Bn).getD k.toNat 0)=_:=((AX c6).trans ((AX c7).trans ((AX c8).trans (AX c9))))
    (try rw [AF.D6 hx.1 hx.2] at *)
    (try rw [AF.Di hx.1 hx.2 hn0] at *)
    exact⟨by omega,(by(try rw [AF.D6 hx.1 hx.2]);(try rw [AF.Di hx.1 hx.2 hn0]);exact hq.symm.trans ((congrArg (fun q=>AF.Cu q o.verb to ((AF.BT X.w X.own o.nth o.name o.Bn).getD k.toNat 0)) hI12).trans (AF.I0 hI11 (by show k < (((AF.BT X.w X.own o.nth o.name o.Bn)).length:Int);omega)).symm)),by omega,by assumption⟩
  · omega
 have c5p:=kz c5
 obtain rfl:k=((AF.BT X.w X.own o.nth o.name o.Bn).length:Int):=by omega
 refine Bl (AY (AY (Am ?_)))
 refine Bo rfl .n ?_
 intro w1 hS
 have hS:=(hS.perm (Ax.perm (.c .h (.c .h .n)))).A3
 have hq:T.FM o=V:=hgo.trans (hI12.trans AF.XA).symm
 refine⟨_,⟨?gq2,rfl,?hl2,?hB2⟩,hS⟩
 case hB2=>rw [hq];(try rfl)
 case hl2=>rw [hq];exact hI14
theorem KI (s:As)(w:World)(gl0:GV 0 AI.DT w):Ee Tryz.prog 138 #[BW s] w fun v w'=>v = .tuple #[.int .i64 (Words.dir s).1, .bool (Words.dir s).2]∧B9 w w':=by
 refine Ao [] [] Tryz.func138 rfl rfl rfl (St.start w []) ?_
 refine Gs (Ga rfl (Ga rfl (Gn (.t1 0) (CH (Gm rfl (AT (AA ?_)))))))
 refine Ak ?_
 refine Bt (.t2 5 0) ?_
 refine Ch (fun(k:Int)=>0≤k∧k≤6∧Words.Ov s 6=Words.Ov s (6 - k).toNat) (fun(k:Int)=>(6 - k).toNat) (fun(k:Int)=> [(5, .int .i64 k)]) (fun(k:Int)=> []) (0) ?_ rfl rfl (fun k hI1=>?_)
 · exact⟨by omega,by omega,rfl⟩
 obtain⟨hI11,hI12,hI13⟩:=hI1
 refine Gs (Gt (BC rfl rfl) (AT (AA (Au ?_))))
 refine Gc (fun c1=>?_) (fun c1=>?_)
 ·
  have c1p:=kz c1
  rw [Words.Wt hI11 (by omega)] at hI13
  refine Aa ?_
  refine AB (.t2 0 5) ?_
  refine AA (Au (Ak (Gs (Gm rfl (Ga rfl (Gn (.t3 0 4 5) (Gs ?_)))))))
  refine Gm rfl ?_
  refine Gt (AV YG rfl rfl (by omega) (by omega)) ?_
  refine Gt (Rb gl0 rfl CK (AI.PV (by omega) (by omega))) ?_
  refine Gm rfl (Gt (Bv rfl rfl) (Gn (.t4 0 4 5 12) ?_))
  refine Gc (fun c2=>?_) (fun c2=>?_)
  ·
   refine Gs (Gm rfl (Ga rfl (Ga rfl (Gn (.t2 2 3) (Ae (AS (AE ?_)))))))
   refine AE (AS (AE ?_))
   refine AZ rfl (.tmp rfl (.tmp rfl .n)) ?_
   intro w1 hS;refine⟨?_,hS.Al⟩;rw [Words.dir,hI13,BJ c2];rfl
  have c2p:=kz c2
  refine Aa ?_
  refine AB (.t2 0 5) ?_
  refine AW (AA (AK ?_))
  refine Gt (Ay rfl rfl (IntWalk.i64_in _ (by omega))) ?_
  refine Gm rfl ?_
  refine AT (AB (.t2 0 5) ?_)
  refine B7 (k+1) ?_ ?_ (.t2 5 0) (.refl _)
  · exact⟨by omega,by omega,by rw [hI13,AX c2]⟩
  · omega
 have c1p:=kz c1
 obtain rfl:k=6:=by omega
 refine Bl (AY (AY (Am ?_)))
 refine AB (.nil _) ?_
 refine AA (Gs (Ga rfl (Ga rfl (AT (AA (Ae ?_))))))
 refine AZ rfl (.tmp rfl (.tmp rfl .n)) ?_
 intro w1 hS;refine⟨?_,hS.Al⟩;rw [Words.dir,hI13];rfl
theorem RW (b:Nat)(T:AF)(g:Hd)(d:Int)(p:Bool)(k:Int)(hg:g.len=T.out.length)(hF:T.Fit)(hd:0≤d∧d < 6)(hn:T.out.length≤90000):Jp Tryz.prog 139 #[.pointer (some ⟨b,0,none⟩), .int .i64 d, .bool p, .int .i64 k] [Af.box b 163 (Ag.enc ⟨T.w,T.b,g⟩),Af.own g 56 16 (T.out.flatMap Ing.Event.enc)] (fun v B=>∃ g':Hd,v = .tuple #[]∧g'.len=(T.G7 d p k).out.length∧B = [Af.box b 163 (Ag.enc ⟨(T.G7 d p k).w,(T.G7 d p k).b,g'⟩),Af.own g' 56 16 ((T.G7 d p k).out.flatMap Ing.Event.enc)]):=by
 intro w hS0
 have hb:=hF.b
 have hr:=hF.room
 have hx:=hF.exit hd.1 hd.2
 have hop:=AI.MJ d
 refine Ao _ _ Tryz.func139 rfl rfl rfl (hS0) ?_
 refine Au ?_
 refine BN (N:=12) [0,0,2,6,14,1,33,97,255,511,1023,2047] mix (by kernel_rfl) rfl ?_
 refine Pf 0 rfl (AD rfl) (Pf 1 rfl (AD rfl) (Pf 2 rfl (Ba rfl) (Pf 3 rfl (Aj CW rfl) (Pf 4 rfl (AG rfl A5 .m0 Ag.l1 rfl rfl) (Pf 5 rfl (Ba rfl) (Pf 6 rfl (Aj BD rfl) (Pf 7 rfl (Aj Br rfl) ?_)))))))
 refine Pf 8 rfl (AV DB rfl rfl (by first | omega | exact hb.1 | exact hb.2 | exact hr.1 | exact hr.2 | (dsimp only;omega)) (by first | omega | exact hb.1 | exact hb.2 | exact hr.1 | exact hr.2 | (dsimp only;omega))) ?_
 refine Pf 9 rfl (Aj C9 rfl) ?_
 refine Pf 10 rfl (AG rfl A5 .m0 (((Ag.l0.comp AI.l2).comp (AQ.ar (n:=6) An.fl (by first | omega | exact hb | exact hr | (dsimp only;omega)))).comp An.l3) rfl rfl) ?_
 refine Pf 11 rfl (A1 rfl) ?_
 refine Az (by kernel_rfl) ?_
 refine AB (.t5 0 1 2 3 8) ?_
 refine AA (Gs (Gm rfl (Gm rfl (Gm rfl (Gt (Ba rfl) (Gt (Aj BD rfl) (Gt (Aj HE rfl) ?_)))))))
 refine Gt (AV OQ rfl rfl (by first | omega | exact hb.1 | exact hb.2 | exact hr.1 | exact hr.2 | (dsimp only;omega)) (by first | omega | exact hb.1 | exact hb.2 | exact hr.1 | exact hr.2 | (dsimp only;omega))) ?_
 refine Gt (Aj Mm rfl) ?_
 refine Gt (AV Sr rfl rfl (by first | omega | exact hb.1 | exact hb.2 | exact hr.1 | exact hr.2 | (dsimp only;omega)) (by first | omega | exact hb.1 | exact hb.2 | exact hr.1 | exact hr.2 | (dsimp only;omega))) ?_
 refine Gt (AG rfl A5 .m0 ((((Ag.l0.comp AI.l0).comp (AQ.ar (n:=6) Room.fl (by first | omega | exact hb | exact hr | (dsimp only;omega)))).comp Room.l2).comp (AQ.ar (n:=6) B5 (by first | omega | exact hb | exact hr | (dsimp only;omega)))) rfl rfl) ?_
 refine Gt (Fi rfl rfl (IntWalk.i64_in _ (by first | omega | exact hb.1 | exact hb.2 | exact hr.1 | exact hr.2 | (dsimp only;omega)))) ?_
 refine Ga rfl (Gn (.t6 0 1 2 3 8 9) (Ak (Gs (Gm rfl (Gt (BC rfl rfl) (Ga rfl (Gn (.t7 0 1 2 3 8 9 74) ?_)))))))
 refine Gc (fun c1=>?_) (fun c1=>?_)
 ·
  have c1p:=kz c1
  try dsimp only at c1p
  refine AK (Gm rfl ?_)
  refine Ah rfl EH (.c rfl (.c rfl .n)) (.c .h (.c .h .n)) (Bi _ _ _ _ hg hb (by omega)) (fun v1 B hv=>?_)
  obtain⟨y2,rfl,y3,rfl⟩:=hv
  refine AT (AB (.nil _) ?_)
  refine AW ?_
  refine Bo rfl .n ?_
  intro w1 hS
  have hS:=(hS.perm (Ax.perm (.c .h (.c .h .n)))).A3
  have hq:T.G7 d p k=_:=(BJ c1)
  refine⟨_,⟨?gq1,rfl,?hl1,?hB1⟩,hS⟩
  case hB1=>rw [hq];(try rfl)
  case hl1=>rw [hq];assumption
 have c1p:=kz c1
 try dsimp only at c1p
 refine Gs (Gm rfl (Gm rfl (Gm rfl (Gt (Ba rfl) (Gt (Aj BD rfl) (Gt (Aj HE rfl) ?_))))))
 refine Gt (AV OQ rfl rfl (by first | omega | exact hb.1 | exact hb.2 | exact hr.1 | exact hr.2 | (dsimp only;omega)) (by first | omega | exact hb.1 | exact hb.2 | exact hr.1 | exact hr.2 | (dsimp only;omega))) ?_
 refine Gt (Aj Ma rfl) ?_
 refine Gt (AV WD rfl rfl (by first | omega | exact hb.1 | exact hb.2 | exact hr.1 | exact hr.2 | (dsimp only;omega)) (by first | omega | exact hb.1 | exact hb.2 | exact hr.1 | exact hr.2 | (dsimp only;omega))) ?_
 refine Gt (AG rfl DM .m0 ((((Ag.l0.comp AI.l0).comp (AQ.ar (n:=6) Room.fl (by first | omega | exact hb | exact hr | (dsimp only;omega)))).comp Room.l3).comp (AQ.ar (n:=6) HX (by first | omega | exact hb | exact hr | (dsimp only;omega)))) rfl rfl) ?_
 refine Gm rfl (Gt (J7 Tryz.underlying4 rfl rfl) (Ga rfl (Gn (.t7 0 1 2 3 8 9 79) ?_)))
 refine Gc (fun c2=>?_) (fun c2=>?_)
 ·
  have c2p:=kz c2
  try dsimp only at c2p
  refine AK (Gm rfl ?_)
  refine Ah rfl EH (.c rfl (.c rfl .n)) (.c .h (.c .h .n)) (Bi _ _ _ _ hg hb (by omega)) (fun v4 B hv=>?_)
  obtain⟨y5,rfl,y6,rfl⟩:=hv
  refine AT (AB (.nil _) ?_)
  refine AW ?_
  refine Bo rfl .n ?_
  intro w1 hS
  have hS:=(hS.perm (Ax.perm (.c .h (.c .h .n)))).A3
  have hq:T.G7 d p k=_:=((AX c1).trans (BJ c2))
  refine⟨_,⟨?gq2,rfl,?hl2,?hB2⟩,hS⟩
  case hB2=>rw [hq];(try rfl)
  case hl2=>rw [hq];assumption
 have c2p:=kz c2
 try dsimp only at c2p
 refine Gs (Gm rfl (Gm rfl (Gm rfl (Gm rfl (Gt (BX rfl) (Gt (Ba rfl) (Gt (Aj BD rfl) ?_)))))))
 refine Gt (Aj HE rfl) ?_
 refine Gt (AV OQ rfl rfl (by first | omega | exact hb.1 | exact hb.2 | exact hr.1 | exact hr.2 | (dsimp only;omega)) (by first | omega | exact hb.1 | exact hb.2 | exact hr.1 | exact hr.2 | (dsimp only;omega))) ?_
 refine Gt (Aj Ma rfl) ?_
 refine Gt (AV WD rfl rfl (by first | omega | exact hb.1 | exact hb.2 | exact hr.1 | exact hr.2 | (dsimp only;omega)) (by first | omega | exact hb.1 | exact hb.2 | exact hr.1 | exact hr.2 | (dsimp only;omega))) ?_
 refine AO (AJ ((((Ag.l0.comp AI.l0).comp (AQ.ar (n:=6) Room.fl (by first | omega | exact hb | exact hr | (dsimp only;omega)))).comp Room.l3).comp (AQ.ar (n:=6) HX (by first | omega | exact hb | exact hr | (dsimp only;omega)))) rfl rfl rfl Ks rfl .h) ?_
 refine Gn (.t6 0 1 2 3 8 9) (CH (Gm rfl ?_))
 refine BE rfl Zv (.c rfl .n) (fun w hS=>Hm _ w) ?_
 refine Ga rfl (Gn (.t6 0 2 3 8 9 10) (Gs (Gm rfl (Gm rfl (Gm rfl (Gt (Ba rfl) (Gt (Aj BD rfl) ?_)))))))
 refine Gt (Aj HE rfl) ?_
 refine Gt (AV OQ rfl rfl (by first | omega | exact hb.1 | exact hb.2 | exact hr.1 | exact hr.2 | (dsimp only;omega)) (by first | omega | exact hb.1 | exact hb.2 | exact hr.1 | exact hr.2 | (dsimp only;omega))) ?_
 refine Gt (Aj Mm rfl) ?_
 refine Gt (AV Sr rfl rfl (by first | omega | exact hb.1 | exact hb.2 | exact hr.1 | exact hr.2 | (dsimp only;omega)) (by first | omega | exact hb.1 | exact hb.2 | exact hr.1 | exact hr.2 | (dsimp only;omega))) ?_
 refine Gt (AG rfl A5 .m0 ((((Ag.l0.comp AI.l0).comp (AQ.ar (n:=6) Room.fl (by first | omega | exact hb | exact hr | (dsimp only;omega)))).comp Room.l2).comp (AQ.ar (n:=6) B5 (by first | omega | exact hb | exact hr | (dsimp only;omega)))) rfl rfl) ?_
 refine Gm rfl ?_
 refine Gt (Ay rfl rfl (IntWalk.i64_in _ (by first | omega | exact hb.1 | exact hb.2 | exact hr.1 | exact hr.2 | (dsimp only;omega)))) ?_
 refine Gt (Ai rfl rfl) (Gn (.t6 0 2 3 9 10 58) ?_)
 refine Gc (fun c3=>?_) (fun c3=>?_)
 ·
  have c3p:=kz c3
  try dsimp only at c3p
  refine AK (Gm rfl (Gm rfl (Gm rfl (Gm rfl (Gt (BX rfl) (Gt (Ba rfl) (Gt (Aj BD rfl) ?_)))))))
  refine Gt (Aj HE rfl) ?_
  refine Gt (AV OQ rfl rfl (by first | omega | exact hb.1 | exact hb.2 | exact hr.1 | exact hr.2 | (dsimp only;omega)) (by first | omega | exact hb.1 | exact hb.2 | exact hr.1 | exact hr.2 | (dsimp only;omega))) ?_
  refine Gt (Aj Ma rfl) ?_
  refine Gt (AV WD rfl rfl (by first | omega | exact hb.1 | exact hb.2 | exact hr.1 | exact hr.2 | (dsimp only;omega)) (by first | omega | exact hb.1 | exact hb.2 | exact hr.1 | exact hr.2 | (dsimp only;omega))) ?_
  refine AO (AJ ((((Ag.l0.comp AI.l0).comp (AQ.ar (n:=6) Room.fl (by first | omega | exact hb | exact hr | (dsimp only;omega)))).comp Room.l3).comp (AQ.ar (n:=6) HX (by first | omega | exact hb | exact hr | (dsimp only;omega)))) rfl rfl rfl Ks rfl .h) ?_
  refine Gn (.t2 0 3) (AK (Gm rfl (Gm rfl (Gt (BL N3 Iv rfl (.cons Ing.Event.l0 rfl rfl rfl (.cons Ing.Event.l3 rfl rfl rfl (.cons Ing.Event.l8 rfl rfl rfl .nil)))) ?_))))
  refine Ah rfl Nq (.c rfl (.c rfl .n)) (.c .h (.c .h .n)) (CU _ (AF.DA (T.DA T.me.room d (!p)) ((T.w.BV.at (T.w.AN.at T.b).room).CV.at d - 1) (AI.opposite d) (!p)) _ { AF.F8 k with Bw:=AF.QB } hg hb (show(-1:Int) < 6 by decide) (show T.out.length≤100000 by omega)) (fun v7 B hv=>?_)
  obtain⟨y8,rfl,y9,rfl⟩:=hv
  refine AT (AB (.nil _) ?_)
  refine AW ?_
  refine Bo rfl .n ?_
  intro w1 hS
  have hS:=(hS.perm (Ax.perm (.c .h (.c .h .n)))).A3
  have hq:T.G7 d p k=_:=(show T.G7 d p k=_ from(AX c1).trans (AX c2)).trans (congrArg (fun q=>AF.BS q { AF.F8 k with Bw:=AF.QB }) (BJ c3))
  refine⟨_,⟨?gq3,rfl,?hl3,?hB3⟩,hS⟩
  case hB3=>rw [hq];(try rfl)
  case hl3=>rw [hq];assumption
 have c3p:=kz c3
 try dsimp only at c3p
 refine Aa ?_
 refine AB (.t2 0 3) ?_
 refine AA (AK (Gm rfl (Gm rfl (Gt (BL N3 Iv rfl (.cons Ing.Event.l0 rfl rfl rfl (.cons Ing.Event.l3 rfl rfl rfl (.cons Ing.Event.l8 rfl rfl rfl .nil)))) ?_))))
 refine Ah rfl Nq (.c rfl (.c rfl .n)) (.c .h (.c .h .n)) (CU _ (T.DA T.me.room d (!p)) _ { AF.F8 k with Bw:=AF.QB } hg hb (show(-1:Int) < 6 by decide) (show T.out.length≤100000 by omega)) (fun v10 B hv=>?_)
 obtain⟨y11,rfl,y12,rfl⟩:=hv
 refine AT (AB (.nil _) ?_)
 refine AW ?_
 refine Bo rfl .n ?_
 intro w1 hS
 have hS:=(hS.perm (Ax.perm (.c .h (.c .h .n)))).A3
 have hq:T.G7 d p k=_:=(show T.G7 d p k=_ from(AX c1).trans (AX c2)).trans (congrArg (fun q=>AF.BS q { AF.F8 k with Bw:=AF.QB }) (AX c3))
 refine⟨_,⟨?gq4,rfl,?hl4,?hB4⟩,hS⟩
 case hB4=>rw [hq];(try rfl)
 case hl4=>rw [hq];assumption
theorem GH (b:Nat)(T:AF)(g:Hd)(a:Bool)(i:Int)(p:Bool)(k:Int)(hg:g.len=T.out.length)(hb:0≤T.b∧T.b < 6)(hi:0≤i∧i < 9)(hn:T.out.length≤90000):Jp Tryz.prog 140 #[.pointer (some ⟨b,0,none⟩), .bool a, .int .i64 i, .bool p, .int .i64 k] [Af.box b 163 (Ag.enc ⟨T.w,T.b,g⟩),Af.own g 56 16 (T.out.flatMap Ing.Event.enc)] (fun v B=>∃ g':Hd,v = .tuple #[]∧g'.len=(T.before a i p k).out.length∧B = [Af.box b 163 (Ag.enc ⟨(T.before a i p k).w,(T.before a i p k).b,g'⟩),Af.own g' 56 16 ((T.before a i p k).out.flatMap Ing.Event.enc)]):=by
 intro w hS0
 refine Ao _ _ Tryz.func140 rfl rfl rfl (hS0) ?_
 refine CH (Gm rfl (Gn (.t5 0 2 3 4 10) ?_))
 refine Gc (fun c1=>?_) (fun c1=>?_)
 ·
  have c1p:=kz c1
  refine Gs (Gm rfl (Gm rfl (Gm rfl (Gt (Ba rfl) (Gt (Aj BD rfl) (Gt (Aj Cz rfl) ?_))))))
  refine Gt (AV Gd rfl rfl (by first | omega | exact hb.1 | exact hb.2 | (dsimp only;omega)) (by first | omega | exact hb.1 | exact hb.2 | (dsimp only;omega))) ?_
  refine Gt (Aj GX rfl) ?_
  refine AO (AJ (((Ag.l0.comp AI.l1).comp (AQ.ar (n:=9) Ap.fl (by first | omega | exact hb | (dsimp only;omega)))).comp Ap.l4) rfl rfl rfl Ks rfl .h) ?_
  refine Gn (.t3 0 2 4) (Gs (Gm rfl (Gm rfl (Gm rfl ?_))))
  refine Ah rfl Ox (.c rfl (.c rfl (.c rfl .n))) (.c .h (.c .h .n)) (D8 _ (T.DC i { T.w.AP.at i with on:=p }) _ k i hg hb hi (show T.out.length≤100000 by omega)) (fun v1 B hv=>?_)
  obtain⟨y2,rfl,y3,rfl⟩:=hv
  refine Gn (.nil _) (Ae (AE ?_))
  refine AZ rfl .n ?_
  intro w1 hS
  have hS:=(hS.perm (Ax.perm (.c .h (.c .h .n)))).A3
  have hq:T.before a i p k=_:=(BJ c1)
  refine⟨_,⟨?gq1,rfl,?hl1,?hB1⟩,hS⟩
  case hB1=>rw [hq];(try rfl)
  case hl1=>rw [hq];assumption
 have c1p:=kz c1
 refine Aa ?_
 refine AB (.t4 0 2 3 4) ?_
 refine AA (Gs (Gm rfl (Gm rfl (Gm rfl ?_))))
 refine Ah rfl Ox (.c rfl (.c rfl (.c rfl .n))) (.c .h (.c .h .n)) (D8 _ T _ k i hg hb hi (show T.out.length≤100000 by omega)) (fun v4 B hv=>?_)
 obtain⟨y5,rfl,y6,rfl⟩:=hv
 refine Gn (.t3 0 2 3) (AK (Gm rfl (Gm rfl (Gm rfl (Gt (Ba rfl) (Gt (Aj BD rfl) (Gt (Aj Cz rfl) ?_)))))))
 refine Gt (AV Gd rfl rfl (by first | omega | exact hb.1 | exact hb.2 | (dsimp only;omega)) (by first | omega | exact hb.1 | exact hb.2 | (dsimp only;omega))) ?_
 refine Gt (Aj GX rfl) ?_
 refine AO (AJ (((Ag.l0.comp AI.l1).comp (AQ.ar (n:=9) Ap.fl (by first | omega | exact hb | (dsimp only;omega)))).comp Ap.l4) rfl rfl rfl Ks rfl .h) ?_
 refine AT ?_
 refine Bo rfl .n ?_
 intro w1 hS
 have hS:=(hS.perm (Ax.perm (.c .h (.c .h .n)))).A3
 have hq:T.before a i p k=_:=(AX c1)
 refine⟨_,⟨?gq2,rfl,?hl2,?hB2⟩,hS⟩
 case hB2=>rw [hq];(try rfl)
 case hl2=>rw [hq];assumption
theorem Rr (b:Nat)(T:AF)(g:Hd)(o:Order)(hg:g.len=T.out.length)(hF:T.Fit)(hv:12≤o.verb∧o.verb≤17)(hn:T.out.length≤80000):Fx Tryz.prog 107 #[.pointer (some ⟨b,0,none⟩), .agg o.enc.toArray] [Af.box b 163 (Ag.enc ⟨T.w,T.b,g⟩),Af.own g 56 16 (T.out.flatMap Ing.Event.enc)] (fun w=>(GV 0 AI.DT w∧0 ∉ Cp [Af.box b 163 (Ag.enc ⟨T.w,T.b,g⟩),Af.own g 56 16 (T.out.flatMap Ing.Event.enc)])) (fun v B=>∃ g':Hd,v = .tuple #[]∧g'.len=(T.set o).out.length∧B = [Af.box b 163 (Ag.enc ⟨(T.set o).w,(T.set o).b,g'⟩),Af.own g' 56 16 ((T.set o).out.flatMap Ing.Event.enc)]):=by
 intro w hS0 hH
 obtain⟨gl0,gm0⟩:=hH
 have hb:=hF.b
 have hr:=hF.room
 have ho9:=T.KW
 have hs9:=T.Ix
 refine Ao _ _ Tryz.func107 rfl rfl rfl (hS0) ?_
 refine Gs ?_
 refine B4 rfl rfl rfl (fun b1=>?_)
 refine Gn (.t2 0 3) (Gs (Gt (Aj DG rfl) (Gt (AG rfl A5 .m0 Order.l0 rfl rfl) (Gt (Ai rfl rfl) (Gm rfl (Bf 13 rfl rfl (fun q=>Aj DG rfl) (Bf 13 rfl rfl (fun q=>AG (cF rfl q) A5 .m0 Order.l0 rfl rfl) ?_)))))))
 refine Bf 13 rfl rfl (fun q=>Ai (cF rfl q) rfl) ?_
 refine Gt (BU rfl rfl (fun h=>by rw [h];rfl)) ?_
 refine Gm rfl (Bf 18 rfl rfl (fun q=>Aj DG rfl) (Bf 18 rfl rfl (fun q=>AG (cF rfl q) A5 .m0 Order.l0 rfl rfl) (Bf 18 rfl rfl (fun q=>Ai (cF rfl q) rfl) ?_)))
 refine Gt (BU rfl rfl (fun h=>by rw [h];rfl)) ?_
 refine Ga rfl (Gn (.t3 0 3 4) (Gs (Ga rfl (Ga rfl (AT (AA ?_))))))
 refine Rc (Lm:= []) (fun(kd:Int) (ev:Int)=>kd=AF.setKind o.verb∧ev=AF.O6 o.verb) (fun(kd:Int) (ev:Int)=> [(5, .int .i64 kd),(6, .int .i64 ev)]) (fun(kd:Int) (ev:Int)=> []) (.t3 0 3 4) rfl ?_ (fun kd ev hC=>?_)
 ·
  refine Gs (Gt (Aj DG rfl) (Gt (AG rfl A5 .m0 Order.l0 rfl rfl) (Gn (.t6 0 3 4 5 6 24) (Ak (Gs (Gt (Ai rfl rfl) (Ga rfl ?_)))))))
  refine Gn (.t7 0 3 4 5 6 24 25) ?_
  refine Gc (fun c1=>?_) (fun c1=>?_)
  ·
   have c1p:=kz c1
   refine AK (Ga rfl ?_)
   refine AT (AB (.t5 0 3 4 5 6) ?_)
   refine AW ?_
   refine Ek _ _ ?_ (.t5 5 6 0 3 4) (.refl _)
   · have hv6:o.verb=12∨o.verb=13∨o.verb=14∨o.verb=15∨o.verb=16∨o.verb=17:=by omega
     rcases hv6 with e | e | e | e | e | e<;>(try rw [e] at c1)<;>first | exact⟨by rw [e];rfl,by rw [e];rfl⟩ | exact absurd c1 (by decide)
  have c1p:=kz c1
  refine CH (Gt (Ai rfl rfl) (Ga rfl (Gn (.t7 0 3 4 5 6 24 27) ?_)))
  refine Gc (fun c2=>?_) (fun c2=>?_)
  ·
   have c2p:=kz c2
   refine Aa (AA ?_)
   refine HG rfl c2 ?_
   refine Gs (Ga rfl (Ga rfl (Gn (.t5 0 3 4 5 6) (Gs (Gm rfl (Gt (BX rfl) (Gn (.t6 0 3 4 5 6 31) ?_)))))))
   refine Gc (fun c3=>?_) (fun c3=>?_)
   ·
    have c3p:=kz c3
    refine AK (Ga rfl ?_)
    refine AT (AB (.t5 0 3 4 5 6) ?_)
    refine AW ?_
    refine Ek _ _ ?_ (.t5 5 6 0 3 4) (.refl _)
    · have hv6:o.verb=12∨o.verb=13∨o.verb=14∨o.verb=15∨o.verb=16∨o.verb=17:=by omega
      rcases hv6 with e | e | e | e | e | e<;>(try rw [e] at c1)<;>(try rw [e] at c2)<;>(try rw [e] at c3)<;>first | exact⟨by rw [e];rfl,by rw [e];rfl⟩ | exact absurd c1 (by decide) | exact absurd c2 (by decide) | exact absurd c3 (by decide)
   have c3p:=kz c3
   refine Aa ?_
   refine AB (.t5 0 3 4 5 6) ?_
   refine AW ?_
   refine Ek _ _ ?_ (.t5 5 6 0 3 4) (.refl _)
   · have hv6:o.verb=12∨o.verb=13∨o.verb=14∨o.verb=15∨o.verb=16∨o.verb=17:=by omega
     rcases hv6 with e | e | e | e | e | e<;>(try rw [e] at c1)<;>(try rw [e] at c2)<;>(try rw [e] at c3)<;>first | exact⟨by rw [e];rfl,by rw [e];rfl⟩ | exact absurd c1 (by decide) | exact absurd c2 (by decide) | exact absurd c3 (by decide)
  have c2p:=kz c2
  refine AK (Gt (Ai rfl rfl) (Ga rfl (Gn (.t7 0 3 4 5 6 24 27) ?_)))
  refine Gc (fun c4=>?_) (fun c4=>?_)
  ·
   have c4p:=kz c4
   refine Gs (Ga rfl (Ga rfl (Gn (.t5 0 3 4 5 6) (Gs (Gm rfl (Gt (BX rfl) (Gn (.t6 0 3 4 5 6 31) ?_)))))))
   refine Gc (fun c5=>?_) (fun c5=>?_)
   ·
    have c5p:=kz c5
    refine AK (Ga rfl ?_)
    refine AT (AB (.t5 0 3 4 5 6) ?_)
    refine AW ?_
    refine Ek _ _ ?_ (.t5 5 6 0 3 4) (.refl _)
    · have hv6:o.verb=12∨o.verb=13∨o.verb=14∨o.verb=15∨o.verb=16∨o.verb=17:=by omega
      rcases hv6 with e | e | e | e | e | e<;>(try rw [e] at c1)<;>(try rw [e] at c2)<;>(try rw [e] at c4)<;>(try rw [e] at c5)<;>first | exact⟨by rw [e];rfl,by rw [e];rfl⟩ | exact absurd c1 (by decide) | exact absurd c2 (by decide) | exact absurd c4 (by decide) | exact absurd c5 (by decide)
   have c5p:=kz c5
   refine Aa ?_
   refine AB (.t5 0 3 4 5 6) ?_
   refine AW ?_
   refine Ek _ _ ?_ (.t5 5 6 0 3 4) (.refl _)
   · have hv6:o.verb=12∨o.verb=13∨o.verb=14∨o.verb=15∨o.verb=16∨o.verb=17:=by omega
     rcases hv6 with e | e | e | e | e | e<;>(try rw [e] at c1)<;>(try rw [e] at c2)<;>(try rw [e] at c4)<;>(try rw [e] at c5)<;>first | exact⟨by rw [e];rfl,by rw [e];rfl⟩ | exact absurd c1 (by decide) | exact absurd c2 (by decide) | exact absurd c4 (by decide) | exact absurd c5 (by decide)
  have c4p:=kz c4
  refine CH (Gt (Ai rfl rfl) (Ga rfl (Gn (.t7 0 3 4 5 6 24 32) ?_)))
  refine Gc (fun c6=>?_) (fun c6=>?_)
  ·
   have c6p:=kz c6
   refine Aa ?_
   refine AB (.t6 0 3 4 5 6 32) ?_
   refine AA ?_
   refine HG rfl c6 ?_
   refine Gs (Ga rfl (Ga rfl (Gn (.t5 0 3 4 5 6) (Gs (Gm rfl (Gt (BX rfl) (Gn (.t6 0 3 4 5 6 36) ?_)))))))
   refine Gc (fun c7=>?_) (fun c7=>?_)
   ·
    have c7p:=kz c7
    refine AK (Ga rfl ?_)
    refine AT (AB (.t5 0 3 4 5 6) ?_)
    refine AW ?_
    refine Ek _ _ ?_ (.t5 5 6 0 3 4) (.refl _)
    · have hv6:o.verb=12∨o.verb=13∨o.verb=14∨o.verb=15∨o.verb=16∨o.verb=17:=by omega
      rcases hv6 with e | e | e | e | e | e<;>(try rw [e] at c1)<;>(try rw [e] at c2)<;>(try rw [e] at c4)<;>(try rw [e] at c6)<;>(try rw [e] at c7)<;>first | exact⟨by rw [e];rfl,by rw [e];rfl⟩ | exact absurd c1 (by decide) | exact absurd c2 (by decide) | exact absurd c4 (by decide) | exact absurd c6 (by decide) | exact absurd c7 (by decide)
   have c7p:=kz c7
   refine Aa ?_
   refine AB (.t5 0 3 4 5 6) ?_
   refine AW ?_
   refine Ek _ _ ?_ (.t5 5 6 0 3 4) (.refl _)
   · have hv6:o.verb=12∨o.verb=13∨o.verb=14∨o.verb=15∨o.verb=16∨o.verb=17:=by omega
     rcases hv6 with e | e | e | e | e | e<;>(try rw [e] at c1)<;>(try rw [e] at c2)<;>(try rw [e] at c4)<;>(try rw [e] at c6)<;>(try rw [e] at c7)<;>first | exact⟨by rw [e];rfl,by rw [e];rfl⟩ | exact absurd c1 (by decide) | exact absurd c2 (by decide) | exact absurd c4 (by decide) | exact absurd c6 (by decide) | exact absurd c7 (by decide)
  have c6p:=kz c6
  refine AK (Gt (Ai rfl rfl) (Ga rfl (Gn (.t6 0 3 4 5 6 32) ?_)))
  refine Gc (fun c8=>?_) (fun c8=>?_)
  ·
   have c8p:=kz c8
   refine Gs (Ga rfl (Ga rfl (Gn (.t5 0 3 4 5 6) (Gs (Gm rfl (Gt (BX rfl) (Gn (.t6 0 3 4 5 6 36) ?_)))))))
   refine Gc (fun c9=>?_) (fun c9=>?_)
   ·
    have c9p:=kz c9
    refine AK (Ga rfl ?_)
    refine AT (AB (.t5 0 3 4 5 6) ?_)
    refine AW ?_
    refine Ek _ _ ?_ (.t5 5 6 0 3 4) (.refl _)
    · have hv6:o.verb=12∨o.verb=13∨o.verb=14∨o.verb=15∨o.verb=16∨o.verb=17:=by omega
      rcases hv6 with e | e | e | e | e | e<;>(try rw [e] at c1)<;>(try rw [e] at c2)<;>(try rw [e] at c4)<;>(try rw [e] at c6)<;>(try rw [e] at c8)<;>(try rw [e] at c9)<;>first | exact⟨by rw [e];rfl,by rw [e];rfl⟩ | exact absurd c1 (by decide) | exact absurd c2 (by decide) | exact absurd c4 (by decide) | exact absurd c6 (by decide) | exact absurd c8 (by decide) | exact absurd c9 (by decide)
   have c9p:=kz c9
   refine Aa ?_
   refine AB (.t5 0 3 4 5 6) ?_
   refine AW ?_
   refine Ek _ _ ?_ (.t5 5 6 0 3 4) (.refl _)
   · have hv6:o.verb=12∨o.verb=13∨o.verb=14∨o.verb=15∨o.verb=16∨o.verb=17:=by omega
     rcases hv6 with e | e | e | e | e | e<;>(try rw [e] at c1)<;>(try rw [e] at c2)<;>(try rw [e] at c4)<;>(try rw [e] at c6)<;>(try rw [e] at c8)<;>(try rw [e] at c9)<;>first | exact⟨by rw [e];rfl,by rw [e];rfl⟩ | exact absurd c1 (by decide) | exact absurd c2 (by decide) | exact absurd c4 (by decide) | exact absurd c6 (by decide) | exact absurd c8 (by decide) | exact absurd c9 (by decide)
  have c8p:=kz c8
  refine Aa ?_
  refine AB (.t5 0 3 4 5 6) ?_
  refine AW ?_
  refine Ek _ _ ?_ (.t5 5 6 0 3 4) (.refl _)
  · have hv6:o.verb=12∨o.verb=13∨o.verb=14∨o.verb=15∨o.verb=16∨o.verb=17:=by omega
    rcases hv6 with e | e | e | e | e | e<;>(try rw [e] at c1)<;>(try rw [e] at c2)<;>(try rw [e] at c4)<;>(try rw [e] at c6)<;>(try rw [e] at c8)<;>first | exact⟨by rw [e];rfl,by rw [e];rfl⟩ | exact absurd c1 (by decide) | exact absurd c2 (by decide) | exact absurd c4 (by decide) | exact absurd c6 (by decide) | exact absurd c8 (by decide)
 obtain⟨rfl,rfl⟩:=hC
 refine CH (Gt (Aj GF rfl) (Gt (AG rfl CK .m0 Order.l3 rfl rfl) ?_))
 refine BE rfl cH (.c rfl .n) (fun w hS=>KI _ w (gl0.stM gm0 hS)) ?_
 refine Gm rfl (Gt (AM rfl rfl) (Gt (AM rfl rfl) (Ga rfl (Ga rfl (Gn (.t7 0 3 4 5 6 7 8) (Gs (Gm rfl ?_)))))))
 refine Gm rfl (Bg 44 rfl rfl (fun q=>AD rfl) (Bg 44 rfl rfl (fun q=>Ai (Bc rfl q) rfl) (Gt (BM rfl rfl (fun h=>h)) (Gn (.t7 0 3 4 5 6 7 47) ?_))))
 refine Gc (fun c10=>?_) (fun c10=>?_)
 ·
  have c10p:=kz c10
  refine Gs (Gm rfl (Gm rfl (Gm rfl (Gm rfl ?_))))
  refine Ah rfl cG (.c rfl (.c rfl (.c rfl (.c rfl .n)))) (.c (.t .h) (.c (.t .h) .n)) (RW _ T _ _ _ _ hg hF (Words.VJ (Bool.and_eq_true_iff.1 c10).1) (by omega)) (fun v1 B hv=>?_)
  obtain⟨y2,rfl,y3,rfl⟩:=hv
  refine Gn (.nil _) (Ae (AE ?_))
  refine AZ rfl .n ?_
  intro w1 hS
  have hS:=(hS.perm (Ax.perm (.c .h (.c .h .n)))).A3
  have hq:T.set o=_:=(BJ c10)
  refine⟨_,⟨?gq1,rfl,?hl1,?hB1⟩,hS⟩
  case hB1=>rw [hq];(try rfl)
  case hl1=>rw [hq];assumption
 have c10p:=kz c10
 refine Aa ?_
 refine AB (.t5 0 3 4 5 6) ?_
 refine AA (Gs (Gm rfl ?_))
 refine Ah rfl Uf (.c rfl .n) (.c (.t .h) .n) (II _ T _ hF) (fun v4 B hv=>?_)
 obtain⟨y5,rfl,y6,rfl⟩:=hv
 refine Ga rfl (Gn (.t6 0 3 4 5 6 9) (CH (Gm rfl (Gt (Ai rfl rfl) (Gn (.t7 0 3 4 5 6 9 56) ?_)))))
 refine Gc (fun c11=>?_) (fun c11=>?_)
 ·
  have c11p:=kz c11
  refine AK (Gm rfl (Gm rfl ?_))
  refine Ah rfl YB (.c rfl .n) (.c .h .n) (Jf _ T _ hF) (fun v8 B hv=>?_)
  obtain⟨y9,rfl,y10,rfl⟩:=hv
  refine Ce B5 rfl Tryz.underlying169 DJ bc rfl dt (by decide) (by decide) rfl rfl (fun w hS=>Src.D9 Tryz.underlying169 ((Kn.own .m1) w hS)) (by(try dsimp only);omega) (fun _=>(.t (.t .h))) (fun h12 h12l h12z=>?_)
  refine Ga rfl (Gn (.t6 0 3 4 5 6 9) (Gs (Gm rfl (Gm rfl (Gt (Aj Gk rfl) (Gt (AG rfl A5 .m3 Order.l1 rfl rfl) (Gt (Kh rfl rfl) ?_)))))))
  refine Gt (Aj GF rfl) (Gt (AG rfl CK .m3 Order.l3 rfl rfl) ?_)
  refine Ah rfl QW (.c rfl (.c rfl (.c rfl (.c rfl (.c rfl .n))))) (.c .h (.c (.t .h) .n)) (FB _ T _ _ (T.own++T.seen) _ _ _ hF (by rw [List.length_append];omega) (by rw [List.length_append];omega) (fun i hi=>AF.Qu hi)) (fun v13 B hv=>?_)
  obtain⟨y14,rfl,y15,rfl⟩:=hv
  refine Ga rfl (Gn (.t5 0 4 5 6 9) (Ak (Au ?_)))
  have hx0:=AF.SJ (l:=(AF.BT T.w (T.own++T.seen) (max o.nth 1) o.name false)) (fun i hi=>AF.Qu (AF.Dw hi))
  refine BN (N:=18) [0,1,3,7,15,15,47,111,31,287,799,2047,4095,8191,15,32767,65535,131071] mix (by kernel_rfl) rfl ?_
  refine Pf 0 rfl (AD rfl) (Pf 1 rfl (Av rfl Tryz.underlying169 rfl) (Pf 2 rfl (Ai rfl rfl) (Pf 3 rfl (AD rfl) (Hx 4 82 rfl rfl rfl (fun q=>AD rfl) (Hx 5 82 rfl rfl rfl (fun q=>AD rfl) ?_)))))
  refine Bh 6 rfl rfl (by kernel_rfl) (HH (t:=82) rfl rfl (fun q=>by have q1:=q;(try simp at q1);exact I1 (Bs Gr (by decide) (Kn.own .m2) (cF rfl q) rfl (by omega) (by first | omega | (simp at q ⊢;omega))))) ?_
  refine Bh 7 rfl rfl (by kernel_rfl) (HH (t:=82) rfl rfl (fun q=>by have q1:=q;(try simp at q1);exact I1 (DP (cF rfl q) A5 (Kn.own .m2) (by first | omega | (simp at q ⊢;omega))))) ?_
  refine Hx 8 82 rfl rfl rfl (fun q=>Ba (cF rfl q)) (Hx 9 82 rfl rfl rfl (fun q=>Aj BD (cF rfl q)) (Hx 10 82 rfl rfl rfl (fun q=>Aj Cz (cF rfl q)) ?_))
  refine Bh 11 rfl rfl (by kernel_rfl) (HH (t:=82) rfl rfl (fun q=>by have q1:=q;(try simp at q1);exact I1 (AV Gd (cF rfl q) (cF rfl q) (by first | omega | exact hb.1 | exact hb.2 | exact hx0.1 | exact hx0.2 | (dsimp only;omega)) (by first | omega | exact hb.1 | exact hb.2 | exact hx0.1 | exact hx0.2 | (dsimp only;omega))))) ?_
  refine Hx 12 82 rfl rfl rfl (fun q=>Aj HC (cF rfl q)) ?_
  refine Bh 13 rfl rfl (by kernel_rfl) (HH (t:=82) rfl rfl (fun q=>by have q1:=q;(try simp at q1);exact I1 (AG (cF rfl q) A5 .m0 (((Ag.l0.comp AI.l1).comp (AQ.ar (n:=9) Ap.fl (by first | omega | exact hb | exact hx0 | (dsimp only;omega)))).comp Ap.l1) rfl rfl))) ?_
  refine Hx 14 82 rfl rfl rfl (fun q=>AD rfl) (Hx 15 82 rfl rfl rfl (fun q=>Cb (cF rfl q) (cF rfl q)) ?_)
  refine Pf 16 rfl (BU rfl rfl (fun h=>by rw [h];rfl)) ?_
  refine Pf 17 rfl (A1 rfl) ?_
  refine Az (by kernel_rfl) ?_
  refine AB (.t6 0 4 5 6 9 78) ?_
  refine AA ?_
  refine Gc (fun c12=>?_) (fun c12=>?_)
  ·
   have c12p:=kz c12
   rw [y15] at c12 c12p
   have hsl:T.EZ o=(AF.BT T.w (T.own++T.seen) (max o.nth 1) o.name false):=congrArg (fun q=>AF.BT T.w q _ _ _) (BJ c11)
   refine AK (Gm rfl ?_)
   refine Ah rfl EH (.c rfl (.c rfl .n)) (.c .h (.c (.t (.t (.t (.t .h)))) .n)) (Bi _ _ _ _ hg hb (by omega)) (fun v17 B hv=>?_)
   obtain⟨y18,rfl,y19,rfl⟩:=hv
   refine AT (AB (.nil _) ?_)
   refine AW ?_
   refine Bo rfl .n ?_
   intro w1 hS
   have hS:=(hS.perm (Ax.perm (.c .h (.c .h .n)))).A3
   have d0:(decide (((T.EZ o).length:Int)=0) || !decide ((T.w.AP.at ((T.EZ o).getD 0 0)).kind=AF.setKind o.verb))=true:=by rw [hsl];exact c12
   have hq:T.set o=_:=(AX c10).trans (BJ d0)
   (try rw [hsl] at hq)
   refine⟨_,⟨?gq2,rfl,?hl2,?hB2⟩,hS⟩
   case hB2=>rw [hq];(try rfl)
   case hl2=>rw [hq];assumption
  have c12p:=kz c12
  rw [y15] at c12 c12p
  have hsl:T.EZ o=(AF.BT T.w (T.own++T.seen) (max o.nth 1) o.name false):=congrArg (fun q=>AF.BT T.w q _ _ _) (BJ c11)
  refine Au ?_
  refine BN (N:=13) [0,0,2,6,1,17,49,127,255,511,0,2047,4095] mix (by kernel_rfl) rfl ?_
  refine Pf 0 rfl (AD rfl) (Pf 1 rfl (AD rfl) ?_)
  refine Pf 2 rfl (Bs Gr (by decide) (Kn.own .m2) rfl rfl (by omega) (by first | omega | (simp at q ⊢;omega))) ?_
  refine Pf 3 rfl (DP rfl A5 (Kn.own .m2) (by first | omega | (simp at q ⊢;omega))) ?_
  refine Pf 4 rfl (Ba rfl) (Pf 5 rfl (Aj BD rfl) (Pf 6 rfl (Aj Cz rfl) ?_))
  refine Pf 7 rfl (AV Gd rfl rfl (by first | omega | exact hb.1 | exact hb.2 | exact hx0.1 | exact hx0.2 | (dsimp only;omega)) (by first | omega | exact hb.1 | exact hb.2 | exact hx0.1 | exact hx0.2 | (dsimp only;omega))) ?_
  refine Pf 8 rfl (Aj GX rfl) ?_
  refine Pf 9 rfl (AG rfl DM .m0 (((Ag.l0.comp AI.l1).comp (AQ.ar (n:=9) Ap.fl (by first | omega | exact hb | exact hx0 | (dsimp only;omega)))).comp Ap.l4) rfl rfl) ?_
  refine Pf 10 rfl (AD rfl) (Pf 11 rfl (Ex Tryz.underlying4 rfl rfl) (Pf 12 rfl (A1 rfl) ?_))
  refine Az (by kernel_rfl) ?_
  refine AB (.t6 0 4 5 6 9 98) ?_
  refine AA ?_
  refine Gc (fun c13=>?_) (fun c13=>?_)
  ·
   have c13p:=kz c13
   refine AK (Gm rfl ?_)
   refine Ah rfl EH (.c rfl (.c rfl .n)) (.c .h (.c (.t (.t (.t (.t .h)))) .n)) (Bi _ _ _ _ hg hb (by omega)) (fun v20 B hv=>?_)
   obtain⟨y21,rfl,y22,rfl⟩:=hv
   refine AT (AB (.nil _) ?_)
   refine AW ?_
   refine Bo rfl .n ?_
   intro w1 hS
   have hS:=(hS.perm (Ax.perm (.c .h (.c .h .n)))).A3
   have d0:(decide (((T.EZ o).length:Int)=0) || !decide ((T.w.AP.at ((T.EZ o).getD 0 0)).kind=AF.setKind o.verb))=false:=by rw [hsl];exact c12
   have d1:((T.w.AP.at ((T.EZ o).getD 0 0)).on == AF.Hc o.verb)=true:=by rw [hsl];exact c13
   have hq:T.set o=_:=(AX c10).trans ((AX d0).trans (BJ d1))
   (try rw [hsl] at hq)
   refine⟨_,⟨?gq3,rfl,?hl3,?hB3⟩,hS⟩
   case hB3=>rw [hq];(try rfl)
   case hl3=>rw [hq];assumption
  have c13p:=kz c13
  refine Gs (Gm rfl (Ga rfl (Gn (.t6 0 4 5 6 9 113) ?_)))
  refine Gc (fun c14=>?_) (fun c14=>?_)
  ·
   have c14p:=kz c14
   refine AK (Gm rfl (Gm rfl (Gt (Cb rfl rfl) (Gm rfl ?_))))
   refine Gt (Bs Gr (by decide) (Kn.own .m2) rfl rfl (by omega) (by first | omega | (simp at q ⊢;omega))) ?_
   refine Gt (DP rfl A5 (Kn.own .m2) (by first | omega | (simp at q ⊢;omega))) ?_
   refine Gm rfl (Gm rfl ?_)
   refine Ah rfl UZ (.c rfl (.c rfl (.c rfl (.c rfl (.c rfl .n))))) (.c .h (.c (.t (.t (.t (.t .h)))) .n)) (GH _ T _ (!decide (AF.setKind o.verb=2)) ((AF.BT T.w (T.own++T.seen) (max o.nth 1) o.name false).getD (0:Int).toNat 0) _ _ hg hb hx0 (by omega)) (fun v23 B hv=>?_)
   obtain⟨y24,rfl,y25,rfl⟩:=hv
   refine AT (AB (.nil _) ?_)
   refine AW ?_
   refine Bo rfl .n ?_
   intro w1 hS
   have hS:=(hS.perm (Ax.perm (.c .h (.c .h .n)))).A3
   have d0:(decide (((T.EZ o).length:Int)=0) || !decide ((T.w.AP.at ((T.EZ o).getD 0 0)).kind=AF.setKind o.verb))=false:=by rw [hsl];exact c12
   have d1:((T.w.AP.at ((T.EZ o).getD 0 0)).on == AF.Hc o.verb)=false:=by rw [hsl];exact c13
   have d2:AF.Hc o.verb=true:=c14
   have hq:T.set o=_:=(AX c10).trans ((AX d0).trans ((AX d1).trans (BJ d2)))
   (try rw [hsl] at hq)
   refine⟨_,⟨?gq4,rfl,?hl4,?hB4⟩,hS⟩
   case hB4=>rw [hq];(try rfl)
   case hl4=>rw [hq];assumption
  have c14p:=kz c14
  refine AK (Gm rfl (Gm rfl (Gt (Ai rfl rfl) (Gm rfl ?_))))
  refine Gt (Bs Gr (by decide) (Kn.own .m2) rfl rfl (by omega) (by first | omega | (simp at q ⊢;omega))) ?_
  refine Gt (DP rfl A5 (Kn.own .m2) (by first | omega | (simp at q ⊢;omega))) ?_
  refine Gm rfl (Gm rfl ?_)
  refine Ah rfl UZ (.c rfl (.c rfl (.c rfl (.c rfl (.c rfl .n))))) (.c .h (.c (.t (.t (.t (.t .h)))) .n)) (GH _ T _ (decide (AF.setKind o.verb=2)) ((AF.BT T.w (T.own++T.seen) (max o.nth 1) o.name false).getD (0:Int).toNat 0) _ _ hg hb hx0 (by omega)) (fun v26 B hv=>?_)
  obtain⟨y27,rfl,y28,rfl⟩:=hv
  refine AT (AB (.nil _) ?_)
  refine AW ?_
  refine Bo rfl .n ?_
  intro w1 hS
  have hS:=(hS.perm (Ax.perm (.c .h (.c .h .n)))).A3
  have d0:(decide (((T.EZ o).length:Int)=0) || !decide ((T.w.AP.at ((T.EZ o).getD 0 0)).kind=AF.setKind o.verb))=false:=by rw [hsl];exact c12
  have d1:((T.w.AP.at ((T.EZ o).getD 0 0)).on == AF.Hc o.verb)=false:=by rw [hsl];exact c13
  have d2:AF.Hc o.verb=false:=c14
  have hq:T.set o=_:=(AX c10).trans ((AX d0).trans ((AX d1).trans (AX d2)))
  (try rw [hsl] at hq)
  refine⟨_,⟨?gq5,rfl,?hl5,?hB5⟩,hS⟩
  case hB5=>rw [hq];(try rfl)
  case hl5=>rw [hq];assumption
 have c11p:=kz c11
 refine Aa ?_
 refine AB (.t6 0 3 4 5 6 9) ?_
 refine AA (Gs (Gm rfl (Gm rfl (Gt (Aj Gk rfl) (Gt (AG rfl A5 .m2 Order.l1 rfl rfl) (Gt (Kh rfl rfl) (Gt (Aj GF rfl) ?_)))))))
 refine Gt (AG rfl CK .m2 Order.l3 rfl rfl) ?_
 refine Ah rfl QW (.c rfl (.c rfl (.c rfl (.c rfl (.c rfl .n))))) (.c .h (.c .h .n)) (FB _ T _ _ T.own _ _ _ hF (by assumption) (by omega) (fun i hi=>AF.MC hi)) (fun v29 B hv=>?_)
 obtain⟨y30,rfl,y31,rfl⟩:=hv
 refine Ga rfl (Gn (.t5 0 4 5 6 9) (Ak (Au ?_)))
 have hx0:=AF.SJ (l:=(AF.BT T.w T.own (max o.nth 1) o.name false)) (fun i hi=>AF.MC (AF.Dw hi))
 refine BN (N:=18) [0,1,3,7,15,15,47,111,31,287,799,2047,4095,8191,15,32767,65535,131071] mix (by kernel_rfl) rfl ?_
 refine Pf 0 rfl (AD rfl) (Pf 1 rfl (Av rfl Tryz.underlying169 rfl) (Pf 2 rfl (Ai rfl rfl) (Pf 3 rfl (AD rfl) (Hx 4 82 rfl rfl rfl (fun q=>AD rfl) (Hx 5 82 rfl rfl rfl (fun q=>AD rfl) ?_)))))
 refine Bh 6 rfl rfl (by kernel_rfl) (HH (t:=82) rfl rfl (fun q=>by have q1:=q;(try simp at q1);exact I1 (Bs Gr (by decide) (Kn.own .m2) (cF rfl q) rfl (by omega) (by first | omega | (simp at q ⊢;omega))))) ?_
 refine Bh 7 rfl rfl (by kernel_rfl) (HH (t:=82) rfl rfl (fun q=>by have q1:=q;(try simp at q1);exact I1 (DP (cF rfl q) A5 (Kn.own .m2) (by first | omega | (simp at q ⊢;omega))))) ?_
 refine Hx 8 82 rfl rfl rfl (fun q=>Ba (cF rfl q)) (Hx 9 82 rfl rfl rfl (fun q=>Aj BD (cF rfl q)) (Hx 10 82 rfl rfl rfl (fun q=>Aj Cz (cF rfl q)) ?_))
 refine Bh 11 rfl rfl (by kernel_rfl) (HH (t:=82) rfl rfl (fun q=>by have q1:=q;(try simp at q1);exact I1 (AV Gd (cF rfl q) (cF rfl q) (by first | omega | exact hb.1 | exact hb.2 | exact hx0.1 | exact hx0.2 | (dsimp only;omega)) (by first | omega | exact hb.1 | exact hb.2 | exact hx0.1 | exact hx0.2 | (dsimp only;omega))))) ?_
 refine Hx 12 82 rfl rfl rfl (fun q=>Aj HC (cF rfl q)) ?_
 refine Bh 13 rfl rfl (by kernel_rfl) (HH (t:=82) rfl rfl (fun q=>by have q1:=q;(try simp at q1);exact I1 (AG (cF rfl q) A5 .m0 (((Ag.l0.comp AI.l1).comp (AQ.ar (n:=9) Ap.fl (by first | omega | exact hb | exact hx0 | (dsimp only;omega)))).comp Ap.l1) rfl rfl))) ?_
 refine Hx 14 82 rfl rfl rfl (fun q=>AD rfl) (Hx 15 82 rfl rfl rfl (fun q=>Cb (cF rfl q) (cF rfl q)) ?_)
 refine Pf 16 rfl (BU rfl rfl (fun h=>by rw [h];rfl)) ?_
 refine Pf 17 rfl (A1 rfl) ?_
 refine Az (by kernel_rfl) ?_
 refine AB (.t6 0 4 5 6 9 78) ?_
 refine AA ?_
 refine Gc (fun c15=>?_) (fun c15=>?_)
 ·
  have c15p:=kz c15
  rw [y31] at c15 c15p
  have hsl:T.EZ o=(AF.BT T.w T.own (max o.nth 1) o.name false):=congrArg (fun q=>AF.BT T.w q _ _ _) (AX c11)
  refine AK (Gm rfl ?_)
  refine Ah rfl EH (.c rfl (.c rfl .n)) (.c .h (.c (.t (.t (.t .h))) .n)) (Bi _ _ _ _ hg hb (by omega)) (fun v33 B hv=>?_)
  obtain⟨y34,rfl,y35,rfl⟩:=hv
  refine AT (AB (.nil _) ?_)
  refine AW ?_
  refine Bo rfl .n ?_
  intro w1 hS
  have hS:=(hS.perm (Ax.perm (.c .h (.c .h .n)))).A3
  have d0:(decide (((T.EZ o).length:Int)=0) || !decide ((T.w.AP.at ((T.EZ o).getD 0 0)).kind=AF.setKind o.verb))=true:=by rw [hsl];exact c15
  have hq:T.set o=_:=(AX c10).trans (BJ d0)
  (try rw [hsl] at hq)
  refine⟨_,⟨?gq6,rfl,?hl6,?hB6⟩,hS⟩
  case hB6=>rw [hq];(try rfl)
  case hl6=>rw [hq];assumption
 have c15p:=kz c15
 rw [y31] at c15 c15p
 have hsl:T.EZ o=(AF.BT T.w T.own (max o.nth 1) o.name false):=congrArg (fun q=>AF.BT T.w q _ _ _) (AX c11)
 refine Au ?_
 refine BN (N:=13) [0,0,2,6,1,17,49,127,255,511,0,2047,4095] mix (by kernel_rfl) rfl ?_
 refine Pf 0 rfl (AD rfl) (Pf 1 rfl (AD rfl) ?_)
 refine Pf 2 rfl (Bs Gr (by decide) (Kn.own .m2) rfl rfl (by omega) (by first | omega | (simp at q ⊢;omega))) ?_
 refine Pf 3 rfl (DP rfl A5 (Kn.own .m2) (by first | omega | (simp at q ⊢;omega))) ?_
 refine Pf 4 rfl (Ba rfl) (Pf 5 rfl (Aj BD rfl) (Pf 6 rfl (Aj Cz rfl) ?_))
 refine Pf 7 rfl (AV Gd rfl rfl (by first | omega | exact hb.1 | exact hb.2 | exact hx0.1 | exact hx0.2 | (dsimp only;omega)) (by first | omega | exact hb.1 | exact hb.2 | exact hx0.1 | exact hx0.2 | (dsimp only;omega))) ?_
 refine Pf 8 rfl (Aj GX rfl) ?_
 refine Pf 9 rfl (AG rfl DM .m0 (((Ag.l0.comp AI.l1).comp (AQ.ar (n:=9) Ap.fl (by first | omega | exact hb | exact hx0 | (dsimp only;omega)))).comp Ap.l4) rfl rfl) ?_
 refine Pf 10 rfl (AD rfl) (Pf 11 rfl (Ex Tryz.underlying4 rfl rfl) (Pf 12 rfl (A1 rfl) ?_))
 refine Az (by kernel_rfl) ?_
 refine AB (.t6 0 4 5 6 9 98) ?_
 refine AA ?_
 refine Gc (fun c16=>?_) (fun c16=>?_)
 ·
  have c16p:=kz c16
  refine AK (Gm rfl ?_)
  refine Ah rfl EH (.c rfl (.c rfl .n)) (.c .h (.c (.t (.t (.t .h))) .n)) (Bi _ _ _ _ hg hb (by omega)) (fun v36 B hv=>?_)
  obtain⟨y37,rfl,y38,rfl⟩:=hv
  refine AT (AB (.nil _) ?_)
  refine AW ?_
  refine Bo rfl .n ?_
  intro w1 hS
  have hS:=(hS.perm (Ax.perm (.c .h (.c .h .n)))).A3
  have d0:(decide (((T.EZ o).length:Int)=0) || !decide ((T.w.AP.at ((T.EZ o).getD 0 0)).kind=AF.setKind o.verb))=false:=by rw [hsl];exact c15
  have d1:((T.w.AP.at ((T.EZ o).getD 0 0)).on == AF.Hc o.verb)=true:=by rw [hsl];exact c16
  have hq:T.set o=_:=(AX c10).trans ((AX d0).trans (BJ d1))
  (try rw [hsl] at hq)
  refine⟨_,⟨?gq7,rfl,?hl7,?hB7⟩,hS⟩
  case hB7=>rw [hq];(try rfl)
  case hl7=>rw [hq];assumption
 have c16p:=kz c16
 refine Gs (Gm rfl (Ga rfl (Gn (.t6 0 4 5 6 9 113) ?_)))
 refine Gc (fun c17=>?_) (fun c17=>?_)
 ·
  have c17p:=kz c17
  refine AK (Gm rfl (Gm rfl (Gt (Cb rfl rfl) (Gm rfl ?_))))
  refine Gt (Bs Gr (by decide) (Kn.own .m2) rfl rfl (by omega) (by first | omega | (simp at q ⊢;omega))) ?_
  refine Gt (DP rfl A5 (Kn.own .m2) (by first | omega | (simp at q ⊢;omega))) ?_
  refine Gm rfl (Gm rfl ?_)
  refine Ah rfl UZ (.c rfl (.c rfl (.c rfl (.c rfl (.c rfl .n))))) (.c .h (.c (.t (.t (.t .h))) .n)) (GH _ T _ (!decide (AF.setKind o.verb=2)) ((AF.BT T.w T.own (max o.nth 1) o.name false).getD (0:Int).toNat 0) _ _ hg hb hx0 (by omega)) (fun v39 B hv=>?_)
  obtain⟨y40,rfl,y41,rfl⟩:=hv
  refine AT (AB (.nil _) ?_)
  refine AW ?_
  refine Bo rfl .n ?_
  intro w1 hS
  have hS:=(hS.perm (Ax.perm (.c .h (.c .h .n)))).A3
  have d0:(decide (((T.EZ o).length:Int)=0) || !decide ((T.w.AP.at ((T.EZ o).getD 0 0)).kind=AF.setKind o.verb))=false:=by rw [hsl];exact c15
  have d1:((T.w.AP.at ((T.EZ o).getD 0 0)).on == AF.Hc o.verb)=false:=by rw [hsl];exact c16
  have d2:AF.Hc o.verb=true:=c17
  have hq:T.set o=_:=(AX c10).trans ((AX d0).trans ((AX d1).trans (BJ d2)))
  (try rw [hsl] at hq)
  refine⟨_,⟨?gq8,rfl,?hl8,?hB8⟩,hS⟩
  case hB8=>rw [hq];(try rfl)
  case hl8=>rw [hq];assumption
 have c17p:=kz c17
 refine AK (Gm rfl (Gm rfl (Gt (Ai rfl rfl) (Gm rfl ?_))))
 refine Gt (Bs Gr (by decide) (Kn.own .m2) rfl rfl (by omega) (by first | omega | (simp at q ⊢;omega))) ?_
 refine Gt (DP rfl A5 (Kn.own .m2) (by first | omega | (simp at q ⊢;omega))) ?_
 refine Gm rfl (Gm rfl ?_)
 refine Ah rfl UZ (.c rfl (.c rfl (.c rfl (.c rfl (.c rfl .n))))) (.c .h (.c (.t (.t (.t .h))) .n)) (GH _ T _ (decide (AF.setKind o.verb=2)) ((AF.BT T.w T.own (max o.nth 1) o.name false).getD (0:Int).toNat 0) _ _ hg hb hx0 (by omega)) (fun v42 B hv=>?_)
 obtain⟨y43,rfl,y44,rfl⟩:=hv
 refine AT (AB (.nil _) ?_)
 refine AW ?_
 refine Bo rfl .n ?_
 intro w1 hS
 have hS:=(hS.perm (Ax.perm (.c .h (.c .h .n)))).A3
 have d0:(decide (((T.EZ o).length:Int)=0) || !decide ((T.w.AP.at ((T.EZ o).getD 0 0)).kind=AF.setKind o.verb))=false:=by rw [hsl];exact c15
 have d1:((T.w.AP.at ((T.EZ o).getD 0 0)).on == AF.Hc o.verb)=false:=by rw [hsl];exact c16
 have d2:AF.Hc o.verb=false:=c17
 have hq:T.set o=_:=(AX c10).trans ((AX d0).trans ((AX d1).trans (AX d2)))
 (try rw [hsl] at hq)
 refine⟨_,⟨?gq9,rfl,?hl9,?hB9⟩,hS⟩
 case hB9=>rw [hq];(try rfl)
 case hl9=>rw [hq];assumption
theorem Gl (X:AI)(b:Int)(o:Order)(hw:X.DL)(hu:o.second.length≤5000000)(hm:o.name.length≤5000000):Fx Tryz.prog 84 #[.agg X.enc.toArray, .int .i64 b, .agg o.enc.toArray] [] (fun w=>(GV 0 AI.DT w∧0 ∉ Cp [])∧(HI 7 w∧7 ∉ Cp [])∧(HI 8 w∧8 ∉ Cp [])) (fun v B=>∃ h:Hd,v = .tuple #[.agg ((AF.Dr X b o).1.enc).toArray,h.val, .int .i64 (AF.Dr X b o).2.2]∧h.len=(AF.Dr X b o).2.1.length∧B = [Af.own h 56 16 ((AF.Dr X b o).2.1.flatMap Ing.Event.enc)]):=by
 intro w hS0 hH
 obtain⟨⟨gl0,gm0⟩,⟨gl1,gm1⟩,⟨gl2,gm2⟩⟩:=hH
 refine Ao _ _ Tryz.func84 rfl rfl rfl (hS0) ?_
 refine Gs ?_
 refine B4 rfl rfl rfl (fun b1=>?_)
 refine B4 rfl rfl rfl (fun b2=>?_)
 refine A6 rfl NX rfl (fun b3=>?_)
 refine Ga rfl (Ga rfl (Gn (.t4 1 3 5 6) (Au (Ak (Gs (Gt (AU rfl Be .m2 (AQ.id AI.fl.len AI.fl.one) rfl) ?_))))))
 refine BE rfl bX (.c rfl .n) (fun w hS=>Hs _ w) ?_
 refine Gt (BX rfl) (Ga rfl (Gn (.t5 1 3 5 6 10) ?_))
 refine Gc (fun c1=>?_) (fun c1=>?_)
 ·
  refine Gs (Gt (AU rfl Be .m2 (AQ.id AI.fl.len AI.fl.one) rfl) ?_)
  refine AO (AJ (AQ.id AI.fl.len AI.fl.one) rfl rfl rfl EE rfl .h) ?_
  refine Ga rfl (Ga rfl (Gn (.t3 6 7 8) (Ae (AS (AE ?_)))))
  refine AZ rfl (.cell rfl .m0 (.inl ⟨(by rw [AI.fl.len];exact Be),rfl⟩) (.tmp rfl (.tmp rfl .n))) ?_
  intro w1 hS
  have hS:=hS.Cr 56 16
  have hS:=(hS.perm (Ax.perm (.c .h .n))).A3
  have hq:AF.Dr X b o=_:=(BJ c1)
  refine⟨_,⟨⟨none,0,0⟩,?hv1,?hl1,?hB1⟩,hS⟩
  case hv1=>rw [hq];rfl
  case hl1=>rw [hq];rfl
  case hB1=>rw [hq];rfl
 have c1p:=kz c1
 refine Gs (Gm rfl (Gt (BC rfl rfl) (Gm rfl (Bf 18 rfl rfl (fun q=>AD rfl) (Bf 18 rfl rfl (fun q=>CO (cF rfl q) rfl) ?_)))))
 refine Gt (BU rfl rfl (fun h=>by rw [h];rfl)) ?_
 refine Gm rfl (Bf 22 rfl rfl (fun q=>AD rfl) (Bf 22 rfl rfl (fun q=>Aj Br rfl) ?_))
 refine Bf 22 rfl rfl (fun q=>by have q1:=q;(try simp at q1);exact AV DB (cF rfl q) (cF rfl q) (by first | omega | exact hb.1 | exact hb.2 | (dsimp only;omega)) (by first | omega | exact hb.1 | exact hb.2 | (dsimp only;omega))) ?_
 refine Bf 22 rfl rfl (fun q=>Aj Ij (cF rfl q)) ?_
 refine Bf 22 rfl rfl (fun q=>by have q1:=q;(try simp at q1);exact AG (cF rfl q) DM .m2 ((AI.l2.comp (AQ.ar (n:=6) An.fl (by first | omega | exact hb | (dsimp only;omega)))).comp An.l1) rfl rfl) ?_
 refine Bf 22 rfl rfl (fun q=>BX (cF rfl q)) ?_
 refine Gt (BU rfl rfl (fun h=>by rw [h];rfl)) ?_
 refine Ga rfl (Gn (.t5 1 3 5 6 15) ?_)
 refine Gc (fun c2=>?_) (fun c2=>?_)
 ·
  refine Gs (Gt (AU rfl Be .m2 (AQ.id AI.fl.len AI.fl.one) rfl) ?_)
  refine AO (AJ (AQ.id AI.fl.len AI.fl.one) rfl rfl rfl EE rfl .h) ?_
  refine Ga rfl (Ga rfl (Gn (.t3 6 7 8) (Ae (AS (AE ?_)))))
  refine AZ rfl (.cell rfl .m0 (.inl ⟨(by rw [AI.fl.len];exact Be),rfl⟩) (.tmp rfl (.tmp rfl .n))) ?_
  intro w1 hS
  have hS:=hS.Cr 56 16
  have hS:=(hS.perm (Ax.perm (.c .h .n))).A3
  have hq:AF.Dr X b o=_:=((AX c1).trans (BJ c2))
  refine⟨_,⟨⟨none,0,0⟩,?hv2,?hl2,?hB2⟩,hS⟩
  case hv2=>rw [hq];rfl
  case hl2=>rw [hq];rfl
  case hB2=>rw [hq];rfl
 have c2p:=kz c2
 refine Gs (Gt (Aj DG rfl) (Gt (AG rfl A5 .m1 Order.l0 rfl rfl) (Gt (BC rfl rfl) (Gm rfl (Bf 35 rfl rfl (fun q=>Aj DG rfl) (Bf 35 rfl rfl (fun q=>AG (cF rfl q) A5 .m1 Order.l0 rfl rfl) (Bf 35 rfl rfl (fun q=>Cn (cF rfl q) rfl) ?_)))))))
 refine Gt (BU rfl rfl (fun h=>by rw [h];rfl)) ?_
 refine Ga rfl (Gn (.t5 1 3 5 6 31) ?_)
 refine Gc (fun c3=>?_) (fun c3=>?_)
 ·
  refine Gs (Gt (AU rfl Be .m2 (AQ.id AI.fl.len AI.fl.one) rfl) ?_)
  refine AO (AJ (AQ.id AI.fl.len AI.fl.one) rfl rfl rfl EE rfl .h) ?_
  refine Ga rfl (Ga rfl (Gn (.t3 6 7 8) (Ae (AS (AE ?_)))))
  refine AZ rfl (.cell rfl .m0 (.inl ⟨(by rw [AI.fl.len];exact Be),rfl⟩) (.tmp rfl (.tmp rfl .n))) ?_
  intro w1 hS
  have hS:=hS.Cr 56 16
  have hS:=(hS.perm (Ax.perm (.c .h .n))).A3
  have hq:AF.Dr X b o=_:=((AX c1).trans ((AX c2).trans (BJ c3)))
  refine⟨_,⟨⟨none,0,0⟩,?hv3,?hl3,?hB3⟩,hS⟩
  case hv3=>rw [hq];rfl
  case hl3=>rw [hq];rfl
  case hB3=>rw [hq];rfl
 have c3p:=kz c3
 have hF:=AF.Wg hw c1 c2
 have hb:=hF.b
 refine Aa ?_
 refine AB (.t4 1 3 5 6) ?_
 refine AW (AA (Gs (Gt (AU rfl Be .m2 (AQ.id AI.fl.len AI.fl.one) rfl) (Gm rfl (Gt (BL VK Uh rfl (.cons Ag.l0 rfl rfl rfl (.cons Ag.l1 rfl rfl rfl .nil))) ?_)))))
 refine B4 rfl rfl rfl (fun b4=>?_)
 refine Ga rfl (Gn (.t4 1 5 6 9) (Au (Ak (Gs (Gt (Aj DG rfl) (Gt (AG rfl A5 .m2 Order.l0 rfl rfl) (Gt (BC rfl rfl) ?_)))))))
 refine Ga rfl (Gn (.t5 1 5 6 9 48) ?_)
 refine Gc (fun c4=>?_) (fun c4=>?_)
 ·
  have c4p:=kz c4
  refine AK (Gm rfl (Gt (Aj DG rfl) (Gt (AG rfl A5 .m2 Order.l0 rfl rfl) ?_)))
  refine Df Ing.Event.enc 56 16 ?_
  refine BB rfl dw (.c rfl (.c rfl .n)) (.c (.t .h) (.c .h .n)) (Qy _ (⟨X,b,[]⟩:AF) _ o.verb rfl hF (by omega) (Nat.zero_le _)) (fun w hS=>gl0.pull gm0 hS (.c (.t .h) (.c .h .n))) (fun v5 B hv=>?_)
  obtain⟨y6,rfl,y7,rfl⟩:=hv
  refine AT (AB (.t2 6 9) ?_)
  refine AW (AA (Au ?_))
  refine BN (N:=11) [0,1,3,7,0,16,48,112,15,511,1023] mix (by kernel_rfl) rfl ?_
  refine Pf 0 rfl (AD rfl) (Pf 1 rfl (Ba rfl) (Pf 2 rfl (Aj BD rfl) (Pf 3 rfl (AU rfl Be .m0 Ag.l0 rfl) (Pf 4 rfl (AD rfl) (Pf 5 rfl (Ba rfl) (Pf 6 rfl (Aj CP rfl) (Pf 7 rfl (AG rfl Ds .m0 Ag.l2 rfl rfl) ?_)))))))
  refine Ab 8 rfl (by kernel_rfl) ?_
  refine AO (AJ (AQ.id AI.fl.len AI.fl.one) rfl rfl rfl EE rfl (.t (.t .h))) ?_
  refine A7 rfl ⟨?_,?_⟩
  · exact(Po rfl (AG rfl Ds .m0 Ag.l2 rfl rfl) rfl rfl (Po rfl (Aj CP rfl) rfl rfl (Po rfl (Ba rfl) rfl rfl (Po rfl (AD rfl) rfl rfl (Pk (Pk (Pk (Pk Ac))))))))
  refine Pf 9 rfl (A1 rfl) (Pf 10 rfl (A1 rfl) ?_)
  refine Az (by kernel_rfl) ?_
  refine AB (.t3 6 7 8) ?_
  refine AA (Ae ?_)
  refine AZ rfl (.cell rfl .m2 (.inl ⟨(by rw [AI.fl.len];exact Be),rfl⟩) (.tmp rfl (.tmp rfl .n))) ?_
  intro w1 hS
  have hS:=(hS.perm (Ax.perm (.c (.t .h) .n))).A3
  have ha:AF.act (⟨X,b,[]⟩:AF) o=_:=(BJ c4)
  have hq:AF.Dr X b o=((AF.act (⟨X,b,[]⟩:AF) o).w,(AF.act (⟨X,b,[]⟩:AF) o).out,0):=((AX c1).trans ((AX c2).trans (AX c3)))
  rw [ha] at hq
  refine⟨_,⟨?gq4,?hv4,?hl4,?hB4⟩,hS⟩
  case hB4=>rw [hq];(try rfl)
  case hv4=>rw [hq];(try rfl)
  case hl4=>rw [hq];(try dsimp only);exact y7
 have c4p:=kz c4
 refine Gs (Gt (Aj DG rfl) (Gt (AG rfl A5 .m2 Order.l0 rfl rfl) (Gt (Ai rfl rfl) (Ga rfl (Gn (.t5 1 5 6 9 56) ?_)))))
 refine Gc (fun c5=>?_) (fun c5=>?_)
 ·
  refine AK (Gm rfl ?_)
  refine Df Ing.Event.enc 56 16 ?_
  refine BB rfl VB (.c rfl .n) (.c (.t .h) (.c .h .n)) (HL _ (⟨X,b,[]⟩:AF) _ rfl hF.b hF.br (Nat.zero_le _)) (fun w hS=>gl0.pull gm0 hS (.c (.t .h) (.c .h .n))) (fun v9 B hv=>?_)
  obtain⟨y10,rfl,y11,rfl⟩:=hv
  refine AT (AB (.t2 6 9) ?_)
  refine AW (AA (Au ?_))
  refine BN (N:=11) [0,1,3,7,0,16,48,112,15,511,1023] mix (by kernel_rfl) rfl ?_
  refine Pf 0 rfl (AD rfl) (Pf 1 rfl (Ba rfl) (Pf 2 rfl (Aj BD rfl) (Pf 3 rfl (AU rfl Be .m0 Ag.l0 rfl) (Pf 4 rfl (AD rfl) (Pf 5 rfl (Ba rfl) (Pf 6 rfl (Aj CP rfl) (Pf 7 rfl (AG rfl Ds .m0 Ag.l2 rfl rfl) ?_)))))))
  refine Ab 8 rfl (by kernel_rfl) ?_
  refine AO (AJ (AQ.id AI.fl.len AI.fl.one) rfl rfl rfl EE rfl (.t (.t .h))) ?_
  refine A7 rfl ⟨?_,?_⟩
  · exact(Po rfl (AG rfl Ds .m0 Ag.l2 rfl rfl) rfl rfl (Po rfl (Aj CP rfl) rfl rfl (Po rfl (Ba rfl) rfl rfl (Po rfl (AD rfl) rfl rfl (Pk (Pk (Pk (Pk Ac))))))))
  refine Pf 9 rfl (A1 rfl) (Pf 10 rfl (A1 rfl) ?_)
  refine Az (by kernel_rfl) ?_
  refine AB (.t3 6 7 8) ?_
  refine AA (Ae ?_)
  refine AZ rfl (.cell rfl .m2 (.inl ⟨(by rw [AI.fl.len];exact Be),rfl⟩) (.tmp rfl (.tmp rfl .n))) ?_
  intro w1 hS
  have hS:=(hS.perm (Ax.perm (.c (.t .h) .n))).A3
  have ha:AF.act (⟨X,b,[]⟩:AF) o=_:=((AX c4).trans (BJ c5))
  have hq:AF.Dr X b o=((AF.act (⟨X,b,[]⟩:AF) o).w,(AF.act (⟨X,b,[]⟩:AF) o).out,0):=((AX c1).trans ((AX c2).trans (AX c3)))
  rw [ha] at hq
  refine⟨_,⟨?gq5,?hv5,?hl5,?hB5⟩,hS⟩
  case hB5=>rw [hq];(try rfl)
  case hv5=>rw [hq];(try rfl)
  case hl5=>rw [hq];(try dsimp only);exact y11
 have c5p:=kz c5
 refine Gs (Gt (Aj DG rfl) (Gt (AG rfl A5 .m2 Order.l0 rfl rfl) (Gt (Ai rfl rfl) (Ga rfl (Gn (.t5 1 5 6 9 62) ?_)))))
 refine Gc (fun c6=>?_) (fun c6=>?_)
 ·
  have c6p:=kz c6
  refine AK (Gm rfl (Gm rfl (Gt (Ba rfl) (Gt (Aj BD rfl) (Gt (AU rfl Be .m0 Ag.l0 rfl) (Gm rfl ?_))))))
  refine Ah rfl TB (.c rfl (.c rfl (.c rfl .n))) .n (FV _ _ _) (fun v12 B hv=>?_)
  obtain⟨y13,rfl,y14,rfl⟩:=hv
  refine Df Ing.Event.enc 56 16 ?_
  refine Ah rfl aD (.c rfl (.c rfl (.c rfl .n))) (.c (.t (.t .h)) (.c .h (.c .h .n))) (Lt _ (⟨X,b,[]⟩:AF) _ [89,111,117,32,104,97,118,101] _ (X.has 1 b) rfl hF.b (by assumption) (AI.IX _ _ _) (fun i hi=>AI.GB hi) hF.br (by decide) (Nat.zero_le _)) (fun v17 B hv=>?_)
  obtain⟨y18,rfl,y19,rfl⟩:=hv
  refine AT (AB (.t2 6 9) ?_)
  refine AW (AA (Au ?_))
  refine BN (N:=11) [0,1,3,7,0,16,48,112,15,511,1023] mix (by kernel_rfl) rfl ?_
  refine Pf 0 rfl (AD rfl) (Pf 1 rfl (Ba rfl) (Pf 2 rfl (Aj BD rfl) (Pf 3 rfl (AU rfl Be .m0 Ag.l0 rfl) (Pf 4 rfl (AD rfl) (Pf 5 rfl (Ba rfl) (Pf 6 rfl (Aj CP rfl) (Pf 7 rfl (AG rfl Ds .m0 Ag.l2 rfl rfl) ?_)))))))
  refine Ab 8 rfl (by kernel_rfl) ?_
  refine AO (AJ (AQ.id AI.fl.len AI.fl.one) rfl rfl rfl EE rfl (.t (.t (.t .h)))) ?_
  refine A7 rfl ⟨?_,?_⟩
  · exact(Po rfl (AG rfl Ds .m0 Ag.l2 rfl rfl) rfl rfl (Po rfl (Aj CP rfl) rfl rfl (Po rfl (Ba rfl) rfl rfl (Po rfl (AD rfl) rfl rfl (Pk (Pk (Pk (Pk Ac))))))))
  refine Pf 9 rfl (A1 rfl) (Pf 10 rfl (A1 rfl) ?_)
  refine Az (by kernel_rfl) ?_
  refine AB (.t3 6 7 8) ?_
  refine AA (Ae ?_)
  refine AZ rfl (.cell rfl .m3 (.inl ⟨(by rw [AI.fl.len];exact Be),rfl⟩) (.tmp rfl (.tmp rfl .n))) ?_
  intro w1 hS
  have hS:=(hS.perm (Ax.perm (.c (.t .h) .n))).A3
  have ha:AF.act (⟨X,b,[]⟩:AF) o=_:=((AX c4).trans ((AX c5).trans (BJ c6)))
  have hq:AF.Dr X b o=((AF.act (⟨X,b,[]⟩:AF) o).w,(AF.act (⟨X,b,[]⟩:AF) o).out,0):=((AX c1).trans ((AX c2).trans (AX c3)))
  rw [ha] at hq
  refine⟨_,⟨?gq6,?hv6,?hl6,?hB6⟩,hS⟩
  case hB6=>rw [hq];(try rfl)
  case hv6=>rw [hq];(try rfl)
  case hl6=>rw [hq];(try dsimp only);exact y19
 have c6p:=kz c6
 refine Gs (Gt (Aj DG rfl) (Gt (AG rfl A5 .m2 Order.l0 rfl rfl) (Gt (Ai rfl rfl) (Ga rfl (Gn (.t4 5 6 9 74) ?_)))))
 refine Gc (fun c7=>?_) (fun c7=>?_)
 ·
  refine AK (Gm rfl (Gt (Aj Rl rfl) (Gt (AG rfl CK .m2 Order.l5 rfl rfl) (Gt (BL N3 Iv rfl (.cons Ing.Event.l0 rfl rfl rfl (.cons Ing.Event.l3 rfl rfl rfl (.cons Ing.Event.l9 rfl rfl rfl .nil)))) ?_))))
  refine Df Ing.Event.enc 56 16 ?_
  refine Ah rfl Nq (.c rfl (.c rfl .n)) (.c (.t .h) (.c .h .n)) (CU _ (⟨X,b,[]⟩:AF) _ { AF.F8 7 with text:=o.text } rfl hF.b (show(-1:Int) < 6 by decide) (Nat.zero_le _)) (fun v21 B hv=>?_)
  obtain⟨y22,rfl,y23,rfl⟩:=hv
  refine AT (AB (.t2 6 9) ?_)
  refine AW (AA (Au ?_))
  refine BN (N:=11) [0,1,3,7,0,16,48,112,15,511,1023] mix (by kernel_rfl) rfl ?_
  refine Pf 0 rfl (AD rfl) (Pf 1 rfl (Ba rfl) (Pf 2 rfl (Aj BD rfl) (Pf 3 rfl (AU rfl Be .m0 Ag.l0 rfl) (Pf 4 rfl (AD rfl) (Pf 5 rfl (Ba rfl) (Pf 6 rfl (Aj CP rfl) (Pf 7 rfl (AG rfl Ds .m0 Ag.l2 rfl rfl) ?_)))))))
  refine Ab 8 rfl (by kernel_rfl) ?_
  refine AO (AJ (AQ.id AI.fl.len AI.fl.one) rfl rfl rfl EE rfl (.t (.t .h))) ?_
  refine A7 rfl ⟨?_,?_⟩
  · exact(Po rfl (AG rfl Ds .m0 Ag.l2 rfl rfl) rfl rfl (Po rfl (Aj CP rfl) rfl rfl (Po rfl (Ba rfl) rfl rfl (Po rfl (AD rfl) rfl rfl (Pk (Pk (Pk (Pk Ac))))))))
  refine Pf 9 rfl (A1 rfl) (Pf 10 rfl (A1 rfl) ?_)
  refine Az (by kernel_rfl) ?_
  refine AB (.t3 6 7 8) ?_
  refine AA (Ae ?_)
  refine AZ rfl (.cell rfl .m2 (.inl ⟨(by rw [AI.fl.len];exact Be),rfl⟩) (.tmp rfl (.tmp rfl .n))) ?_
  intro w1 hS
  have hS:=(hS.perm (Ax.perm (.c (.t .h) .n))).A3
  have ha:AF.act (⟨X,b,[]⟩:AF) o=_:=((AX c4).trans ((AX c5).trans ((AX c6).trans (BJ c7))))
  have hq:AF.Dr X b o=((AF.act (⟨X,b,[]⟩:AF) o).w,(AF.act (⟨X,b,[]⟩:AF) o).out,0):=((AX c1).trans ((AX c2).trans (AX c3)))
  rw [ha] at hq
  refine⟨_,⟨?gq7,?hv7,?hl7,?hB7⟩,hS⟩
  case hB7=>rw [hq];(try rfl)
  case hv7=>rw [hq];(try rfl)
  case hl7=>rw [hq];(try dsimp only);exact y23
 have c7p:=kz c7
 refine Gs (Gt (Aj DG rfl) (Gt (AG rfl A5 .m2 Order.l0 rfl rfl) (Gt (Ai rfl rfl) (Ga rfl (Gn (.t4 5 6 9 83) ?_)))))
 refine Gc (fun c8=>?_) (fun c8=>?_)
 ·
  refine AK (Gm rfl ?_)
  refine Df Ing.Event.enc 56 16 ?_
  refine Ah rfl bw (.c rfl .n) (.c (.t .h) (.c .h .n)) (Re _ (⟨X,b,[]⟩:AF) _ rfl hF (Nat.zero_le _)) (fun v25 B hv=>?_)
  obtain⟨y26,rfl,y27,rfl⟩:=hv
  refine AT (AB (.t2 6 9) ?_)
  refine AW (AA (Au ?_))
  refine BN (N:=11) [0,1,3,7,0,16,48,112,15,511,1023] mix (by kernel_rfl) rfl ?_
  refine Pf 0 rfl (AD rfl) (Pf 1 rfl (Ba rfl) (Pf 2 rfl (Aj BD rfl) (Pf 3 rfl (AU rfl Be .m0 Ag.l0 rfl) (Pf 4 rfl (AD rfl) (Pf 5 rfl (Ba rfl) (Pf 6 rfl (Aj CP rfl) (Pf 7 rfl (AG rfl Ds .m0 Ag.l2 rfl rfl) ?_)))))))
  refine Ab 8 rfl (by kernel_rfl) ?_
  refine AO (AJ (AQ.id AI.fl.len AI.fl.one) rfl rfl rfl EE rfl (.t (.t .h))) ?_
  refine A7 rfl ⟨?_,?_⟩
  · exact(Po rfl (AG rfl Ds .m0 Ag.l2 rfl rfl) rfl rfl (Po rfl (Aj CP rfl) rfl rfl (Po rfl (Ba rfl) rfl rfl (Po rfl (AD rfl) rfl rfl (Pk (Pk (Pk (Pk Ac))))))))
  refine Pf 9 rfl (A1 rfl) (Pf 10 rfl (A1 rfl) ?_)
  refine Az (by kernel_rfl) ?_
  refine AB (.t3 6 7 8) ?_
  refine AA (Ae ?_)
  refine AZ rfl (.cell rfl .m2 (.inl ⟨(by rw [AI.fl.len];exact Be),rfl⟩) (.tmp rfl (.tmp rfl .n))) ?_
  intro w1 hS
  have hS:=(hS.perm (Ax.perm (.c (.t .h) .n))).A3
  have ha:AF.act (⟨X,b,[]⟩:AF) o=_:=((AX c4).trans ((AX c5).trans ((AX c6).trans ((AX c7).trans (BJ c8)))))
  have hq:AF.Dr X b o=((AF.act (⟨X,b,[]⟩:AF) o).w,(AF.act (⟨X,b,[]⟩:AF) o).out,0):=((AX c1).trans ((AX c2).trans (AX c3)))
  rw [ha] at hq
  refine⟨_,⟨?gq8,?hv8,?hl8,?hB8⟩,hS⟩
  case hB8=>rw [hq];(try rfl)
  case hv8=>rw [hq];(try rfl)
  case hl8=>rw [hq];(try dsimp only);exact y27
 have c8p:=kz c8
 refine Gs (Gt (Aj DG rfl) (Gt (AG rfl A5 .m2 Order.l0 rfl rfl) (Gt (Ai rfl rfl) (Ga rfl (Gn (.t4 5 6 9 89) ?_)))))
 refine Gc (fun c9=>?_) (fun c9=>?_)
 ·
  refine AK (Gm rfl (Gt (AU rfl CB .m2 (AQ.id Order.fl.len Order.fl.one) rfl) ?_))
  refine Df Ing.Event.enc 56 16 ?_
  refine BB rfl dZ (.c rfl (.c rfl .n)) (.c (.t .h) (.c .h .n)) (Pl _ (⟨X,b,[]⟩:AF) _ o rfl hF hm (Nat.zero_le _)) (fun w hS=>⟨gl1.pull gm1 hS (.c (.t .h) (.c .h .n)),gl2.pull gm2 hS (.c (.t .h) (.c .h .n))⟩) (fun v29 B hv=>?_)
  obtain⟨y30,rfl,y31,rfl⟩:=hv
  refine AT (AB (.t2 6 9) ?_)
  refine AW (AA (Au ?_))
  refine BN (N:=11) [0,1,3,7,0,16,48,112,15,511,1023] mix (by kernel_rfl) rfl ?_
  refine Pf 0 rfl (AD rfl) (Pf 1 rfl (Ba rfl) (Pf 2 rfl (Aj BD rfl) (Pf 3 rfl (AU rfl Be .m0 Ag.l0 rfl) (Pf 4 rfl (AD rfl) (Pf 5 rfl (Ba rfl) (Pf 6 rfl (Aj CP rfl) (Pf 7 rfl (AG rfl Ds .m0 Ag.l2 rfl rfl) ?_)))))))
  refine Ab 8 rfl (by kernel_rfl) ?_
  refine AO (AJ (AQ.id AI.fl.len AI.fl.one) rfl rfl rfl EE rfl (.t (.t .h))) ?_
  refine A7 rfl ⟨?_,?_⟩
  · exact(Po rfl (AG rfl Ds .m0 Ag.l2 rfl rfl) rfl rfl (Po rfl (Aj CP rfl) rfl rfl (Po rfl (Ba rfl) rfl rfl (Po rfl (AD rfl) rfl rfl (Pk (Pk (Pk (Pk Ac))))))))
  refine Pf 9 rfl (A1 rfl) (Pf 10 rfl (A1 rfl) ?_)
  refine Az (by kernel_rfl) ?_
  refine AB (.t3 6 7 8) ?_
  refine AA (Ae ?_)
  refine AZ rfl (.cell rfl .m2 (.inl ⟨(by rw [AI.fl.len];exact Be),rfl⟩) (.tmp rfl (.tmp rfl .n))) ?_
  intro w1 hS
  have hS:=(hS.perm (Ax.perm (.c (.t .h) .n))).A3
  have ha:AF.act (⟨X,b,[]⟩:AF) o=_:=((AX c4).trans ((AX c5).trans ((AX c6).trans ((AX c7).trans ((AX c8).trans (BJ c9))))))
  have hq:AF.Dr X b o=((AF.act (⟨X,b,[]⟩:AF) o).w,(AF.act (⟨X,b,[]⟩:AF) o).out,0):=((AX c1).trans ((AX c2).trans (AX c3)))
  rw [ha] at hq
  refine⟨_,⟨?gq9,?hv9,?hl9,?hB9⟩,hS⟩
  case hB9=>rw [hq];(try rfl)
  case hv9=>rw [hq];(try rfl)
  case hl9=>rw [hq];(try dsimp only);exact y31
 have c9p:=kz c9
 refine Gs (Gt (Aj DG rfl) (Gt (AG rfl A5 .m2 Order.l0 rfl rfl) (Gt (Ai rfl rfl) (Ga rfl (Gn (.t4 5 6 9 96) ?_)))))
 refine Gc (fun c10=>?_) (fun c10=>?_)
 ·
  refine AK (Gm rfl (Gt (AU rfl CB .m2 (AQ.id Order.fl.len Order.fl.one) rfl) ?_))
  refine Df Ing.Event.enc 56 16 ?_
  refine BB rfl cK (.c rfl (.c rfl .n)) (.c (.t .h) (.c .h .n)) (S4 _ (⟨X,b,[]⟩:AF) _ o rfl hF hu (Nat.zero_le _)) (fun w hS=>⟨gl1.pull gm1 hS (.c (.t .h) (.c .h .n)),gl2.pull gm2 hS (.c (.t .h) (.c .h .n))⟩) (fun v33 B hv=>?_)
  obtain⟨y34,rfl,y35,rfl⟩:=hv
  refine AT (AB (.t2 6 9) ?_)
  refine AW (AA (Au ?_))
  refine BN (N:=11) [0,1,3,7,0,16,48,112,15,511,1023] mix (by kernel_rfl) rfl ?_
  refine Pf 0 rfl (AD rfl) (Pf 1 rfl (Ba rfl) (Pf 2 rfl (Aj BD rfl) (Pf 3 rfl (AU rfl Be .m0 Ag.l0 rfl) (Pf 4 rfl (AD rfl) (Pf 5 rfl (Ba rfl) (Pf 6 rfl (Aj CP rfl) (Pf 7 rfl (AG rfl Ds .m0 Ag.l2 rfl rfl) ?_)))))))
  refine Ab 8 rfl (by kernel_rfl) ?_
  refine AO (AJ (AQ.id AI.fl.len AI.fl.one) rfl rfl rfl EE rfl (.t (.t .h))) ?_
  refine A7 rfl ⟨?_,?_⟩
  · exact(Po rfl (AG rfl Ds .m0 Ag.l2 rfl rfl) rfl rfl (Po rfl (Aj CP rfl) rfl rfl (Po rfl (Ba rfl) rfl rfl (Po rfl (AD rfl) rfl rfl (Pk (Pk (Pk (Pk Ac))))))))
  refine Pf 9 rfl (A1 rfl) (Pf 10 rfl (A1 rfl) ?_)
  refine Az (by kernel_rfl) ?_
  refine AB (.t3 6 7 8) ?_
  refine AA (Ae ?_)
  refine AZ rfl (.cell rfl .m2 (.inl ⟨(by rw [AI.fl.len];exact Be),rfl⟩) (.tmp rfl (.tmp rfl .n))) ?_
  intro w1 hS
  have hS:=(hS.perm (Ax.perm (.c (.t .h) .n))).A3
  have ha:AF.act (⟨X,b,[]⟩:AF) o=_:=((AX c4).trans ((AX c5).trans ((AX c6).trans ((AX c7).trans ((AX c8).trans ((AX c9).trans (BJ c10)))))))
  have hq:AF.Dr X b o=((AF.act (⟨X,b,[]⟩:AF) o).w,(AF.act (⟨X,b,[]⟩:AF) o).out,0):=((AX c1).trans ((AX c2).trans (AX c3)))
  rw [ha] at hq
  refine⟨_,⟨?gq10,?hv10,?hl10,?hB10⟩,hS⟩
  case hB10=>rw [hq];(try rfl)
  case hv10=>rw [hq];(try rfl)
  case hl10=>rw [hq];(try dsimp only);exact y35
 have c10p:=kz c10
 refine Gs (Gt (Aj DG rfl) (Gt (AG rfl A5 .m2 Order.l0 rfl rfl) (Gt (Ai rfl rfl) (Gm rfl (Bf 107 rfl rfl (fun q=>Aj DG rfl) (Bf 107 rfl rfl (fun q=>AG (cF rfl q) A5 .m2 Order.l0 rfl rfl) (Bf 107 rfl rfl (fun q=>Ai (cF rfl q) rfl) ?_)))))))
 refine Gt (BU rfl rfl (fun h=>by rw [h];rfl)) ?_
 refine Gm rfl (Bf 112 rfl rfl (fun q=>Aj DG rfl) (Bf 112 rfl rfl (fun q=>AG (cF rfl q) A5 .m2 Order.l0 rfl rfl) (Bf 112 rfl rfl (fun q=>Ai (cF rfl q) rfl) ?_)))
 refine Gt (BU rfl rfl (fun h=>by rw [h];rfl)) ?_
 refine Ga rfl (Gn (.t4 5 6 9 103) ?_)
 refine Gc (fun c11=>?_) (fun c11=>?_)
 ·
  have c11p:=kz c11
  refine AK (Gm rfl (Gt (AU rfl CB .m2 (AQ.id Order.fl.len Order.fl.one) rfl) ?_))
  refine Df Ing.Event.enc 56 16 ?_
  refine BB rfl cN (.c rfl (.c rfl .n)) (.c (.t .h) (.c .h .n)) (S0 _ (⟨X,b,[]⟩:AF) _ o rfl hF (by omega) hu (Nat.zero_le _)) (fun w hS=>⟨gl1.pull gm1 hS (.c (.t .h) (.c .h .n)),gl2.pull gm2 hS (.c (.t .h) (.c .h .n))⟩) (fun v37 B hv=>?_)
  obtain⟨y38,rfl,y39,rfl⟩:=hv
  refine AT (AB (.t2 6 9) ?_)
  refine AW (AA (Au ?_))
  refine BN (N:=11) [0,1,3,7,0,16,48,112,15,511,1023] mix (by kernel_rfl) rfl ?_
  refine Pf 0 rfl (AD rfl) (Pf 1 rfl (Ba rfl) (Pf 2 rfl (Aj BD rfl) (Pf 3 rfl (AU rfl Be .m0 Ag.l0 rfl) (Pf 4 rfl (AD rfl) (Pf 5 rfl (Ba rfl) (Pf 6 rfl (Aj CP rfl) (Pf 7 rfl (AG rfl Ds .m0 Ag.l2 rfl rfl) ?_)))))))
  refine Ab 8 rfl (by kernel_rfl) ?_
  refine AO (AJ (AQ.id AI.fl.len AI.fl.one) rfl rfl rfl EE rfl (.t (.t .h))) ?_
  refine A7 rfl ⟨?_,?_⟩
  · exact(Po rfl (AG rfl Ds .m0 Ag.l2 rfl rfl) rfl rfl (Po rfl (Aj CP rfl) rfl rfl (Po rfl (Ba rfl) rfl rfl (Po rfl (AD rfl) rfl rfl (Pk (Pk (Pk (Pk Ac))))))))
  refine Pf 9 rfl (A1 rfl) (Pf 10 rfl (A1 rfl) ?_)
  refine Az (by kernel_rfl) ?_
  refine AB (.t3 6 7 8) ?_
  refine AA (Ae ?_)
  refine AZ rfl (.cell rfl .m2 (.inl ⟨(by rw [AI.fl.len];exact Be),rfl⟩) (.tmp rfl (.tmp rfl .n))) ?_
  intro w1 hS
  have hS:=(hS.perm (Ax.perm (.c (.t .h) .n))).A3
  have ha:AF.act (⟨X,b,[]⟩:AF) o=_:=((AX c4).trans ((AX c5).trans ((AX c6).trans ((AX c7).trans ((AX c8).trans ((AX c9).trans ((AX c10).trans (BJ c11))))))))
  have hq:AF.Dr X b o=((AF.act (⟨X,b,[]⟩:AF) o).w,(AF.act (⟨X,b,[]⟩:AF) o).out,0):=((AX c1).trans ((AX c2).trans (AX c3)))
  rw [ha] at hq
  refine⟨_,⟨?gq11,?hv11,?hl11,?hB11⟩,hS⟩
  case hB11=>rw [hq];(try rfl)
  case hv11=>rw [hq];(try rfl)
  case hl11=>rw [hq];(try dsimp only);exact y39
 have c11p:=kz c11
 refine AK (Gm rfl (Gt (AU rfl CB .m2 (AQ.id Order.fl.len Order.fl.one) rfl) ?_))
 refine Df Ing.Event.enc 56 16 ?_
 refine BB rfl cR (.c rfl (.c rfl .n)) (.c (.t .h) (.c .h .n)) (Rr _ (⟨X,b,[]⟩:AF) _ o rfl hF (by omega) (Nat.zero_le _)) (fun w hS=>gl0.pull gm0 hS (.c (.t .h) (.c .h .n))) (fun v41 B hv=>?_)
 obtain⟨y42,rfl,y43,rfl⟩:=hv
 refine AT (AB (.t2 6 9) ?_)
 refine AW (AA (Au ?_))
 refine BN (N:=11) [0,1,3,7,0,16,48,112,15,511,1023] mix (by kernel_rfl) rfl ?_
 refine Pf 0 rfl (AD rfl) (Pf 1 rfl (Ba rfl) (Pf 2 rfl (Aj BD rfl) (Pf 3 rfl (AU rfl Be .m0 Ag.l0 rfl) (Pf 4 rfl (AD rfl) (Pf 5 rfl (Ba rfl) (Pf 6 rfl (Aj CP rfl) (Pf 7 rfl (AG rfl Ds .m0 Ag.l2 rfl rfl) ?_)))))))
 refine Ab 8 rfl (by kernel_rfl) ?_
 refine AO (AJ (AQ.id AI.fl.len AI.fl.one) rfl rfl rfl EE rfl (.t (.t .h))) ?_
 refine A7 rfl ⟨?_,?_⟩
 · exact(Po rfl (AG rfl Ds .m0 Ag.l2 rfl rfl) rfl rfl (Po rfl (Aj CP rfl) rfl rfl (Po rfl (Ba rfl) rfl rfl (Po rfl (AD rfl) rfl rfl (Pk (Pk (Pk (Pk Ac))))))))
 refine Pf 9 rfl (A1 rfl) (Pf 10 rfl (A1 rfl) ?_)
 refine Az (by kernel_rfl) ?_
 refine AB (.t3 6 7 8) ?_
 refine AA (Ae ?_)
 refine AZ rfl (.cell rfl .m2 (.inl ⟨(by rw [AI.fl.len];exact Be),rfl⟩) (.tmp rfl (.tmp rfl .n))) ?_
 intro w1 hS
 have hS:=(hS.perm (Ax.perm (.c (.t .h) .n))).A3
 have ha:AF.act (⟨X,b,[]⟩:AF) o=_:=((AX c4).trans ((AX c5).trans ((AX c6).trans ((AX c7).trans ((AX c8).trans ((AX c9).trans ((AX c10).trans (AX c11))))))))
 have hq:AF.Dr X b o=((AF.act (⟨X,b,[]⟩:AF) o).w,(AF.act (⟨X,b,[]⟩:AF) o).out,0):=((AX c1).trans ((AX c2).trans (AX c3)))
 rw [ha] at hq
 refine⟨_,⟨?gq12,?hv12,?hl12,?hB12⟩,hS⟩
 case hB12=>rw [hq];(try rfl)
 case hv12=>rw [hq];(try rfl)
 case hl12=>rw [hq];(try dsimp only);exact y43
theorem Ii (b:Nat)(V:AL)(ls:Vector BI 4)(ev:List Ing.Event)(k:Int)(n m:Nat)(hk:0≤k∧k < 4)(hF:AH.Fit (A4 V ls ev) n m)(hn:n≤900000)(hm:m≤900000):Fx Tryz.prog 67 #[.pointer (some ⟨b,0,none⟩), .pointer (some ⟨b,165+k.toNat * 22,none⟩)] [Af.box b 101 (AL.enc V),Af.D0 (CJ 9 (AL.Ar V) ls),Af.own (AL.last V) 56 16 ((ev).flatMap Ing.Event.enc)] (fun w=>(GV 2 GO w∧2 ∉ Cp [Af.box b 101 (AL.enc V),Af.D0 (CJ 9 (AL.Ar V) ls),Af.own (AL.last V) 56 16 ((ev).flatMap Ing.Event.enc)])∧(GV 0 AI.DT w∧0 ∉ Cp [Af.box b 101 (AL.enc V),Af.D0 (CJ 9 (AL.Ar V) ls),Af.own (AL.last V) 56 16 ((ev).flatMap Ing.Event.enc)])∧(HI 7 w∧7 ∉ Cp [Af.box b 101 (AL.enc V),Af.D0 (CJ 9 (AL.Ar V) ls),Af.own (AL.last V) 56 16 ((ev).flatMap Ing.Event.enc)])∧(HI 8 w∧8 ∉ Cp [Af.box b 101 (AL.enc V),Af.D0 (CJ 9 (AL.Ar V) ls),Af.own (AL.last V) 56 16 ((ev).flatMap Ing.Event.enc)])) (fun v B=>∃ V' ls' ev',v = .tuple #[]∧A4 V' ls' ev'=AH.leave (A4 V ls ev) k∧B = [Af.box b 101 (AL.enc V'),Af.D0 (CJ 9 (AL.Ar V') ls'),Af.own (AL.last V') 56 16 ((ev').flatMap Ing.Event.enc)]):=by
 intro w hS0 hH
 obtain⟨⟨gl0,gm0⟩,⟨gl1,gm1⟩,⟨gl2,gm2⟩,⟨gl3,gm3⟩⟩:=hH
 have hbe:=WA hF hk.1 hk.2
 refine Ao _ _ Tryz.func67 rfl rfl rfl (hS0) ?_
 refine Au (Au ?_)
 refine BN (N:=18) [0,1,3,7,15,31,63,63,191,447,959,127,2175,6271,16383,32767,65535,131071] mix (by kernel_rfl) rfl ?_
 refine Pf 0 rfl (AD rfl) (Pf 1 rfl (Ba rfl) (Pf 2 rfl (Aj JV rfl) (Pf 3 rfl (AG rfl A5 .m0 ((AL.l1.comp (AQ.arr (n:=4) A2.fl hk.1 hk.2)).comp A2.l0) rfl rfl) (Pf 4 rfl (Ai rfl rfl) (Pf 5 rfl (AD rfl) (M3 6 12 rfl rfl rfl (fun q=>AD rfl) (M3 7 12 rfl rfl rfl (fun q=>AD rfl) ?_)))))))
 refine M3 8 12 rfl rfl rfl (fun q=>Ba (Bc rfl q)) (M3 9 12 rfl rfl rfl (fun q=>Aj IU (Bc rfl q)) (M3 10 12 rfl rfl rfl (fun q=>AG (Bc rfl q) A5 .m0 ((AL.l1.comp (AQ.arr (n:=4) A2.fl hk.1 hk.2)).comp A2.l1) rfl rfl) (M3 11 12 rfl rfl rfl (fun q=>Ba (Bc rfl q)) (M3 12 12 rfl rfl rfl (fun q=>Aj EP (Bc rfl q)) (M3 13 12 rfl rfl rfl (fun q=>Aj Br (Bc rfl q)) ?_)))))
 refine Bh 14 rfl rfl (by kernel_rfl) (SN (t:=12) rfl rfl (fun q=>by have q1:=q;(try simp at q1);exact I1 (AV DB (Bc rfl q) (Bc rfl q) (by first | omega | exact hk.1 | exact hk.2) (by first | omega | exact hk.1 | exact hk.2)))) ?_
 refine M3 15 12 rfl rfl rfl (fun q=>Aj Ij (Bc rfl q)) ?_
 refine Bh 16 rfl rfl (by kernel_rfl) (SN (t:=12) rfl rfl (fun q=>by have q1:=q;(try simp at q1);exact I1 (AG (Bc rfl q) DM .m0 (((AL.l0.comp AI.l2).comp (AQ.ar (n:=6) An.fl (by first | omega | exact hk))).comp An.l1) rfl rfl))) ?_
 refine Pf 17 rfl (BM rfl rfl (fun h=>h)) ?_
 refine Az (by kernel_rfl) ?_
 refine AB (.t3 0 1 24) ?_
 refine AA ?_
 refine Gc (fun c1=>?_) (fun c1=>?_)
 ·
  have c1p:=kz c1
  have hdl:=AF.Nj V.w (V.Ar.at k).Aq AH.Dd
  have hds:=AF.KZ (b:=(V.Ar.at k).Aq) (o:=AH.Dd) hF.Fz AH.Mb
  refine Au ?_
  refine BN (N:=18) [0,1,3,7,0,16,48,112,0,511,1023,2047,2047,2047,0,20479,57343,131071] mix (by kernel_rfl) rfl ?_
  refine Pf 0 rfl (AD rfl) (Pf 1 rfl (Ba rfl) (Pf 2 rfl (Aj EP rfl) (Pf 3 rfl (AU rfl Be .m0 AL.l0 rfl) (Pf 4 rfl (AD rfl) (Pf 5 rfl (Ba rfl) (Pf 6 rfl (Aj IU rfl) (Pf 7 rfl (AG rfl A5 .m0 ((AL.l1.comp (AQ.arr (n:=4) A2.fl hk.1 hk.2)).comp A2.l1) rfl rfl) ?_)))))))
  refine Pf 8 rfl (BL S3 Lp rfl (.cons Order.l0 rfl rfl rfl .nil)) ?_
  refine EV 9 14 rfl rfl (by kernel_rfl) ?_ ?_
  ·
   refine BB rfl Y8 (.c rfl (.c rfl (.c rfl .n))) .n (Gl V.w (V.Ar.at k).Aq AH.Dd hF.Fz.IK (Nat.zero_le _) (Nat.zero_le _)) (fun w hS=>⟨gl1.pull gm1 hS .n,gl2.pull gm2 hS .n,gl3.pull gm3 hS .n⟩) (fun v1 B hv=>?_)
   obtain⟨y2,rfl,y3,rfl⟩:=hv
   refine BH rfl ⟨?_,?_⟩
   · exact(Pk (Pk (Pk (Pk (Pk (Pk (Pk (Pk (Pk Ac)))))))))
   refine Pf 10 rfl (AD rfl) (Pf 11 rfl (AM rfl rfl) (Pf 12 rfl (AM rfl rfl) (Pf 13 rfl (AM rfl rfl) ?_)))
   refine Ab 14 rfl (by kernel_rfl) ?_
   refine A6 rfl NX rfl (fun b1=>?_)
   refine BH rfl ⟨?_,?_⟩
   · exact(Po rfl (AM rfl rfl) rfl rfl (Po rfl (AM rfl rfl) rfl rfl (Po rfl (AM rfl rfl) rfl rfl (Po rfl (AD rfl) rfl rfl (Po rfl (BL S3 Lp rfl (.cons Order.l0 rfl rfl rfl .nil)) rfl rfl (Po rfl (AG rfl A5 .m2 ((AL.l1.comp (AQ.arr (n:=4) A2.fl hk.1 hk.2)).comp A2.l1) rfl rfl) rfl rfl (Po rfl (Aj IU rfl) rfl rfl (Po rfl (Ba rfl) rfl rfl (Po rfl (AD rfl) rfl rfl (Po rfl (AU rfl Be .m2 AL.l0 rfl) rfl rfl (Po rfl (Aj EP rfl) rfl rfl (Po rfl (Ba rfl) rfl rfl (Po rfl (AD rfl) rfl rfl Ac)))))))))))))
   refine Ab 15 rfl (by kernel_rfl) ?_
   refine AO (AJ (AQ.id AI.fl.len AI.fl.one) rfl rfl rfl EE rfl .h) ?_
   refine A7 rfl ⟨?_,?_⟩
   · exact(Po rfl (AM rfl rfl) rfl rfl (Po rfl (AM rfl rfl) rfl rfl (Pk (Pk (Pk (Pk (Pk (Pk (Pk (Pk (Pk (Pk (Pk Ac)))))))))))))
   refine Pf 16 rfl (A1 rfl) (Pf 17 rfl (A1 rfl) ?_)
   refine Az (by kernel_rfl) ?_
   refine AB (.t4 0 1 4 5) ?_
   refine AA (Gs (Gm rfl (Gt (AU rfl Be .m0 (AQ.id AI.fl.len AI.fl.one) rfl) (Gt (Ba rfl) (Gt (Aj EP rfl) ?_)))))
   refine AO (AJ AL.l0 rfl rfl rfl EE rfl (.t (.t .h))) ?_
   refine Gn (.t3 0 1 5) (Au ?_)
   refine EL (.c (.t (.t .h)) (.c (.t (.t .h)) .n)) ?_
   refine FJ (k:=k) hk.1 hk.2 (fun sv sl hsv hlv hln=>?_)
   refine AK (Gm rfl (Gt (BL Vk Wf rfl .nil) (Gt (Ba rfl) ?_)))
   refine AO (AJ (AQ.A8 { V with w:=(AF.Dr V.w (V.Ar.at k).Aq AH.Dd).1 } hk.1 hk.2) rfl rfl rfl Tu rfl (.t (.t (.t .h)))) ?_
   refine Gn (.t3 0 1 5) ?_
   refine FE A9 9 1 ?_
   refine FE A9 9 1 ?_
   refine FE A9 9 1 ?_
   refine EL (.c (.t (.t .h)) (.c (.t .h) (.c .h (.c (.t (.t (.t .h))) (.c (.t (.t (.t .h))) .n))))) ?_
   refine HP hk.1 hk.2 (by rfl) (by rfl) (by rfl) ?_
   refine AK (Gm rfl (Gm rfl ?_))
   refine BB rfl WM (.c rfl (.c rfl .n)) (.c .h (.c .h (.c (.t (.t (.t (.t (.t .h))))) (.c (.t (.t (.t (.t .h)))) .n)))) (Ez _ (AL.A8 { V with w:=(AF.Dr V.w (V.Ar.at k).Aq AH.Dd).1 } k default) (ls.put k ⟨[],[],[]⟩) ev _ (AF.Dr V.w (V.Ar.at k).Aq AH.Dd).2.1 n (by assumption) (Gv (((hF.land hds.1).free hk.1 hk.2) |> fun h=>by rw [← Oa,← Iw hk.1 hk.2] at h;exact h)) (by omega) (Nat.le_trans hF.last (by omega)) (fun e he c _=>hds.2 e he)) (fun w hS=>⟨gl0.pull gm0 hS (.c .h (.c .h (.c (.t (.t (.t (.t (.t .h))))) (.c (.t (.t (.t (.t .h)))) .n)))),gl1.pull gm1 hS (.c .h (.c .h (.c (.t (.t (.t (.t (.t .h))))) (.c (.t (.t (.t (.t .h)))) .n))))⟩) (fun v8 B hv=>?_)
   obtain⟨y9,y10,y11,rfl,y12,rfl⟩:=hv
   refine Gn (.t1 1) ?_
   refine FJ (k:=k) hk.1 hk.2 (fun sv sl hsv hlv hln=>?_)
   refine AK (Gm rfl (Gt (BL Vk Wf rfl .nil) (Gt (Ba rfl) ?_)))
   refine AO (AJ (AQ.A8 y9 hk.1 hk.2) rfl rfl rfl Tu rfl (.t (.t (.t .h)))) ?_
   refine AT ?_
   refine Bo rfl .n ?_
   intro w1 hS
   have hS:=hS.Cr 9 1
   have hS:=hS.Cr 9 1
   have hS:=hS.Cr 9 1
   have hS:=(hS.perm (Ax.perm (.c (.t (.t .h)) (.c (.t .h) (.c .h (.c (.t (.t (.t .h))) (.c (.t (.t (.t .h))) (.c (.t (.t (.t .h))) .n)))))))).A3
   have hS:=St.close' (s:=default) (qs:= []) (ws:= []) (ts:= []) hk.1 hk.2 rfl rfl rfl hS
   refine⟨_,⟨_,_,_,rfl,?ga1,rfl⟩,hS⟩
   case ga1=>exact RQ hk.1 hk.2 c1 y12
  ·
   refine A6 rfl NX rfl (fun b2=>?_)
   refine BH rfl ⟨?_,?_⟩
   · exact(Po rfl (BL S3 Lp rfl (.cons Order.l0 rfl rfl rfl .nil)) rfl rfl (Po rfl (AG rfl A5 .m1 ((AL.l1.comp (AQ.arr (n:=4) A2.fl hk.1 hk.2)).comp A2.l1) rfl rfl) rfl rfl (Po rfl (Aj IU rfl) rfl rfl (Po rfl (Ba rfl) rfl rfl (Po rfl (AD rfl) rfl rfl (Po rfl (AU rfl Be .m1 AL.l0 rfl) rfl rfl (Po rfl (Aj EP rfl) rfl rfl (Po rfl (Ba rfl) rfl rfl (Po rfl (AD rfl) rfl rfl Ac)))))))))
   refine Ab 9 rfl (by kernel_rfl) ?_
   refine BB rfl Y8 (.c rfl (.c rfl (.c rfl .n))) .n (Gl V.w (V.Ar.at k).Aq AH.Dd hF.Fz.IK (Nat.zero_le _) (Nat.zero_le _)) (fun w hS=>⟨gl1.pull gm1 hS .n,gl2.pull gm2 hS .n,gl3.pull gm3 hS .n⟩) (fun v16 B hv=>?_)
   obtain⟨y17,rfl,y18,rfl⟩:=hv
   refine BH rfl ⟨?_,?_⟩
   · exact(Pk (Pk (Pk (Pk (Pk (Pk (Pk (Pk (Pk Ac)))))))))
   refine Pf 10 rfl (AD rfl) (Pf 11 rfl (AM rfl rfl) (Pf 12 rfl (AM rfl rfl) (Pf 13 rfl (AM rfl rfl) ?_)))
   refine Ab 15 rfl (by kernel_rfl) ?_
   refine AO (AJ (AQ.id AI.fl.len AI.fl.one) rfl rfl rfl EE rfl (.t .h)) ?_
   refine A7 rfl ⟨?_,?_⟩
   · exact(Po rfl (AM rfl rfl) rfl rfl (Po rfl (AM rfl rfl) rfl rfl (Pk (Pk (Pk (Pk (Pk (Pk (Pk (Pk (Pk (Pk (Pk Ac)))))))))))))
   refine Pf 16 rfl (A1 rfl) (Pf 17 rfl (A1 rfl) ?_)
   refine Az (by kernel_rfl) ?_
   refine AB (.t4 0 1 4 5) ?_
   refine AA (Gs (Gm rfl (Gt (AU rfl Be .m1 (AQ.id AI.fl.len AI.fl.one) rfl) (Gt (Ba rfl) (Gt (Aj EP rfl) ?_)))))
   refine AO (AJ AL.l0 rfl rfl rfl EE rfl (.t (.t .h))) ?_
   refine Gn (.t3 0 1 5) (Au ?_)
   refine EL (.c (.t (.t .h)) (.c (.t (.t .h)) .n)) ?_
   refine FJ (k:=k) hk.1 hk.2 (fun sv sl hsv hlv hln=>?_)
   refine AK (Gm rfl (Gt (BL Vk Wf rfl .nil) (Gt (Ba rfl) ?_)))
   refine AO (AJ (AQ.A8 { V with w:=(AF.Dr V.w (V.Ar.at k).Aq AH.Dd).1 } hk.1 hk.2) rfl rfl rfl Tu rfl (.t (.t (.t .h)))) ?_
   refine Gn (.t3 0 1 5) ?_
   refine FE A9 9 1 ?_
   refine FE A9 9 1 ?_
   refine FE A9 9 1 ?_
   refine EL (.c (.t (.t .h)) (.c (.t .h) (.c .h (.c (.t (.t (.t .h))) (.c (.t (.t (.t .h))) .n))))) ?_
   refine HP hk.1 hk.2 (by rfl) (by rfl) (by rfl) ?_
   refine AK (Gm rfl (Gm rfl ?_))
   refine BB rfl WM (.c rfl (.c rfl .n)) (.c .h (.c .h (.c (.t (.t (.t (.t (.t .h))))) (.c (.t (.t (.t .h))) .n)))) (Ez _ (AL.A8 { V with w:=(AF.Dr V.w (V.Ar.at k).Aq AH.Dd).1 } k default) (ls.put k ⟨[],[],[]⟩) ev _ (AF.Dr V.w (V.Ar.at k).Aq AH.Dd).2.1 n (by assumption) (Gv (((hF.land hds.1).free hk.1 hk.2) |> fun h=>by rw [← Oa,← Iw hk.1 hk.2] at h;exact h)) (by omega) (Nat.le_trans hF.last (by omega)) (fun e he c _=>hds.2 e he)) (fun w hS=>⟨gl0.pull gm0 hS (.c .h (.c .h (.c (.t (.t (.t (.t (.t .h))))) (.c (.t (.t (.t .h))) .n)))),gl1.pull gm1 hS (.c .h (.c .h (.c (.t (.t (.t (.t (.t .h))))) (.c (.t (.t (.t .h))) .n))))⟩) (fun v23 B hv=>?_)
   obtain⟨y24,y25,y26,rfl,y27,rfl⟩:=hv
   refine Gn (.t1 1) ?_
   refine FJ (k:=k) hk.1 hk.2 (fun sv sl hsv hlv hln=>?_)
   refine AK (Gm rfl (Gt (BL Vk Wf rfl .nil) (Gt (Ba rfl) ?_)))
   refine AO (AJ (AQ.A8 y24 hk.1 hk.2) rfl rfl rfl Tu rfl (.t (.t (.t .h)))) ?_
   refine AT ?_
   refine Bo rfl .n ?_
   intro w1 hS
   have hS:=hS.Cr 9 1
   have hS:=hS.Cr 9 1
   have hS:=hS.Cr 9 1
   have hS:=(hS.perm (Ax.perm (.c (.t (.t .h)) (.c (.t .h) (.c .h (.c (.t (.t (.t .h))) (.c (.t (.t (.t .h))) (.c (.t (.t (.t .h))) .n)))))))).A3
   have hS:=St.close' (s:=default) (qs:= []) (ws:= []) (ts:= []) hk.1 hk.2 rfl rfl rfl hS
   refine⟨_,⟨_,_,_,rfl,?ga2,rfl⟩,hS⟩
   case ga2=>exact RQ hk.1 hk.2 c1 y27
 refine Aa ?_
 refine AB (.t1 1) ?_
 refine AA ?_
 refine FJ (k:=k) hk.1 hk.2 (fun sv sl hsv hlv hln=>?_)
 refine AK (Gm rfl (Gt (BL Vk Wf rfl .nil) (Gt (Ba rfl) ?_)))
 refine AO (AJ (AQ.A8 V hk.1 hk.2) rfl rfl rfl Tu rfl (.t (.t (.t .h)))) ?_
 refine AT ?_
 refine Bo rfl .n ?_
 intro w1 hS
 have hS:=hS.Cr 9 1
 have hS:=hS.Cr 9 1
 have hS:=hS.Cr 9 1
 have hS:=(hS.perm (Ax.perm (.c (.t (.t .h)) (.c (.t .h) (.c .h (.c (.t (.t (.t .h))) (.c (.t (.t (.t .h))) (.c (.t (.t (.t .h))) .n)))))))).A3
 have hS:=St.close' (s:=default) (qs:= []) (ws:= []) (ts:= []) hk.1 hk.2 rfl rfl rfl hS
 refine⟨_,⟨_,_,_,rfl,?ga3,rfl⟩,hS⟩
 case ga3=>exact Ut hk.1 hk.2 c1
theorem Pw (b:Nat)(V:AL)(ls:Vector BI 4)(ev:List Ing.Event)(k:Int)(u:As)(n m:Nat)(hk:0≤k∧k < 4)(hF:AH.Fit (A4 V ls ev) n m)(hn:n≤900000)(hm:m≤900000)(hu:u.length≤1000):Fx Tryz.prog 95 #[.pointer (some ⟨b,0,none⟩), .pointer (some ⟨b,165+k.toNat * 22,none⟩),BW u] [Af.box b 101 (AL.enc V),Af.D0 (CJ 9 (AL.Ar V) ls),Af.own (AL.last V) 56 16 ((ev).flatMap Ing.Event.enc)] (fun w=>(GV 2 GO w∧2 ∉ Cp [Af.box b 101 (AL.enc V),Af.D0 (CJ 9 (AL.Ar V) ls),Af.own (AL.last V) 56 16 ((ev).flatMap Ing.Event.enc)])∧(GV 0 AI.DT w∧0 ∉ Cp [Af.box b 101 (AL.enc V),Af.D0 (CJ 9 (AL.Ar V) ls),Af.own (AL.last V) 56 16 ((ev).flatMap Ing.Event.enc)])∧(HI 7 w∧7 ∉ Cp [Af.box b 101 (AL.enc V),Af.D0 (CJ 9 (AL.Ar V) ls),Af.own (AL.last V) 56 16 ((ev).flatMap Ing.Event.enc)])∧(HI 8 w∧8 ∉ Cp [Af.box b 101 (AL.enc V),Af.D0 (CJ 9 (AL.Ar V) ls),Af.own (AL.last V) 56 16 ((ev).flatMap Ing.Event.enc)])) (fun v B=>∃ V' ls' ev',v = .tuple #[]∧A4 V' ls' ev'=AH.order (A4 V ls ev) k u∧B = [Af.box b 101 (AL.enc V'),Af.D0 (CJ 9 (AL.Ar V') ls'),Af.own (AL.last V') 56 16 ((ev').flatMap Ing.Event.enc)]):=by
 intro w hS0 hH
 obtain⟨⟨gl0,gm0⟩,⟨gl1,gm1⟩,⟨gl2,gm2⟩,⟨gl3,gm3⟩⟩:=hH
 have hps:=Words.KN u
 have hdl:=AF.Nj V.w (V.Ar.at k).Aq (Words.parse u).1
 have hds:=AF.KZ (b:=(V.Ar.at k).Aq) (o:=(Words.parse u).1) hF.Fz (by have:=hps.2.2;omega)
 have htn:=Gv hF
 refine Ao _ _ Tryz.func95 rfl rfl rfl (hS0) ?_
 refine Gs (Gm rfl ?_)
 refine BE rfl dA (.c rfl .n) (fun w hS=>MX u (by omega) w (gl1.stM gm1 hS) (gl2.stM gm2 hS) (gl3.stM gm3 hS)) ?_
 refine Gm rfl (Gt (AM rfl rfl) (Gt (AM rfl rfl) ?_))
 refine A6 rfl Lp rfl (fun b1=>?_)
 refine AO (AJ (AQ.id Order.fl.len Order.fl.one) rfl rfl rfl ED rfl .h) ?_
 refine Ga rfl (Gn (.t4 0 1 6 7) (CH (Gm rfl (Gt (Cb rfl rfl) (Gn (.t4 0 1 6 17) ?_)))))
 refine Gc (fun c1=>?_) (fun c1=>?_)
 ·
  have c1p:=kz c1
  refine Gs (Gm rfl (Gm rfl ?_))
  refine Ah rfl Te (.c rfl (.c rfl (.c rfl .n))) (.c (.t .h) (.c (.t .h) (.c (.t .h) .n))) (EM _ V ls ev k _ hk (Nat.le_trans (htn k hk.1 hk.2) (by omega))) (fun v1 B hv=>?_)
  obtain⟨y2,y3,y4,rfl,y5,rfl⟩:=hv
  refine Gn (.nil _) (Ae (AE ?_))
  refine AZ rfl .n ?_
  intro w1 hS
  have hS:=(hS.perm (Ax.perm (.c .h (.c .h (.c .h .n))))).A3
  refine⟨_,⟨y2,y3,y4,rfl,?ga1,rfl⟩,hS⟩
  case ga1=>exact y5.trans (if_pos c1).symm
 have c1p:=kz c1
 refine Aa ?_
 refine AB (.t3 0 1 6) ?_
 refine AA (CH (Gt (Aj DG rfl) (Gt (AG rfl A5 .m0 Order.l0 rfl rfl) (Gt (Ai rfl rfl) (Gn (.t4 0 1 6 23) ?_)))))
 refine Gc (fun c2=>?_) (fun c2=>?_)
 ·
  refine Gs (Gm rfl (Gm rfl ?_))
  refine BB rfl ay (.c rfl (.c rfl .n)) (.c (.t .h) (.c (.t .h) (.c (.t .h) .n))) (Ii _ V ls ev k n m hk hF hn hm) (fun w hS=>⟨gl0.pull gm0 hS (.c (.t .h) (.c (.t .h) (.c (.t .h) .n))),gl1.pull gm1 hS (.c (.t .h) (.c (.t .h) (.c (.t .h) .n))),gl2.pull gm2 hS (.c (.t .h) (.c (.t .h) (.c (.t .h) .n))),gl3.pull gm3 hS (.c (.t .h) (.c (.t .h) (.c (.t .h) .n)))⟩) (fun v6 B hv=>?_)
  obtain⟨y7,y8,y9,rfl,y10,rfl⟩:=hv
  refine Gn (.nil _) (Ae (AE ?_))
  refine AZ rfl .n ?_
  intro w1 hS
  have hS:=(hS.perm (Ax.perm (.c .h (.c .h (.c .h .n))))).A3
  refine⟨_,⟨y7,y8,y9,rfl,?ga2,rfl⟩,hS⟩
  case ga2=>exact y10.trans ((AX c1).trans (BJ c2)).symm
 have c2p:=kz c2
 refine Aa ?_
 refine AB (.t3 0 1 6) ?_
 refine AA (Au ?_)
 refine BN (N:=18) [0,1,3,7,0,16,48,112,0,511,1023,2047,2047,2047,0,20479,57343,131071] mix (by kernel_rfl) rfl ?_
 refine Pf 0 rfl (AD rfl) (Pf 1 rfl (Ba rfl) (Pf 2 rfl (Aj EP rfl) (Pf 3 rfl (AU rfl Be .m1 AL.l0 rfl) (Pf 4 rfl (AD rfl) (Pf 5 rfl (Ba rfl) (Pf 6 rfl (Aj IU rfl) (Pf 7 rfl (AG rfl A5 .m1 ((AL.l1.comp (AQ.arr (n:=4) A2.fl hk.1 hk.2)).comp A2.l1) rfl rfl) ?_)))))))
 refine Pf 8 rfl (AU rfl CB .m0 (AQ.id Order.fl.len Order.fl.one) rfl) ?_
 refine EV 9 14 rfl rfl (by kernel_rfl) ?_ ?_
 ·
  refine BB rfl Y8 (.c rfl (.c rfl (.c rfl .n))) .n (Gl V.w (V.Ar.at k).Aq (Words.parse u).1 hF.Fz.IK (by have:=hps.2.1;omega) (by have:=hps.1;omega)) (fun w hS=>⟨gl1.pull gm1 hS .n,gl2.pull gm2 hS .n,gl3.pull gm3 hS .n⟩) (fun v11 B hv=>?_)
  obtain⟨y12,rfl,y13,rfl⟩:=hv
  refine BH rfl ⟨?_,?_⟩
  · exact(Pk (Pk (Pk (Pk (Pk (Pk (Pk (Pk (Pk Ac)))))))))
  refine Pf 10 rfl (AD rfl) (Pf 11 rfl (AM rfl rfl) (Pf 12 rfl (AM rfl rfl) (Pf 13 rfl (AM rfl rfl) ?_)))
  refine Ab 14 rfl (by kernel_rfl) ?_
  refine A6 rfl NX rfl (fun b2=>?_)
  refine BH rfl ⟨?_,?_⟩
  · exact(Po rfl (AM rfl rfl) rfl rfl (Po rfl (AM rfl rfl) rfl rfl (Po rfl (AM rfl rfl) rfl rfl (Po rfl (AD rfl) rfl rfl (Po rfl (AU rfl CB .m2 (AQ.id Order.fl.len Order.fl.one) rfl) rfl rfl (Po rfl (AG rfl A5 .m3 ((AL.l1.comp (AQ.arr (n:=4) A2.fl hk.1 hk.2)).comp A2.l1) rfl rfl) rfl rfl (Po rfl (Aj IU rfl) rfl rfl (Po rfl (Ba rfl) rfl rfl (Po rfl (AD rfl) rfl rfl (Po rfl (AU rfl Be .m3 AL.l0 rfl) rfl rfl (Po rfl (Aj EP rfl) rfl rfl (Po rfl (Ba rfl) rfl rfl (Po rfl (AD rfl) rfl rfl Ac)))))))))))))
  refine Ab 15 rfl (by kernel_rfl) ?_
  refine AO (AJ (AQ.id AI.fl.len AI.fl.one) rfl rfl rfl EE rfl .h) ?_
  refine A7 rfl ⟨?_,?_⟩
  · exact(Po rfl (AM rfl rfl) rfl rfl (Po rfl (AM rfl rfl) rfl rfl (Pk (Pk (Pk (Pk (Pk (Pk (Pk (Pk (Pk (Pk (Pk Ac)))))))))))))
  refine Pf 16 rfl (A1 rfl) (Pf 17 rfl (A1 rfl) ?_)
  refine Az (by kernel_rfl) ?_
  refine AB (.t3 0 8 9) ?_
  refine AA (Gs (Gm rfl (Gt (AU rfl Be .m0 (AQ.id AI.fl.len AI.fl.one) rfl) (Gt (Ba rfl) (Gt (Aj EP rfl) ?_)))))
  refine AO (AJ AL.l0 rfl rfl rfl EE rfl (.t (.t (.t .h)))) ?_
  refine Gn (.t2 0 9) (AK (Gm rfl (Gm rfl ?_)))
  refine BB rfl WM (.c rfl (.c rfl .n)) (.c (.t (.t (.t .h))) (.c (.t (.t (.t .h))) (.c (.t (.t (.t .h))) (.c (.t .h) .n)))) (Ez _ { V with w:=(AF.Dr V.w (V.Ar.at k).Aq (Words.parse u).1).1 } ls ev _ (AF.Dr V.w (V.Ar.at k).Aq (Words.parse u).1).2.1 n (by assumption) htn (by omega) (Nat.le_trans hF.last (by omega)) (fun e he c _=>hds.2 e he)) (fun w hS=>⟨gl0.pull gm0 hS (.c (.t (.t (.t .h))) (.c (.t (.t (.t .h))) (.c (.t (.t (.t .h))) (.c (.t .h) .n)))),gl1.pull gm1 hS (.c (.t (.t (.t .h))) (.c (.t (.t (.t .h))) (.c (.t (.t (.t .h))) (.c (.t .h) .n))))⟩) (fun v15 B hv=>?_)
  obtain⟨y16,y17,y18,rfl,y19,rfl⟩:=hv
  refine AT ?_
  refine Bo rfl .n ?_
  intro w1 hS
  have hS:=(hS.perm (Ax.perm (.c .h (.c .h (.c .h .n))))).A3
  refine⟨_,⟨y16,y17,y18,rfl,?ga3,rfl⟩,hS⟩
  case ga3=>exact VD hk.1 hk.2 c1 c2 y19
 ·
  refine A6 rfl NX rfl (fun b3=>?_)
  refine BH rfl ⟨?_,?_⟩
  · exact(Po rfl (AU rfl CB .m1 (AQ.id Order.fl.len Order.fl.one) rfl) rfl rfl (Po rfl (AG rfl A5 .m2 ((AL.l1.comp (AQ.arr (n:=4) A2.fl hk.1 hk.2)).comp A2.l1) rfl rfl) rfl rfl (Po rfl (Aj IU rfl) rfl rfl (Po rfl (Ba rfl) rfl rfl (Po rfl (AD rfl) rfl rfl (Po rfl (AU rfl Be .m2 AL.l0 rfl) rfl rfl (Po rfl (Aj EP rfl) rfl rfl (Po rfl (Ba rfl) rfl rfl (Po rfl (AD rfl) rfl rfl Ac)))))))))
  refine Ab 9 rfl (by kernel_rfl) ?_
  refine BB rfl Y8 (.c rfl (.c rfl (.c rfl .n))) .n (Gl V.w (V.Ar.at k).Aq (Words.parse u).1 hF.Fz.IK (by have:=hps.2.1;omega) (by have:=hps.1;omega)) (fun w hS=>⟨gl1.pull gm1 hS .n,gl2.pull gm2 hS .n,gl3.pull gm3 hS .n⟩) (fun v20 B hv=>?_)
  obtain⟨y21,rfl,y22,rfl⟩:=hv
  refine BH rfl ⟨?_,?_⟩
  · exact(Pk (Pk (Pk (Pk (Pk (Pk (Pk (Pk (Pk Ac)))))))))
  refine Pf 10 rfl (AD rfl) (Pf 11 rfl (AM rfl rfl) (Pf 12 rfl (AM rfl rfl) (Pf 13 rfl (AM rfl rfl) ?_)))
  refine Ab 15 rfl (by kernel_rfl) ?_
  refine AO (AJ (AQ.id AI.fl.len AI.fl.one) rfl rfl rfl EE rfl (.t .h)) ?_
  refine A7 rfl ⟨?_,?_⟩
  · exact(Po rfl (AM rfl rfl) rfl rfl (Po rfl (AM rfl rfl) rfl rfl (Pk (Pk (Pk (Pk (Pk (Pk (Pk (Pk (Pk (Pk (Pk Ac)))))))))))))
  refine Pf 16 rfl (A1 rfl) (Pf 17 rfl (A1 rfl) ?_)
  refine Az (by kernel_rfl) ?_
  refine AB (.t3 0 8 9) ?_
  refine AA (Gs (Gm rfl (Gt (AU rfl Be .m1 (AQ.id AI.fl.len AI.fl.one) rfl) (Gt (Ba rfl) (Gt (Aj EP rfl) ?_)))))
  refine AO (AJ AL.l0 rfl rfl rfl EE rfl (.t (.t (.t .h)))) ?_
  refine Gn (.t2 0 9) (AK (Gm rfl (Gm rfl ?_)))
  refine BB rfl WM (.c rfl (.c rfl .n)) (.c (.t (.t (.t .h))) (.c (.t (.t (.t .h))) (.c (.t (.t (.t .h))) (.c .h .n)))) (Ez _ { V with w:=(AF.Dr V.w (V.Ar.at k).Aq (Words.parse u).1).1 } ls ev _ (AF.Dr V.w (V.Ar.at k).Aq (Words.parse u).1).2.1 n (by assumption) htn (by omega) (Nat.le_trans hF.last (by omega)) (fun e he c _=>hds.2 e he)) (fun w hS=>⟨gl0.pull gm0 hS (.c (.t (.t (.t .h))) (.c (.t (.t (.t .h))) (.c (.t (.t (.t .h))) (.c .h .n)))),gl1.pull gm1 hS (.c (.t (.t (.t .h))) (.c (.t (.t (.t .h))) (.c (.t (.t (.t .h))) (.c .h .n))))⟩) (fun v24 B hv=>?_)
  obtain⟨y25,y26,y27,rfl,y28,rfl⟩:=hv
  refine AT ?_
  refine Bo rfl .n ?_
  intro w1 hS
  have hS:=(hS.perm (Ax.perm (.c .h (.c .h (.c .h .n))))).A3
  refine⟨_,⟨y25,y26,y27,rfl,?ga4,rfl⟩,hS⟩
  case ga4=>exact VD hk.1 hk.2 c1 c2 y28
theorem Qk (b:Nat)(V:AL)(ls:Vector BI 4)(ev:List Ing.Event)(k:Int)(n m:Nat)(hk:0≤k∧k < 4)(hF:AH.Fit (A4 V ls ev) n m)(hn:n≤900000)(hm:m≤900000):Fx Tryz.prog 77 #[.pointer (some ⟨b,0,none⟩), .pointer (some ⟨b,165+k.toNat * 22,none⟩)] [Af.box b 101 (AL.enc V),Af.D0 (CJ 9 (AL.Ar V) ls),Af.own (AL.last V) 56 16 ((ev).flatMap Ing.Event.enc)] (fun w=>(GV 2 GO w∧2 ∉ Cp [Af.box b 101 (AL.enc V),Af.D0 (CJ 9 (AL.Ar V) ls),Af.own (AL.last V) 56 16 ((ev).flatMap Ing.Event.enc)])∧(GV 0 AI.DT w∧0 ∉ Cp [Af.box b 101 (AL.enc V),Af.D0 (CJ 9 (AL.Ar V) ls),Af.own (AL.last V) 56 16 ((ev).flatMap Ing.Event.enc)])∧(HI 7 w∧7 ∉ Cp [Af.box b 101 (AL.enc V),Af.D0 (CJ 9 (AL.Ar V) ls),Af.own (AL.last V) 56 16 ((ev).flatMap Ing.Event.enc)])∧(HI 8 w∧8 ∉ Cp [Af.box b 101 (AL.enc V),Af.D0 (CJ 9 (AL.Ar V) ls),Af.own (AL.last V) 56 16 ((ev).flatMap Ing.Event.enc)])) (fun v B=>∃ V' ls' ev',v = .tuple #[]∧A4 V' ls' ev'=AH.D5 (A4 V ls ev) k∧B = [Af.box b 101 (AL.enc V'),Af.D0 (CJ 9 (AL.Ar V') ls'),Af.own (AL.last V') 56 16 ((ev').flatMap Ing.Event.enc)]):=by
 intro w hS0 hH
 obtain⟨⟨gl0,gm0⟩,⟨gl1,gm1⟩,⟨gl2,gm2⟩,⟨gl3,gm3⟩⟩:=hH
 refine Ao _ _ Tryz.func77 rfl rfl rfl (hS0) ?_
 refine CH (Gm rfl (Gt (Ba rfl) (Gt (Aj JV rfl) (Gt (AG rfl A5 .m0 ((AL.l1.comp (AQ.arr (n:=4) A2.fl hk.1 hk.2)).comp A2.l0) rfl rfl) (Gt (Ai rfl rfl) (Gn (.t3 0 1 11) ?_))))))
 refine Gc (fun c1=>?_) (fun c1=>?_)
 ·
  refine Ae (AE ?_)
  refine AZ rfl .n ?_
  intro w1 hS
  have hS:=(hS.perm (Ax.perm (.c .h (.c .h (.c .h .n))))).A3
  exact⟨_,⟨V,ls,ev,rfl,Vy hk.1 hk.2 c1,rfl⟩,hS⟩
 have c1p:=kz c1
 refine Aa ?_
 refine AB (.t2 0 1) ?_
 refine AA (Gs (Ga rfl (Gn (.t2 0 1) (Gs (Ga rfl (Gn (.t2 0 1) (Au ?_)))))))
 refine Au ?_
 refine FJ (k:=k) hk.1 hk.2 (fun sv sl hsv hlv hln=>?_)
 refine AK (Gm rfl (Gm rfl (Gt (Ba rfl) (Gt (Aj LF rfl) (Gt (AU rfl IH .m3 ((AQ.A8 V hk.1 hk.2).comp A2.l3) rfl) ?_)))))
 refine BB rfl fD (.c rfl .n) .n (Nt _ _ (by have h:=(WS hF hk.1 hk.2).1;rw [hlv] at h;omega)) (fun w hS=>⟨(Kn.own .m0) w hS,(WY.own .m0) w hS⟩) (fun v1 B hv=>?_)
 rcases hv with ⟨y2,rfl,rfl⟩ | ⟨y3,y4,y5,y6,rfl,y7,rfl⟩
 ·
  refine Gm rfl (Gt (AM rfl rfl) (Gt (AM rfl rfl) (Gt (AM rfl rfl) (Gt (Ba rfl) (Gt (Aj LF rfl) ?_)))))
  refine AO (AJ ((AQ.A8 V hk.1 hk.2).comp A2.l3) rfl rfl rfl Mf rfl (.t (.t (.t .h)))) ?_
  refine Ga rfl (Ga rfl (Gn (.t4 0 1 4 5) (Gs (Gm rfl (Gt (BX rfl) (Gn (.t4 0 1 4 25) ?_))))))
  refine HG rfl rfl ?_
  refine Ae (AE ?_)
  refine AZ rfl .n ?_
  intro w1 hS
  have hS:=(hS.perm (Ax.perm (.c .h (.c .h (.c .h (.c .h (.c .h (.c .h .n)))))))).A3
  have hS:=hS.close' hk.1 hk.2 (by rfl) (by rfl) (by rfl)
  refine⟨_,⟨V.A8 k sv,ls.put k ⟨sl.queue,sl.wait,sl.told⟩,ev,rfl,?ga2,rfl⟩,hS⟩
  case ga2=>exact Wl hk.1 hk.2 hsv hlv y2 c1
 refine Gm rfl (Gt (AM rfl rfl) (Gt (AM rfl rfl) (Gt (AM rfl rfl) (Gt (Ba rfl) (Gt (Aj LF rfl) ?_)))))
 refine AO (AJ ((AQ.A8 V hk.1 hk.2).comp A2.l3) rfl rfl rfl Mf rfl (.t (.t (.t (.t .h))))) ?_
 refine Ga rfl (Ga rfl (Gn (.t4 0 1 4 5) (Gs (Gm rfl (Gt (BX rfl) (Gn (.t4 0 1 4 25) ?_))))))
 refine EK rfl rfl ?_
 refine Aa ?_
 refine AB (.t3 0 1 4) ?_
 refine AA (Gs (Gm rfl (Gt (Ba rfl) (Gt (Aj Dt rfl) (Gt (Aj M1 rfl) (Gt (AG rfl DM .m4 (((AQ.A8 V hk.1 hk.2).comp A2.l4).comp Aw.l2) rfl rfl) (Ga rfl ?_)))))))
 refine Gn (.t4 0 1 4 6) (Gs (Gm rfl (Gm rfl (Gt (Ba rfl) (Gt (Aj Dt rfl) (Gt (AU rfl Cv .m4 ((AQ.A8 V hk.1 hk.2).comp A2.l4) rfl) ?_))))))
 refine BE rfl fK (.c rfl .n) (fun w hS=>NZ _ w) ?_
 refine Gt (Ba rfl) (Gt (Aj Dt rfl) ?_)
 refine AO (AJ ((AQ.A8 V hk.1 hk.2).comp A2.l4) rfl rfl rfl Fb rfl (.t (.t (.t (.t .h))))) ?_
 refine Gn (.t4 0 1 4 6) (Ak (Au ?_))
 refine EL (.c .h (.c (.t .h) (.c (.t .h) (.c (.t .h) (.c (.t .h) .n))))) ?_
 refine HP hk.1 hk.2 (by rfl) (by rfl) (by rfl) ?_
 refine AK (Gm rfl (Ga rfl (Gn (.t4 0 1 4 43) ?_)))
 refine Gc (fun c2=>?_) (fun c2=>?_)
 ·
  refine Aa ?_
  refine AB (.nil _) ?_
  refine AW ?_
  refine Bo rfl .n ?_
  intro w1 hS
  have hS:=(hS.perm (Ax.perm (.c .h (.c .h (.c (.t .h) .n))))).A3
  exact⟨_,⟨(AL.A8 V k { sv with Dy:=⟨sv.Dy.now,sv.Dy.CL,sv.Dy.ret,y6⟩,out:=⟨sv.out.wait,0,false,sv.out.ring,sv.out.cut⟩ }),(ls.put k ⟨y4,sl.wait,sl.told⟩),ev,rfl,(Dl (ev:=ev) hk.1 hk.2 hsv hlv y5 c1 y6).1.trans ((Dl (ev:=ev) hk.1 hk.2 hsv hlv y5 c1 y6).2.2.trans (if_pos c2)).symm,rfl⟩,hS⟩
 have c2p:=kz c2
 refine Gs (Gm rfl (Gt (Ba rfl) (Gt (Aj JV rfl) (Gt (AG rfl A5 .m0 ((AL.l1.comp (AQ.arr (n:=4) A2.fl hk.1 hk.2)).comp A2.l0) rfl rfl) (Gt (Ai rfl rfl) (Ga rfl (Gn (.t4 0 1 4 45) ?_)))))))
 refine Gc (fun c3=>?_) (fun c3=>?_)
 ·
  have c3p:=kz c3
  refine AK (Gm rfl (Gm rfl (Gm rfl ?_)))
  refine BE rfl cg (.c rfl (.c rfl .n)) (fun w hS=>IB y3 (by have h:y3.length≤1000:=(by have h:=(hF.queue k hk.1 hk.2).2 y3 (by rw [(Dl (ev:=ev) hk.1 hk.2 hsv hlv y5 c1 y6).2.1];exact List.mem_cons_self ..);omega);omega) w) ?_
  refine BB rfl eF (.c rfl (.c rfl (.c rfl .n))) (.c .h (.c .h (.c (.t .h) .n))) (Ql _ (AL.A8 V k { sv with Dy:=⟨sv.Dy.now,sv.Dy.CL,sv.Dy.ret,y6⟩,out:=⟨sv.out.wait,0,false,sv.out.ring,sv.out.cut⟩ }) (ls.put k ⟨y4,sl.wait,sl.told⟩) ev k _ n m hk (by rw [(Dl (ev:=ev) hk.1 hk.2 hsv hlv y5 c1 y6).1];exact hF.EU hk.1 hk.2 (Dl (ev:=ev) hk.1 hk.2 hsv hlv y5 c1 y6).2.1) hn hm (by have h:y3.length≤1000:=(by have h:=(hF.queue k hk.1 hk.2).2 y3 (by rw [(Dl (ev:=ev) hk.1 hk.2 hsv hlv y5 c1 y6).2.1];exact List.mem_cons_self ..);omega);have h1:=Words.Lw 32 (Words.Rn 32 y3);have h2:=Words.RJ 32 y3;omega)) (fun w hS=>⟨gl0.pull gm0 hS (.c .h (.c .h (.c (.t .h) .n))),gl1.pull gm1 hS (.c .h (.c .h (.c (.t .h) .n)))⟩) (fun v9 B hv=>?_)
  obtain⟨y10,y11,y12,rfl,y13,rfl⟩:=hv
  refine AT (AB (.nil _) ?_)
  refine AW ?_
  refine Bo rfl .n ?_
  intro w1 hS
  have hS:=(hS.perm (Ax.perm (.c .h (.c .h (.c .h .n))))).A3
  have c9:decide (sv.state=1)=true:=by
    have h:=c3
    rw [show(AL.Ar (AL.A8 V k { sv with Dy:=⟨sv.Dy.now,sv.Dy.CL,sv.Dy.ret,y6⟩,out:=⟨sv.out.wait,0,false,sv.out.ring,sv.out.cut⟩ })).at k=_ from Vector.CG hk.1 hk.2] at h
    exact h
  refine⟨_,⟨y10,y11,y12,rfl,?ga4,rfl⟩,hS⟩
  case ga4=>exact y13.trans ((congrArg (fun X=>AH.named X k _) (Dl (ev:=ev) hk.1 hk.2 hsv hlv y5 c1 y6).1).trans ((Dl (ev:=ev) hk.1 hk.2 hsv hlv y5 c1 y6).2.2.trans ((AX c2).trans (BJ c9))).symm)
 have c3p:=kz c3
 refine AK (Gm rfl (Gm rfl (Gm rfl ?_)))
 refine BB rfl eX (.c rfl (.c rfl (.c rfl .n))) (.c .h (.c .h (.c (.t .h) .n))) (Pw _ (AL.A8 V k { sv with Dy:=⟨sv.Dy.now,sv.Dy.CL,sv.Dy.ret,y6⟩,out:=⟨sv.out.wait,0,false,sv.out.ring,sv.out.cut⟩ }) (ls.put k ⟨y4,sl.wait,sl.told⟩) ev k _ n m hk (by rw [(Dl (ev:=ev) hk.1 hk.2 hsv hlv y5 c1 y6).1];exact hF.EU hk.1 hk.2 (Dl (ev:=ev) hk.1 hk.2 hsv hlv y5 c1 y6).2.1) hn hm (by have h:=(hF.queue k hk.1 hk.2).2 y3 (by rw [(Dl (ev:=ev) hk.1 hk.2 hsv hlv y5 c1 y6).2.1];exact List.mem_cons_self ..);omega)) (fun w hS=>⟨gl0.pull gm0 hS (.c .h (.c .h (.c (.t .h) .n))),gl1.pull gm1 hS (.c .h (.c .h (.c (.t .h) .n))),gl2.pull gm2 hS (.c .h (.c .h (.c (.t .h) .n))),gl3.pull gm3 hS (.c .h (.c .h (.c (.t .h) .n)))⟩) (fun v14 B hv=>?_)
 obtain⟨y15,y16,y17,rfl,y18,rfl⟩:=hv
 refine AT (AB (.nil _) ?_)
 refine AW ?_
 refine Bo rfl .n ?_
 intro w1 hS
 have hS:=(hS.perm (Ax.perm (.c .h (.c .h (.c .h .n))))).A3
 have c9:decide (sv.state=1)=false:=by
   have h:=c3
   rw [show(AL.Ar (AL.A8 V k { sv with Dy:=⟨sv.Dy.now,sv.Dy.CL,sv.Dy.ret,y6⟩,out:=⟨sv.out.wait,0,false,sv.out.ring,sv.out.cut⟩ })).at k=_ from Vector.CG hk.1 hk.2] at h
   exact h
 refine⟨_,⟨y15,y16,y17,rfl,?ga5,rfl⟩,hS⟩
 case ga5=>exact y18.trans ((congrArg (fun X=>AH.order X k _) (Dl (ev:=ev) hk.1 hk.2 hsv hlv y5 c1 y6).1).trans ((Dl (ev:=ev) hk.1 hk.2 hsv hlv y5 c1 y6).2.2.trans ((AX c2).trans (AX c9))).symm)
theorem O2 (X:AI)(b:Int)(hF:(AF.Fc X b).Fit):Fx Tryz.prog 97 #[.agg X.enc.toArray, .int .i64 b] [] (fun w=>(GV 0 AI.DT w∧0 ∉ Cp [])) (fun v B=>∃ h:Hd,v = .tuple #[.agg ((AF.H5 X b).w.enc).toArray,h.val]∧h.len=(AF.H5 X b).out.length∧B = [Af.own h 56 16 ((AF.H5 X b).out.flatMap Ing.Event.enc)]):=by
 intro w hS0 hH
 obtain⟨gl0,gm0⟩:=hH
 have hb:0≤b∧b < 6:=hF.b
 refine Ao _ _ Tryz.func97 rfl rfl rfl (hS0) ?_
 refine Gs ?_
 refine B4 rfl rfl rfl (fun b1=>?_)
 refine A6 rfl NX rfl (fun b2=>?_)
 refine Ga rfl (Gn (.t3 1 2 4) (Gs (Gt (AU rfl Be .m1 (AQ.id AI.fl.len AI.fl.one) rfl) (Gm rfl (Gt (BL VK Uh rfl (.cons Ag.l0 rfl rfl rfl (.cons Ag.l1 rfl rfl rfl .nil))) ?_)))))
 refine B4 rfl rfl rfl (fun b3=>?_)
 refine Ga rfl (Gn (.t3 1 4 6) (Gs (Gm rfl (Gm rfl (Gt (Ba rfl) (Gt (Aj BD rfl) (Gt (Aj Br rfl) ?_)))))))
 refine Gt (AV DB rfl rfl (by first | omega | exact hb.1 | exact hb.2 | (dsimp only;omega)) (by first | omega | exact hb.1 | exact hb.2 | (dsimp only;omega))) ?_
 refine Gt (Aj KJ rfl) ?_
 refine AO (AJ (((Ag.l0.comp AI.l2).comp (AQ.ar (n:=6) An.fl (by first | omega | exact hb | (dsimp only;omega)))).comp An.l4) rfl rfl rfl DJ rfl .h) ?_
 refine Gn (.t3 1 4 6) (Gs (Gm rfl ?_))
 refine Df Ing.Event.enc 56 16 ?_
 refine Ah rfl VH (.c rfl (.c rfl .n)) (.c (.t .h) (.c .h .n)) (Gi _ (AF.Fc X b) _ 15 rfl hb (Nat.zero_le _)) (fun v2 B hv=>?_)
 obtain⟨y3,rfl,y4,rfl⟩:=hv
 refine Gn (.t3 1 4 6) (Gs (Gm rfl ?_))
 refine Ah rfl aF (.c rfl .n) (.c .h .n) (MM _ ((AF.Fc X b).kind 15) _ (hF.Em rfl rfl)) (fun v5 B hv=>?_)
 obtain⟨y6,y7,rfl,rfl⟩:=hv
 refine Gn (.t3 1 4 6) (CH (Gm rfl (Gt (BC rfl rfl) (Gn (.t4 1 4 6 24) ?_))))
 refine Gc (fun c1=>?_) (fun c1=>?_)
 ·
  have c1p:=kz c1
  refine Gs (Gm rfl (Gm rfl (Gt (BL Yn L0 rfl .nil) (Gt (Ba rfl) (Gt (Aj BD rfl) (Gt (Aj Br rfl) ?_))))))
  refine Gt (AV DB rfl rfl (by first | omega | exact hb.1 | exact hb.2 | (dsimp only;omega)) (by first | omega | exact hb.1 | exact hb.2 | (dsimp only;omega))) ?_
  refine AO (AJ ((Ag.l0.comp AI.l2).comp (AQ.ar (n:=6) An.fl (by first | omega | exact hb | (dsimp only;omega)))) rfl rfl rfl Kr rfl .h) ?_
  refine Gn (.t2 4 6) (Au ?_)
  refine BN (N:=10) [0,1,3,7,0,16,48,112,15,511] mix (by kernel_rfl) rfl ?_
  refine Pf 0 rfl (AD rfl) (Pf 1 rfl (Ba rfl) (Pf 2 rfl (Aj BD rfl) (Pf 3 rfl (AU rfl Be .m0 Ag.l0 rfl) (Pf 4 rfl (AD rfl) (Pf 5 rfl (Ba rfl) (Pf 6 rfl (Aj CP rfl) (Pf 7 rfl (AG rfl Ds .m0 Ag.l2 rfl rfl) ?_)))))))
  refine Ab 8 rfl (by kernel_rfl) ?_
  refine AO (AJ (AQ.id AI.fl.len AI.fl.one) rfl rfl rfl EE rfl (.t (.t .h))) ?_
  refine A7 rfl ⟨?_,?_⟩
  · exact(Po rfl (AG rfl Ds .m0 Ag.l2 rfl rfl) rfl rfl (Po rfl (Aj CP rfl) rfl rfl (Po rfl (Ba rfl) rfl rfl (Po rfl (AD rfl) rfl rfl (Pk (Pk (Pk (Pk Ac))))))))
  refine Pf 9 rfl (A1 rfl) ?_
  refine Az (by kernel_rfl) ?_
  refine AB (.t2 4 5) ?_
  refine AA (Ae (AE ?_))
  refine AZ rfl (.cell rfl .m2 (.inl ⟨(by rw [AI.fl.len];exact Be),rfl⟩) (.tmp rfl .n)) ?_
  intro w1 hS
  have hS:=(hS.perm (Ax.perm (.c (.t .h) .n))).A3
  have hq:AF.H5 X b=_:=BJ c1
  rw [AF.VG y7] at hq
  refine⟨_,⟨y3,?hv,?hl,?hB⟩,hS⟩
  case hv=>rw [hq];rfl
  case hl=>rw [hq];exact y4
  case hB=>rw [hq]
 have c1p:=kz c1
 refine Aa ?_
 refine AB (.t3 1 4 6) ?_
 refine AA (Gs (Gm rfl (Gm rfl (Gt (Ba rfl) (Gt (Aj BD rfl) (Gt (Aj Br rfl) ?_))))))
 refine Gt (AV DB rfl rfl (by first | omega | exact hb.1 | exact hb.2 | (dsimp only;omega)) (by first | omega | exact hb.1 | exact hb.2 | (dsimp only;omega))) ?_
 refine Ga rfl (Gn (.t3 4 6 7) (Gs (Gm rfl (Gm rfl (Gt (Ba rfl) (Gt (Aj C9 rfl) ?_))))))
 refine AO (AJ (((Ag.l0.comp AI.l2).comp (AQ.ar (n:=6) An.fl (by first | omega | exact hb | (dsimp only;omega)))).comp An.l3) rfl rfl rfl DJ rfl .h) ?_
 refine Gt (Ba rfl) (Gt (Aj KJ rfl) ?_)
 refine AO (AJ (((Ag.l0.comp AI.l2).comp (AQ.ar (n:=6) An.fl (by first | omega | exact hb | (dsimp only;omega)))).comp An.l4) rfl rfl rfl DJ rfl .h) ?_
 refine Gn (.t2 4 6) (Au ?_)
 refine GR (fun _=> .h) (congrArg (fun q=>Ag.enc ⟨q,b,y3⟩) (AF.Zh y6 hb)) ?_
 have hT2:=AF.Yy y7
 have hf2:=AF.S2 hF
 rw [hT2] at hf2
 refine AK (Gm rfl ?_)
 refine Ah rfl VH (.c rfl (.c rfl .n)) (.c .h (.c .h .n)) (Gi _ (⟨y6.C7 b { y6.AN.at b with room:=0,BP:=10 },b,((AF.Fc X b).kind 15).out⟩:AF) _ 17 y4 hb (by decide:(0:Nat)+1≤100000)) (fun v8 B hv=>?_)
 obtain⟨y9,rfl,y10,rfl⟩:=hv
 refine Gn (.t2 4 6) (Gs (Gm rfl ?_))
 refine BB rfl VB (.c rfl .n) (.c .h (.c .h .n)) (HL _ ((⟨y6.C7 b { y6.AN.at b with room:=0,BP:=10 },b,((AF.Fc X b).kind 15).out⟩:AF).kind 17) _ y10 hb hf2.br (by decide:(0:Nat)+1+1≤90000)) (fun w hS=>gl0.pull gm0 hS (.c .h (.c .h .n))) (fun v11 B hv=>?_)
 obtain⟨y12,rfl,y13,rfl⟩:=hv
 refine Gn (.t2 4 6) (Au ?_)
 refine BN (N:=10) [0,1,3,7,0,16,48,112,15,511] mix (by kernel_rfl) rfl ?_
 refine Pf 0 rfl (AD rfl) (Pf 1 rfl (Ba rfl) (Pf 2 rfl (Aj BD rfl) (Pf 3 rfl (AU rfl Be .m0 Ag.l0 rfl) (Pf 4 rfl (AD rfl) (Pf 5 rfl (Ba rfl) (Pf 6 rfl (Aj CP rfl) (Pf 7 rfl (AG rfl Ds .m0 Ag.l2 rfl rfl) ?_)))))))
 refine Ab 8 rfl (by kernel_rfl) ?_
 refine AO (AJ (AQ.id AI.fl.len AI.fl.one) rfl rfl rfl EE rfl (.t (.t .h))) ?_
 refine A7 rfl ⟨?_,?_⟩
 · exact(Po rfl (AG rfl Ds .m0 Ag.l2 rfl rfl) rfl rfl (Po rfl (Aj CP rfl) rfl rfl (Po rfl (Ba rfl) rfl rfl (Po rfl (AD rfl) rfl rfl (Pk (Pk (Pk (Pk Ac))))))))
 refine Pf 9 rfl (A1 rfl) ?_
 refine Az (by kernel_rfl) ?_
 refine AB (.t2 4 5) ?_
 refine AA (Ae ?_)
 refine AZ rfl (.cell rfl .m2 (.inl ⟨(by rw [AI.fl.len];exact Be),rfl⟩) (.tmp rfl .n)) ?_
 intro w1 hS
 have hS:=(hS.perm (Ax.perm (.c (.t .h) .n))).A3
 have hq:AF.H5 X b=_:=AX c1
 rw [hT2] at hq
 refine⟨_,⟨y12,?hv,?hl,?hB⟩,hS⟩
 case hv=>rw [hq];rfl
 case hl=>rw [hq];exact y13
 case hB=>rw [hq]
end Go.Proofs.YtoidpggbbfncpaaGreatDoor

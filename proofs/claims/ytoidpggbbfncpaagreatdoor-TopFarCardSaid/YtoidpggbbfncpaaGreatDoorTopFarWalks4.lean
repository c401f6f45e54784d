/- What the functions that the law TopFar reaches compute: walks, part 4. No condition. -/
import Derived.Test.YtoidpggbbfncpaaGreatDoorCards
import Derived.Test.YtoidpggbbfncpaaGreatDoorTie
import Derived.Deep.DeepHandedRow
import Derived.Test.YtoidpggbbfncpaaGreatDoorRows
import Derived.Test.YtoidpggbbfncpaaGreatDoorTopFarEc3
import Derived.Test.YtoidpggbbfncpaaGreatDoorTopFarRa1
import Derived.Test.YtoidpggbbfncpaaGreatDoorTopFarRb1
import Derived.Test.YtoidpggbbfncpaaGreatDoorTopFarRc1
import Derived.Test.YtoidpggbbfncpaaGreatDoorTopFarWalks
import Derived.Test.YtoidpggbbfncpaaGreatDoorTopFarWalks2
import Derived.Test.YtoidpggbbfncpaaGreatDoorTopFarWalks3
set_option linter.unusedSimpArgs false
set_option linter.unusedVariables false
set_option maxRecDepth 100000
set_option maxHeartbeats 1000000
namespace Go.Proofs.YtoidpggbbfncpaaGreatDoor
open Go Go.Ing Go.RowKit Go.ChangeShapes Go.WideShapes Go.ChangeAt
theorem MZ (X:AH)(i box:Int)(w:World):Ed Tryz.prog 137 #[.agg X.enc.toArray, .int .i64 i, .int .i64 box] w fun v w'=>v = .bool (X.Tn i box)∧CA w w':=by
 refine Ak [] [] Tryz.func137 rfl rfl rfl (St.start w []) ?_
 refine Gs ?_
 refine B6 rfl rfl rfl (fun b1=>?_)
 refine Ga rfl (Gn (.t3 1 2 3) (CG (Gm rfl (AQ (AA (Ae ?_))))))
 refine Bn (.t4 1 7 2 3) ?_
 refine Gg (fun(k:Int) (j:Int)=>0≤k∧k≤10∧X.Tn i box=X.inside box (10 - k).toNat j) (fun(k:Int) (j:Int)=>(10 - k).toNat) (fun(k:Int) (j:Int)=> [(1, .int .i64 j),(7, .int .i64 k)]) (fun(k:Int) (j:Int)=> []) (0) (i) ?_ rfl rfl (fun k j hI1=>?_)
 · exact⟨Int.le_refl _,by omega,rfl⟩
 obtain⟨hI11,hI12,hI13⟩:=hI1
 refine Gs (Gt (A7 rfl rfl) (AQ (AA (Ao ?_))))
 refine Gc (fun c1=>?_) (fun c1=>?_)
 ·
  have c1p:=kz c1
  rw [show(10 - k).toNat=(10 - (k+1)).toNat+1 from by omega,AH.inside] at hI13
  refine Aa ?_
  refine AB (.t4 1 2 3 7) ?_
  refine AA (Ao (Ae (CG (Gm rfl (Gm rfl (Gt (Af rfl rfl) (Gn (.t5 1 2 3 7 11) ?_)))))))
  refine Gc (fun c2=>?_) (fun c2=>?_)
  ·
   refine Gs (Ga rfl (Gn (.t1 6) (Ac (AD (AS (AD (AD ?_)))))))
   refine AS (AD ?_)
   refine AY rfl (.tmp rfl .n) ?_
   intro w1 hS;refine⟨congrArg Value.bool ?_,hS.Am⟩;rw [hI13];simp only [c1,c2,↓reduceIte,Bool.false_eq_true]
  have c2p:=kz c2
  refine Aa ?_
  refine AB (.t4 1 2 3 7) ?_
  refine AA (CG (Gm rfl (Gt (A7 rfl rfl) (Gm rfl (Bg 14 rfl rfl (fun q=>AF rfl) (Bg 14 rfl rfl (fun q=>CK (cF rfl q) rfl) ?_))))))
  refine Gt (BS rfl rfl (fun h=>by rw [h];rfl)) ?_
  refine Gm rfl (Bg 18 rfl rfl (fun q=>AF rfl) (Bg 18 rfl rfl (fun q=>Ai Cz rfl) ?_))
  refine Bg 18 rfl rfl (fun q=>by have q1:=q;(try simp at q1);exact AR F7 (cF rfl q) (cF rfl q) (by omega) (by omega)) ?_
  refine Bg 18 rfl rfl (fun q=>Ai FV (cF rfl q)) ?_
  refine Bg 18 rfl rfl (fun q=>by have q1:=q;(try simp at q1);exact AG (cF rfl q) A2 .m0 ((AH.l1.comp (AU.ar (n:=9) Al.fl (by omega))).comp Al.l2) rfl rfl) ?_
  refine Bg 18 rfl rfl (fun q=>Cb (cF rfl q) rfl) ?_
  refine Gt (BS rfl rfl (fun h=>by rw [h];rfl)) ?_
  refine Gn (.t5 1 2 3 7 25) ?_
  refine Gc (fun c3=>?_) (fun c3=>?_)
  ·
   refine Gs (Ga rfl (Gn (.t1 6) (Ac (AD (AS (AD (AD ?_)))))))
   refine AS (AD ?_)
   refine AY rfl (.tmp rfl .n) ?_
   intro w1 hS;refine⟨congrArg Value.bool ?_,hS.Am⟩;rw [hI13];simp only [c1,c2,c3,↓reduceIte,Bool.false_eq_true]
  have c3p:=kz c3
  have h9:0≤j∧j < 9:=by simp at c3;omega
  refine Aa ?_
  refine AB (.t4 1 2 3 7) ?_
  refine AA (AJ (Gm rfl (Gt (Ai Cz rfl) ?_)))
  refine Gt (AR F7 rfl rfl (by omega) (by omega)) ?_
  refine Gt (Ai DK rfl) ?_
  refine Gt (AG rfl A2 .m0 ((AH.l1.comp (AU.ar (n:=9) Al.fl (by omega))).comp Al.l3) rfl rfl) ?_
  refine Ga rfl ?_
  refine AQ (AB (.t4 1 2 3 7) ?_)
  refine AV (AA (AJ ?_))
  refine Gt (Av rfl rfl (IntWalk.i64_in _ (by omega))) ?_
  refine Gm rfl ?_
  refine AQ (AB (.t4 1 2 3 7) ?_)
  refine DO (k+1) ((X.AO.at j).at_) ?_ ?_ (.t4 1 7 2 3) (.refl _)
  · exact⟨by omega,by omega,by rw [hI13];simp only [c1,c2,c3,↓reduceIte,Bool.false_eq_true]⟩
  · omega
 have c1p:=kz c1
 obtain rfl:k=10:=by omega
 refine Bb (AW (AW (Ag ?_)))
 refine AB (.nil _) ?_
 refine AA (Gs (Ga rfl (AQ (AA (Ac ?_)))))
 refine AY rfl (.tmp rfl .n) ?_
 intro w1 hS;refine⟨congrArg Value.bool ?_,hS.Am⟩;rw [hI13];rfl
theorem Ry (b:Nat)(T:AE)(g:Hd)(o:Order)(hg:g.len=T.out.length)(hF:T.Fit)(hv:o.verb=8∨o.verb=9∨o.verb=10)(hu:o.second.length≤5000000)(hn:T.out.length≤90000):FU Tryz.prog 106 #[.pointer (some ⟨b,0,none⟩), .agg o.enc.toArray] [Ab.box b 163 (Ad.enc ⟨T.w,T.b,g⟩),Ab.own g 56 16 (T.out.flatMap Ing.Event.enc)] (fun w=>(Gu 7 w∧7 ∉ Cg [Ab.box b 163 (Ad.enc ⟨T.w,T.b,g⟩),Ab.own g 56 16 (T.out.flatMap Ing.Event.enc)])∧(Gu 8 w∧8 ∉ Cg [Ab.box b 163 (Ad.enc ⟨T.w,T.b,g⟩),Ab.own g 56 16 (T.out.flatMap Ing.Event.enc)])) (fun v B=>∃ g':Hd,v = .tuple #[]∧g'.len=(T.FD o).out.length∧B = [Ab.box b 163 (Ad.enc ⟨(T.FD o).w,(T.FD o).b,g'⟩),Ab.own g' 56 16 ((T.FD o).out.flatMap Ing.Event.enc)]):=by
 intro w hS0 hH
 obtain⟨⟨gl0,gm0⟩,⟨gl1,gm1⟩⟩:=hH
 have hb:=hF.b
 have hr:=hF.room
 refine Ak _ _ Tryz.func106 rfl rfl rfl (hS0) ?_
 refine Gs ?_
 refine B6 rfl rfl rfl (fun b1=>?_)
 refine Gn (.t2 0 3) (Gs (Ga rfl (Ga rfl (AQ (AA ?_)))))
 refine Ba (.t (.t .h)) ?_
 refine Ba (.t (.t .h)) ?_
 refine Yr (Lm:= [_,_]) (fun(X:AE) (to:Int) (p:Bool) (j:Hd)=>X=(T.Cv o).1∧to=(T.Cv o).2.1∧p=(T.Cv o).2.2∧j.len=X.out.length) (fun(X:AE) (to:Int) (p:Bool) (j:Hd)=> [(4, .int .i64 to),(5, .bool p)]) (fun(X:AE) (to:Int) (p:Bool) (j:Hd)=> [Ab.box b 163 (Ad.enc ⟨X.w,X.b,j⟩),Ab.own j 56 16 (X.out.flatMap Ing.Event.enc)]) (.t2 0 3) rfl ?_ (fun X to p j hC=>?_)
 ·
  refine Gs (Gt (Ai DF rfl) (Gt (AG rfl A2 .m2 Order.l0 rfl rfl) (Gn (.t5 0 3 4 5 11) (Ae (Gs (Gt (Af rfl rfl) (Ga rfl ?_)))))))
  refine Gn (.t6 0 3 4 5 11 12) ?_
  refine Gc (fun c1=>?_) (fun c1=>?_)
  ·
   have c1p:=kz c1
   refine AJ (Gm rfl (Gt (Ai IC rfl) (Gt (AG rfl CX .m2 Order.l4 rfl rfl) ?_)))
   refine BF rfl Zc (.c rfl (.c rfl .n)) (.c .h (.c .h .n)) (M3 _ T _ _ hg hF hu (by omega)) (fun w hS=>⟨gl0.pull gm0 hS (.c .h (.c .h .n)),gl1.pull gm1 hS (.c .h (.c .h .n))⟩) (fun v1 B hv=>?_)
   obtain⟨y2,rfl,y3,rfl⟩:=hv
   refine Gm rfl (Gt (AN rfl rfl) (Gt (AN rfl rfl) (Ga rfl (Ga rfl ?_))))
   refine AQ (AB (.t4 0 3 4 5) ?_)
   refine AV ?_
   refine Q2 _ _ _ _ ?_ (.t4 4 5 0 3) (.refl _)
   · have ht:T.Cv o=_:=BB c1
     exact⟨by rw [ht],by rw [ht],by rw [ht],by assumption⟩
  have c1p:=kz c1
  refine Gs (Gt (Af rfl rfl) (Ga rfl (Gn (.t5 0 3 4 5 21) ?_)))
  refine Gc (fun c2=>?_) (fun c2=>?_)
  ·
   have c2p:=kz c2
   refine AJ (Gm rfl (Gt (Ai IC rfl) (Gt (AG rfl CX .m2 Order.l4 rfl rfl) ?_)))
   refine BF rfl ZP (.c rfl (.c rfl .n)) (.c .h (.c .h .n)) (Im _ T _ _ hg hF hu (by omega)) (fun w hS=>⟨gl0.pull gm0 hS (.c .h (.c .h .n)),gl1.pull gm1 hS (.c .h (.c .h .n))⟩) (fun v4 B hv=>?_)
   obtain⟨y5,rfl,y6,rfl⟩:=hv
   refine Gm rfl (Gt (AN rfl rfl) (Gt (AN rfl rfl) (Ga rfl (Ga rfl ?_))))
   refine AQ (AB (.t4 0 3 4 5) ?_)
   refine AV ?_
   refine Q2 _ _ _ _ ?_ (.t4 4 5 0 3) (.refl _)
   · have ht:T.Cv o=_:=(AX c1).trans (BB c2)
     exact⟨by rw [ht],by rw [ht],by rw [ht],by assumption⟩
  have c2p:=kz c2
  refine Aa ?_
  refine AB (.t4 0 3 4 5) ?_
  refine AV ?_
  refine Q2 _ _ _ _ ?_ (.t4 4 5 0 3) (.refl _)
  · have ht:T.Cv o=_:=(AX c1).trans (AX c2)
    exact⟨by rw [ht],by rw [ht],by rw [ht],by assumption⟩
 obtain⟨hD1,hD2,hD3,hD4⟩:=hC
 have hXw:=T.Uw o
 have hXo:X.out.length≤T.out.length+1:=by rw [hD1];exact T.P0 o
 rw [← hD1] at hXw
 have hXF:X.Fit:=hF.Ee hXw.1 hXw.2
 have hPl:((AE.BP X.w X.own o.nth o.name o.Bj)).length≤9:=AE.Ss.2.2
 refine CG (Gm rfl (Gt (BT rfl) (Gn (.t4 0 3 4 31) ?_)))
 refine Gc (fun c3=>?_) (fun c3=>?_)
 ·
  refine Ac (AD ?_)
  refine AY rfl .n ?_
  intro w1 hS
  have hS:=(hS.perm (Ax.perm (.c .h (.c .h .n)))).A1
  have hq:T.FD o=X:=AE.Vu hD1 hD3 c3
  refine⟨_,⟨?gq1,rfl,?hl1,?hB1⟩,hS⟩
  case hB1=>rw [hq];(try rfl)
  case hl1=>rw [hq];exact hD4
 have c3p:=kz c3
 obtain⟨hgo,hn0,hn9,hok⟩:=AE.TJ hD1 hD2 hD3 c3
 refine Aa ?_
 refine AB (.t3 0 3 4) ?_
 refine AA (Ao ?_)
 refine BE (N:=11) [0,0,2,0,8,0,32,0,128,511,1023] mix (by kernel_rfl) rfl ?_
 refine Pf 0 rfl (AF rfl) (Pf 1 rfl (AF rfl) (Pf 3 rfl (Ai GO rfl) (Pf 4 rfl (AG rfl A2 .m2 Order.l1 rfl rfl) (Pf 5 rfl (Ai Fq rfl) (Pf 6 rfl (AG rfl CX .m2 Order.l3 rfl rfl) (Pf 7 rfl (Ai HC rfl) (Pf 8 rfl (AG rfl Dn .m2 Order.l2 rfl rfl) ?_)))))))
 refine An 2 rfl (by kernel_rfl) ?_
 refine Ah rfl UX (.c rfl .n) (.c .h .n) (IE _ X _ hXF) (fun v7 B hv=>?_)
 obtain⟨y8,rfl,y9,rfl⟩:=hv
 refine Bq rfl ⟨?_,?_⟩
 · exact(Po rfl (AG rfl Dn .m3 Order.l2 rfl rfl) rfl rfl (Po rfl (Ai HC rfl) rfl rfl (Po rfl (AG rfl CX .m3 Order.l3 rfl rfl) rfl rfl (Po rfl (Ai Fq rfl) rfl rfl (Po rfl (AG rfl A2 .m3 Order.l1 rfl rfl) rfl rfl (Po rfl (Ai GO rfl) rfl rfl (Pk (Po rfl (AF rfl) rfl rfl As))))))))
 refine An 9 rfl (by kernel_rfl) ?_
 refine Ah rfl P3 (.c rfl (.c rfl (.c rfl (.c rfl (.c rfl .n))))) (.c .h (.c .h .n)) (Ex _ X _ _ X.own _ _ _ hXF (by assumption) (Nat.le_trans X.KG (by decide)) (fun i hi=>AE.ME hi)) (fun v11 B hv=>?_)
 obtain⟨y12,rfl,y13,rfl⟩:=hv
 refine Bq rfl ⟨?_,?_⟩
 · exact(Pk (Pk (Pk (Pk (Pk (Pk (Pk (Pk As))))))))
 refine Pf 10 rfl (A0 rfl) ?_
 refine A4 (by kernel_rfl) ?_
 refine AB (.t4 0 3 4 6) ?_
 refine AA ?_
 refine Ba (.t (.t (.t .h))) ?_
 refine Ba (.t .h) ?_
 refine Qf (Lm:= [_,_]) (fun(Z:AE) (m:Hd)=>Z=X.Qx o∧m.len=Z.out.length) (fun(Z:AE) (m:Hd)=> []) (fun(Z:AE) (m:Hd)=> [Ab.box b 163 (Ad.enc ⟨Z.w,Z.b,m⟩),Ab.own m 56 16 (Z.out.flatMap Ing.Event.enc)]) (.t4 0 3 4 6) rfl ?_ (fun Z m hC=>?_)
 ·
  refine Gs (Gm rfl (Gt (Ar rfl Tryz.underlying169 rfl) (Gt (Af rfl rfl) (Gn (.t5 0 3 4 6 44) ?_))))
  refine Gc (fun c4=>?_) (fun c4=>?_)
  ·
   have c4p:=kz c4
   rw [y13] at c4
   refine AJ (Gm rfl ?_)
   refine Ah rfl ED (.c rfl (.c rfl .n)) (.c .h (.c .h .n)) (Be _ X _ _ (by assumption) (by rw [hXw.2];exact hb) (by omega)) (fun v15 B hv=>?_)
   obtain⟨y16,rfl,y17,rfl⟩:=hv
   refine AQ (AB (.t4 0 3 4 6) ?_)
   refine Eb _ _ ?_ (.t4 0 3 4 6) (.refl _)
   · exact⟨(AE.Z6 (T:=X) (o:=o) c4).symm,by assumption⟩
  rw [y13] at c4
  refine Aa ?_
  refine AB (.t4 0 3 4 6) ?_
  refine Eb _ _ ?_ (.t4 0 3 4 6) (.refl _)
  · exact⟨(AE.aj (T:=X) (o:=o) c4).symm,by exact hD4⟩
 obtain⟨hE1,hE2⟩:=hC
 refine Gs (Gm rfl (Gt (Ar rfl Tryz.underlying169 rfl) (Gm rfl (Gn (.t6 0 3 4 47 48 49) (Ae ?_)))))
 refine Bn (.t6 49 0 3 4 47 48) ?_
 refine Ba (.t .h) ?_
 refine Ba (.t .h) ?_
 refine Dl (fun(k:Int) (V:AE) (f:Hd)=>0≤k∧V=X.RR to o k.toNat∧k≤((AE.BP X.w X.own o.nth o.name o.Bj).length:Int)∧f.len=V.out.length) (fun(k:Int) (V:AE) (f:Hd)=>(((AE.BP X.w X.own o.nth o.name o.Bj).length:Int) - k).toNat) (fun(k:Int) (V:AE) (f:Hd)=> [(49, .int .i64 k)]) (fun(k:Int) (V:AE) (f:Hd)=> [Ab.box b 163 (Ad.enc ⟨V.w,V.b,f⟩),Ab.own f 56 16 (V.out.flatMap Ing.Event.enc)]) (0) (_) (_) ?_ rfl rfl (fun k V f hI1=>?_)
 · exact⟨by omega,hE1,by omega,hE2⟩
 obtain⟨hI11,hI12,hI13,hI14⟩:=hI1
 refine Gs (Gt (A7 rfl rfl) (AQ (AA (Ao ?_))))
 refine Gc (fun c5=>?_) (fun c5=>?_)
 ·
  have c5p:=kz c5
  have hx:0≤((AE.BP X.w X.own o.nth o.name o.Bj).getD k.toNat 0)∧((AE.BP X.w X.own o.nth o.name o.Bj).getD k.toNat 0) < 9:=AE.ME (AE.Dp (Bi.E0 (xs:=(AE.BP X.w X.own o.nth o.name o.Bj)) (i:=k.toNat) (by omega)))
  have hVK:=AE.W8 X to o k.toNat
  rw [← hI12] at hVK
  have hVb:=hVK.2
  have hVo:=hVK.1
  have hbV:0≤V.b∧V.b < 6:=by rw [hVb,hXw.2];exact hb
  refine Aa ?_
  refine AB (.t6 0 3 4 47 48 49) ?_
  refine AA (Ao (Ae (Gs ?_)))
  refine Gt (Bp Gd (by decide) (Kn.own .m3) rfl rfl (by omega) (by omega)) ?_
  refine Gt (DI rfl A2 (Kn.own .m3) (by omega)) ?_
  refine Ga rfl (Gn (.t7 0 3 4 8 47 48 49) (Gs (Gm rfl (Gm rfl (Gt (BV rfl) (Gt (Ai A9 rfl) (Gt (Ai Cz rfl) ?_)))))))
  refine Gt (AR F7 rfl rfl (by first | omega | exact hbV.1 | exact hbV.2 | (dsimp only;omega)) (by first | omega | exact hbV.1 | exact hbV.2 | (dsimp only;omega))) ?_
  refine Ga rfl (Gn (.t8 0 3 4 8 9 47 48 49) (Ae (Gs (Gm rfl (Gt (BV rfl) (Gt (Ai G3 rfl) ?_))))))
  refine Gt (AG rfl A2 .m0 (((Ad.l0.comp AH.l1).comp (AU.ar (n:=9) Al.fl (by first | omega | exact hbV | (dsimp only;omega)))).comp Al.l1) rfl rfl) ?_
  refine Gt (Af rfl rfl) (Gm rfl (Bf 87 rfl rfl (fun q=>AF rfl) (Bf 87 rfl rfl (fun q=>BV (Bc rfl q)) (Bf 87 rfl rfl (fun q=>Ai GF (Bc rfl q)) ?_))))
  refine Bf 87 rfl rfl (fun q=>by have q1:=q;(try simp at q1);exact AG (Bc rfl q) Dn .m0 (((Ad.l0.comp AH.l1).comp (AU.ar (n:=9) Al.fl (by first | omega | exact hbV | (dsimp only;omega)))).comp Al.l4) rfl rfl) ?_
  refine Gt (BG rfl rfl (fun h=>h)) (Ga rfl (Gn (.t9 0 3 4 8 9 47 48 49 81) ?_))
  refine Gc (fun c6=>?_) (fun c6=>?_)
  ·
   have c6p:=kz c6
   refine AJ (Gm rfl ?_)
   refine Ah rfl ED (.c rfl (.c rfl .n)) (.c .h (.c .h .n)) (Be _ V _ _ (by assumption) hbV (by omega)) (fun v18 B hv=>?_)
   obtain⟨y19,rfl,y20,rfl⟩:=hv
   refine AQ (AB (.t6 0 3 4 47 48 49) ?_)
   refine AV (AV (AA (AJ ?_)))
   refine Gt (Av rfl rfl (IntWalk.i64_in _ (by first | omega | exact hbV.1 | exact hbV.2 | (dsimp only;omega)))) ?_
   refine Gm rfl ?_
   refine AQ (AB (.t6 0 3 4 47 48 49) ?_)
   refine Bt (k+1) _ _ ?_ ?_ (.t6 49 0 3 4 47 48) (.refl _)
   · have hq:V.Cu o.verb to ((AE.BP X.w X.own o.nth o.name o.Bj).getD k.toNat 0)=_:=(BB c6)
     (try rw [AE.Dx hx.1 hx.2] at *)
     (try rw [AE.Dd hx.1 hx.2 hn0] at *)
     exact⟨by omega,(by(try rw [AE.Dx hx.1 hx.2]);(try rw [AE.Dd hx.1 hx.2 hn0]);exact hq.symm.trans ((congrArg (fun q=>AE.Cu q o.verb to ((AE.BP X.w X.own o.nth o.name o.Bj).getD k.toNat 0)) hI12).trans (AE.Ih hI11 (by show k < (((AE.BP X.w X.own o.nth o.name o.Bj)).length:Int);omega)).symm)),by omega,by assumption⟩
   · omega
  have c6p:=kz c6
  refine Gs (Gt (Ai DF rfl) (Gt (AG rfl A2 .m4 Order.l0 rfl rfl) (Gt (Af rfl rfl) (Ga rfl (Gn (.t9 0 3 4 8 9 47 48 49 95) ?_)))))
  refine Gc (fun c7=>?_) (fun c7=>?_)
  ·
   have c7p:=kz c7
   refine Ao ?_
   refine BE (N:=19) [0,0,0,0,8,24,56,4,132,388,1020,2044,4092,8189,16381,32765,65535,131071,262143] mix (by kernel_rfl) rfl ?_
   refine Pf 0 rfl (AF rfl) (Pf 1 rfl (AF rfl) (Pf 2 rfl (AF rfl) (Pf 3 rfl (AF rfl) (Pf 4 rfl (BV rfl) (Pf 5 rfl (Ai CO rfl) (Pf 6 rfl (AG rfl A2 .m0 Ad.l1 rfl rfl) (Pf 7 rfl (BV rfl) ?_)))))))
   refine Pf 8 rfl (Ai A9 rfl) (Pf 9 rfl (Ai Bo rfl) ?_)
   refine Pf 10 rfl (AR C8 rfl rfl (by first | omega | exact hbV.1 | exact hbV.2 | (dsimp only;omega)) (by first | omega | exact hbV.1 | exact hbV.2 | (dsimp only;omega))) ?_
   refine Pf 11 rfl (Ai C2 rfl) ?_
   refine Pf 12 rfl (AG rfl A2 .m0 (((Ad.l0.comp AH.l2).comp (AU.ar (n:=6) Aj.fl (by first | omega | exact hbV | (dsimp only;omega)))).comp Aj.l3) rfl rfl) ?_
   refine Pf 13 rfl (BV rfl) (Pf 14 rfl (Ai FV rfl) ?_)
   refine An 15 rfl (by kernel_rfl) ?_
   refine AT (AK (((Ad.l0.comp AH.l1).comp (AU.ar (n:=9) Al.fl (by first | omega | exact hbV | (dsimp only;omega)))).comp Al.l2) rfl rfl rfl C6 rfl .h) ?_
   refine BN rfl ⟨?_,?_⟩
   · exact(Pk (Pk (Pk (Pk (Pk (Pk (Pk (Pk (Pk (Pk (Pk (Pk (Pk (Po rfl (AF rfl) rfl rfl (Pk As)))))))))))))))
   refine Pf 16 rfl (BV rfl) (Pf 17 rfl (Ai DK rfl) ?_)
   refine An 18 rfl (by kernel_rfl) ?_
   refine AT (AK (((Ad.l0.comp AH.l1).comp (AU.ar (n:=9) Al.fl (by first | omega | exact hbV | (dsimp only;omega)))).comp Al.l3) rfl rfl rfl C6 rfl .h) ?_
   refine BN rfl ⟨?_,?_⟩
   · exact(Pk (Pk (Pk (Pk (Pk (Pk (Pk (Pk (Pk (Pk (Pk (Pk (Pk (Pk (Pk (Pk (Pk As)))))))))))))))))
   refine A4 (by kernel_rfl) ?_
   refine AB (.t7 0 3 4 8 47 48 49) ?_
   refine AA ?_
   refine F9 (fun _=> .h) (congrArg (fun q=>Ad.enc ⟨q,_,_⟩) (AE.Hi V hx.1 hx.2 0 (V.w.AL.at V.b).room)) ?_
   refine AJ (Gm rfl (Gm rfl ?_))
   refine Ah rfl PD (.c rfl (.c rfl (.c rfl .n))) (.c .h (.c .h .n)) (Dy _ (V.place ((AE.BP X.w X.own o.nth o.name o.Bj).getD k.toNat 0) 0 (V.w.AL.at V.b).room) _ 4 ((AE.BP X.w X.own o.nth o.name o.Bj).getD k.toNat 0) (by assumption) hbV hx (show V.out.length≤100000 by omega)) (fun v21 B hv=>?_)
   obtain⟨y22,rfl,y23,rfl⟩:=hv
   refine AQ (AB (.t6 0 3 4 47 48 49) ?_)
   refine AV (AV (AA (AJ ?_)))
   refine Gt (Av rfl rfl (IntWalk.i64_in _ (by first | omega | exact hbV.1 | exact hbV.2 | (dsimp only;omega)))) ?_
   refine Gm rfl ?_
   refine AQ (AB (.t6 0 3 4 47 48 49) ?_)
   refine Bt (k+1) _ _ ?_ ?_ (.t6 49 0 3 4 47 48) (.refl _)
   · have hq:V.Cu o.verb to ((AE.BP X.w X.own o.nth o.name o.Bj).getD k.toNat 0)=_:=((AX c6).trans (BB c7))
     (try rw [AE.Dx hx.1 hx.2] at *)
     (try rw [AE.Dd hx.1 hx.2 hn0] at *)
     exact⟨by omega,(by(try rw [AE.Dx hx.1 hx.2]);(try rw [AE.Dd hx.1 hx.2 hn0]);exact hq.symm.trans ((congrArg (fun q=>AE.Cu q o.verb to ((AE.BP X.w X.own o.nth o.name o.Bj).getD k.toNat 0)) hI12).trans (AE.Ih hI11 (by show k < (((AE.BP X.w X.own o.nth o.name o.Bj)).length:Int);omega)).symm)),by omega,by assumption⟩
   · omega
  have c7p:=kz c7
  refine Gs (Gt (Ai DF rfl) (Gt (AG rfl A2 .m4 Order.l0 rfl rfl) (Gt (Af rfl rfl) (Ga rfl (Gn (.t9 0 3 4 8 9 47 48 49 119) ?_)))))
  refine Gc (fun c8=>?_) (fun c8=>?_)
  ·
   have c8p:=kz c8
   refine Gs (Gm rfl (Gm rfl (Gm rfl (Gt (BV rfl) (Gt (Ai FV rfl) ?_)))))
   refine AT (AK (((Ad.l0.comp AH.l1).comp (AU.ar (n:=9) Al.fl (by first | omega | exact hbV | (dsimp only;omega)))).comp Al.l2) rfl rfl rfl C6 rfl .h) ?_
   refine Gt (BV rfl) (Gt (Ai DK rfl) ?_)
   refine AT (AK (((Ad.l0.comp AH.l1).comp (AU.ar (n:=9) Al.fl (by first | omega | exact hbV | (dsimp only;omega)))).comp Al.l3) rfl rfl rfl C6 rfl .h) ?_
   refine Gn (.t7 0 3 4 9 47 48 49) ?_
   refine F9 (fun _=> .h) (congrArg (fun q=>Ad.enc ⟨q,_,_⟩) (AE.Hi V hx.1 hx.2 1 to)) ?_
   refine AJ (Gm rfl (Gm rfl (Gm rfl (Gt (BV rfl) (Gt (Ai Ml rfl) ?_)))))
   refine Gt (AG rfl CX .m0 (((Ad.l0.comp AH.l1).comp (AU.ar (n:=9) Al.fl (by first | omega | exact hbV | (dsimp only;omega)))).comp Al.l0) rfl rfl) ?_
   refine Gt (BC Nn HZ rfl (.cons Ing.Event.l0 rfl rfl rfl (.cons Ing.Event.l3 rfl rfl rfl (.cons Ing.Event.l8 rfl rfl rfl .nil)))) ?_
   refine Ah rfl N0 (.c rfl (.c rfl .n)) (.c .h (.c .h .n)) (CN _ (V.place ((AE.BP X.w X.own o.nth o.name o.Bj).getD k.toNat 0) 1 to) _ { AE.F0 6 with other:=to,Bs:=((V.place ((AE.BP X.w X.own o.nth o.name o.Bj).getD k.toNat 0) 1 to).w.AO.at ((AE.BP X.w X.own o.nth o.name o.Bj).getD k.toNat 0)).name } (by assumption) hbV (show to < 6 from(hok hv).ew (by omega)) (show V.out.length≤100000 by omega)) (fun v24 B hv=>?_)
   obtain⟨y25,rfl,y26,rfl⟩:=hv
   refine AQ (AB (.t6 0 3 4 47 48 49) ?_)
   refine AV (AV (AA (AJ ?_)))
   refine Gt (Av rfl rfl (IntWalk.i64_in _ (by first | omega | exact hbV.1 | exact hbV.2 | (dsimp only;omega)))) ?_
   refine Gm rfl ?_
   refine AQ (AB (.t6 0 3 4 47 48 49) ?_)
   refine Bt (k+1) _ _ ?_ ?_ (.t6 49 0 3 4 47 48) (.refl _)
   · have hq:V.Cu o.verb to ((AE.BP X.w X.own o.nth o.name o.Bj).getD k.toNat 0)=_:=((AX c6).trans ((AX c7).trans (BB c8)))
     (try rw [AE.Dx hx.1 hx.2] at *)
     (try rw [AE.Dd hx.1 hx.2 hn0] at *)
     exact⟨by omega,(by(try rw [AE.Dx hx.1 hx.2]);(try rw [AE.Dd hx.1 hx.2 hn0]);exact hq.symm.trans ((congrArg (fun q=>AE.Cu q o.verb to ((AE.BP X.w X.own o.nth o.name o.Bj).getD k.toNat 0)) hI12).trans (AE.Ih hI11 (by show k < (((AE.BP X.w X.own o.nth o.name o.Bj)).length:Int);omega)).symm)),by omega,by assumption⟩
   · omega
  have c8p:=kz c8
  refine Gs (Gm rfl (Gt (BV rfl) (Gt (Ai A9 rfl) (Gt (AZ rfl BW .m0 Ad.l0 rfl) (Gm rfl (Gm rfl ?_))))))
  refine BA rfl cX (.c rfl (.c rfl (.c rfl .n))) (fun w hS=>MZ _ _ _ w) ?_
  refine Ga rfl (Gn (.t8 0 3 4 9 47 48 49 138) ?_)
  refine Gc (fun c9=>?_) (fun c9=>?_)
  ·
   have c9p:=kz c9
   refine AJ (Gm rfl ?_)
   refine Ah rfl ED (.c rfl (.c rfl .n)) (.c .h (.c .h .n)) (Be _ V _ _ (by assumption) hbV (by omega)) (fun v27 B hv=>?_)
   obtain⟨y28,rfl,y29,rfl⟩:=hv
   refine AQ (AB (.t6 0 3 4 47 48 49) ?_)
   refine AV (AV (AA (AJ ?_)))
   refine Gt (Av rfl rfl (IntWalk.i64_in _ (by first | omega | exact hbV.1 | exact hbV.2 | (dsimp only;omega)))) ?_
   refine Gm rfl ?_
   refine AQ (AB (.t6 0 3 4 47 48 49) ?_)
   refine Bt (k+1) _ _ ?_ ?_ (.t6 49 0 3 4 47 48) (.refl _)
   · have hq:V.Cu o.verb to ((AE.BP X.w X.own o.nth o.name o.Bj).getD k.toNat 0)=_:=((AX c6).trans ((AX c7).trans ((AX c8).trans (BB c9))))
     (try rw [AE.Dx hx.1 hx.2] at *)
     (try rw [AE.Dd hx.1 hx.2 hn0] at *)
     exact⟨by omega,(by(try rw [AE.Dx hx.1 hx.2]);(try rw [AE.Dd hx.1 hx.2 hn0]);exact hq.symm.trans ((congrArg (fun q=>AE.Cu q o.verb to ((AE.BP X.w X.own o.nth o.name o.Bj).getD k.toNat 0)) hI12).trans (AE.Ih hI11 (by show k < (((AE.BP X.w X.own o.nth o.name o.Bj)).length:Int);omega)).symm)),by omega,by assumption⟩
   · omega
  have c9p:=kz c9
  refine Gs (Gm rfl (Gm rfl (Gm rfl (Gt (BV rfl) (Gt (Ai FV rfl) ?_)))))
  refine AT (AK (((Ad.l0.comp AH.l1).comp (AU.ar (n:=9) Al.fl (by first | omega | exact hbV | (dsimp only;omega)))).comp Al.l2) rfl rfl rfl C6 rfl .h) ?_
  refine Gt (BV rfl) (Gt (Ai DK rfl) ?_)
  refine AT (AK (((Ad.l0.comp AH.l1).comp (AU.ar (n:=9) Al.fl (by first | omega | exact hbV | (dsimp only;omega)))).comp Al.l3) rfl rfl rfl C6 rfl .h) ?_
  refine Gn (.t7 0 3 4 9 47 48 49) ?_
  refine F9 (fun _=> .h) (congrArg (fun q=>Ad.enc ⟨q,_,_⟩) (AE.Hi V hx.1 hx.2 2 to)) ?_
  refine BE (N:=15) [0,0,2,6,14,0,0,32,160,416,992,2016,4064,8190,16383] mix (by kernel_rfl) rfl ?_
  refine Pf 0 rfl (AF rfl) (Pf 1 rfl (AF rfl) (Pf 2 rfl (BV rfl) (Pf 3 rfl (Ai Ml rfl) ?_)))
  refine Pf 4 rfl (AG rfl CX .m0 (((Ad.l0.comp AH.l1).comp (AU.ar (n:=9) Al.fl (by first | omega | exact hbV | (dsimp only;omega)))).comp Al.l0) rfl rfl) ?_
  refine Pf 5 rfl (AF rfl) (Pf 6 rfl (AF rfl) (Pf 7 rfl (BV rfl) (Pf 8 rfl (Ai A9 rfl) (Pf 9 rfl (Ai Cz rfl) ?_))))
  refine Pf 10 rfl (AR F7 rfl rfl (by first | omega | exact hbV.1 | exact hbV.2 | (dsimp only;omega)) (by first | omega | exact hbV.1 | exact hbV.2 | (dsimp only;omega))) ?_
  refine Pf 11 rfl (Ai Ml rfl) ?_
  refine Pf 12 rfl (AG rfl CX .m0 (((Ad.l0.comp AH.l1).comp (AU.ar (n:=9) Al.fl (by first | omega | exact hbV | (dsimp only;omega)))).comp Al.l0) rfl rfl) ?_
  refine Pf 13 rfl (BC Nn HZ rfl (.cons Ing.Event.l0 rfl rfl rfl (.cons Ing.Event.l3 rfl rfl rfl (.cons Ing.Event.l8 rfl rfl rfl (.cons Ing.Event.l9 rfl rfl rfl .nil))))) ?_
  refine An 14 rfl (by kernel_rfl) ?_
  refine Ah rfl N0 (.c rfl (.c rfl .n)) (.c .h (.c .h .n)) (CN _ (V.place ((AE.BP X.w X.own o.nth o.name o.Bj).getD k.toNat 0) 2 to) _ { AE.F0 5 with Bs:=((V.place ((AE.BP X.w X.own o.nth o.name o.Bj).getD k.toNat 0) 2 to).w.AO.at ((AE.BP X.w X.own o.nth o.name o.Bj).getD k.toNat 0)).name,text:=((V.place ((AE.BP X.w X.own o.nth o.name o.Bj).getD k.toNat 0) 2 to).w.AO.at to).name } (by assumption) hbV (show(-1:Int) < 6 by decide) (show V.out.length≤100000 by omega)) (fun v30 B hv=>?_)
  obtain⟨y31,rfl,y32,rfl⟩:=hv
  refine Bq rfl ⟨?_,?_⟩
  · exact(Pk (Pk (Pk (Pk (Pk (Pk (Pk (Pk (Pk (Pk (Pk (Pk (Pk (Pk As))))))))))))))
  refine A4 (by kernel_rfl) ?_
  refine AB (.t6 0 3 4 47 48 49) ?_
  refine AV (AV (AA (AJ ?_)))
  refine Gt (Av rfl rfl (IntWalk.i64_in _ (by first | omega | exact hbV.1 | exact hbV.2 | (dsimp only;omega)))) ?_
  refine Gm rfl ?_
  refine AQ (AB (.t6 0 3 4 47 48 49) ?_)
  refine Bt (k+1) _ _ ?_ ?_ (.t6 49 0 3 4 47 48) (.refl _)
  · have hq:V.Cu o.verb to ((AE.BP X.w X.own o.nth o.name o.Bj).getD k.toNat 0)=_:=((AX c6).trans ((AX c7).trans ((AX c8).trans (AX c9))))
    (try rw [AE.Dx hx.1 hx.2] at *)
    (try rw [AE.Dd hx.1 hx.2 hn0] at *)
    exact⟨by omega,(by(try rw [AE.Dx hx.1 hx.2]);(try rw [AE.Dd hx.1 hx.2 hn0]);exact hq.symm.trans ((congrArg (fun q=>AE.Cu q o.verb to ((AE.BP X.w X.own o.nth o.name o.Bj).getD k.toNat 0)) hI12).trans (AE.Ih hI11 (by show k < (((AE.BP X.w X.own o.nth o.name o.Bj)).length:Int);omega)).symm)),by omega,by assumption⟩
  · omega
 have c5p:=kz c5
 obtain rfl:k=((AE.BP X.w X.own o.nth o.name o.Bj).length:Int):=by omega
 refine Bb (AW (AW (Ag ?_)))
 refine Bk rfl .n ?_
 intro w1 hS
 have hS:=(hS.perm (Ax.perm (.c .h (.c .h .n)))).A1
 have hq:T.FD o=V:=hgo.trans (hI12.trans AE.Xt).symm
 refine⟨_,⟨?gq2,rfl,?hl2,?hB2⟩,hS⟩
 case hB2=>rw [hq];(try rfl)
 case hl2=>rw [hq];exact hI14
theorem Jr (s:Ap)(w:World)(gl0:GV 0 AH.DJ w):Ed Tryz.prog 138 #[BU s] w fun v w'=>v = .tuple #[.int .i64 (Words.dir s).1, .bool (Words.dir s).2]∧CA w w':=by
 refine Ak [] [] Tryz.func138 rfl rfl rfl (St.start w []) ?_
 refine Gs (Ga rfl (Ga rfl (Gn (.t1 0) (CG (Gm rfl (AQ (AA ?_)))))))
 refine Ae ?_
 refine Bn (.t2 5 0) ?_
 refine CY (fun(k:Int)=>0≤k∧k≤6∧Words.OT s 6=Words.OT s (6 - k).toNat) (fun(k:Int)=>(6 - k).toNat) (fun(k:Int)=> [(5, .int .i64 k)]) (fun(k:Int)=> []) (0) ?_ rfl rfl (fun k hI1=>?_)
 · exact⟨by omega,by omega,rfl⟩
 obtain⟨hI11,hI12,hI13⟩:=hI1
 refine Gs (Gt (A7 rfl rfl) (AQ (AA (Ao ?_))))
 refine Gc (fun c1=>?_) (fun c1=>?_)
 ·
  have c1p:=kz c1
  rw [Words.VF hI11 (by omega)] at hI13
  refine Aa ?_
  refine AB (.t2 0 5) ?_
  refine AA (Ao (Ae (Gs (Gm rfl (Ga rfl (Gn (.t3 0 4 5) (Gs ?_)))))))
  refine Gm rfl ?_
  refine Gt (AR Xd rfl rfl (by omega) (by omega)) ?_
  refine Gt (Qv gl0 rfl CX (AH.OR (by omega) (by omega))) ?_
  refine Gm rfl (Gt (Bw rfl rfl) (Gn (.t4 0 4 5 12) ?_))
  refine Gc (fun c2=>?_) (fun c2=>?_)
  ·
   refine Gs (Gm rfl (Ga rfl (Ga rfl (Gn (.t2 2 3) (Ac (AS (AD ?_)))))))
   refine AD (AS (AD ?_))
   refine AY rfl (.tmp rfl (.tmp rfl .n)) ?_
   intro w1 hS;refine⟨?_,hS.Am⟩;rw [Words.dir,hI13,BB c2];rfl
  have c2p:=kz c2
  refine Aa ?_
  refine AB (.t2 0 5) ?_
  refine AV (AA (AJ ?_))
  refine Gt (Av rfl rfl (IntWalk.i64_in _ (by omega))) ?_
  refine Gm rfl ?_
  refine AQ (AB (.t2 0 5) ?_)
  refine B2 (k+1) ?_ ?_ (.t2 5 0) (.refl _)
  · exact⟨by omega,by omega,by rw [hI13,AX c2]⟩
  · omega
 have c1p:=kz c1
 obtain rfl:k=6:=by omega
 refine Bb (AW (AW (Ag ?_)))
 refine AB (.nil _) ?_
 refine AA (Gs (Ga rfl (Ga rfl (AQ (AA (Ac ?_))))))
 refine AY rfl (.tmp rfl (.tmp rfl .n)) ?_
 intro w1 hS;refine⟨?_,hS.Am⟩;rw [Words.dir,hI13];rfl
theorem RJ (b:Nat)(T:AE)(g:Hd)(d:Int)(p:Bool)(k:Int)(hg:g.len=T.out.length)(hF:T.Fit)(hd:0≤d∧d < 6)(hn:T.out.length≤90000):JQ Tryz.prog 139 #[.pointer (some ⟨b,0,none⟩), .int .i64 d, .bool p, .int .i64 k] [Ab.box b 163 (Ad.enc ⟨T.w,T.b,g⟩),Ab.own g 56 16 (T.out.flatMap Ing.Event.enc)] (fun v B=>∃ g':Hd,v = .tuple #[]∧g'.len=(T.Gy d p k).out.length∧B = [Ab.box b 163 (Ad.enc ⟨(T.Gy d p k).w,(T.Gy d p k).b,g'⟩),Ab.own g' 56 16 ((T.Gy d p k).out.flatMap Ing.Event.enc)]):=by
 intro w hS0
 have hb:=hF.b
 have hr:=hF.room
 have hx:=hF.exit hd.1 hd.2
 have hop:=AH.L9 d
 refine Ak _ _ Tryz.func139 rfl rfl rfl (hS0) ?_
 refine Ao ?_
 refine BE (N:=12) [0,0,2,6,14,1,33,97,255,511,1023,2047] mix (by kernel_rfl) rfl ?_
 refine Pf 0 rfl (AF rfl) (Pf 1 rfl (AF rfl) (Pf 2 rfl (BV rfl) (Pf 3 rfl (Ai CO rfl) (Pf 4 rfl (AG rfl A2 .m0 Ad.l1 rfl rfl) (Pf 5 rfl (BV rfl) (Pf 6 rfl (Ai A9 rfl) (Pf 7 rfl (Ai Bo rfl) ?_)))))))
 refine Pf 8 rfl (AR C8 rfl rfl (by first | omega | exact hb.1 | exact hb.2 | exact hr.1 | exact hr.2 | (dsimp only;omega)) (by first | omega | exact hb.1 | exact hb.2 | exact hr.1 | exact hr.2 | (dsimp only;omega))) ?_
 refine Pf 9 rfl (Ai C2 rfl) ?_
 refine Pf 10 rfl (AG rfl A2 .m0 (((Ad.l0.comp AH.l2).comp (AU.ar (n:=6) Aj.fl (by first | omega | exact hb | exact hr | (dsimp only;omega)))).comp Aj.l3) rfl rfl) ?_
 refine Pf 11 rfl (A0 rfl) ?_
 refine A4 (by kernel_rfl) ?_
 refine AB (.t5 0 1 2 3 8) ?_
 refine AA (Gs (Gm rfl (Gm rfl (Gm rfl (Gt (BV rfl) (Gt (Ai A9 rfl) (Gt (Ai Gz rfl) ?_)))))))
 refine Gt (AR Oj rfl rfl (by first | omega | exact hb.1 | exact hb.2 | exact hr.1 | exact hr.2 | (dsimp only;omega)) (by first | omega | exact hb.1 | exact hb.2 | exact hr.1 | exact hr.2 | (dsimp only;omega))) ?_
 refine Gt (Ai Mb rfl) ?_
 refine Gt (AR Qw rfl rfl (by first | omega | exact hb.1 | exact hb.2 | exact hr.1 | exact hr.2 | (dsimp only;omega)) (by first | omega | exact hb.1 | exact hb.2 | exact hr.1 | exact hr.2 | (dsimp only;omega))) ?_
 refine Gt (AG rfl A2 .m0 ((((Ad.l0.comp AH.l0).comp (AU.ar (n:=6) Room.fl (by first | omega | exact hb | exact hr | (dsimp only;omega)))).comp Room.l2).comp (AU.ar (n:=6) Bu (by first | omega | exact hb | exact hr | (dsimp only;omega)))) rfl rfl) ?_
 refine Gt (FR rfl rfl (IntWalk.i64_in _ (by first | omega | exact hb.1 | exact hb.2 | exact hr.1 | exact hr.2 | (dsimp only;omega)))) ?_
 refine Ga rfl (Gn (.t6 0 1 2 3 8 9) (Ae (Gs (Gm rfl (Gt (A7 rfl rfl) (Ga rfl (Gn (.t7 0 1 2 3 8 9 74) ?_)))))))
 refine Gc (fun c1=>?_) (fun c1=>?_)
 ·
  have c1p:=kz c1
  try dsimp only at c1p
  refine AJ (Gm rfl ?_)
  refine Ah rfl ED (.c rfl (.c rfl .n)) (.c .h (.c .h .n)) (Be _ _ _ _ hg hb (by omega)) (fun v1 B hv=>?_)
  obtain⟨y2,rfl,y3,rfl⟩:=hv
  refine AQ (AB (.nil _) ?_)
  refine AV ?_
  refine Bk rfl .n ?_
  intro w1 hS
  have hS:=(hS.perm (Ax.perm (.c .h (.c .h .n)))).A1
  have hq:T.Gy d p k=_:=(BB c1)
  refine⟨_,⟨?gq1,rfl,?hl1,?hB1⟩,hS⟩
  case hB1=>rw [hq];(try rfl)
  case hl1=>rw [hq];assumption
 have c1p:=kz c1
 try dsimp only at c1p
 refine Gs (Gm rfl (Gm rfl (Gm rfl (Gt (BV rfl) (Gt (Ai A9 rfl) (Gt (Ai Gz rfl) ?_))))))
 refine Gt (AR Oj rfl rfl (by first | omega | exact hb.1 | exact hb.2 | exact hr.1 | exact hr.2 | (dsimp only;omega)) (by first | omega | exact hb.1 | exact hb.2 | exact hr.1 | exact hr.2 | (dsimp only;omega))) ?_
 refine Gt (Ai MT rfl) ?_
 refine Gt (AR VU rfl rfl (by first | omega | exact hb.1 | exact hb.2 | exact hr.1 | exact hr.2 | (dsimp only;omega)) (by first | omega | exact hb.1 | exact hb.2 | exact hr.1 | exact hr.2 | (dsimp only;omega))) ?_
 refine Gt (AG rfl Dn .m0 ((((Ad.l0.comp AH.l0).comp (AU.ar (n:=6) Room.fl (by first | omega | exact hb | exact hr | (dsimp only;omega)))).comp Room.l3).comp (AU.ar (n:=6) HN (by first | omega | exact hb | exact hr | (dsimp only;omega)))) rfl rfl) ?_
 refine Gm rfl (Gt (JW Tryz.underlying4 rfl rfl) (Ga rfl (Gn (.t7 0 1 2 3 8 9 79) ?_)))
 refine Gc (fun c2=>?_) (fun c2=>?_)
 ·
  have c2p:=kz c2
  try dsimp only at c2p
  refine AJ (Gm rfl ?_)
  refine Ah rfl ED (.c rfl (.c rfl .n)) (.c .h (.c .h .n)) (Be _ _ _ _ hg hb (by omega)) (fun v4 B hv=>?_)
  obtain⟨y5,rfl,y6,rfl⟩:=hv
  refine AQ (AB (.nil _) ?_)
  refine AV ?_
  refine Bk rfl .n ?_
  intro w1 hS
  have hS:=(hS.perm (Ax.perm (.c .h (.c .h .n)))).A1
  have hq:T.Gy d p k=_:=((AX c1).trans (BB c2))
  refine⟨_,⟨?gq2,rfl,?hl2,?hB2⟩,hS⟩
  case hB2=>rw [hq];(try rfl)
  case hl2=>rw [hq];assumption
 have c2p:=kz c2
 try dsimp only at c2p
 refine Gs (Gm rfl (Gm rfl (Gm rfl (Gm rfl (Gt (BT rfl) (Gt (BV rfl) (Gt (Ai A9 rfl) ?_)))))))
 refine Gt (Ai Gz rfl) ?_
 refine Gt (AR Oj rfl rfl (by first | omega | exact hb.1 | exact hb.2 | exact hr.1 | exact hr.2 | (dsimp only;omega)) (by first | omega | exact hb.1 | exact hb.2 | exact hr.1 | exact hr.2 | (dsimp only;omega))) ?_
 refine Gt (Ai MT rfl) ?_
 refine Gt (AR VU rfl rfl (by first | omega | exact hb.1 | exact hb.2 | exact hr.1 | exact hr.2 | (dsimp only;omega)) (by first | omega | exact hb.1 | exact hb.2 | exact hr.1 | exact hr.2 | (dsimp only;omega))) ?_
 refine AT (AK ((((Ad.l0.comp AH.l0).comp (AU.ar (n:=6) Room.fl (by first | omega | exact hb | exact hr | (dsimp only;omega)))).comp Room.l3).comp (AU.ar (n:=6) HN (by first | omega | exact hb | exact hr | (dsimp only;omega)))) rfl rfl rfl KU rfl .h) ?_
 refine Gn (.t6 0 1 2 3 8 9) (CG (Gm rfl ?_))
 refine BA rfl ZX (.c rfl .n) (fun w hS=>Hf _ w) ?_
 refine Ga rfl (Gn (.t6 0 2 3 8 9 10) (Gs (Gm rfl (Gm rfl (Gm rfl (Gt (BV rfl) (Gt (Ai A9 rfl) ?_)))))))
 refine Gt (Ai Gz rfl) ?_
 refine Gt (AR Oj rfl rfl (by first | omega | exact hb.1 | exact hb.2 | exact hr.1 | exact hr.2 | (dsimp only;omega)) (by first | omega | exact hb.1 | exact hb.2 | exact hr.1 | exact hr.2 | (dsimp only;omega))) ?_
 refine Gt (Ai Mb rfl) ?_
 refine Gt (AR Qw rfl rfl (by first | omega | exact hb.1 | exact hb.2 | exact hr.1 | exact hr.2 | (dsimp only;omega)) (by first | omega | exact hb.1 | exact hb.2 | exact hr.1 | exact hr.2 | (dsimp only;omega))) ?_
 refine Gt (AG rfl A2 .m0 ((((Ad.l0.comp AH.l0).comp (AU.ar (n:=6) Room.fl (by first | omega | exact hb | exact hr | (dsimp only;omega)))).comp Room.l2).comp (AU.ar (n:=6) Bu (by first | omega | exact hb | exact hr | (dsimp only;omega)))) rfl rfl) ?_
 refine Gm rfl ?_
 refine Gt (Av rfl rfl (IntWalk.i64_in _ (by first | omega | exact hb.1 | exact hb.2 | exact hr.1 | exact hr.2 | (dsimp only;omega)))) ?_
 refine Gt (Af rfl rfl) (Gn (.t6 0 2 3 9 10 58) ?_)
 refine Gc (fun c3=>?_) (fun c3=>?_)
 ·
  have c3p:=kz c3
  try dsimp only at c3p
  refine AJ (Gm rfl (Gm rfl (Gm rfl (Gm rfl (Gt (BT rfl) (Gt (BV rfl) (Gt (Ai A9 rfl) ?_)))))))
  refine Gt (Ai Gz rfl) ?_
  refine Gt (AR Oj rfl rfl (by first | omega | exact hb.1 | exact hb.2 | exact hr.1 | exact hr.2 | (dsimp only;omega)) (by first | omega | exact hb.1 | exact hb.2 | exact hr.1 | exact hr.2 | (dsimp only;omega))) ?_
  refine Gt (Ai MT rfl) ?_
  refine Gt (AR VU rfl rfl (by first | omega | exact hb.1 | exact hb.2 | exact hr.1 | exact hr.2 | (dsimp only;omega)) (by first | omega | exact hb.1 | exact hb.2 | exact hr.1 | exact hr.2 | (dsimp only;omega))) ?_
  refine AT (AK ((((Ad.l0.comp AH.l0).comp (AU.ar (n:=6) Room.fl (by first | omega | exact hb | exact hr | (dsimp only;omega)))).comp Room.l3).comp (AU.ar (n:=6) HN (by first | omega | exact hb | exact hr | (dsimp only;omega)))) rfl rfl rfl KU rfl .h) ?_
  refine Gn (.t2 0 3) (AJ (Gm rfl (Gm rfl (Gt (BC Nn HZ rfl (.cons Ing.Event.l0 rfl rfl rfl (.cons Ing.Event.l3 rfl rfl rfl (.cons Ing.Event.l8 rfl rfl rfl .nil)))) ?_))))
  refine Ah rfl N0 (.c rfl (.c rfl .n)) (.c .h (.c .h .n)) (CN _ (AE.C9 (T.C9 T.me.room d (!p)) ((T.w.BQ.at (T.w.AL.at T.b).room).CM.at d - 1) (AH.opposite d) (!p)) _ { AE.F0 k with Bs:=AE.P9 } hg hb (show(-1:Int) < 6 by decide) (show T.out.length≤100000 by omega)) (fun v7 B hv=>?_)
  obtain⟨y8,rfl,y9,rfl⟩:=hv
  refine AQ (AB (.nil _) ?_)
  refine AV ?_
  refine Bk rfl .n ?_
  intro w1 hS
  have hS:=(hS.perm (Ax.perm (.c .h (.c .h .n)))).A1
  have hq:T.Gy d p k=_:=(show T.Gy d p k=_ from(AX c1).trans (AX c2)).trans (congrArg (fun q=>AE.BO q { AE.F0 k with Bs:=AE.P9 }) (BB c3))
  refine⟨_,⟨?gq3,rfl,?hl3,?hB3⟩,hS⟩
  case hB3=>rw [hq];(try rfl)
  case hl3=>rw [hq];assumption
 have c3p:=kz c3
 try dsimp only at c3p
 refine Aa ?_
 refine AB (.t2 0 3) ?_
 refine AA (AJ (Gm rfl (Gm rfl (Gt (BC Nn HZ rfl (.cons Ing.Event.l0 rfl rfl rfl (.cons Ing.Event.l3 rfl rfl rfl (.cons Ing.Event.l8 rfl rfl rfl .nil)))) ?_))))
 refine Ah rfl N0 (.c rfl (.c rfl .n)) (.c .h (.c .h .n)) (CN _ (T.C9 T.me.room d (!p)) _ { AE.F0 k with Bs:=AE.P9 } hg hb (show(-1:Int) < 6 by decide) (show T.out.length≤100000 by omega)) (fun v10 B hv=>?_)
 obtain⟨y11,rfl,y12,rfl⟩:=hv
 refine AQ (AB (.nil _) ?_)
 refine AV ?_
 refine Bk rfl .n ?_
 intro w1 hS
 have hS:=(hS.perm (Ax.perm (.c .h (.c .h .n)))).A1
 have hq:T.Gy d p k=_:=(show T.Gy d p k=_ from(AX c1).trans (AX c2)).trans (congrArg (fun q=>AE.BO q { AE.F0 k with Bs:=AE.P9 }) (AX c3))
 refine⟨_,⟨?gq4,rfl,?hl4,?hB4⟩,hS⟩
 case hB4=>rw [hq];(try rfl)
 case hl4=>rw [hq];assumption
theorem Fj (b:Nat)(T:AE)(g:Hd)(a:Bool)(i:Int)(p:Bool)(k:Int)(hg:g.len=T.out.length)(hb:0≤T.b∧T.b < 6)(hi:0≤i∧i < 9)(hn:T.out.length≤90000):JQ Tryz.prog 140 #[.pointer (some ⟨b,0,none⟩), .bool a, .int .i64 i, .bool p, .int .i64 k] [Ab.box b 163 (Ad.enc ⟨T.w,T.b,g⟩),Ab.own g 56 16 (T.out.flatMap Ing.Event.enc)] (fun v B=>∃ g':Hd,v = .tuple #[]∧g'.len=(T.before a i p k).out.length∧B = [Ab.box b 163 (Ad.enc ⟨(T.before a i p k).w,(T.before a i p k).b,g'⟩),Ab.own g' 56 16 ((T.before a i p k).out.flatMap Ing.Event.enc)]):=by
 intro w hS0
 refine Ak _ _ Tryz.func140 rfl rfl rfl (hS0) ?_
 refine CG (Gm rfl (Gn (.t5 0 2 3 4 10) ?_))
 refine Gc (fun c1=>?_) (fun c1=>?_)
 ·
  have c1p:=kz c1
  refine Gs (Gm rfl (Gm rfl (Gm rfl (Gt (BV rfl) (Gt (Ai A9 rfl) (Gt (Ai Cz rfl) ?_))))))
  refine Gt (AR F7 rfl rfl (by first | omega | exact hb.1 | exact hb.2 | (dsimp only;omega)) (by first | omega | exact hb.1 | exact hb.2 | (dsimp only;omega))) ?_
  refine Gt (Ai GF rfl) ?_
  refine AT (AK (((Ad.l0.comp AH.l1).comp (AU.ar (n:=9) Al.fl (by first | omega | exact hb | (dsimp only;omega)))).comp Al.l4) rfl rfl rfl KU rfl .h) ?_
  refine Gn (.t3 0 2 4) (Gs (Gm rfl (Gm rfl (Gm rfl ?_))))
  refine Ah rfl PD (.c rfl (.c rfl (.c rfl .n))) (.c .h (.c .h .n)) (Dy _ (T.DA i { T.w.AO.at i with on:=p }) _ k i hg hb hi (show T.out.length≤100000 by omega)) (fun v1 B hv=>?_)
  obtain⟨y2,rfl,y3,rfl⟩:=hv
  refine Gn (.nil _) (Ac (AD ?_))
  refine AY rfl .n ?_
  intro w1 hS
  have hS:=(hS.perm (Ax.perm (.c .h (.c .h .n)))).A1
  have hq:T.before a i p k=_:=(BB c1)
  refine⟨_,⟨?gq1,rfl,?hl1,?hB1⟩,hS⟩
  case hB1=>rw [hq];(try rfl)
  case hl1=>rw [hq];assumption
 have c1p:=kz c1
 refine Aa ?_
 refine AB (.t4 0 2 3 4) ?_
 refine AA (Gs (Gm rfl (Gm rfl (Gm rfl ?_))))
 refine Ah rfl PD (.c rfl (.c rfl (.c rfl .n))) (.c .h (.c .h .n)) (Dy _ T _ k i hg hb hi (show T.out.length≤100000 by omega)) (fun v4 B hv=>?_)
 obtain⟨y5,rfl,y6,rfl⟩:=hv
 refine Gn (.t3 0 2 3) (AJ (Gm rfl (Gm rfl (Gm rfl (Gt (BV rfl) (Gt (Ai A9 rfl) (Gt (Ai Cz rfl) ?_)))))))
 refine Gt (AR F7 rfl rfl (by first | omega | exact hb.1 | exact hb.2 | (dsimp only;omega)) (by first | omega | exact hb.1 | exact hb.2 | (dsimp only;omega))) ?_
 refine Gt (Ai GF rfl) ?_
 refine AT (AK (((Ad.l0.comp AH.l1).comp (AU.ar (n:=9) Al.fl (by first | omega | exact hb | (dsimp only;omega)))).comp Al.l4) rfl rfl rfl KU rfl .h) ?_
 refine AQ ?_
 refine Bk rfl .n ?_
 intro w1 hS
 have hS:=(hS.perm (Ax.perm (.c .h (.c .h .n)))).A1
 have hq:T.before a i p k=_:=(AX c1)
 refine⟨_,⟨?gq2,rfl,?hl2,?hB2⟩,hS⟩
 case hB2=>rw [hq];(try rfl)
 case hl2=>rw [hq];assumption
theorem SA (b:Nat)(T:AE)(g:Hd)(o:Order)(hg:g.len=T.out.length)(hF:T.Fit)(hv:12≤o.verb∧o.verb≤17)(hn:T.out.length≤80000):FU Tryz.prog 107 #[.pointer (some ⟨b,0,none⟩), .agg o.enc.toArray] [Ab.box b 163 (Ad.enc ⟨T.w,T.b,g⟩),Ab.own g 56 16 (T.out.flatMap Ing.Event.enc)] (fun w=>(GV 0 AH.DJ w∧0 ∉ Cg [Ab.box b 163 (Ad.enc ⟨T.w,T.b,g⟩),Ab.own g 56 16 (T.out.flatMap Ing.Event.enc)])) (fun v B=>∃ g':Hd,v = .tuple #[]∧g'.len=(T.set o).out.length∧B = [Ab.box b 163 (Ad.enc ⟨(T.set o).w,(T.set o).b,g'⟩),Ab.own g' 56 16 ((T.set o).out.flatMap Ing.Event.enc)]):=by
 intro w hS0 hH
 obtain⟨gl0,gm0⟩:=hH
 have hb:=hF.b
 have hr:=hF.room
 have ho9:=T.KG
 have hs9:=T.Ii
 refine Ak _ _ Tryz.func107 rfl rfl rfl (hS0) ?_
 refine Gs ?_
 refine B6 rfl rfl rfl (fun b1=>?_)
 refine Gn (.t2 0 3) (Gs (Gt (Ai DF rfl) (Gt (AG rfl A2 .m0 Order.l0 rfl rfl) (Gt (Af rfl rfl) (Gm rfl (Bg 13 rfl rfl (fun q=>Ai DF rfl) (Bg 13 rfl rfl (fun q=>AG (cF rfl q) A2 .m0 Order.l0 rfl rfl) ?_)))))))
 refine Bg 13 rfl rfl (fun q=>Af (cF rfl q) rfl) ?_
 refine Gt (BS rfl rfl (fun h=>by rw [h];rfl)) ?_
 refine Gm rfl (Bg 18 rfl rfl (fun q=>Ai DF rfl) (Bg 18 rfl rfl (fun q=>AG (cF rfl q) A2 .m0 Order.l0 rfl rfl) (Bg 18 rfl rfl (fun q=>Af (cF rfl q) rfl) ?_)))
 refine Gt (BS rfl rfl (fun h=>by rw [h];rfl)) ?_
 refine Ga rfl (Gn (.t3 0 3 4) (Gs (Ga rfl (Ga rfl (AQ (AA ?_))))))
 refine Qf (Lm:= []) (fun(kd:Int) (ev:Int)=>kd=AE.setKind o.verb∧ev=AE.PO o.verb) (fun(kd:Int) (ev:Int)=> [(5, .int .i64 kd),(6, .int .i64 ev)]) (fun(kd:Int) (ev:Int)=> []) (.t3 0 3 4) rfl ?_ (fun kd ev hC=>?_)
 ·
  refine Gs (Gt (Ai DF rfl) (Gt (AG rfl A2 .m0 Order.l0 rfl rfl) (Gn (.t6 0 3 4 5 6 24) (Ae (Gs (Gt (Af rfl rfl) (Ga rfl ?_)))))))
  refine Gn (.t7 0 3 4 5 6 24 25) ?_
  refine Gc (fun c1=>?_) (fun c1=>?_)
  ·
   have c1p:=kz c1
   refine AJ (Ga rfl ?_)
   refine AQ (AB (.t5 0 3 4 5 6) ?_)
   refine AV ?_
   refine Eb _ _ ?_ (.t5 5 6 0 3 4) (.refl _)
   · have hv6:o.verb=12∨o.verb=13∨o.verb=14∨o.verb=15∨o.verb=16∨o.verb=17:=by omega
     rcases hv6 with e | e | e | e | e | e<;>(try rw [e] at c1)<;>first | exact⟨by rw [e];rfl,by rw [e];rfl⟩ | exact absurd c1 (by decide)
  have c1p:=kz c1
  refine CG (Gt (Af rfl rfl) (Ga rfl (Gn (.t7 0 3 4 5 6 24 27) ?_)))
  refine Gc (fun c2=>?_) (fun c2=>?_)
  ·
   have c2p:=kz c2
   refine Aa (AA ?_)
   refine G1 rfl c2 ?_
   refine Gs (Ga rfl (Ga rfl (Gn (.t5 0 3 4 5 6) (Gs (Gm rfl (Gt (BT rfl) (Gn (.t6 0 3 4 5 6 31) ?_)))))))
   refine Gc (fun c3=>?_) (fun c3=>?_)
   ·
    have c3p:=kz c3
    refine AJ (Ga rfl ?_)
    refine AQ (AB (.t5 0 3 4 5 6) ?_)
    refine AV ?_
    refine Eb _ _ ?_ (.t5 5 6 0 3 4) (.refl _)
    · have hv6:o.verb=12∨o.verb=13∨o.verb=14∨o.verb=15∨o.verb=16∨o.verb=17:=by omega
      rcases hv6 with e | e | e | e | e | e<;>(try rw [e] at c1)<;>(try rw [e] at c2)<;>(try rw [e] at c3)<;>first | exact⟨by rw [e];rfl,by rw [e];rfl⟩ | exact absurd c1 (by decide) | exact absurd c2 (by decide) | exact absurd c3 (by decide)
   have c3p:=kz c3
   refine Aa ?_
   refine AB (.t5 0 3 4 5 6) ?_
   refine AV ?_
   refine Eb _ _ ?_ (.t5 5 6 0 3 4) (.refl _)
   · have hv6:o.verb=12∨o.verb=13∨o.verb=14∨o.verb=15∨o.verb=16∨o.verb=17:=by omega
     rcases hv6 with e | e | e | e | e | e<;>(try rw [e] at c1)<;>(try rw [e] at c2)<;>(try rw [e] at c3)<;>first | exact⟨by rw [e];rfl,by rw [e];rfl⟩ | exact absurd c1 (by decide) | exact absurd c2 (by decide) | exact absurd c3 (by decide)
  have c2p:=kz c2
  refine AJ (Gt (Af rfl rfl) (Ga rfl (Gn (.t7 0 3 4 5 6 24 27) ?_)))
  refine Gc (fun c4=>?_) (fun c4=>?_)
  ·
   have c4p:=kz c4
   refine Gs (Ga rfl (Ga rfl (Gn (.t5 0 3 4 5 6) (Gs (Gm rfl (Gt (BT rfl) (Gn (.t6 0 3 4 5 6 31) ?_)))))))
   refine Gc (fun c5=>?_) (fun c5=>?_)
   ·
    have c5p:=kz c5
    refine AJ (Ga rfl ?_)
    refine AQ (AB (.t5 0 3 4 5 6) ?_)
    refine AV ?_
    refine Eb _ _ ?_ (.t5 5 6 0 3 4) (.refl _)
    · have hv6:o.verb=12∨o.verb=13∨o.verb=14∨o.verb=15∨o.verb=16∨o.verb=17:=by omega
      rcases hv6 with e | e | e | e | e | e<;>(try rw [e] at c1)<;>(try rw [e] at c2)<;>(try rw [e] at c4)<;>(try rw [e] at c5)<;>first | exact⟨by rw [e];rfl,by rw [e];rfl⟩ | exact absurd c1 (by decide) | exact absurd c2 (by decide) | exact absurd c4 (by decide) | exact absurd c5 (by decide)
   have c5p:=kz c5
   refine Aa ?_
   refine AB (.t5 0 3 4 5 6) ?_
   refine AV ?_
   refine Eb _ _ ?_ (.t5 5 6 0 3 4) (.refl _)
   · have hv6:o.verb=12∨o.verb=13∨o.verb=14∨o.verb=15∨o.verb=16∨o.verb=17:=by omega
     rcases hv6 with e | e | e | e | e | e<;>(try rw [e] at c1)<;>(try rw [e] at c2)<;>(try rw [e] at c4)<;>(try rw [e] at c5)<;>first | exact⟨by rw [e];rfl,by rw [e];rfl⟩ | exact absurd c1 (by decide) | exact absurd c2 (by decide) | exact absurd c4 (by decide) | exact absurd c5 (by decide)
  have c4p:=kz c4
  refine CG (Gt (Af rfl rfl) (Ga rfl (Gn (.t7 0 3 4 5 6 24 32) ?_)))
  refine Gc (fun c6=>?_) (fun c6=>?_)
  ·
   have c6p:=kz c6
   refine Aa ?_
   refine AB (.t6 0 3 4 5 6 32) ?_
   refine AA ?_
   refine G1 rfl c6 ?_
   refine Gs (Ga rfl (Ga rfl (Gn (.t5 0 3 4 5 6) (Gs (Gm rfl (Gt (BT rfl) (Gn (.t6 0 3 4 5 6 36) ?_)))))))
   refine Gc (fun c7=>?_) (fun c7=>?_)
   ·
    have c7p:=kz c7
    refine AJ (Ga rfl ?_)
    refine AQ (AB (.t5 0 3 4 5 6) ?_)
    refine AV ?_
    refine Eb _ _ ?_ (.t5 5 6 0 3 4) (.refl _)
    · have hv6:o.verb=12∨o.verb=13∨o.verb=14∨o.verb=15∨o.verb=16∨o.verb=17:=by omega
      rcases hv6 with e | e | e | e | e | e<;>(try rw [e] at c1)<;>(try rw [e] at c2)<;>(try rw [e] at c4)<;>(try rw [e] at c6)<;>(try rw [e] at c7)<;>first | exact⟨by rw [e];rfl,by rw [e];rfl⟩ | exact absurd c1 (by decide) | exact absurd c2 (by decide) | exact absurd c4 (by decide) | exact absurd c6 (by decide) | exact absurd c7 (by decide)
   have c7p:=kz c7
   refine Aa ?_
   refine AB (.t5 0 3 4 5 6) ?_
   refine AV ?_
   refine Eb _ _ ?_ (.t5 5 6 0 3 4) (.refl _)
   · have hv6:o.verb=12∨o.verb=13∨o.verb=14∨o.verb=15∨o.verb=16∨o.verb=17:=by omega
     rcases hv6 with e | e | e | e | e | e<;>(try rw [e] at c1)<;>(try rw [e] at c2)<;>(try rw [e] at c4)<;>(try rw [e] at c6)<;>(try rw [e] at c7)<;>first | exact⟨by rw [e];rfl,by rw [e];rfl⟩ | exact absurd c1 (by decide) | exact absurd c2 (by decide) | exact absurd c4 (by decide) | exact absurd c6 (by decide) | exact absurd c7 (by decide)
  have c6p:=kz c6
  refine AJ (Gt (Af rfl rfl) (Ga rfl (Gn (.t6 0 3 4 5 6 32) ?_)))
  refine Gc (fun c8=>?_) (fun c8=>?_)
  ·
   have c8p:=kz c8
   refine Gs (Ga rfl (Ga rfl (Gn (.t5 0 3 4 5 6) (Gs (Gm rfl (Gt (BT rfl) (Gn (.t6 0 3 4 5 6 36) ?_)))))))
   refine Gc (fun c9=>?_) (fun c9=>?_)
   ·
    have c9p:=kz c9
    refine AJ (Ga rfl ?_)
    refine AQ (AB (.t5 0 3 4 5 6) ?_)
    refine AV ?_
    refine Eb _ _ ?_ (.t5 5 6 0 3 4) (.refl _)
    · have hv6:o.verb=12∨o.verb=13∨o.verb=14∨o.verb=15∨o.verb=16∨o.verb=17:=by omega
      rcases hv6 with e | e | e | e | e | e<;>(try rw [e] at c1)<;>(try rw [e] at c2)<;>(try rw [e] at c4)<;>(try rw [e] at c6)<;>(try rw [e] at c8)<;>(try rw [e] at c9)<;>first | exact⟨by rw [e];rfl,by rw [e];rfl⟩ | exact absurd c1 (by decide) | exact absurd c2 (by decide) | exact absurd c4 (by decide) | exact absurd c6 (by decide) | exact absurd c8 (by decide) | exact absurd c9 (by decide)
   have c9p:=kz c9
   refine Aa ?_
   refine AB (.t5 0 3 4 5 6) ?_
   refine AV ?_
   refine Eb _ _ ?_ (.t5 5 6 0 3 4) (.refl _)
   · have hv6:o.verb=12∨o.verb=13∨o.verb=14∨o.verb=15∨o.verb=16∨o.verb=17:=by omega
     rcases hv6 with e | e | e | e | e | e<;>(try rw [e] at c1)<;>(try rw [e] at c2)<;>(try rw [e] at c4)<;>(try rw [e] at c6)<;>(try rw [e] at c8)<;>(try rw [e] at c9)<;>first | exact⟨by rw [e];rfl,by rw [e];rfl⟩ | exact absurd c1 (by decide) | exact absurd c2 (by decide) | exact absurd c4 (by decide) | exact absurd c6 (by decide) | exact absurd c8 (by decide) | exact absurd c9 (by decide)
  have c8p:=kz c8
  refine Aa ?_
  refine AB (.t5 0 3 4 5 6) ?_
  refine AV ?_
  refine Eb _ _ ?_ (.t5 5 6 0 3 4) (.refl _)
  · have hv6:o.verb=12∨o.verb=13∨o.verb=14∨o.verb=15∨o.verb=16∨o.verb=17:=by omega
    rcases hv6 with e | e | e | e | e | e<;>(try rw [e] at c1)<;>(try rw [e] at c2)<;>(try rw [e] at c4)<;>(try rw [e] at c6)<;>(try rw [e] at c8)<;>first | exact⟨by rw [e];rfl,by rw [e];rfl⟩ | exact absurd c1 (by decide) | exact absurd c2 (by decide) | exact absurd c4 (by decide) | exact absurd c6 (by decide) | exact absurd c8 (by decide)
 obtain⟨rfl,rfl⟩:=hC
 refine CG (Gt (Ai Fq rfl) (Gt (AG rfl CX .m0 Order.l3 rfl rfl) ?_))
 refine BA rfl dE (.c rfl .n) (fun w hS=>Jr _ w (gl0.stM gm0 hS)) ?_
 refine Gm rfl (Gt (AN rfl rfl) (Gt (AN rfl rfl) (Ga rfl (Ga rfl (Gn (.t7 0 3 4 5 6 7 8) (Gs (Gm rfl ?_)))))))
 refine Gm rfl (Bf 44 rfl rfl (fun q=>AF rfl) (Bf 44 rfl rfl (fun q=>Af (Bc rfl q) rfl) (Gt (BG rfl rfl (fun h=>h)) (Gn (.t7 0 3 4 5 6 7 47) ?_))))
 refine Gc (fun c10=>?_) (fun c10=>?_)
 ·
  have c10p:=kz c10
  refine Gs (Gm rfl (Gm rfl (Gm rfl (Gm rfl ?_))))
  refine Ah rfl bd (.c rfl (.c rfl (.c rfl (.c rfl .n)))) (.c (.t .h) (.c (.t .h) .n)) (RJ _ T _ _ _ _ hg hF (Words.Uk (Bool.and_eq_true_iff.1 c10).1) (by omega)) (fun v1 B hv=>?_)
  obtain⟨y2,rfl,y3,rfl⟩:=hv
  refine Gn (.nil _) (Ac (AD ?_))
  refine AY rfl .n ?_
  intro w1 hS
  have hS:=(hS.perm (Ax.perm (.c .h (.c .h .n)))).A1
  have hq:T.set o=_:=(BB c10)
  refine⟨_,⟨?gq1,rfl,?hl1,?hB1⟩,hS⟩
  case hB1=>rw [hq];(try rfl)
  case hl1=>rw [hq];assumption
 have c10p:=kz c10
 refine Aa ?_
 refine AB (.t5 0 3 4 5 6) ?_
 refine AA (Gs (Gm rfl ?_))
 refine Ah rfl UX (.c rfl .n) (.c (.t .h) .n) (IE _ T _ hF) (fun v4 B hv=>?_)
 obtain⟨y5,rfl,y6,rfl⟩:=hv
 refine Ga rfl (Gn (.t6 0 3 4 5 6 9) (CG (Gm rfl (Gt (Af rfl rfl) (Gn (.t7 0 3 4 5 6 9 56) ?_)))))
 refine Gc (fun c11=>?_) (fun c11=>?_)
 ·
  have c11p:=kz c11
  refine AJ (Gm rfl (Gm rfl ?_))
  refine Ah rfl X9 (.c rfl .n) (.c .h .n) (I9 _ T _ hF) (fun v8 B hv=>?_)
  obtain⟨y9,rfl,y10,rfl⟩:=hv
  refine Ce Bu rfl Tryz.underlying169 C6 ay rfl dH (by decide) (by decide) rfl rfl (fun w hS=>Src.D7 Tryz.underlying169 ((Kn.own .m1) w hS)) (by(try dsimp only);omega) (fun _=>(.t (.t .h))) (fun h12 h12l h12z=>?_)
  refine Ga rfl (Gn (.t6 0 3 4 5 6 9) (Gs (Gm rfl (Gm rfl (Gt (Ai GO rfl) (Gt (AG rfl A2 .m3 Order.l1 rfl rfl) (Gt (Lj rfl rfl) ?_)))))))
  refine Gt (Ai Fq rfl) (Gt (AG rfl CX .m3 Order.l3 rfl rfl) ?_)
  refine Ah rfl P3 (.c rfl (.c rfl (.c rfl (.c rfl (.c rfl .n))))) (.c .h (.c (.t .h) .n)) (Ex _ T _ _ (T.own++T.seen) _ _ _ hF (by rw [List.length_append];omega) (by rw [List.length_append];omega) (fun i hi=>AE.Q3 hi)) (fun v13 B hv=>?_)
  obtain⟨y14,rfl,y15,rfl⟩:=hv
  refine Ga rfl (Gn (.t5 0 4 5 6 9) (Ae (Ao ?_)))
  have hx0:=AE.SP (l:=(AE.BP T.w (T.own++T.seen) (max o.nth 1) o.name false)) (fun i hi=>AE.Q3 (AE.Dp hi))
  refine BE (N:=18) [0,1,3,7,15,15,47,111,31,287,799,2047,4095,8191,15,32767,65535,131071] mix (by kernel_rfl) rfl ?_
  refine Pf 0 rfl (AF rfl) (Pf 1 rfl (Ar rfl Tryz.underlying169 rfl) (Pf 2 rfl (Af rfl rfl) (Pf 3 rfl (AF rfl) (Ho 4 82 rfl rfl rfl (fun q=>AF rfl) (Ho 5 82 rfl rfl rfl (fun q=>AF rfl) ?_)))))
  refine BX 6 rfl rfl (by kernel_rfl) (G9 (t:=82) rfl rfl (fun q=>by have q1:=q;(try simp at q1);exact Is (Bp Gd (by decide) (Kn.own .m2) (cF rfl q) rfl (by omega) (by first | omega | (simp at q ⊢;omega))))) ?_
  refine BX 7 rfl rfl (by kernel_rfl) (G9 (t:=82) rfl rfl (fun q=>by have q1:=q;(try simp at q1);exact Is (DI (cF rfl q) A2 (Kn.own .m2) (by first | omega | (simp at q ⊢;omega))))) ?_
  refine Ho 8 82 rfl rfl rfl (fun q=>BV (cF rfl q)) (Ho 9 82 rfl rfl rfl (fun q=>Ai A9 (cF rfl q)) (Ho 10 82 rfl rfl rfl (fun q=>Ai Cz (cF rfl q)) ?_))
  refine BX 11 rfl rfl (by kernel_rfl) (G9 (t:=82) rfl rfl (fun q=>by have q1:=q;(try simp at q1);exact Is (AR F7 (cF rfl q) (cF rfl q) (by first | omega | exact hb.1 | exact hb.2 | exact hx0.1 | exact hx0.2 | (dsimp only;omega)) (by first | omega | exact hb.1 | exact hb.2 | exact hx0.1 | exact hx0.2 | (dsimp only;omega))))) ?_
  refine Ho 12 82 rfl rfl rfl (fun q=>Ai G3 (cF rfl q)) ?_
  refine BX 13 rfl rfl (by kernel_rfl) (G9 (t:=82) rfl rfl (fun q=>by have q1:=q;(try simp at q1);exact Is (AG (cF rfl q) A2 .m0 (((Ad.l0.comp AH.l1).comp (AU.ar (n:=9) Al.fl (by first | omega | exact hb | exact hx0 | (dsimp only;omega)))).comp Al.l1) rfl rfl))) ?_
  refine Ho 14 82 rfl rfl rfl (fun q=>AF rfl) (Ho 15 82 rfl rfl rfl (fun q=>Cb (cF rfl q) (cF rfl q)) ?_)
  refine Pf 16 rfl (BS rfl rfl (fun h=>by rw [h];rfl)) ?_
  refine Pf 17 rfl (A0 rfl) ?_
  refine A4 (by kernel_rfl) ?_
  refine AB (.t6 0 4 5 6 9 78) ?_
  refine AA ?_
  refine Gc (fun c12=>?_) (fun c12=>?_)
  ·
   have c12p:=kz c12
   rw [y15] at c12 c12p
   have hsl:T.ES o=(AE.BP T.w (T.own++T.seen) (max o.nth 1) o.name false):=congrArg (fun q=>AE.BP T.w q _ _ _) (BB c11)
   refine AJ (Gm rfl ?_)
   refine Ah rfl ED (.c rfl (.c rfl .n)) (.c .h (.c (.t (.t (.t (.t .h)))) .n)) (Be _ _ _ _ hg hb (by omega)) (fun v17 B hv=>?_)
   obtain⟨y18,rfl,y19,rfl⟩:=hv
   refine AQ (AB (.nil _) ?_)
   refine AV ?_
   refine Bk rfl .n ?_
   intro w1 hS
   have hS:=(hS.perm (Ax.perm (.c .h (.c .h .n)))).A1
   have d0:(decide (((T.ES o).length:Int)=0) || !decide ((T.w.AO.at ((T.ES o).getD 0 0)).kind=AE.setKind o.verb))=true:=by rw [hsl];exact c12
   have hq:T.set o=_:=(AX c10).trans (BB d0)
   (try rw [hsl] at hq)
   refine⟨_,⟨?gq2,rfl,?hl2,?hB2⟩,hS⟩
   case hB2=>rw [hq];(try rfl)
   case hl2=>rw [hq];assumption
  have c12p:=kz c12
  rw [y15] at c12 c12p
  have hsl:T.ES o=(AE.BP T.w (T.own++T.seen) (max o.nth 1) o.name false):=congrArg (fun q=>AE.BP T.w q _ _ _) (BB c11)
  refine Ao ?_
  refine BE (N:=13) [0,0,2,6,1,17,49,127,255,511,0,2047,4095] mix (by kernel_rfl) rfl ?_
  refine Pf 0 rfl (AF rfl) (Pf 1 rfl (AF rfl) ?_)
  refine Pf 2 rfl (Bp Gd (by decide) (Kn.own .m2) rfl rfl (by omega) (by first | omega | (simp at q ⊢;omega))) ?_
  refine Pf 3 rfl (DI rfl A2 (Kn.own .m2) (by first | omega | (simp at q ⊢;omega))) ?_
  refine Pf 4 rfl (BV rfl) (Pf 5 rfl (Ai A9 rfl) (Pf 6 rfl (Ai Cz rfl) ?_))
  refine Pf 7 rfl (AR F7 rfl rfl (by first | omega | exact hb.1 | exact hb.2 | exact hx0.1 | exact hx0.2 | (dsimp only;omega)) (by first | omega | exact hb.1 | exact hb.2 | exact hx0.1 | exact hx0.2 | (dsimp only;omega))) ?_
  refine Pf 8 rfl (Ai GF rfl) ?_
  refine Pf 9 rfl (AG rfl Dn .m0 (((Ad.l0.comp AH.l1).comp (AU.ar (n:=9) Al.fl (by first | omega | exact hb | exact hx0 | (dsimp only;omega)))).comp Al.l4) rfl rfl) ?_
  refine Pf 10 rfl (AF rfl) (Pf 11 rfl (Jb Tryz.underlying4 rfl rfl) (Pf 12 rfl (A0 rfl) ?_))
  refine A4 (by kernel_rfl) ?_
  refine AB (.t6 0 4 5 6 9 98) ?_
  refine AA ?_
  refine Gc (fun c13=>?_) (fun c13=>?_)
  ·
   have c13p:=kz c13
   refine AJ (Gm rfl ?_)
   refine Ah rfl ED (.c rfl (.c rfl .n)) (.c .h (.c (.t (.t (.t (.t .h)))) .n)) (Be _ _ _ _ hg hb (by omega)) (fun v20 B hv=>?_)
   obtain⟨y21,rfl,y22,rfl⟩:=hv
   refine AQ (AB (.nil _) ?_)
   refine AV ?_
   refine Bk rfl .n ?_
   intro w1 hS
   have hS:=(hS.perm (Ax.perm (.c .h (.c .h .n)))).A1
   have d0:(decide (((T.ES o).length:Int)=0) || !decide ((T.w.AO.at ((T.ES o).getD 0 0)).kind=AE.setKind o.verb))=false:=by rw [hsl];exact c12
   have d1:((T.w.AO.at ((T.ES o).getD 0 0)).on == AE.Hm o.verb)=true:=by rw [hsl];exact c13
   have hq:T.set o=_:=(AX c10).trans ((AX d0).trans (BB d1))
   (try rw [hsl] at hq)
   refine⟨_,⟨?gq3,rfl,?hl3,?hB3⟩,hS⟩
   case hB3=>rw [hq];(try rfl)
   case hl3=>rw [hq];assumption
  have c13p:=kz c13
  refine Gs (Gm rfl (Ga rfl (Gn (.t6 0 4 5 6 9 113) ?_)))
  refine Gc (fun c14=>?_) (fun c14=>?_)
  ·
   have c14p:=kz c14
   refine AJ (Gm rfl (Gm rfl (Gt (Cb rfl rfl) (Gm rfl ?_))))
   refine Gt (Bp Gd (by decide) (Kn.own .m2) rfl rfl (by omega) (by first | omega | (simp at q ⊢;omega))) ?_
   refine Gt (DI rfl A2 (Kn.own .m2) (by first | omega | (simp at q ⊢;omega))) ?_
   refine Gm rfl (Gm rfl ?_)
   refine Ah rfl Ub (.c rfl (.c rfl (.c rfl (.c rfl (.c rfl .n))))) (.c .h (.c (.t (.t (.t (.t .h)))) .n)) (Fj _ T _ (!decide (AE.setKind o.verb=2)) ((AE.BP T.w (T.own++T.seen) (max o.nth 1) o.name false).getD (0:Int).toNat 0) _ _ hg hb hx0 (by omega)) (fun v23 B hv=>?_)
   obtain⟨y24,rfl,y25,rfl⟩:=hv
   refine AQ (AB (.nil _) ?_)
   refine AV ?_
   refine Bk rfl .n ?_
   intro w1 hS
   have hS:=(hS.perm (Ax.perm (.c .h (.c .h .n)))).A1
   have d0:(decide (((T.ES o).length:Int)=0) || !decide ((T.w.AO.at ((T.ES o).getD 0 0)).kind=AE.setKind o.verb))=false:=by rw [hsl];exact c12
   have d1:((T.w.AO.at ((T.ES o).getD 0 0)).on == AE.Hm o.verb)=false:=by rw [hsl];exact c13
   have d2:AE.Hm o.verb=true:=c14
   have hq:T.set o=_:=(AX c10).trans ((AX d0).trans ((AX d1).trans (BB d2)))
   (try rw [hsl] at hq)
   refine⟨_,⟨?gq4,rfl,?hl4,?hB4⟩,hS⟩
   case hB4=>rw [hq];(try rfl)
   case hl4=>rw [hq];assumption
  have c14p:=kz c14
  refine AJ (Gm rfl (Gm rfl (Gt (Af rfl rfl) (Gm rfl ?_))))
  refine Gt (Bp Gd (by decide) (Kn.own .m2) rfl rfl (by omega) (by first | omega | (simp at q ⊢;omega))) ?_
  refine Gt (DI rfl A2 (Kn.own .m2) (by first | omega | (simp at q ⊢;omega))) ?_
  refine Gm rfl (Gm rfl ?_)
  refine Ah rfl Ub (.c rfl (.c rfl (.c rfl (.c rfl (.c rfl .n))))) (.c .h (.c (.t (.t (.t (.t .h)))) .n)) (Fj _ T _ (decide (AE.setKind o.verb=2)) ((AE.BP T.w (T.own++T.seen) (max o.nth 1) o.name false).getD (0:Int).toNat 0) _ _ hg hb hx0 (by omega)) (fun v26 B hv=>?_)
  obtain⟨y27,rfl,y28,rfl⟩:=hv
  refine AQ (AB (.nil _) ?_)
  refine AV ?_
  refine Bk rfl .n ?_
  intro w1 hS
  have hS:=(hS.perm (Ax.perm (.c .h (.c .h .n)))).A1
  have d0:(decide (((T.ES o).length:Int)=0) || !decide ((T.w.AO.at ((T.ES o).getD 0 0)).kind=AE.setKind o.verb))=false:=by rw [hsl];exact c12
  have d1:((T.w.AO.at ((T.ES o).getD 0 0)).on == AE.Hm o.verb)=false:=by rw [hsl];exact c13
  have d2:AE.Hm o.verb=false:=c14
  have hq:T.set o=_:=(AX c10).trans ((AX d0).trans ((AX d1).trans (AX d2)))
  (try rw [hsl] at hq)
  refine⟨_,⟨?gq5,rfl,?hl5,?hB5⟩,hS⟩
  case hB5=>rw [hq];(try rfl)
  case hl5=>rw [hq];assumption
 have c11p:=kz c11
 refine Aa ?_
 refine AB (.t6 0 3 4 5 6 9) ?_
 refine AA (Gs (Gm rfl (Gm rfl (Gt (Ai GO rfl) (Gt (AG rfl A2 .m2 Order.l1 rfl rfl) (Gt (Lj rfl rfl) (Gt (Ai Fq rfl) ?_)))))))
 refine Gt (AG rfl CX .m2 Order.l3 rfl rfl) ?_
 refine Ah rfl P3 (.c rfl (.c rfl (.c rfl (.c rfl (.c rfl .n))))) (.c .h (.c .h .n)) (Ex _ T _ _ T.own _ _ _ hF (by assumption) (by omega) (fun i hi=>AE.ME hi)) (fun v29 B hv=>?_)
 obtain⟨y30,rfl,y31,rfl⟩:=hv
 refine Ga rfl (Gn (.t5 0 4 5 6 9) (Ae (Ao ?_)))
 have hx0:=AE.SP (l:=(AE.BP T.w T.own (max o.nth 1) o.name false)) (fun i hi=>AE.ME (AE.Dp hi))
 refine BE (N:=18) [0,1,3,7,15,15,47,111,31,287,799,2047,4095,8191,15,32767,65535,131071] mix (by kernel_rfl) rfl ?_
 refine Pf 0 rfl (AF rfl) (Pf 1 rfl (Ar rfl Tryz.underlying169 rfl) (Pf 2 rfl (Af rfl rfl) (Pf 3 rfl (AF rfl) (Ho 4 82 rfl rfl rfl (fun q=>AF rfl) (Ho 5 82 rfl rfl rfl (fun q=>AF rfl) ?_)))))
 refine BX 6 rfl rfl (by kernel_rfl) (G9 (t:=82) rfl rfl (fun q=>by have q1:=q;(try simp at q1);exact Is (Bp Gd (by decide) (Kn.own .m2) (cF rfl q) rfl (by omega) (by first | omega | (simp at q ⊢;omega))))) ?_
 refine BX 7 rfl rfl (by kernel_rfl) (G9 (t:=82) rfl rfl (fun q=>by have q1:=q;(try simp at q1);exact Is (DI (cF rfl q) A2 (Kn.own .m2) (by first | omega | (simp at q ⊢;omega))))) ?_
 refine Ho 8 82 rfl rfl rfl (fun q=>BV (cF rfl q)) (Ho 9 82 rfl rfl rfl (fun q=>Ai A9 (cF rfl q)) (Ho 10 82 rfl rfl rfl (fun q=>Ai Cz (cF rfl q)) ?_))
 refine BX 11 rfl rfl (by kernel_rfl) (G9 (t:=82) rfl rfl (fun q=>by have q1:=q;(try simp at q1);exact Is (AR F7 (cF rfl q) (cF rfl q) (by first | omega | exact hb.1 | exact hb.2 | exact hx0.1 | exact hx0.2 | (dsimp only;omega)) (by first | omega | exact hb.1 | exact hb.2 | exact hx0.1 | exact hx0.2 | (dsimp only;omega))))) ?_
 refine Ho 12 82 rfl rfl rfl (fun q=>Ai G3 (cF rfl q)) ?_
 refine BX 13 rfl rfl (by kernel_rfl) (G9 (t:=82) rfl rfl (fun q=>by have q1:=q;(try simp at q1);exact Is (AG (cF rfl q) A2 .m0 (((Ad.l0.comp AH.l1).comp (AU.ar (n:=9) Al.fl (by first | omega | exact hb | exact hx0 | (dsimp only;omega)))).comp Al.l1) rfl rfl))) ?_
 refine Ho 14 82 rfl rfl rfl (fun q=>AF rfl) (Ho 15 82 rfl rfl rfl (fun q=>Cb (cF rfl q) (cF rfl q)) ?_)
 refine Pf 16 rfl (BS rfl rfl (fun h=>by rw [h];rfl)) ?_
 refine Pf 17 rfl (A0 rfl) ?_
 refine A4 (by kernel_rfl) ?_
 refine AB (.t6 0 4 5 6 9 78) ?_
 refine AA ?_
 refine Gc (fun c15=>?_) (fun c15=>?_)
 ·
  have c15p:=kz c15
  rw [y31] at c15 c15p
  have hsl:T.ES o=(AE.BP T.w T.own (max o.nth 1) o.name false):=congrArg (fun q=>AE.BP T.w q _ _ _) (AX c11)
  refine AJ (Gm rfl ?_)
  refine Ah rfl ED (.c rfl (.c rfl .n)) (.c .h (.c (.t (.t (.t .h))) .n)) (Be _ _ _ _ hg hb (by omega)) (fun v33 B hv=>?_)
  obtain⟨y34,rfl,y35,rfl⟩:=hv
  refine AQ (AB (.nil _) ?_)
  refine AV ?_
  refine Bk rfl .n ?_
  intro w1 hS
  have hS:=(hS.perm (Ax.perm (.c .h (.c .h .n)))).A1
  have d0:(decide (((T.ES o).length:Int)=0) || !decide ((T.w.AO.at ((T.ES o).getD 0 0)).kind=AE.setKind o.verb))=true:=by rw [hsl];exact c15
  have hq:T.set o=_:=(AX c10).trans (BB d0)
  (try rw [hsl] at hq)
  refine⟨_,⟨?gq6,rfl,?hl6,?hB6⟩,hS⟩
  case hB6=>rw [hq];(try rfl)
  case hl6=>rw [hq];assumption
 have c15p:=kz c15
 rw [y31] at c15 c15p
 have hsl:T.ES o=(AE.BP T.w T.own (max o.nth 1) o.name false):=congrArg (fun q=>AE.BP T.w q _ _ _) (AX c11)
 refine Ao ?_
 refine BE (N:=13) [0,0,2,6,1,17,49,127,255,511,0,2047,4095] mix (by kernel_rfl) rfl ?_
 refine Pf 0 rfl (AF rfl) (Pf 1 rfl (AF rfl) ?_)
 refine Pf 2 rfl (Bp Gd (by decide) (Kn.own .m2) rfl rfl (by omega) (by first | omega | (simp at q ⊢;omega))) ?_
 refine Pf 3 rfl (DI rfl A2 (Kn.own .m2) (by first | omega | (simp at q ⊢;omega))) ?_
 refine Pf 4 rfl (BV rfl) (Pf 5 rfl (Ai A9 rfl) (Pf 6 rfl (Ai Cz rfl) ?_))
 refine Pf 7 rfl (AR F7 rfl rfl (by first | omega | exact hb.1 | exact hb.2 | exact hx0.1 | exact hx0.2 | (dsimp only;omega)) (by first | omega | exact hb.1 | exact hb.2 | exact hx0.1 | exact hx0.2 | (dsimp only;omega))) ?_
 refine Pf 8 rfl (Ai GF rfl) ?_
 refine Pf 9 rfl (AG rfl Dn .m0 (((Ad.l0.comp AH.l1).comp (AU.ar (n:=9) Al.fl (by first | omega | exact hb | exact hx0 | (dsimp only;omega)))).comp Al.l4) rfl rfl) ?_
 refine Pf 10 rfl (AF rfl) (Pf 11 rfl (Jb Tryz.underlying4 rfl rfl) (Pf 12 rfl (A0 rfl) ?_))
 refine A4 (by kernel_rfl) ?_
 refine AB (.t6 0 4 5 6 9 98) ?_
 refine AA ?_
 refine Gc (fun c16=>?_) (fun c16=>?_)
 ·
  have c16p:=kz c16
  refine AJ (Gm rfl ?_)
  refine Ah rfl ED (.c rfl (.c rfl .n)) (.c .h (.c (.t (.t (.t .h))) .n)) (Be _ _ _ _ hg hb (by omega)) (fun v36 B hv=>?_)
  obtain⟨y37,rfl,y38,rfl⟩:=hv
  refine AQ (AB (.nil _) ?_)
  refine AV ?_
  refine Bk rfl .n ?_
  intro w1 hS
  have hS:=(hS.perm (Ax.perm (.c .h (.c .h .n)))).A1
  have d0:(decide (((T.ES o).length:Int)=0) || !decide ((T.w.AO.at ((T.ES o).getD 0 0)).kind=AE.setKind o.verb))=false:=by rw [hsl];exact c15
  have d1:((T.w.AO.at ((T.ES o).getD 0 0)).on == AE.Hm o.verb)=true:=by rw [hsl];exact c16
  have hq:T.set o=_:=(AX c10).trans ((AX d0).trans (BB d1))
  (try rw [hsl] at hq)
  refine⟨_,⟨?gq7,rfl,?hl7,?hB7⟩,hS⟩
  case hB7=>rw [hq];(try rfl)
  case hl7=>rw [hq];assumption
 have c16p:=kz c16
 refine Gs (Gm rfl (Ga rfl (Gn (.t6 0 4 5 6 9 113) ?_)))
 refine Gc (fun c17=>?_) (fun c17=>?_)
 ·
  have c17p:=kz c17
  refine AJ (Gm rfl (Gm rfl (Gt (Cb rfl rfl) (Gm rfl ?_))))
  refine Gt (Bp Gd (by decide) (Kn.own .m2) rfl rfl (by omega) (by first | omega | (simp at q ⊢;omega))) ?_
  refine Gt (DI rfl A2 (Kn.own .m2) (by first | omega | (simp at q ⊢;omega))) ?_
  refine Gm rfl (Gm rfl ?_)
  refine Ah rfl Ub (.c rfl (.c rfl (.c rfl (.c rfl (.c rfl .n))))) (.c .h (.c (.t (.t (.t .h))) .n)) (Fj _ T _ (!decide (AE.setKind o.verb=2)) ((AE.BP T.w T.own (max o.nth 1) o.name false).getD (0:Int).toNat 0) _ _ hg hb hx0 (by omega)) (fun v39 B hv=>?_)
  obtain⟨y40,rfl,y41,rfl⟩:=hv
  refine AQ (AB (.nil _) ?_)
  refine AV ?_
  refine Bk rfl .n ?_
  intro w1 hS
  have hS:=(hS.perm (Ax.perm (.c .h (.c .h .n)))).A1
  have d0:(decide (((T.ES o).length:Int)=0) || !decide ((T.w.AO.at ((T.ES o).getD 0 0)).kind=AE.setKind o.verb))=false:=by rw [hsl];exact c15
  have d1:((T.w.AO.at ((T.ES o).getD 0 0)).on == AE.Hm o.verb)=false:=by rw [hsl];exact c16
  have d2:AE.Hm o.verb=true:=c17
  have hq:T.set o=_:=(AX c10).trans ((AX d0).trans ((AX d1).trans (BB d2)))
  (try rw [hsl] at hq)
  refine⟨_,⟨?gq8,rfl,?hl8,?hB8⟩,hS⟩
  case hB8=>rw [hq];(try rfl)
  case hl8=>rw [hq];assumption
 have c17p:=kz c17
 refine AJ (Gm rfl (Gm rfl (Gt (Af rfl rfl) (Gm rfl ?_))))
 refine Gt (Bp Gd (by decide) (Kn.own .m2) rfl rfl (by omega) (by first | omega | (simp at q ⊢;omega))) ?_
 refine Gt (DI rfl A2 (Kn.own .m2) (by first | omega | (simp at q ⊢;omega))) ?_
 refine Gm rfl (Gm rfl ?_)
 refine Ah rfl Ub (.c rfl (.c rfl (.c rfl (.c rfl (.c rfl .n))))) (.c .h (.c (.t (.t (.t .h))) .n)) (Fj _ T _ (decide (AE.setKind o.verb=2)) ((AE.BP T.w T.own (max o.nth 1) o.name false).getD (0:Int).toNat 0) _ _ hg hb hx0 (by omega)) (fun v42 B hv=>?_)
 obtain⟨y43,rfl,y44,rfl⟩:=hv
 refine AQ (AB (.nil _) ?_)
 refine AV ?_
 refine Bk rfl .n ?_
 intro w1 hS
 have hS:=(hS.perm (Ax.perm (.c .h (.c .h .n)))).A1
 have d0:(decide (((T.ES o).length:Int)=0) || !decide ((T.w.AO.at ((T.ES o).getD 0 0)).kind=AE.setKind o.verb))=false:=by rw [hsl];exact c15
 have d1:((T.w.AO.at ((T.ES o).getD 0 0)).on == AE.Hm o.verb)=false:=by rw [hsl];exact c16
 have d2:AE.Hm o.verb=false:=c17
 have hq:T.set o=_:=(AX c10).trans ((AX d0).trans ((AX d1).trans (AX d2)))
 (try rw [hsl] at hq)
 refine⟨_,⟨?gq9,rfl,?hl9,?hB9⟩,hS⟩
 case hB9=>rw [hq];(try rfl)
 case hl9=>rw [hq];assumption
theorem GP (X:AH)(b:Int)(o:Order)(hw:X.DL)(hu:o.second.length≤5000000)(hm:o.name.length≤5000000):FU Tryz.prog 84 #[.agg X.enc.toArray, .int .i64 b, .agg o.enc.toArray] [] (fun w=>(GV 0 AH.DJ w∧0 ∉ Cg [])∧(Gu 7 w∧7 ∉ Cg [])∧(Gu 8 w∧8 ∉ Cg [])) (fun v B=>∃ h:Hd,v = .tuple #[.agg ((AE.EC X b o).1.enc).toArray,h.val, .int .i64 (AE.EC X b o).2.2]∧h.len=(AE.EC X b o).2.1.length∧B = [Ab.own h 56 16 ((AE.EC X b o).2.1.flatMap Ing.Event.enc)]):=by
 intro w hS0 hH
 obtain⟨⟨gl0,gm0⟩,⟨gl1,gm1⟩,⟨gl2,gm2⟩⟩:=hH
 refine Ak _ _ Tryz.func84 rfl rfl rfl (hS0) ?_
 refine Gs ?_
 refine B6 rfl rfl rfl (fun b1=>?_)
 refine B6 rfl rfl rfl (fun b2=>?_)
 refine BD rfl LU rfl (fun b3=>?_)
 refine Ga rfl (Ga rfl (Gn (.t4 1 3 5 6) (Ao (Ae (Gs (Gt (AZ rfl BW .m2 (AU.id AH.fl.len AH.fl.one) rfl) ?_))))))
 refine BA rfl aP (.c rfl .n) (fun w hS=>HV _ w) ?_
 refine Gt (BT rfl) (Ga rfl (Gn (.t5 1 3 5 6 10) ?_))
 refine Gc (fun c1=>?_) (fun c1=>?_)
 ·
  refine Gs (Gt (AZ rfl BW .m2 (AU.id AH.fl.len AH.fl.one) rfl) ?_)
  refine AT (AK (AU.id AH.fl.len AH.fl.one) rfl rfl rfl Dz rfl .h) ?_
  refine Ga rfl (Ga rfl (Gn (.t3 6 7 8) (Ac (AS (AD ?_)))))
  refine AY rfl (.cell rfl .m0 (.inl ⟨(by rw [AH.fl.len];exact BW),rfl⟩) (.tmp rfl (.tmp rfl .n))) ?_
  intro w1 hS
  have hS:=hS.Cs 56 16
  have hS:=(hS.perm (Ax.perm (.c .h .n))).A1
  have hq:AE.EC X b o=_:=(BB c1)
  refine⟨_,⟨⟨none,0,0⟩,?hv1,?hl1,?hB1⟩,hS⟩
  case hv1=>rw [hq];rfl
  case hl1=>rw [hq];rfl
  case hB1=>rw [hq];rfl
 have c1p:=kz c1
 refine Gs (Gm rfl (Gt (A7 rfl rfl) (Gm rfl (Bg 18 rfl rfl (fun q=>AF rfl) (Bg 18 rfl rfl (fun q=>CK (cF rfl q) rfl) ?_)))))
 refine Gt (BS rfl rfl (fun h=>by rw [h];rfl)) ?_
 refine Gm rfl (Bg 22 rfl rfl (fun q=>AF rfl) (Bg 22 rfl rfl (fun q=>Ai Bo rfl) ?_))
 refine Bg 22 rfl rfl (fun q=>by have q1:=q;(try simp at q1);exact AR C8 (cF rfl q) (cF rfl q) (by first | omega | exact hb.1 | exact hb.2 | (dsimp only;omega)) (by first | omega | exact hb.1 | exact hb.2 | (dsimp only;omega))) ?_
 refine Bg 22 rfl rfl (fun q=>Ai IP (cF rfl q)) ?_
 refine Bg 22 rfl rfl (fun q=>by have q1:=q;(try simp at q1);exact AG (cF rfl q) Dn .m2 ((AH.l2.comp (AU.ar (n:=6) Aj.fl (by first | omega | exact hb | (dsimp only;omega)))).comp Aj.l1) rfl rfl) ?_
 refine Bg 22 rfl rfl (fun q=>BT (cF rfl q)) ?_
 refine Gt (BS rfl rfl (fun h=>by rw [h];rfl)) ?_
 refine Ga rfl (Gn (.t5 1 3 5 6 15) ?_)
 refine Gc (fun c2=>?_) (fun c2=>?_)
 ·
  refine Gs (Gt (AZ rfl BW .m2 (AU.id AH.fl.len AH.fl.one) rfl) ?_)
  refine AT (AK (AU.id AH.fl.len AH.fl.one) rfl rfl rfl Dz rfl .h) ?_
  refine Ga rfl (Ga rfl (Gn (.t3 6 7 8) (Ac (AS (AD ?_)))))
  refine AY rfl (.cell rfl .m0 (.inl ⟨(by rw [AH.fl.len];exact BW),rfl⟩) (.tmp rfl (.tmp rfl .n))) ?_
  intro w1 hS
  have hS:=hS.Cs 56 16
  have hS:=(hS.perm (Ax.perm (.c .h .n))).A1
  have hq:AE.EC X b o=_:=((AX c1).trans (BB c2))
  refine⟨_,⟨⟨none,0,0⟩,?hv2,?hl2,?hB2⟩,hS⟩
  case hv2=>rw [hq];rfl
  case hl2=>rw [hq];rfl
  case hB2=>rw [hq];rfl
 have c2p:=kz c2
 refine Gs (Gt (Ai DF rfl) (Gt (AG rfl A2 .m1 Order.l0 rfl rfl) (Gt (A7 rfl rfl) (Gm rfl (Bg 35 rfl rfl (fun q=>Ai DF rfl) (Bg 35 rfl rfl (fun q=>AG (cF rfl q) A2 .m1 Order.l0 rfl rfl) (Bg 35 rfl rfl (fun q=>Cn (cF rfl q) rfl) ?_)))))))
 refine Gt (BS rfl rfl (fun h=>by rw [h];rfl)) ?_
 refine Ga rfl (Gn (.t5 1 3 5 6 31) ?_)
 refine Gc (fun c3=>?_) (fun c3=>?_)
 ·
  refine Gs (Gt (AZ rfl BW .m2 (AU.id AH.fl.len AH.fl.one) rfl) ?_)
  refine AT (AK (AU.id AH.fl.len AH.fl.one) rfl rfl rfl Dz rfl .h) ?_
  refine Ga rfl (Ga rfl (Gn (.t3 6 7 8) (Ac (AS (AD ?_)))))
  refine AY rfl (.cell rfl .m0 (.inl ⟨(by rw [AH.fl.len];exact BW),rfl⟩) (.tmp rfl (.tmp rfl .n))) ?_
  intro w1 hS
  have hS:=hS.Cs 56 16
  have hS:=(hS.perm (Ax.perm (.c .h .n))).A1
  have hq:AE.EC X b o=_:=((AX c1).trans ((AX c2).trans (BB c3)))
  refine⟨_,⟨⟨none,0,0⟩,?hv3,?hl3,?hB3⟩,hS⟩
  case hv3=>rw [hq];rfl
  case hl3=>rw [hq];rfl
  case hB3=>rw [hq];rfl
 have c3p:=kz c3
 have hF:=AE.WJ hw c1 c2
 have hb:=hF.b
 refine Aa ?_
 refine AB (.t4 1 3 5 6) ?_
 refine AV (AA (Gs (Gt (AZ rfl BW .m2 (AU.id AH.fl.len AH.fl.one) rfl) (Gm rfl (Gt (BC UR UP rfl (.cons Ad.l0 rfl rfl rfl (.cons Ad.l1 rfl rfl rfl .nil))) ?_)))))
 refine B6 rfl rfl rfl (fun b4=>?_)
 refine Ga rfl (Gn (.t4 1 5 6 9) (Ao (Ae (Gs (Gt (Ai DF rfl) (Gt (AG rfl A2 .m2 Order.l0 rfl rfl) (Gt (A7 rfl rfl) ?_)))))))
 refine Ga rfl (Gn (.t5 1 5 6 9 48) ?_)
 refine Gc (fun c4=>?_) (fun c4=>?_)
 ·
  have c4p:=kz c4
  refine AJ (Gm rfl (Gt (Ai DF rfl) (Gt (AG rfl A2 .m2 Order.l0 rfl rfl) ?_)))
  refine Dm Ing.Event.enc 56 16 ?_
  refine BF rfl dp (.c rfl (.c rfl .n)) (.c (.t .h) (.c .h .n)) (Ql _ (⟨X,b,[]⟩:AE) _ o.verb rfl hF (by omega) (Nat.zero_le _)) (fun w hS=>gl0.pull gm0 hS (.c (.t .h) (.c .h .n))) (fun v5 B hv=>?_)
  obtain⟨y6,rfl,y7,rfl⟩:=hv
  refine AQ (AB (.t2 6 9) ?_)
  refine AV (AA (Ao ?_))
  refine BE (N:=11) [0,1,3,7,0,16,48,112,15,511,1023] mix (by kernel_rfl) rfl ?_
  refine Pf 0 rfl (AF rfl) (Pf 1 rfl (BV rfl) (Pf 2 rfl (Ai A9 rfl) (Pf 3 rfl (AZ rfl BW .m0 Ad.l0 rfl) (Pf 4 rfl (AF rfl) (Pf 5 rfl (BV rfl) (Pf 6 rfl (Ai CJ rfl) (Pf 7 rfl (AG rfl Di .m0 Ad.l2 rfl rfl) ?_)))))))
  refine An 8 rfl (by kernel_rfl) ?_
  refine AT (AK (AU.id AH.fl.len AH.fl.one) rfl rfl rfl Dz rfl (.t (.t .h))) ?_
  refine BN rfl ⟨?_,?_⟩
  · exact(Po rfl (AG rfl Di .m0 Ad.l2 rfl rfl) rfl rfl (Po rfl (Ai CJ rfl) rfl rfl (Po rfl (BV rfl) rfl rfl (Po rfl (AF rfl) rfl rfl (Pk (Pk (Pk (Pk As))))))))
  refine Pf 9 rfl (A0 rfl) (Pf 10 rfl (A0 rfl) ?_)
  refine A4 (by kernel_rfl) ?_
  refine AB (.t3 6 7 8) ?_
  refine AA (Ac ?_)
  refine AY rfl (.cell rfl .m2 (.inl ⟨(by rw [AH.fl.len];exact BW),rfl⟩) (.tmp rfl (.tmp rfl .n))) ?_
  intro w1 hS
  have hS:=(hS.perm (Ax.perm (.c (.t .h) .n))).A1
  have ha:AE.act (⟨X,b,[]⟩:AE) o=_:=(BB c4)
  have hq:AE.EC X b o=((AE.act (⟨X,b,[]⟩:AE) o).w,(AE.act (⟨X,b,[]⟩:AE) o).out,0):=((AX c1).trans ((AX c2).trans (AX c3)))
  rw [ha] at hq
  refine⟨_,⟨?gq4,?hv4,?hl4,?hB4⟩,hS⟩
  case hB4=>rw [hq];(try rfl)
  case hv4=>rw [hq];(try rfl)
  case hl4=>rw [hq];(try dsimp only);exact y7
 have c4p:=kz c4
 refine Gs (Gt (Ai DF rfl) (Gt (AG rfl A2 .m2 Order.l0 rfl rfl) (Gt (Af rfl rfl) (Ga rfl (Gn (.t5 1 5 6 9 56) ?_)))))
 refine Gc (fun c5=>?_) (fun c5=>?_)
 ·
  refine AJ (Gm rfl ?_)
  refine Dm Ing.Event.enc 56 16 ?_
  refine BF rfl U7 (.c rfl .n) (.c (.t .h) (.c .h .n)) (HK _ (⟨X,b,[]⟩:AE) _ rfl hF.b hF.br (Nat.zero_le _)) (fun w hS=>gl0.pull gm0 hS (.c (.t .h) (.c .h .n))) (fun v9 B hv=>?_)
  obtain⟨y10,rfl,y11,rfl⟩:=hv
  refine AQ (AB (.t2 6 9) ?_)
  refine AV (AA (Ao ?_))
  refine BE (N:=11) [0,1,3,7,0,16,48,112,15,511,1023] mix (by kernel_rfl) rfl ?_
  refine Pf 0 rfl (AF rfl) (Pf 1 rfl (BV rfl) (Pf 2 rfl (Ai A9 rfl) (Pf 3 rfl (AZ rfl BW .m0 Ad.l0 rfl) (Pf 4 rfl (AF rfl) (Pf 5 rfl (BV rfl) (Pf 6 rfl (Ai CJ rfl) (Pf 7 rfl (AG rfl Di .m0 Ad.l2 rfl rfl) ?_)))))))
  refine An 8 rfl (by kernel_rfl) ?_
  refine AT (AK (AU.id AH.fl.len AH.fl.one) rfl rfl rfl Dz rfl (.t (.t .h))) ?_
  refine BN rfl ⟨?_,?_⟩
  · exact(Po rfl (AG rfl Di .m0 Ad.l2 rfl rfl) rfl rfl (Po rfl (Ai CJ rfl) rfl rfl (Po rfl (BV rfl) rfl rfl (Po rfl (AF rfl) rfl rfl (Pk (Pk (Pk (Pk As))))))))
  refine Pf 9 rfl (A0 rfl) (Pf 10 rfl (A0 rfl) ?_)
  refine A4 (by kernel_rfl) ?_
  refine AB (.t3 6 7 8) ?_
  refine AA (Ac ?_)
  refine AY rfl (.cell rfl .m2 (.inl ⟨(by rw [AH.fl.len];exact BW),rfl⟩) (.tmp rfl (.tmp rfl .n))) ?_
  intro w1 hS
  have hS:=(hS.perm (Ax.perm (.c (.t .h) .n))).A1
  have ha:AE.act (⟨X,b,[]⟩:AE) o=_:=((AX c4).trans (BB c5))
  have hq:AE.EC X b o=((AE.act (⟨X,b,[]⟩:AE) o).w,(AE.act (⟨X,b,[]⟩:AE) o).out,0):=((AX c1).trans ((AX c2).trans (AX c3)))
  rw [ha] at hq
  refine⟨_,⟨?gq5,?hv5,?hl5,?hB5⟩,hS⟩
  case hB5=>rw [hq];(try rfl)
  case hv5=>rw [hq];(try rfl)
  case hl5=>rw [hq];(try dsimp only);exact y11
 have c5p:=kz c5
 refine Gs (Gt (Ai DF rfl) (Gt (AG rfl A2 .m2 Order.l0 rfl rfl) (Gt (Af rfl rfl) (Ga rfl (Gn (.t5 1 5 6 9 62) ?_)))))
 refine Gc (fun c6=>?_) (fun c6=>?_)
 ·
  have c6p:=kz c6
  refine AJ (Gm rfl (Gm rfl (Gt (BV rfl) (Gt (Ai A9 rfl) (Gt (AZ rfl BW .m0 Ad.l0 rfl) (Gm rfl ?_))))))
  refine Ah rfl SV (.c rfl (.c rfl (.c rfl .n))) .n (FF _ _ _) (fun v12 B hv=>?_)
  obtain⟨y13,rfl,y14,rfl⟩:=hv
  refine Dm Ing.Event.enc 56 16 ?_
  refine Ah rfl ZQ (.c rfl (.c rfl (.c rfl .n))) (.c (.t (.t .h)) (.c .h (.c .h .n))) (LR _ (⟨X,b,[]⟩:AE) _ [89,111,117,32,104,97,118,101] _ (X.has 1 b) rfl hF.b (by assumption) (AH.II _ _ _) (fun i hi=>AH.Fx hi) hF.br (by decide) (Nat.zero_le _)) (fun v17 B hv=>?_)
  obtain⟨y18,rfl,y19,rfl⟩:=hv
  refine AQ (AB (.t2 6 9) ?_)
  refine AV (AA (Ao ?_))
  refine BE (N:=11) [0,1,3,7,0,16,48,112,15,511,1023] mix (by kernel_rfl) rfl ?_
  refine Pf 0 rfl (AF rfl) (Pf 1 rfl (BV rfl) (Pf 2 rfl (Ai A9 rfl) (Pf 3 rfl (AZ rfl BW .m0 Ad.l0 rfl) (Pf 4 rfl (AF rfl) (Pf 5 rfl (BV rfl) (Pf 6 rfl (Ai CJ rfl) (Pf 7 rfl (AG rfl Di .m0 Ad.l2 rfl rfl) ?_)))))))
  refine An 8 rfl (by kernel_rfl) ?_
  refine AT (AK (AU.id AH.fl.len AH.fl.one) rfl rfl rfl Dz rfl (.t (.t (.t .h)))) ?_
  refine BN rfl ⟨?_,?_⟩
  · exact(Po rfl (AG rfl Di .m0 Ad.l2 rfl rfl) rfl rfl (Po rfl (Ai CJ rfl) rfl rfl (Po rfl (BV rfl) rfl rfl (Po rfl (AF rfl) rfl rfl (Pk (Pk (Pk (Pk As))))))))
  refine Pf 9 rfl (A0 rfl) (Pf 10 rfl (A0 rfl) ?_)
  refine A4 (by kernel_rfl) ?_
  refine AB (.t3 6 7 8) ?_
  refine AA (Ac ?_)
  refine AY rfl (.cell rfl .m3 (.inl ⟨(by rw [AH.fl.len];exact BW),rfl⟩) (.tmp rfl (.tmp rfl .n))) ?_
  intro w1 hS
  have hS:=(hS.perm (Ax.perm (.c (.t .h) .n))).A1
  have ha:AE.act (⟨X,b,[]⟩:AE) o=_:=((AX c4).trans ((AX c5).trans (BB c6)))
  have hq:AE.EC X b o=((AE.act (⟨X,b,[]⟩:AE) o).w,(AE.act (⟨X,b,[]⟩:AE) o).out,0):=((AX c1).trans ((AX c2).trans (AX c3)))
  rw [ha] at hq
  refine⟨_,⟨?gq6,?hv6,?hl6,?hB6⟩,hS⟩
  case hB6=>rw [hq];(try rfl)
  case hv6=>rw [hq];(try rfl)
  case hl6=>rw [hq];(try dsimp only);exact y19
 have c6p:=kz c6
 refine Gs (Gt (Ai DF rfl) (Gt (AG rfl A2 .m2 Order.l0 rfl rfl) (Gt (Af rfl rfl) (Ga rfl (Gn (.t4 5 6 9 74) ?_)))))
 refine Gc (fun c7=>?_) (fun c7=>?_)
 ·
  refine AJ (Gm rfl (Gt (Ai Qg rfl) (Gt (AG rfl CX .m2 Order.l5 rfl rfl) (Gt (BC Nn HZ rfl (.cons Ing.Event.l0 rfl rfl rfl (.cons Ing.Event.l3 rfl rfl rfl (.cons Ing.Event.l9 rfl rfl rfl .nil)))) ?_))))
  refine Dm Ing.Event.enc 56 16 ?_
  refine Ah rfl N0 (.c rfl (.c rfl .n)) (.c (.t .h) (.c .h .n)) (CN _ (⟨X,b,[]⟩:AE) _ { AE.F0 7 with text:=o.text } rfl hF.b (show(-1:Int) < 6 by decide) (Nat.zero_le _)) (fun v21 B hv=>?_)
  obtain⟨y22,rfl,y23,rfl⟩:=hv
  refine AQ (AB (.t2 6 9) ?_)
  refine AV (AA (Ao ?_))
  refine BE (N:=11) [0,1,3,7,0,16,48,112,15,511,1023] mix (by kernel_rfl) rfl ?_
  refine Pf 0 rfl (AF rfl) (Pf 1 rfl (BV rfl) (Pf 2 rfl (Ai A9 rfl) (Pf 3 rfl (AZ rfl BW .m0 Ad.l0 rfl) (Pf 4 rfl (AF rfl) (Pf 5 rfl (BV rfl) (Pf 6 rfl (Ai CJ rfl) (Pf 7 rfl (AG rfl Di .m0 Ad.l2 rfl rfl) ?_)))))))
  refine An 8 rfl (by kernel_rfl) ?_
  refine AT (AK (AU.id AH.fl.len AH.fl.one) rfl rfl rfl Dz rfl (.t (.t .h))) ?_
  refine BN rfl ⟨?_,?_⟩
  · exact(Po rfl (AG rfl Di .m0 Ad.l2 rfl rfl) rfl rfl (Po rfl (Ai CJ rfl) rfl rfl (Po rfl (BV rfl) rfl rfl (Po rfl (AF rfl) rfl rfl (Pk (Pk (Pk (Pk As))))))))
  refine Pf 9 rfl (A0 rfl) (Pf 10 rfl (A0 rfl) ?_)
  refine A4 (by kernel_rfl) ?_
  refine AB (.t3 6 7 8) ?_
  refine AA (Ac ?_)
  refine AY rfl (.cell rfl .m2 (.inl ⟨(by rw [AH.fl.len];exact BW),rfl⟩) (.tmp rfl (.tmp rfl .n))) ?_
  intro w1 hS
  have hS:=(hS.perm (Ax.perm (.c (.t .h) .n))).A1
  have ha:AE.act (⟨X,b,[]⟩:AE) o=_:=((AX c4).trans ((AX c5).trans ((AX c6).trans (BB c7))))
  have hq:AE.EC X b o=((AE.act (⟨X,b,[]⟩:AE) o).w,(AE.act (⟨X,b,[]⟩:AE) o).out,0):=((AX c1).trans ((AX c2).trans (AX c3)))
  rw [ha] at hq
  refine⟨_,⟨?gq7,?hv7,?hl7,?hB7⟩,hS⟩
  case hB7=>rw [hq];(try rfl)
  case hv7=>rw [hq];(try rfl)
  case hl7=>rw [hq];(try dsimp only);exact y23
 have c7p:=kz c7
 refine Gs (Gt (Ai DF rfl) (Gt (AG rfl A2 .m2 Order.l0 rfl rfl) (Gt (Af rfl rfl) (Ga rfl (Gn (.t4 5 6 9 83) ?_)))))
 refine Gc (fun c8=>?_) (fun c8=>?_)
 ·
  refine AJ (Gm rfl ?_)
  refine Dm Ing.Event.enc 56 16 ?_
  refine Ah rfl ca (.c rfl .n) (.c (.t .h) (.c .h .n)) (RM _ (⟨X,b,[]⟩:AE) _ rfl hF (Nat.zero_le _)) (fun v25 B hv=>?_)
  obtain⟨y26,rfl,y27,rfl⟩:=hv
  refine AQ (AB (.t2 6 9) ?_)
  refine AV (AA (Ao ?_))
  refine BE (N:=11) [0,1,3,7,0,16,48,112,15,511,1023] mix (by kernel_rfl) rfl ?_
  refine Pf 0 rfl (AF rfl) (Pf 1 rfl (BV rfl) (Pf 2 rfl (Ai A9 rfl) (Pf 3 rfl (AZ rfl BW .m0 Ad.l0 rfl) (Pf 4 rfl (AF rfl) (Pf 5 rfl (BV rfl) (Pf 6 rfl (Ai CJ rfl) (Pf 7 rfl (AG rfl Di .m0 Ad.l2 rfl rfl) ?_)))))))
  refine An 8 rfl (by kernel_rfl) ?_
  refine AT (AK (AU.id AH.fl.len AH.fl.one) rfl rfl rfl Dz rfl (.t (.t .h))) ?_
  refine BN rfl ⟨?_,?_⟩
  · exact(Po rfl (AG rfl Di .m0 Ad.l2 rfl rfl) rfl rfl (Po rfl (Ai CJ rfl) rfl rfl (Po rfl (BV rfl) rfl rfl (Po rfl (AF rfl) rfl rfl (Pk (Pk (Pk (Pk As))))))))
  refine Pf 9 rfl (A0 rfl) (Pf 10 rfl (A0 rfl) ?_)
  refine A4 (by kernel_rfl) ?_
  refine AB (.t3 6 7 8) ?_
  refine AA (Ac ?_)
  refine AY rfl (.cell rfl .m2 (.inl ⟨(by rw [AH.fl.len];exact BW),rfl⟩) (.tmp rfl (.tmp rfl .n))) ?_
  intro w1 hS
  have hS:=(hS.perm (Ax.perm (.c (.t .h) .n))).A1
  have ha:AE.act (⟨X,b,[]⟩:AE) o=_:=((AX c4).trans ((AX c5).trans ((AX c6).trans ((AX c7).trans (BB c8)))))
  have hq:AE.EC X b o=((AE.act (⟨X,b,[]⟩:AE) o).w,(AE.act (⟨X,b,[]⟩:AE) o).out,0):=((AX c1).trans ((AX c2).trans (AX c3)))
  rw [ha] at hq
  refine⟨_,⟨?gq8,?hv8,?hl8,?hB8⟩,hS⟩
  case hB8=>rw [hq];(try rfl)
  case hv8=>rw [hq];(try rfl)
  case hl8=>rw [hq];(try dsimp only);exact y27
 have c8p:=kz c8
 refine Gs (Gt (Ai DF rfl) (Gt (AG rfl A2 .m2 Order.l0 rfl rfl) (Gt (Af rfl rfl) (Ga rfl (Gn (.t4 5 6 9 89) ?_)))))
 refine Gc (fun c9=>?_) (fun c9=>?_)
 ·
  refine AJ (Gm rfl (Gt (AZ rfl CB .m2 (AU.id Order.fl.len Order.fl.one) rfl) ?_))
  refine Dm Ing.Event.enc 56 16 ?_
  refine BF rfl cT (.c rfl (.c rfl .n)) (.c (.t .h) (.c .h .n)) (PR _ (⟨X,b,[]⟩:AE) _ o rfl hF hm (Nat.zero_le _)) (fun w hS=>⟨gl1.pull gm1 hS (.c (.t .h) (.c .h .n)),gl2.pull gm2 hS (.c (.t .h) (.c .h .n))⟩) (fun v29 B hv=>?_)
  obtain⟨y30,rfl,y31,rfl⟩:=hv
  refine AQ (AB (.t2 6 9) ?_)
  refine AV (AA (Ao ?_))
  refine BE (N:=11) [0,1,3,7,0,16,48,112,15,511,1023] mix (by kernel_rfl) rfl ?_
  refine Pf 0 rfl (AF rfl) (Pf 1 rfl (BV rfl) (Pf 2 rfl (Ai A9 rfl) (Pf 3 rfl (AZ rfl BW .m0 Ad.l0 rfl) (Pf 4 rfl (AF rfl) (Pf 5 rfl (BV rfl) (Pf 6 rfl (Ai CJ rfl) (Pf 7 rfl (AG rfl Di .m0 Ad.l2 rfl rfl) ?_)))))))
  refine An 8 rfl (by kernel_rfl) ?_
  refine AT (AK (AU.id AH.fl.len AH.fl.one) rfl rfl rfl Dz rfl (.t (.t .h))) ?_
  refine BN rfl ⟨?_,?_⟩
  · exact(Po rfl (AG rfl Di .m0 Ad.l2 rfl rfl) rfl rfl (Po rfl (Ai CJ rfl) rfl rfl (Po rfl (BV rfl) rfl rfl (Po rfl (AF rfl) rfl rfl (Pk (Pk (Pk (Pk As))))))))
  refine Pf 9 rfl (A0 rfl) (Pf 10 rfl (A0 rfl) ?_)
  refine A4 (by kernel_rfl) ?_
  refine AB (.t3 6 7 8) ?_
  refine AA (Ac ?_)
  refine AY rfl (.cell rfl .m2 (.inl ⟨(by rw [AH.fl.len];exact BW),rfl⟩) (.tmp rfl (.tmp rfl .n))) ?_
  intro w1 hS
  have hS:=(hS.perm (Ax.perm (.c (.t .h) .n))).A1
  have ha:AE.act (⟨X,b,[]⟩:AE) o=_:=((AX c4).trans ((AX c5).trans ((AX c6).trans ((AX c7).trans ((AX c8).trans (BB c9))))))
  have hq:AE.EC X b o=((AE.act (⟨X,b,[]⟩:AE) o).w,(AE.act (⟨X,b,[]⟩:AE) o).out,0):=((AX c1).trans ((AX c2).trans (AX c3)))
  rw [ha] at hq
  refine⟨_,⟨?gq9,?hv9,?hl9,?hB9⟩,hS⟩
  case hB9=>rw [hq];(try rfl)
  case hv9=>rw [hq];(try rfl)
  case hl9=>rw [hq];(try dsimp only);exact y31
 have c9p:=kz c9
 refine Gs (Gt (Ai DF rfl) (Gt (AG rfl A2 .m2 Order.l0 rfl rfl) (Gt (Af rfl rfl) (Ga rfl (Gn (.t4 5 6 9 96) ?_)))))
 refine Gc (fun c10=>?_) (fun c10=>?_)
 ·
  refine AJ (Gm rfl (Gt (AZ rfl CB .m2 (AU.id Order.fl.len Order.fl.one) rfl) ?_))
  refine Dm Ing.Event.enc 56 16 ?_
  refine BF rfl bW (.c rfl (.c rfl .n)) (.c (.t .h) (.c .h .n)) (Sg _ (⟨X,b,[]⟩:AE) _ o rfl hF hu (Nat.zero_le _)) (fun w hS=>⟨gl1.pull gm1 hS (.c (.t .h) (.c .h .n)),gl2.pull gm2 hS (.c (.t .h) (.c .h .n))⟩) (fun v33 B hv=>?_)
  obtain⟨y34,rfl,y35,rfl⟩:=hv
  refine AQ (AB (.t2 6 9) ?_)
  refine AV (AA (Ao ?_))
  refine BE (N:=11) [0,1,3,7,0,16,48,112,15,511,1023] mix (by kernel_rfl) rfl ?_
  refine Pf 0 rfl (AF rfl) (Pf 1 rfl (BV rfl) (Pf 2 rfl (Ai A9 rfl) (Pf 3 rfl (AZ rfl BW .m0 Ad.l0 rfl) (Pf 4 rfl (AF rfl) (Pf 5 rfl (BV rfl) (Pf 6 rfl (Ai CJ rfl) (Pf 7 rfl (AG rfl Di .m0 Ad.l2 rfl rfl) ?_)))))))
  refine An 8 rfl (by kernel_rfl) ?_
  refine AT (AK (AU.id AH.fl.len AH.fl.one) rfl rfl rfl Dz rfl (.t (.t .h))) ?_
  refine BN rfl ⟨?_,?_⟩
  · exact(Po rfl (AG rfl Di .m0 Ad.l2 rfl rfl) rfl rfl (Po rfl (Ai CJ rfl) rfl rfl (Po rfl (BV rfl) rfl rfl (Po rfl (AF rfl) rfl rfl (Pk (Pk (Pk (Pk As))))))))
  refine Pf 9 rfl (A0 rfl) (Pf 10 rfl (A0 rfl) ?_)
  refine A4 (by kernel_rfl) ?_
  refine AB (.t3 6 7 8) ?_
  refine AA (Ac ?_)
  refine AY rfl (.cell rfl .m2 (.inl ⟨(by rw [AH.fl.len];exact BW),rfl⟩) (.tmp rfl (.tmp rfl .n))) ?_
  intro w1 hS
  have hS:=(hS.perm (Ax.perm (.c (.t .h) .n))).A1
  have ha:AE.act (⟨X,b,[]⟩:AE) o=_:=((AX c4).trans ((AX c5).trans ((AX c6).trans ((AX c7).trans ((AX c8).trans ((AX c9).trans (BB c10)))))))
  have hq:AE.EC X b o=((AE.act (⟨X,b,[]⟩:AE) o).w,(AE.act (⟨X,b,[]⟩:AE) o).out,0):=((AX c1).trans ((AX c2).trans (AX c3)))
  rw [ha] at hq
  refine⟨_,⟨?gq10,?hv10,?hl10,?hB10⟩,hS⟩
  case hB10=>rw [hq];(try rfl)
  case hv10=>rw [hq];(try rfl)
  case hl10=>rw [hq];(try dsimp only);exact y35
 have c10p:=kz c10
 refine Gs (Gt (Ai DF rfl) (Gt (AG rfl A2 .m2 Order.l0 rfl rfl) (Gt (Af rfl rfl) (Gm rfl (Bg 107 rfl rfl (fun q=>Ai DF rfl) (Bg 107 rfl rfl (fun q=>AG (cF rfl q) A2 .m2 Order.l0 rfl rfl) (Bg 107 rfl rfl (fun q=>Af (cF rfl q) rfl) ?_)))))))
 refine Gt (BS rfl rfl (fun h=>by rw [h];rfl)) ?_
 refine Gm rfl (Bg 112 rfl rfl (fun q=>Ai DF rfl) (Bg 112 rfl rfl (fun q=>AG (cF rfl q) A2 .m2 Order.l0 rfl rfl) (Bg 112 rfl rfl (fun q=>Af (cF rfl q) rfl) ?_)))
 refine Gt (BS rfl rfl (fun h=>by rw [h];rfl)) ?_
 refine Ga rfl (Gn (.t4 5 6 9 103) ?_)
 refine Gc (fun c11=>?_) (fun c11=>?_)
 ·
  have c11p:=kz c11
  refine AJ (Gm rfl (Gt (AZ rfl CB .m2 (AU.id Order.fl.len Order.fl.one) rfl) ?_))
  refine Dm Ing.Event.enc 56 16 ?_
  refine BF rfl bp (.c rfl (.c rfl .n)) (.c (.t .h) (.c .h .n)) (Ry _ (⟨X,b,[]⟩:AE) _ o rfl hF (by omega) hu (Nat.zero_le _)) (fun w hS=>⟨gl1.pull gm1 hS (.c (.t .h) (.c .h .n)),gl2.pull gm2 hS (.c (.t .h) (.c .h .n))⟩) (fun v37 B hv=>?_)
  obtain⟨y38,rfl,y39,rfl⟩:=hv
  refine AQ (AB (.t2 6 9) ?_)
  refine AV (AA (Ao ?_))
  refine BE (N:=11) [0,1,3,7,0,16,48,112,15,511,1023] mix (by kernel_rfl) rfl ?_
  refine Pf 0 rfl (AF rfl) (Pf 1 rfl (BV rfl) (Pf 2 rfl (Ai A9 rfl) (Pf 3 rfl (AZ rfl BW .m0 Ad.l0 rfl) (Pf 4 rfl (AF rfl) (Pf 5 rfl (BV rfl) (Pf 6 rfl (Ai CJ rfl) (Pf 7 rfl (AG rfl Di .m0 Ad.l2 rfl rfl) ?_)))))))
  refine An 8 rfl (by kernel_rfl) ?_
  refine AT (AK (AU.id AH.fl.len AH.fl.one) rfl rfl rfl Dz rfl (.t (.t .h))) ?_
  refine BN rfl ⟨?_,?_⟩
  · exact(Po rfl (AG rfl Di .m0 Ad.l2 rfl rfl) rfl rfl (Po rfl (Ai CJ rfl) rfl rfl (Po rfl (BV rfl) rfl rfl (Po rfl (AF rfl) rfl rfl (Pk (Pk (Pk (Pk As))))))))
  refine Pf 9 rfl (A0 rfl) (Pf 10 rfl (A0 rfl) ?_)
  refine A4 (by kernel_rfl) ?_
  refine AB (.t3 6 7 8) ?_
  refine AA (Ac ?_)
  refine AY rfl (.cell rfl .m2 (.inl ⟨(by rw [AH.fl.len];exact BW),rfl⟩) (.tmp rfl (.tmp rfl .n))) ?_
  intro w1 hS
  have hS:=(hS.perm (Ax.perm (.c (.t .h) .n))).A1
  have ha:AE.act (⟨X,b,[]⟩:AE) o=_:=((AX c4).trans ((AX c5).trans ((AX c6).trans ((AX c7).trans ((AX c8).trans ((AX c9).trans ((AX c10).trans (BB c11))))))))
  have hq:AE.EC X b o=((AE.act (⟨X,b,[]⟩:AE) o).w,(AE.act (⟨X,b,[]⟩:AE) o).out,0):=((AX c1).trans ((AX c2).trans (AX c3)))
  rw [ha] at hq
  refine⟨_,⟨?gq11,?hv11,?hl11,?hB11⟩,hS⟩
  case hB11=>rw [hq];(try rfl)
  case hv11=>rw [hq];(try rfl)
  case hl11=>rw [hq];(try dsimp only);exact y39
 have c11p:=kz c11
 refine AJ (Gm rfl (Gt (AZ rfl CB .m2 (AU.id Order.fl.len Order.fl.one) rfl) ?_))
 refine Dm Ing.Event.enc 56 16 ?_
 refine BF rfl dB (.c rfl (.c rfl .n)) (.c (.t .h) (.c .h .n)) (SA _ (⟨X,b,[]⟩:AE) _ o rfl hF (by omega) (Nat.zero_le _)) (fun w hS=>gl0.pull gm0 hS (.c (.t .h) (.c .h .n))) (fun v41 B hv=>?_)
 obtain⟨y42,rfl,y43,rfl⟩:=hv
 refine AQ (AB (.t2 6 9) ?_)
 refine AV (AA (Ao ?_))
 refine BE (N:=11) [0,1,3,7,0,16,48,112,15,511,1023] mix (by kernel_rfl) rfl ?_
 refine Pf 0 rfl (AF rfl) (Pf 1 rfl (BV rfl) (Pf 2 rfl (Ai A9 rfl) (Pf 3 rfl (AZ rfl BW .m0 Ad.l0 rfl) (Pf 4 rfl (AF rfl) (Pf 5 rfl (BV rfl) (Pf 6 rfl (Ai CJ rfl) (Pf 7 rfl (AG rfl Di .m0 Ad.l2 rfl rfl) ?_)))))))
 refine An 8 rfl (by kernel_rfl) ?_
 refine AT (AK (AU.id AH.fl.len AH.fl.one) rfl rfl rfl Dz rfl (.t (.t .h))) ?_
 refine BN rfl ⟨?_,?_⟩
 · exact(Po rfl (AG rfl Di .m0 Ad.l2 rfl rfl) rfl rfl (Po rfl (Ai CJ rfl) rfl rfl (Po rfl (BV rfl) rfl rfl (Po rfl (AF rfl) rfl rfl (Pk (Pk (Pk (Pk As))))))))
 refine Pf 9 rfl (A0 rfl) (Pf 10 rfl (A0 rfl) ?_)
 refine A4 (by kernel_rfl) ?_
 refine AB (.t3 6 7 8) ?_
 refine AA (Ac ?_)
 refine AY rfl (.cell rfl .m2 (.inl ⟨(by rw [AH.fl.len];exact BW),rfl⟩) (.tmp rfl (.tmp rfl .n))) ?_
 intro w1 hS
 have hS:=(hS.perm (Ax.perm (.c (.t .h) .n))).A1
 have ha:AE.act (⟨X,b,[]⟩:AE) o=_:=((AX c4).trans ((AX c5).trans ((AX c6).trans ((AX c7).trans ((AX c8).trans ((AX c9).trans ((AX c10).trans (AX c11))))))))
 have hq:AE.EC X b o=((AE.act (⟨X,b,[]⟩:AE) o).w,(AE.act (⟨X,b,[]⟩:AE) o).out,0):=((AX c1).trans ((AX c2).trans (AX c3)))
 rw [ha] at hq
 refine⟨_,⟨?gq12,?hv12,?hl12,?hB12⟩,hS⟩
 case hB12=>rw [hq];(try rfl)
 case hv12=>rw [hq];(try rfl)
 case hl12=>rw [hq];(try dsimp only);exact y43
theorem IN (b:Nat)(V:AM)(ls:Vector BJ 4)(ev:List Ing.Event)(k:Int)(n m:Nat)(hk:0≤k∧k < 4)(hF:AI.Fit (A5 V ls ev) n m)(hn:n≤900000)(hm:m≤900000):FU Tryz.prog 67 #[.pointer (some ⟨b,0,none⟩), .pointer (some ⟨b,165+k.toNat * 22,none⟩)] [Ab.box b 101 (AM.enc V),Ab.EB (CR 9 (AM.Au V) ls),Ab.own (AM.last V) 56 16 ((ev).flatMap Ing.Event.enc)] (fun w=>(GV 2 Fp w∧2 ∉ Cg [Ab.box b 101 (AM.enc V),Ab.EB (CR 9 (AM.Au V) ls),Ab.own (AM.last V) 56 16 ((ev).flatMap Ing.Event.enc)])∧(GV 0 AH.DJ w∧0 ∉ Cg [Ab.box b 101 (AM.enc V),Ab.EB (CR 9 (AM.Au V) ls),Ab.own (AM.last V) 56 16 ((ev).flatMap Ing.Event.enc)])∧(Gu 7 w∧7 ∉ Cg [Ab.box b 101 (AM.enc V),Ab.EB (CR 9 (AM.Au V) ls),Ab.own (AM.last V) 56 16 ((ev).flatMap Ing.Event.enc)])∧(Gu 8 w∧8 ∉ Cg [Ab.box b 101 (AM.enc V),Ab.EB (CR 9 (AM.Au V) ls),Ab.own (AM.last V) 56 16 ((ev).flatMap Ing.Event.enc)])) (fun v B=>∃ V' ls' ev',v = .tuple #[]∧A5 V' ls' ev'=AI.leave (A5 V ls ev) k∧B = [Ab.box b 101 (AM.enc V'),Ab.EB (CR 9 (AM.Au V') ls'),Ab.own (AM.last V') 56 16 ((ev').flatMap Ing.Event.enc)]):=by
 intro w hS0 hH
 obtain⟨⟨gl0,gm0⟩,⟨gl1,gm1⟩,⟨gl2,gm2⟩,⟨gl3,gm3⟩⟩:=hH
 have hbe:=Vv hF hk.1 hk.2
 refine Ak _ _ Tryz.func67 rfl rfl rfl (hS0) ?_
 refine Ao (Ao ?_)
 refine BE (N:=18) [0,1,3,7,15,31,63,63,191,447,959,127,2175,6271,16383,32767,65535,131071] mix (by kernel_rfl) rfl ?_
 refine Pf 0 rfl (AF rfl) (Pf 1 rfl (BV rfl) (Pf 2 rfl (Ai I4 rfl) (Pf 3 rfl (AG rfl A2 .m0 ((AM.l1.comp (AU.arr (n:=4) A3.fl hk.1 hk.2)).comp A3.l0) rfl rfl) (Pf 4 rfl (Af rfl rfl) (Pf 5 rfl (AF rfl) (Mk 6 12 rfl rfl rfl (fun q=>AF rfl) (Mk 7 12 rfl rfl rfl (fun q=>AF rfl) ?_)))))))
 refine Mk 8 12 rfl rfl rfl (fun q=>BV (Bc rfl q)) (Mk 9 12 rfl rfl rfl (fun q=>Ai IL (Bc rfl q)) (Mk 10 12 rfl rfl rfl (fun q=>AG (Bc rfl q) A2 .m0 ((AM.l1.comp (AU.arr (n:=4) A3.fl hk.1 hk.2)).comp A3.l1) rfl rfl) (Mk 11 12 rfl rfl rfl (fun q=>BV (Bc rfl q)) (Mk 12 12 rfl rfl rfl (fun q=>Ai D6 (Bc rfl q)) (Mk 13 12 rfl rfl rfl (fun q=>Ai Bo (Bc rfl q)) ?_)))))
 refine BX 14 rfl rfl (by kernel_rfl) (Rp (t:=12) rfl rfl (fun q=>by have q1:=q;(try simp at q1);exact Is (AR C8 (Bc rfl q) (Bc rfl q) (by first | omega | exact hk.1 | exact hk.2) (by first | omega | exact hk.1 | exact hk.2)))) ?_
 refine Mk 15 12 rfl rfl rfl (fun q=>Ai IP (Bc rfl q)) ?_
 refine BX 16 rfl rfl (by kernel_rfl) (Rp (t:=12) rfl rfl (fun q=>by have q1:=q;(try simp at q1);exact Is (AG (Bc rfl q) Dn .m0 (((AM.l0.comp AH.l2).comp (AU.ar (n:=6) Aj.fl (by first | omega | exact hk))).comp Aj.l1) rfl rfl))) ?_
 refine Pf 17 rfl (BG rfl rfl (fun h=>h)) ?_
 refine A4 (by kernel_rfl) ?_
 refine AB (.t3 0 1 24) ?_
 refine AA ?_
 refine Gc (fun c1=>?_) (fun c1=>?_)
 ·
  have c1p:=kz c1
  have hdl:=AE.NZ V.w (V.Au.at k).Ay AI.EA
  have hds:=AE.KE (b:=(V.Au.at k).Ay) (o:=AI.EA) hF.Ff AI.MR
  refine Ao ?_
  refine BE (N:=18) [0,1,3,7,0,16,48,112,0,511,1023,2047,2047,2047,0,20479,57343,131071] mix (by kernel_rfl) rfl ?_
  refine Pf 0 rfl (AF rfl) (Pf 1 rfl (BV rfl) (Pf 2 rfl (Ai D6 rfl) (Pf 3 rfl (AZ rfl BW .m0 AM.l0 rfl) (Pf 4 rfl (AF rfl) (Pf 5 rfl (BV rfl) (Pf 6 rfl (Ai IL rfl) (Pf 7 rfl (AG rfl A2 .m0 ((AM.l1.comp (AU.arr (n:=4) A3.fl hk.1 hk.2)).comp A3.l1) rfl rfl) ?_)))))))
  refine Pf 8 rfl (BC R6 L5 rfl (.cons Order.l0 rfl rfl rfl .nil)) ?_
  refine Jo 9 14 rfl rfl (by kernel_rfl) ?_ ?_
  ·
   refine BF rfl ZI (.c rfl (.c rfl (.c rfl .n))) .n (GP V.w (V.Au.at k).Ay AI.EA hF.Ff.HA (Nat.zero_le _) (Nat.zero_le _)) (fun w hS=>⟨gl1.pull gm1 hS .n,gl2.pull gm2 hS .n,gl3.pull gm3 hS .n⟩) (fun v1 B hv=>?_)
   obtain⟨y2,rfl,y3,rfl⟩:=hv
   refine Bq rfl ⟨?_,?_⟩
   · exact(Pk (Pk (Pk (Pk (Pk (Pk (Pk (Pk (Pk As)))))))))
   refine Pf 10 rfl (AF rfl) (Pf 11 rfl (AN rfl rfl) (Pf 12 rfl (AN rfl rfl) (Pf 13 rfl (AN rfl rfl) ?_)))
   refine An 14 rfl (by kernel_rfl) ?_
   refine BD rfl LU rfl (fun b1=>?_)
   refine Bq rfl ⟨?_,?_⟩
   · exact(Po rfl (AN rfl rfl) rfl rfl (Po rfl (AN rfl rfl) rfl rfl (Po rfl (AN rfl rfl) rfl rfl (Po rfl (AF rfl) rfl rfl (Po rfl (BC R6 L5 rfl (.cons Order.l0 rfl rfl rfl .nil)) rfl rfl (Po rfl (AG rfl A2 .m2 ((AM.l1.comp (AU.arr (n:=4) A3.fl hk.1 hk.2)).comp A3.l1) rfl rfl) rfl rfl (Po rfl (Ai IL rfl) rfl rfl (Po rfl (BV rfl) rfl rfl (Po rfl (AF rfl) rfl rfl (Po rfl (AZ rfl BW .m2 AM.l0 rfl) rfl rfl (Po rfl (Ai D6 rfl) rfl rfl (Po rfl (BV rfl) rfl rfl (Po rfl (AF rfl) rfl rfl As)))))))))))))
   refine An 15 rfl (by kernel_rfl) ?_
   refine AT (AK (AU.id AH.fl.len AH.fl.one) rfl rfl rfl Dz rfl .h) ?_
   refine BN rfl ⟨?_,?_⟩
   · exact(Po rfl (AN rfl rfl) rfl rfl (Po rfl (AN rfl rfl) rfl rfl (Pk (Pk (Pk (Pk (Pk (Pk (Pk (Pk (Pk (Pk (Pk As)))))))))))))
   refine Pf 16 rfl (A0 rfl) (Pf 17 rfl (A0 rfl) ?_)
   refine A4 (by kernel_rfl) ?_
   refine AB (.t4 0 1 4 5) ?_
   refine AA (Gs (Gm rfl (Gt (AZ rfl BW .m0 (AU.id AH.fl.len AH.fl.one) rfl) (Gt (BV rfl) (Gt (Ai D6 rfl) ?_)))))
   refine AT (AK AM.l0 rfl rfl rfl Dz rfl (.t (.t .h))) ?_
   refine Gn (.t3 0 1 5) (Ao ?_)
   refine Ey (.c (.t (.t .h)) (.c (.t (.t .h)) .n)) ?_
   refine Ft (k:=k) hk.1 hk.2 (fun sv sl hsv hlv hln=>?_)
   refine AJ (Gm rfl (Gt (BC VM Vq rfl .nil) (Gt (BV rfl) ?_)))
   refine AT (AK (AU.BL { V with w:=(AE.EC V.w (V.Au.at k).Ay AI.EA).1 } hk.1 hk.2) rfl rfl rfl TP rfl (.t (.t (.t .h)))) ?_
   refine Gn (.t3 0 1 5) ?_
   refine E7 A8 9 1 ?_
   refine E7 A8 9 1 ?_
   refine E7 A8 9 1 ?_
   refine Ey (.c (.t (.t .h)) (.c (.t .h) (.c .h (.c (.t (.t (.t .h))) (.c (.t (.t (.t .h))) .n))))) ?_
   refine HM hk.1 hk.2 (by rfl) (by rfl) (by rfl) ?_
   refine AJ (Gm rfl (Gm rfl ?_))
   refine BF rfl Vg (.c rfl (.c rfl .n)) (.c .h (.c .h (.c (.t (.t (.t (.t (.t .h))))) (.c (.t (.t (.t (.t .h)))) .n)))) (Ep _ (AM.BL { V with w:=(AE.EC V.w (V.Au.at k).Ay AI.EA).1 } k default) (ls.put k ⟨[],[],[]⟩) ev _ (AE.EC V.w (V.Au.at k).Ay AI.EA).2.1 n (by assumption) (GX (((hF.land hds.1).free hk.1 hk.2) |> fun h=>by rw [← Om,← Ie hk.1 hk.2] at h;exact h)) (by omega) (Nat.le_trans hF.last (by omega)) (fun e he c _=>hds.2 e he)) (fun w hS=>⟨gl0.pull gm0 hS (.c .h (.c .h (.c (.t (.t (.t (.t (.t .h))))) (.c (.t (.t (.t (.t .h)))) .n)))),gl1.pull gm1 hS (.c .h (.c .h (.c (.t (.t (.t (.t (.t .h))))) (.c (.t (.t (.t (.t .h)))) .n))))⟩) (fun v8 B hv=>?_)
   obtain⟨y9,y10,y11,rfl,y12,rfl⟩:=hv
   refine Gn (.t1 1) ?_
   refine Ft (k:=k) hk.1 hk.2 (fun sv sl hsv hlv hln=>?_)
   refine AJ (Gm rfl (Gt (BC VM Vq rfl .nil) (Gt (BV rfl) ?_)))
   refine AT (AK (AU.BL y9 hk.1 hk.2) rfl rfl rfl TP rfl (.t (.t (.t .h)))) ?_
   refine AQ ?_
   refine Bk rfl .n ?_
   intro w1 hS
   have hS:=hS.Cs 9 1
   have hS:=hS.Cs 9 1
   have hS:=hS.Cs 9 1
   have hS:=(hS.perm (Ax.perm (.c (.t (.t .h)) (.c (.t .h) (.c .h (.c (.t (.t (.t .h))) (.c (.t (.t (.t .h))) (.c (.t (.t (.t .h))) .n)))))))).A1
   have hS:=St.close' (s:=default) (qs:= []) (ws:= []) (ts:= []) hk.1 hk.2 rfl rfl rfl hS
   refine⟨_,⟨_,_,_,rfl,?ga1,rfl⟩,hS⟩
   case ga1=>exact Qq hk.1 hk.2 c1 y12
  ·
   refine BD rfl LU rfl (fun b2=>?_)
   refine Bq rfl ⟨?_,?_⟩
   · exact(Po rfl (BC R6 L5 rfl (.cons Order.l0 rfl rfl rfl .nil)) rfl rfl (Po rfl (AG rfl A2 .m1 ((AM.l1.comp (AU.arr (n:=4) A3.fl hk.1 hk.2)).comp A3.l1) rfl rfl) rfl rfl (Po rfl (Ai IL rfl) rfl rfl (Po rfl (BV rfl) rfl rfl (Po rfl (AF rfl) rfl rfl (Po rfl (AZ rfl BW .m1 AM.l0 rfl) rfl rfl (Po rfl (Ai D6 rfl) rfl rfl (Po rfl (BV rfl) rfl rfl (Po rfl (AF rfl) rfl rfl As)))))))))
   refine An 9 rfl (by kernel_rfl) ?_
   refine BF rfl ZI (.c rfl (.c rfl (.c rfl .n))) .n (GP V.w (V.Au.at k).Ay AI.EA hF.Ff.HA (Nat.zero_le _) (Nat.zero_le _)) (fun w hS=>⟨gl1.pull gm1 hS .n,gl2.pull gm2 hS .n,gl3.pull gm3 hS .n⟩) (fun v16 B hv=>?_)
   obtain⟨y17,rfl,y18,rfl⟩:=hv
   refine Bq rfl ⟨?_,?_⟩
   · exact(Pk (Pk (Pk (Pk (Pk (Pk (Pk (Pk (Pk As)))))))))
   refine Pf 10 rfl (AF rfl) (Pf 11 rfl (AN rfl rfl) (Pf 12 rfl (AN rfl rfl) (Pf 13 rfl (AN rfl rfl) ?_)))
   refine An 15 rfl (by kernel_rfl) ?_
   refine AT (AK (AU.id AH.fl.len AH.fl.one) rfl rfl rfl Dz rfl (.t .h)) ?_
   refine BN rfl ⟨?_,?_⟩
   · exact(Po rfl (AN rfl rfl) rfl rfl (Po rfl (AN rfl rfl) rfl rfl (Pk (Pk (Pk (Pk (Pk (Pk (Pk (Pk (Pk (Pk (Pk As)))))))))))))
   refine Pf 16 rfl (A0 rfl) (Pf 17 rfl (A0 rfl) ?_)
   refine A4 (by kernel_rfl) ?_
   refine AB (.t4 0 1 4 5) ?_
   refine AA (Gs (Gm rfl (Gt (AZ rfl BW .m1 (AU.id AH.fl.len AH.fl.one) rfl) (Gt (BV rfl) (Gt (Ai D6 rfl) ?_)))))
   refine AT (AK AM.l0 rfl rfl rfl Dz rfl (.t (.t .h))) ?_
   refine Gn (.t3 0 1 5) (Ao ?_)
   refine Ey (.c (.t (.t .h)) (.c (.t (.t .h)) .n)) ?_
   refine Ft (k:=k) hk.1 hk.2 (fun sv sl hsv hlv hln=>?_)
   refine AJ (Gm rfl (Gt (BC VM Vq rfl .nil) (Gt (BV rfl) ?_)))
   refine AT (AK (AU.BL { V with w:=(AE.EC V.w (V.Au.at k).Ay AI.EA).1 } hk.1 hk.2) rfl rfl rfl TP rfl (.t (.t (.t .h)))) ?_
   refine Gn (.t3 0 1 5) ?_
   refine E7 A8 9 1 ?_
   refine E7 A8 9 1 ?_
   refine E7 A8 9 1 ?_
   refine Ey (.c (.t (.t .h)) (.c (.t .h) (.c .h (.c (.t (.t (.t .h))) (.c (.t (.t (.t .h))) .n))))) ?_
   refine HM hk.1 hk.2 (by rfl) (by rfl) (by rfl) ?_
   refine AJ (Gm rfl (Gm rfl ?_))
   refine BF rfl Vg (.c rfl (.c rfl .n)) (.c .h (.c .h (.c (.t (.t (.t (.t (.t .h))))) (.c (.t (.t (.t .h))) .n)))) (Ep _ (AM.BL { V with w:=(AE.EC V.w (V.Au.at k).Ay AI.EA).1 } k default) (ls.put k ⟨[],[],[]⟩) ev _ (AE.EC V.w (V.Au.at k).Ay AI.EA).2.1 n (by assumption) (GX (((hF.land hds.1).free hk.1 hk.2) |> fun h=>by rw [← Om,← Ie hk.1 hk.2] at h;exact h)) (by omega) (Nat.le_trans hF.last (by omega)) (fun e he c _=>hds.2 e he)) (fun w hS=>⟨gl0.pull gm0 hS (.c .h (.c .h (.c (.t (.t (.t (.t (.t .h))))) (.c (.t (.t (.t .h))) .n)))),gl1.pull gm1 hS (.c .h (.c .h (.c (.t (.t (.t (.t (.t .h))))) (.c (.t (.t (.t .h))) .n))))⟩) (fun v23 B hv=>?_)
   obtain⟨y24,y25,y26,rfl,y27,rfl⟩:=hv
   refine Gn (.t1 1) ?_
   refine Ft (k:=k) hk.1 hk.2 (fun sv sl hsv hlv hln=>?_)
   refine AJ (Gm rfl (Gt (BC VM Vq rfl .nil) (Gt (BV rfl) ?_)))
   refine AT (AK (AU.BL y24 hk.1 hk.2) rfl rfl rfl TP rfl (.t (.t (.t .h)))) ?_
   refine AQ ?_
   refine Bk rfl .n ?_
   intro w1 hS
   have hS:=hS.Cs 9 1
   have hS:=hS.Cs 9 1
   have hS:=hS.Cs 9 1
   have hS:=(hS.perm (Ax.perm (.c (.t (.t .h)) (.c (.t .h) (.c .h (.c (.t (.t (.t .h))) (.c (.t (.t (.t .h))) (.c (.t (.t (.t .h))) .n)))))))).A1
   have hS:=St.close' (s:=default) (qs:= []) (ws:= []) (ts:= []) hk.1 hk.2 rfl rfl rfl hS
   refine⟨_,⟨_,_,_,rfl,?ga2,rfl⟩,hS⟩
   case ga2=>exact Qq hk.1 hk.2 c1 y27
 refine Aa ?_
 refine AB (.t1 1) ?_
 refine AA ?_
 refine Ft (k:=k) hk.1 hk.2 (fun sv sl hsv hlv hln=>?_)
 refine AJ (Gm rfl (Gt (BC VM Vq rfl .nil) (Gt (BV rfl) ?_)))
 refine AT (AK (AU.BL V hk.1 hk.2) rfl rfl rfl TP rfl (.t (.t (.t .h)))) ?_
 refine AQ ?_
 refine Bk rfl .n ?_
 intro w1 hS
 have hS:=hS.Cs 9 1
 have hS:=hS.Cs 9 1
 have hS:=hS.Cs 9 1
 have hS:=(hS.perm (Ax.perm (.c (.t (.t .h)) (.c (.t .h) (.c .h (.c (.t (.t (.t .h))) (.c (.t (.t (.t .h))) (.c (.t (.t (.t .h))) .n)))))))).A1
 have hS:=St.close' (s:=default) (qs:= []) (ws:= []) (ts:= []) hk.1 hk.2 rfl rfl rfl hS
 refine⟨_,⟨_,_,_,rfl,?ga3,rfl⟩,hS⟩
 case ga3=>exact Uj hk.1 hk.2 c1
theorem PT (b:Nat)(V:AM)(ls:Vector BJ 4)(ev:List Ing.Event)(k:Int)(u:Ap)(n m:Nat)(hk:0≤k∧k < 4)(hF:AI.Fit (A5 V ls ev) n m)(hn:n≤900000)(hm:m≤900000)(hu:u.length≤1000):FU Tryz.prog 95 #[.pointer (some ⟨b,0,none⟩), .pointer (some ⟨b,165+k.toNat * 22,none⟩),BU u] [Ab.box b 101 (AM.enc V),Ab.EB (CR 9 (AM.Au V) ls),Ab.own (AM.last V) 56 16 ((ev).flatMap Ing.Event.enc)] (fun w=>(GV 2 Fp w∧2 ∉ Cg [Ab.box b 101 (AM.enc V),Ab.EB (CR 9 (AM.Au V) ls),Ab.own (AM.last V) 56 16 ((ev).flatMap Ing.Event.enc)])∧(GV 0 AH.DJ w∧0 ∉ Cg [Ab.box b 101 (AM.enc V),Ab.EB (CR 9 (AM.Au V) ls),Ab.own (AM.last V) 56 16 ((ev).flatMap Ing.Event.enc)])∧(Gu 7 w∧7 ∉ Cg [Ab.box b 101 (AM.enc V),Ab.EB (CR 9 (AM.Au V) ls),Ab.own (AM.last V) 56 16 ((ev).flatMap Ing.Event.enc)])∧(Gu 8 w∧8 ∉ Cg [Ab.box b 101 (AM.enc V),Ab.EB (CR 9 (AM.Au V) ls),Ab.own (AM.last V) 56 16 ((ev).flatMap Ing.Event.enc)])) (fun v B=>∃ V' ls' ev',v = .tuple #[]∧A5 V' ls' ev'=AI.order (A5 V ls ev) k u∧B = [Ab.box b 101 (AM.enc V'),Ab.EB (CR 9 (AM.Au V') ls'),Ab.own (AM.last V') 56 16 ((ev').flatMap Ing.Event.enc)]):=by
 intro w hS0 hH
 obtain⟨⟨gl0,gm0⟩,⟨gl1,gm1⟩,⟨gl2,gm2⟩,⟨gl3,gm3⟩⟩:=hH
 have hps:=Words.Ja u
 have hdl:=AE.NZ V.w (V.Au.at k).Ay (Words.parse u).1
 have hds:=AE.KE (b:=(V.Au.at k).Ay) (o:=(Words.parse u).1) hF.Ff (by have:=hps.2.2;omega)
 have htn:=GX hF
 refine Ak _ _ Tryz.func95 rfl rfl rfl (hS0) ?_
 refine Gs (Gm rfl ?_)
 refine BA rfl cZ (.c rfl .n) (fun w hS=>Md u (by omega) w (gl1.stM gm1 hS) (gl2.stM gm2 hS) (gl3.stM gm3 hS)) ?_
 refine Gm rfl (Gt (AN rfl rfl) (Gt (AN rfl rfl) ?_))
 refine BD rfl L5 rfl (fun b1=>?_)
 refine AT (AK (AU.id Order.fl.len Order.fl.one) rfl rfl rfl D3 rfl .h) ?_
 refine Ga rfl (Gn (.t4 0 1 6 7) (CG (Gm rfl (Gt (Cb rfl rfl) (Gn (.t4 0 1 6 17) ?_)))))
 refine Gc (fun c1=>?_) (fun c1=>?_)
 ·
  have c1p:=kz c1
  refine Gs (Gm rfl (Gm rfl ?_))
  refine Ah rfl TV (.c rfl (.c rfl (.c rfl .n))) (.c (.t .h) (.c (.t .h) (.c (.t .h) .n))) (EL _ V ls ev k _ hk (Nat.le_trans (htn k hk.1 hk.2) (by omega))) (fun v1 B hv=>?_)
  obtain⟨y2,y3,y4,rfl,y5,rfl⟩:=hv
  refine Gn (.nil _) (Ac (AD ?_))
  refine AY rfl .n ?_
  intro w1 hS
  have hS:=(hS.perm (Ax.perm (.c .h (.c .h (.c .h .n))))).A1
  refine⟨_,⟨y2,y3,y4,rfl,?ga1,rfl⟩,hS⟩
  case ga1=>exact y5.trans (if_pos c1).symm
 have c1p:=kz c1
 refine Aa ?_
 refine AB (.t3 0 1 6) ?_
 refine AA (CG (Gt (Ai DF rfl) (Gt (AG rfl A2 .m0 Order.l0 rfl rfl) (Gt (Af rfl rfl) (Gn (.t4 0 1 6 23) ?_)))))
 refine Gc (fun c2=>?_) (fun c2=>?_)
 ·
  refine Gs (Gm rfl (Gm rfl ?_))
  refine BF rfl aD (.c rfl (.c rfl .n)) (.c (.t .h) (.c (.t .h) (.c (.t .h) .n))) (IN _ V ls ev k n m hk hF hn hm) (fun w hS=>⟨gl0.pull gm0 hS (.c (.t .h) (.c (.t .h) (.c (.t .h) .n))),gl1.pull gm1 hS (.c (.t .h) (.c (.t .h) (.c (.t .h) .n))),gl2.pull gm2 hS (.c (.t .h) (.c (.t .h) (.c (.t .h) .n))),gl3.pull gm3 hS (.c (.t .h) (.c (.t .h) (.c (.t .h) .n)))⟩) (fun v6 B hv=>?_)
  obtain⟨y7,y8,y9,rfl,y10,rfl⟩:=hv
  refine Gn (.nil _) (Ac (AD ?_))
  refine AY rfl .n ?_
  intro w1 hS
  have hS:=(hS.perm (Ax.perm (.c .h (.c .h (.c .h .n))))).A1
  refine⟨_,⟨y7,y8,y9,rfl,?ga2,rfl⟩,hS⟩
  case ga2=>exact y10.trans ((AX c1).trans (BB c2)).symm
 have c2p:=kz c2
 refine Aa ?_
 refine AB (.t3 0 1 6) ?_
 refine AA (Ao ?_)
 refine BE (N:=18) [0,1,3,7,0,16,48,112,0,511,1023,2047,2047,2047,0,20479,57343,131071] mix (by kernel_rfl) rfl ?_
 refine Pf 0 rfl (AF rfl) (Pf 1 rfl (BV rfl) (Pf 2 rfl (Ai D6 rfl) (Pf 3 rfl (AZ rfl BW .m1 AM.l0 rfl) (Pf 4 rfl (AF rfl) (Pf 5 rfl (BV rfl) (Pf 6 rfl (Ai IL rfl) (Pf 7 rfl (AG rfl A2 .m1 ((AM.l1.comp (AU.arr (n:=4) A3.fl hk.1 hk.2)).comp A3.l1) rfl rfl) ?_)))))))
 refine Pf 8 rfl (AZ rfl CB .m0 (AU.id Order.fl.len Order.fl.one) rfl) ?_
 refine Jo 9 14 rfl rfl (by kernel_rfl) ?_ ?_
 ·
  refine BF rfl ZI (.c rfl (.c rfl (.c rfl .n))) .n (GP V.w (V.Au.at k).Ay (Words.parse u).1 hF.Ff.HA (by have:=hps.2.1;omega) (by have:=hps.1;omega)) (fun w hS=>⟨gl1.pull gm1 hS .n,gl2.pull gm2 hS .n,gl3.pull gm3 hS .n⟩) (fun v11 B hv=>?_)
  obtain⟨y12,rfl,y13,rfl⟩:=hv
  refine Bq rfl ⟨?_,?_⟩
  · exact(Pk (Pk (Pk (Pk (Pk (Pk (Pk (Pk (Pk As)))))))))
  refine Pf 10 rfl (AF rfl) (Pf 11 rfl (AN rfl rfl) (Pf 12 rfl (AN rfl rfl) (Pf 13 rfl (AN rfl rfl) ?_)))
  refine An 14 rfl (by kernel_rfl) ?_
  refine BD rfl LU rfl (fun b2=>?_)
  refine Bq rfl ⟨?_,?_⟩
  · exact(Po rfl (AN rfl rfl) rfl rfl (Po rfl (AN rfl rfl) rfl rfl (Po rfl (AN rfl rfl) rfl rfl (Po rfl (AF rfl) rfl rfl (Po rfl (AZ rfl CB .m2 (AU.id Order.fl.len Order.fl.one) rfl) rfl rfl (Po rfl (AG rfl A2 .m3 ((AM.l1.comp (AU.arr (n:=4) A3.fl hk.1 hk.2)).comp A3.l1) rfl rfl) rfl rfl (Po rfl (Ai IL rfl) rfl rfl (Po rfl (BV rfl) rfl rfl (Po rfl (AF rfl) rfl rfl (Po rfl (AZ rfl BW .m3 AM.l0 rfl) rfl rfl (Po rfl (Ai D6 rfl) rfl rfl (Po rfl (BV rfl) rfl rfl (Po rfl (AF rfl) rfl rfl As)))))))))))))
  refine An 15 rfl (by kernel_rfl) ?_
  refine AT (AK (AU.id AH.fl.len AH.fl.one) rfl rfl rfl Dz rfl .h) ?_
  refine BN rfl ⟨?_,?_⟩
  · exact(Po rfl (AN rfl rfl) rfl rfl (Po rfl (AN rfl rfl) rfl rfl (Pk (Pk (Pk (Pk (Pk (Pk (Pk (Pk (Pk (Pk (Pk As)))))))))))))
  refine Pf 16 rfl (A0 rfl) (Pf 17 rfl (A0 rfl) ?_)
  refine A4 (by kernel_rfl) ?_
  refine AB (.t3 0 8 9) ?_
  refine AA (Gs (Gm rfl (Gt (AZ rfl BW .m0 (AU.id AH.fl.len AH.fl.one) rfl) (Gt (BV rfl) (Gt (Ai D6 rfl) ?_)))))
  refine AT (AK AM.l0 rfl rfl rfl Dz rfl (.t (.t (.t .h)))) ?_
  refine Gn (.t2 0 9) (AJ (Gm rfl (Gm rfl ?_)))
  refine BF rfl Vg (.c rfl (.c rfl .n)) (.c (.t (.t (.t .h))) (.c (.t (.t (.t .h))) (.c (.t (.t (.t .h))) (.c (.t .h) .n)))) (Ep _ { V with w:=(AE.EC V.w (V.Au.at k).Ay (Words.parse u).1).1 } ls ev _ (AE.EC V.w (V.Au.at k).Ay (Words.parse u).1).2.1 n (by assumption) htn (by omega) (Nat.le_trans hF.last (by omega)) (fun e he c _=>hds.2 e he)) (fun w hS=>⟨gl0.pull gm0 hS (.c (.t (.t (.t .h))) (.c (.t (.t (.t .h))) (.c (.t (.t (.t .h))) (.c (.t .h) .n)))),gl1.pull gm1 hS (.c (.t (.t (.t .h))) (.c (.t (.t (.t .h))) (.c (.t (.t (.t .h))) (.c (.t .h) .n))))⟩) (fun v15 B hv=>?_)
  obtain⟨y16,y17,y18,rfl,y19,rfl⟩:=hv
  refine AQ ?_
  refine Bk rfl .n ?_
  intro w1 hS
  have hS:=(hS.perm (Ax.perm (.c .h (.c .h (.c .h .n))))).A1
  refine⟨_,⟨y16,y17,y18,rfl,?ga3,rfl⟩,hS⟩
  case ga3=>exact UU hk.1 hk.2 c1 c2 y19
 ·
  refine BD rfl LU rfl (fun b3=>?_)
  refine Bq rfl ⟨?_,?_⟩
  · exact(Po rfl (AZ rfl CB .m1 (AU.id Order.fl.len Order.fl.one) rfl) rfl rfl (Po rfl (AG rfl A2 .m2 ((AM.l1.comp (AU.arr (n:=4) A3.fl hk.1 hk.2)).comp A3.l1) rfl rfl) rfl rfl (Po rfl (Ai IL rfl) rfl rfl (Po rfl (BV rfl) rfl rfl (Po rfl (AF rfl) rfl rfl (Po rfl (AZ rfl BW .m2 AM.l0 rfl) rfl rfl (Po rfl (Ai D6 rfl) rfl rfl (Po rfl (BV rfl) rfl rfl (Po rfl (AF rfl) rfl rfl As)))))))))
  refine An 9 rfl (by kernel_rfl) ?_
  refine BF rfl ZI (.c rfl (.c rfl (.c rfl .n))) .n (GP V.w (V.Au.at k).Ay (Words.parse u).1 hF.Ff.HA (by have:=hps.2.1;omega) (by have:=hps.1;omega)) (fun w hS=>⟨gl1.pull gm1 hS .n,gl2.pull gm2 hS .n,gl3.pull gm3 hS .n⟩) (fun v20 B hv=>?_)
  obtain⟨y21,rfl,y22,rfl⟩:=hv
  refine Bq rfl ⟨?_,?_⟩
  · exact(Pk (Pk (Pk (Pk (Pk (Pk (Pk (Pk (Pk As)))))))))
  refine Pf 10 rfl (AF rfl) (Pf 11 rfl (AN rfl rfl) (Pf 12 rfl (AN rfl rfl) (Pf 13 rfl (AN rfl rfl) ?_)))
  refine An 15 rfl (by kernel_rfl) ?_
  refine AT (AK (AU.id AH.fl.len AH.fl.one) rfl rfl rfl Dz rfl (.t .h)) ?_
  refine BN rfl ⟨?_,?_⟩
  · exact(Po rfl (AN rfl rfl) rfl rfl (Po rfl (AN rfl rfl) rfl rfl (Pk (Pk (Pk (Pk (Pk (Pk (Pk (Pk (Pk (Pk (Pk As)))))))))))))
  refine Pf 16 rfl (A0 rfl) (Pf 17 rfl (A0 rfl) ?_)
  refine A4 (by kernel_rfl) ?_
  refine AB (.t3 0 8 9) ?_
  refine AA (Gs (Gm rfl (Gt (AZ rfl BW .m1 (AU.id AH.fl.len AH.fl.one) rfl) (Gt (BV rfl) (Gt (Ai D6 rfl) ?_)))))
  refine AT (AK AM.l0 rfl rfl rfl Dz rfl (.t (.t (.t .h)))) ?_
  refine Gn (.t2 0 9) (AJ (Gm rfl (Gm rfl ?_)))
  refine BF rfl Vg (.c rfl (.c rfl .n)) (.c (.t (.t (.t .h))) (.c (.t (.t (.t .h))) (.c (.t (.t (.t .h))) (.c .h .n)))) (Ep _ { V with w:=(AE.EC V.w (V.Au.at k).Ay (Words.parse u).1).1 } ls ev _ (AE.EC V.w (V.Au.at k).Ay (Words.parse u).1).2.1 n (by assumption) htn (by omega) (Nat.le_trans hF.last (by omega)) (fun e he c _=>hds.2 e he)) (fun w hS=>⟨gl0.pull gm0 hS (.c (.t (.t (.t .h))) (.c (.t (.t (.t .h))) (.c (.t (.t (.t .h))) (.c .h .n)))),gl1.pull gm1 hS (.c (.t (.t (.t .h))) (.c (.t (.t (.t .h))) (.c (.t (.t (.t .h))) (.c .h .n))))⟩) (fun v24 B hv=>?_)
  obtain⟨y25,y26,y27,rfl,y28,rfl⟩:=hv
  refine AQ ?_
  refine Bk rfl .n ?_
  intro w1 hS
  have hS:=(hS.perm (Ax.perm (.c .h (.c .h (.c .h .n))))).A1
  refine⟨_,⟨y25,y26,y27,rfl,?ga4,rfl⟩,hS⟩
  case ga4=>exact UU hk.1 hk.2 c1 c2 y28
theorem Q0 (b:Nat)(V:AM)(ls:Vector BJ 4)(ev:List Ing.Event)(k:Int)(n m:Nat)(hk:0≤k∧k < 4)(hF:AI.Fit (A5 V ls ev) n m)(hn:n≤900000)(hm:m≤900000):FU Tryz.prog 77 #[.pointer (some ⟨b,0,none⟩), .pointer (some ⟨b,165+k.toNat * 22,none⟩)] [Ab.box b 101 (AM.enc V),Ab.EB (CR 9 (AM.Au V) ls),Ab.own (AM.last V) 56 16 ((ev).flatMap Ing.Event.enc)] (fun w=>(GV 2 Fp w∧2 ∉ Cg [Ab.box b 101 (AM.enc V),Ab.EB (CR 9 (AM.Au V) ls),Ab.own (AM.last V) 56 16 ((ev).flatMap Ing.Event.enc)])∧(GV 0 AH.DJ w∧0 ∉ Cg [Ab.box b 101 (AM.enc V),Ab.EB (CR 9 (AM.Au V) ls),Ab.own (AM.last V) 56 16 ((ev).flatMap Ing.Event.enc)])∧(Gu 7 w∧7 ∉ Cg [Ab.box b 101 (AM.enc V),Ab.EB (CR 9 (AM.Au V) ls),Ab.own (AM.last V) 56 16 ((ev).flatMap Ing.Event.enc)])∧(Gu 8 w∧8 ∉ Cg [Ab.box b 101 (AM.enc V),Ab.EB (CR 9 (AM.Au V) ls),Ab.own (AM.last V) 56 16 ((ev).flatMap Ing.Event.enc)])) (fun v B=>∃ V' ls' ev',v = .tuple #[]∧A5 V' ls' ev'=AI.EN (A5 V ls ev) k∧B = [Ab.box b 101 (AM.enc V'),Ab.EB (CR 9 (AM.Au V') ls'),Ab.own (AM.last V') 56 16 ((ev').flatMap Ing.Event.enc)]):=by
 intro w hS0 hH
 obtain⟨⟨gl0,gm0⟩,⟨gl1,gm1⟩,⟨gl2,gm2⟩,⟨gl3,gm3⟩⟩:=hH
 refine Ak _ _ Tryz.func77 rfl rfl rfl (hS0) ?_
 refine CG (Gm rfl (Gt (BV rfl) (Gt (Ai I4 rfl) (Gt (AG rfl A2 .m0 ((AM.l1.comp (AU.arr (n:=4) A3.fl hk.1 hk.2)).comp A3.l0) rfl rfl) (Gt (Af rfl rfl) (Gn (.t3 0 1 11) ?_))))))
 refine Gc (fun c1=>?_) (fun c1=>?_)
 ·
  refine Ac (AD ?_)
  refine AY rfl .n ?_
  intro w1 hS
  have hS:=(hS.perm (Ax.perm (.c .h (.c .h (.c .h .n))))).A1
  exact⟨_,⟨V,ls,ev,rfl,VI hk.1 hk.2 c1,rfl⟩,hS⟩
 have c1p:=kz c1
 refine Aa ?_
 refine AB (.t2 0 1) ?_
 refine AA (Gs (Ga rfl (Gn (.t2 0 1) (Gs (Ga rfl (Gn (.t2 0 1) (Ao ?_)))))))
 refine Ao ?_
 refine Ft (k:=k) hk.1 hk.2 (fun sv sl hsv hlv hln=>?_)
 refine AJ (Gm rfl (Gm rfl (Gt (BV rfl) (Gt (Ai Mp rfl) (Gt (AZ rfl Jc .m3 ((AU.BL V hk.1 hk.2).comp A3.l3) rfl) ?_)))))
 refine BF rfl dq (.c rfl .n) .n (Ol _ _ (by have h:=(VJ hF hk.1 hk.2).1;rw [hlv] at h;omega)) (fun w hS=>⟨(Kn.own .m0) w hS,(VX.own .m0) w hS⟩) (fun v1 B hv=>?_)
 rcases hv with ⟨y2,rfl,rfl⟩ | ⟨y3,y4,y5,y6,rfl,y7,rfl⟩
 ·
  refine Gm rfl (Gt (AN rfl rfl) (Gt (AN rfl rfl) (Gt (AN rfl rfl) (Gt (BV rfl) (Gt (Ai Mp rfl) ?_)))))
  refine AT (AK ((AU.BL V hk.1 hk.2).comp A3.l3) rfl rfl rfl O3 rfl (.t (.t (.t .h)))) ?_
  refine Ga rfl (Ga rfl (Gn (.t4 0 1 4 5) (Gs (Gm rfl (Gt (BT rfl) (Gn (.t4 0 1 4 25) ?_))))))
  refine G1 rfl rfl ?_
  refine Ac (AD ?_)
  refine AY rfl .n ?_
  intro w1 hS
  have hS:=(hS.perm (Ax.perm (.c .h (.c .h (.c .h (.c .h (.c .h (.c .h .n)))))))).A1
  have hS:=hS.close' hk.1 hk.2 (by rfl) (by rfl) (by rfl)
  refine⟨_,⟨V.BL k sv,ls.put k ⟨sl.queue,sl.wait,sl.told⟩,ev,rfl,?ga2,rfl⟩,hS⟩
  case ga2=>exact V9 hk.1 hk.2 hsv hlv y2 c1
 refine Gm rfl (Gt (AN rfl rfl) (Gt (AN rfl rfl) (Gt (AN rfl rfl) (Gt (BV rfl) (Gt (Ai Mp rfl) ?_)))))
 refine AT (AK ((AU.BL V hk.1 hk.2).comp A3.l3) rfl rfl rfl O3 rfl (.t (.t (.t (.t .h))))) ?_
 refine Ga rfl (Ga rfl (Gn (.t4 0 1 4 5) (Gs (Gm rfl (Gt (BT rfl) (Gn (.t4 0 1 4 25) ?_))))))
 refine Dr rfl rfl ?_
 refine Aa ?_
 refine AB (.t3 0 1 4) ?_
 refine AA (Gs (Gm rfl (Gt (BV rfl) (Gt (Ai D2 rfl) (Gt (Ai Qn rfl) (Gt (AG rfl Dn .m4 (((AU.BL V hk.1 hk.2).comp A3.l4).comp Az.l2) rfl rfl) (Ga rfl ?_)))))))
 refine Gn (.t4 0 1 4 6) (Gs (Gm rfl (Gm rfl (Gt (BV rfl) (Gt (Ai D2 rfl) (Gt (AZ rfl C5 .m4 ((AU.BL V hk.1 hk.2).comp A3.l4) rfl) ?_))))))
 refine BA rfl db (.c rfl .n) (fun w hS=>ND _ w) ?_
 refine Gt (BV rfl) (Gt (Ai D2 rfl) ?_)
 refine AT (AK ((AU.BL V hk.1 hk.2).comp A3.l4) rfl rfl rfl Fz rfl (.t (.t (.t (.t .h))))) ?_
 refine Gn (.t4 0 1 4 6) (Ae (Ao ?_))
 refine Ey (.c .h (.c (.t .h) (.c (.t .h) (.c (.t .h) (.c (.t .h) .n))))) ?_
 refine HM hk.1 hk.2 (by rfl) (by rfl) (by rfl) ?_
 refine AJ (Gm rfl (Ga rfl (Gn (.t4 0 1 4 43) ?_)))
 refine Gc (fun c2=>?_) (fun c2=>?_)
 ·
  refine Aa ?_
  refine AB (.nil _) ?_
  refine AV ?_
  refine Bk rfl .n ?_
  intro w1 hS
  have hS:=(hS.perm (Ax.perm (.c .h (.c .h (.c (.t .h) .n))))).A1
  exact⟨_,⟨(AM.BL V k { sv with Ec:=⟨sv.Ec.now,sv.Ec.C0,sv.Ec.ret,y6⟩,out:=⟨sv.out.wait,0,false,sv.out.ring,sv.out.cut⟩ }),(ls.put k ⟨y4,sl.wait,sl.told⟩),ev,rfl,(Df (ev:=ev) hk.1 hk.2 hsv hlv y5 c1 y6).1.trans ((Df (ev:=ev) hk.1 hk.2 hsv hlv y5 c1 y6).2.2.trans (if_pos c2)).symm,rfl⟩,hS⟩
 have c2p:=kz c2
 refine Gs (Gm rfl (Gt (BV rfl) (Gt (Ai I4 rfl) (Gt (AG rfl A2 .m0 ((AM.l1.comp (AU.arr (n:=4) A3.fl hk.1 hk.2)).comp A3.l0) rfl rfl) (Gt (Af rfl rfl) (Ga rfl (Gn (.t4 0 1 4 45) ?_)))))))
 refine Gc (fun c3=>?_) (fun c3=>?_)
 ·
  have c3p:=kz c3
  refine AJ (Gm rfl (Gm rfl (Gm rfl ?_)))
  refine BA rfl bo (.c rfl (.c rfl .n)) (fun w hS=>H3 y3 (by have h:y3.length≤1000:=(by have h:=(hF.queue k hk.1 hk.2).2 y3 (by rw [(Df (ev:=ev) hk.1 hk.2 hsv hlv y5 c1 y6).2.1];exact List.mem_cons_self ..);omega);omega) w) ?_
  refine BF rfl eC (.c rfl (.c rfl (.c rfl .n))) (.c .h (.c .h (.c (.t .h) .n))) (Qp _ (AM.BL V k { sv with Ec:=⟨sv.Ec.now,sv.Ec.C0,sv.Ec.ret,y6⟩,out:=⟨sv.out.wait,0,false,sv.out.ring,sv.out.cut⟩ }) (ls.put k ⟨y4,sl.wait,sl.told⟩) ev k _ n m hk (by rw [(Df (ev:=ev) hk.1 hk.2 hsv hlv y5 c1 y6).1];exact hF.FP hk.1 hk.2 (Df (ev:=ev) hk.1 hk.2 hsv hlv y5 c1 y6).2.1) hn hm (by have h:y3.length≤1000:=(by have h:=(hF.queue k hk.1 hk.2).2 y3 (by rw [(Df (ev:=ev) hk.1 hk.2 hsv hlv y5 c1 y6).2.1];exact List.mem_cons_self ..);omega);have h1:=Words.L3 32 (Words.Sv 32 y3);have h2:=Words.Qj 32 y3;omega)) (fun w hS=>⟨gl0.pull gm0 hS (.c .h (.c .h (.c (.t .h) .n))),gl1.pull gm1 hS (.c .h (.c .h (.c (.t .h) .n)))⟩) (fun v9 B hv=>?_)
  obtain⟨y10,y11,y12,rfl,y13,rfl⟩:=hv
  refine AQ (AB (.nil _) ?_)
  refine AV ?_
  refine Bk rfl .n ?_
  intro w1 hS
  have hS:=(hS.perm (Ax.perm (.c .h (.c .h (.c .h .n))))).A1
  have c9:decide (sv.state=1)=true:=by
    have h:=c3
    rw [show(AM.Au (AM.BL V k { sv with Ec:=⟨sv.Ec.now,sv.Ec.C0,sv.Ec.ret,y6⟩,out:=⟨sv.out.wait,0,false,sv.out.ring,sv.out.cut⟩ })).at k=_ from Vector.CD hk.1 hk.2] at h
    exact h
  refine⟨_,⟨y10,y11,y12,rfl,?ga4,rfl⟩,hS⟩
  case ga4=>exact y13.trans ((congrArg (fun X=>AI.named X k _) (Df (ev:=ev) hk.1 hk.2 hsv hlv y5 c1 y6).1).trans ((Df (ev:=ev) hk.1 hk.2 hsv hlv y5 c1 y6).2.2.trans ((AX c2).trans (BB c9))).symm)
 have c3p:=kz c3
 refine AJ (Gm rfl (Gm rfl (Gm rfl ?_)))
 refine BF rfl eI (.c rfl (.c rfl (.c rfl .n))) (.c .h (.c .h (.c (.t .h) .n))) (PT _ (AM.BL V k { sv with Ec:=⟨sv.Ec.now,sv.Ec.C0,sv.Ec.ret,y6⟩,out:=⟨sv.out.wait,0,false,sv.out.ring,sv.out.cut⟩ }) (ls.put k ⟨y4,sl.wait,sl.told⟩) ev k _ n m hk (by rw [(Df (ev:=ev) hk.1 hk.2 hsv hlv y5 c1 y6).1];exact hF.FP hk.1 hk.2 (Df (ev:=ev) hk.1 hk.2 hsv hlv y5 c1 y6).2.1) hn hm (by have h:=(hF.queue k hk.1 hk.2).2 y3 (by rw [(Df (ev:=ev) hk.1 hk.2 hsv hlv y5 c1 y6).2.1];exact List.mem_cons_self ..);omega)) (fun w hS=>⟨gl0.pull gm0 hS (.c .h (.c .h (.c (.t .h) .n))),gl1.pull gm1 hS (.c .h (.c .h (.c (.t .h) .n))),gl2.pull gm2 hS (.c .h (.c .h (.c (.t .h) .n))),gl3.pull gm3 hS (.c .h (.c .h (.c (.t .h) .n)))⟩) (fun v14 B hv=>?_)
 obtain⟨y15,y16,y17,rfl,y18,rfl⟩:=hv
 refine AQ (AB (.nil _) ?_)
 refine AV ?_
 refine Bk rfl .n ?_
 intro w1 hS
 have hS:=(hS.perm (Ax.perm (.c .h (.c .h (.c .h .n))))).A1
 have c9:decide (sv.state=1)=false:=by
   have h:=c3
   rw [show(AM.Au (AM.BL V k { sv with Ec:=⟨sv.Ec.now,sv.Ec.C0,sv.Ec.ret,y6⟩,out:=⟨sv.out.wait,0,false,sv.out.ring,sv.out.cut⟩ })).at k=_ from Vector.CD hk.1 hk.2] at h
   exact h
 refine⟨_,⟨y15,y16,y17,rfl,?ga5,rfl⟩,hS⟩
 case ga5=>exact y18.trans ((congrArg (fun X=>AI.order X k _) (Df (ev:=ev) hk.1 hk.2 hsv hlv y5 c1 y6).1).trans ((Df (ev:=ev) hk.1 hk.2 hsv hlv y5 c1 y6).2.2.trans ((AX c2).trans (AX c9))).symm)
theorem Nw (X:AH)(b:Int)(hF:(AE.FM X b).Fit):FU Tryz.prog 97 #[.agg X.enc.toArray, .int .i64 b] [] (fun w=>(GV 0 AH.DJ w∧0 ∉ Cg [])) (fun v B=>∃ h:Hd,v = .tuple #[.agg ((AE.Hw X b).w.enc).toArray,h.val]∧h.len=(AE.Hw X b).out.length∧B = [Ab.own h 56 16 ((AE.Hw X b).out.flatMap Ing.Event.enc)]):=by
 intro w hS0 hH
 obtain⟨gl0,gm0⟩:=hH
 have hb:0≤b∧b < 6:=hF.b
 refine Ak _ _ Tryz.func97 rfl rfl rfl (hS0) ?_
 refine Gs ?_
 refine B6 rfl rfl rfl (fun b1=>?_)
 refine BD rfl LU rfl (fun b2=>?_)
 refine Ga rfl (Gn (.t3 1 2 4) (Gs (Gt (AZ rfl BW .m1 (AU.id AH.fl.len AH.fl.one) rfl) (Gm rfl (Gt (BC UR UP rfl (.cons Ad.l0 rfl rfl rfl (.cons Ad.l1 rfl rfl rfl .nil))) ?_)))))
 refine B6 rfl rfl rfl (fun b3=>?_)
 refine Ga rfl (Gn (.t3 1 4 6) (Gs (Gm rfl (Gm rfl (Gt (BV rfl) (Gt (Ai A9 rfl) (Gt (Ai Bo rfl) ?_)))))))
 refine Gt (AR C8 rfl rfl (by first | omega | exact hb.1 | exact hb.2 | (dsimp only;omega)) (by first | omega | exact hb.1 | exact hb.2 | (dsimp only;omega))) ?_
 refine Gt (Ai JX rfl) ?_
 refine AT (AK (((Ad.l0.comp AH.l2).comp (AU.ar (n:=6) Aj.fl (by first | omega | exact hb | (dsimp only;omega)))).comp Aj.l4) rfl rfl rfl C6 rfl .h) ?_
 refine Gn (.t3 1 4 6) (Gs (Gm rfl ?_))
 refine Dm Ing.Event.enc 56 16 ?_
 refine Ah rfl Uh (.c rfl (.c rfl .n)) (.c (.t .h) (.c .h .n)) (GN _ (AE.FM X b) _ 15 rfl hb (Nat.zero_le _)) (fun v2 B hv=>?_)
 obtain⟨y3,rfl,y4,rfl⟩:=hv
 refine Gn (.t3 1 4 6) (Gs (Gm rfl ?_))
 refine Ah rfl Zi (.c rfl .n) (.c .h .n) (LL _ ((AE.FM X b).kind 15) _ (hF.Ee rfl rfl)) (fun v5 B hv=>?_)
 obtain⟨y6,y7,rfl,rfl⟩:=hv
 refine Gn (.t3 1 4 6) (CG (Gm rfl (Gt (A7 rfl rfl) (Gn (.t4 1 4 6 24) ?_))))
 refine Gc (fun c1=>?_) (fun c1=>?_)
 ·
  have c1p:=kz c1
  refine Gs (Gm rfl (Gm rfl (Gt (BC Wj Lu rfl .nil) (Gt (BV rfl) (Gt (Ai A9 rfl) (Gt (Ai Bo rfl) ?_))))))
  refine Gt (AR C8 rfl rfl (by first | omega | exact hb.1 | exact hb.2 | (dsimp only;omega)) (by first | omega | exact hb.1 | exact hb.2 | (dsimp only;omega))) ?_
  refine AT (AK ((Ad.l0.comp AH.l2).comp (AU.ar (n:=6) Aj.fl (by first | omega | exact hb | (dsimp only;omega)))) rfl rfl rfl KX rfl .h) ?_
  refine Gn (.t2 4 6) (Ao ?_)
  refine BE (N:=10) [0,1,3,7,0,16,48,112,15,511] mix (by kernel_rfl) rfl ?_
  refine Pf 0 rfl (AF rfl) (Pf 1 rfl (BV rfl) (Pf 2 rfl (Ai A9 rfl) (Pf 3 rfl (AZ rfl BW .m0 Ad.l0 rfl) (Pf 4 rfl (AF rfl) (Pf 5 rfl (BV rfl) (Pf 6 rfl (Ai CJ rfl) (Pf 7 rfl (AG rfl Di .m0 Ad.l2 rfl rfl) ?_)))))))
  refine An 8 rfl (by kernel_rfl) ?_
  refine AT (AK (AU.id AH.fl.len AH.fl.one) rfl rfl rfl Dz rfl (.t (.t .h))) ?_
  refine BN rfl ⟨?_,?_⟩
  · exact(Po rfl (AG rfl Di .m0 Ad.l2 rfl rfl) rfl rfl (Po rfl (Ai CJ rfl) rfl rfl (Po rfl (BV rfl) rfl rfl (Po rfl (AF rfl) rfl rfl (Pk (Pk (Pk (Pk As))))))))
  refine Pf 9 rfl (A0 rfl) ?_
  refine A4 (by kernel_rfl) ?_
  refine AB (.t2 4 5) ?_
  refine AA (Ac (AD ?_))
  refine AY rfl (.cell rfl .m2 (.inl ⟨(by rw [AH.fl.len];exact BW),rfl⟩) (.tmp rfl .n)) ?_
  intro w1 hS
  have hS:=(hS.perm (Ax.perm (.c (.t .h) .n))).A1
  have hq:AE.Hw X b=_:=BB c1
  rw [AE.U9 y7] at hq
  refine⟨_,⟨y3,?hv,?hl,?hB⟩,hS⟩
  case hv=>rw [hq];rfl
  case hl=>rw [hq];exact y4
  case hB=>rw [hq]
 have c1p:=kz c1
 refine Aa ?_
 refine AB (.t3 1 4 6) ?_
 refine AA (Gs (Gm rfl (Gm rfl (Gt (BV rfl) (Gt (Ai A9 rfl) (Gt (Ai Bo rfl) ?_))))))
 refine Gt (AR C8 rfl rfl (by first | omega | exact hb.1 | exact hb.2 | (dsimp only;omega)) (by first | omega | exact hb.1 | exact hb.2 | (dsimp only;omega))) ?_
 refine Ga rfl (Gn (.t3 4 6 7) (Gs (Gm rfl (Gm rfl (Gt (BV rfl) (Gt (Ai C2 rfl) ?_))))))
 refine AT (AK (((Ad.l0.comp AH.l2).comp (AU.ar (n:=6) Aj.fl (by first | omega | exact hb | (dsimp only;omega)))).comp Aj.l3) rfl rfl rfl C6 rfl .h) ?_
 refine Gt (BV rfl) (Gt (Ai JX rfl) ?_)
 refine AT (AK (((Ad.l0.comp AH.l2).comp (AU.ar (n:=6) Aj.fl (by first | omega | exact hb | (dsimp only;omega)))).comp Aj.l4) rfl rfl rfl C6 rfl .h) ?_
 refine Gn (.t2 4 6) (Ao ?_)
 refine F9 (fun _=> .h) (congrArg (fun q=>Ad.enc ⟨q,b,y3⟩) (AE.Y5 y6 hb)) ?_
 have hT2:=AE.ZJ y7
 have hf2:=AE.Rw hF
 rw [hT2] at hf2
 refine AJ (Gm rfl ?_)
 refine Ah rfl Uh (.c rfl (.c rfl .n)) (.c .h (.c .h .n)) (GN _ (⟨y6.Cw b { y6.AL.at b with room:=0,BH:=10 },b,((AE.FM X b).kind 15).out⟩:AE) _ 17 y4 hb (by decide:(0:Nat)+1≤100000)) (fun v8 B hv=>?_)
 obtain⟨y9,rfl,y10,rfl⟩:=hv
 refine Gn (.t2 4 6) (Gs (Gm rfl ?_))
 refine BF rfl U7 (.c rfl .n) (.c .h (.c .h .n)) (HK _ ((⟨y6.Cw b { y6.AL.at b with room:=0,BH:=10 },b,((AE.FM X b).kind 15).out⟩:AE).kind 17) _ y10 hb hf2.br (by decide:(0:Nat)+1+1≤90000)) (fun w hS=>gl0.pull gm0 hS (.c .h (.c .h .n))) (fun v11 B hv=>?_)
 obtain⟨y12,rfl,y13,rfl⟩:=hv
 refine Gn (.t2 4 6) (Ao ?_)
 refine BE (N:=10) [0,1,3,7,0,16,48,112,15,511] mix (by kernel_rfl) rfl ?_
 refine Pf 0 rfl (AF rfl) (Pf 1 rfl (BV rfl) (Pf 2 rfl (Ai A9 rfl) (Pf 3 rfl (AZ rfl BW .m0 Ad.l0 rfl) (Pf 4 rfl (AF rfl) (Pf 5 rfl (BV rfl) (Pf 6 rfl (Ai CJ rfl) (Pf 7 rfl (AG rfl Di .m0 Ad.l2 rfl rfl) ?_)))))))
 refine An 8 rfl (by kernel_rfl) ?_
 refine AT (AK (AU.id AH.fl.len AH.fl.one) rfl rfl rfl Dz rfl (.t (.t .h))) ?_
 refine BN rfl ⟨?_,?_⟩
 · exact(Po rfl (AG rfl Di .m0 Ad.l2 rfl rfl) rfl rfl (Po rfl (Ai CJ rfl) rfl rfl (Po rfl (BV rfl) rfl rfl (Po rfl (AF rfl) rfl rfl (Pk (Pk (Pk (Pk As))))))))
 refine Pf 9 rfl (A0 rfl) ?_
 refine A4 (by kernel_rfl) ?_
 refine AB (.t2 4 5) ?_
 refine AA (Ac ?_)
 refine AY rfl (.cell rfl .m2 (.inl ⟨(by rw [AH.fl.len];exact BW),rfl⟩) (.tmp rfl .n)) ?_
 intro w1 hS
 have hS:=(hS.perm (Ax.perm (.c (.t .h) .n))).A1
 have hq:AE.Hw X b=_:=AX c1
 rw [hT2] at hq
 refine⟨_,⟨y12,?hv,?hl,?hB⟩,hS⟩
 case hv=>rw [hq];rfl
 case hl=>rw [hq];exact y13
 case hB=>rw [hq]
end Go.Proofs.YtoidpggbbfncpaaGreatDoor

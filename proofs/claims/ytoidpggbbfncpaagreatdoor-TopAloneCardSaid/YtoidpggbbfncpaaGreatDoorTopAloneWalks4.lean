/- What the functions that the law TopAlone reaches compute: walks, part 4. No condition. -/
import Derived.Test.YtoidpggbbfncpaaGreatDoorCards
import Derived.Test.YtoidpggbbfncpaaGreatDoorTie
import Derived.Deep.DeepHandedRow
import Derived.Test.YtoidpggbbfncpaaGreatDoorRows
import Derived.Test.YtoidpggbbfncpaaGreatDoorTopAloneEc3
import Derived.Test.YtoidpggbbfncpaaGreatDoorTopAloneRa1
import Derived.Test.YtoidpggbbfncpaaGreatDoorTopAloneRb1
import Derived.Test.YtoidpggbbfncpaaGreatDoorTopAloneRc1
import Derived.Test.YtoidpggbbfncpaaGreatDoorTopAloneWalks
import Derived.Test.YtoidpggbbfncpaaGreatDoorTopAloneWalks2
import Derived.Test.YtoidpggbbfncpaaGreatDoorTopAloneWalks3
set_option linter.unusedSimpArgs false
set_option linter.unusedVariables false
set_option maxRecDepth 100000
set_option maxHeartbeats 1000000
namespace Go.Proofs.YtoidpggbbfncpaaGreatDoor
open Go Go.Ing Go.RowKit Go.ChangeShapes Go.WideShapes Go.ChangeAt
theorem R1 (b:Nat)(T:AF)(g:Hd)(o:Order)(hg:g.len=T.out.length)(hF:T.Fit)(hv:o.verb=8∨o.verb=9∨o.verb=10)(hu:o.second.length≤5000000)(hn:T.out.length≤90000):Fa Tryz.prog 106 #[.pointer (some ⟨b,0,none⟩), .agg o.enc.toArray] [Ad.box b 163 (Ae.enc ⟨T.w,T.b,g⟩),Ad.own g 56 16 (T.out.flatMap Ing.Event.enc)] (fun w=>(G3 7 w∧7 ∉ Cj [Ad.box b 163 (Ae.enc ⟨T.w,T.b,g⟩),Ad.own g 56 16 (T.out.flatMap Ing.Event.enc)])∧(G3 8 w∧8 ∉ Cj [Ad.box b 163 (Ae.enc ⟨T.w,T.b,g⟩),Ad.own g 56 16 (T.out.flatMap Ing.Event.enc)])) (fun v B=>∃ g':Hd,v = .tuple #[]∧g'.len=(T.FP o).out.length∧B = [Ad.box b 163 (Ae.enc ⟨(T.FP o).w,(T.FP o).b,g'⟩),Ad.own g' 56 16 ((T.FP o).out.flatMap Ing.Event.enc)]):=by
 intro w hS0 hH
 obtain⟨⟨gl0,gm0⟩,⟨gl1,gm1⟩⟩:=hH
 have hb:=hF.b
 have hr:=hF.room
 refine Am _ _ Tryz.func106 rfl rfl rfl (hS0) ?_
 refine Gs ?_
 refine B0 rfl rfl rfl (fun b1=>?_)
 refine Gn (.t2 0 3) (Gs (Ga rfl (Ga rfl (AQ (AA ?_)))))
 refine Bc (.t (.t .h)) ?_
 refine Bc (.t (.t .h)) ?_
 refine Yw (Lm:= [_,_]) (fun(X:AF) (to:Int) (p:Bool) (j:Hd)=>X=(T.Cv o).1∧to=(T.Cv o).2.1∧p=(T.Cv o).2.2∧j.len=X.out.length) (fun(X:AF) (to:Int) (p:Bool) (j:Hd)=> [(4, .int .i64 to),(5, .bool p)]) (fun(X:AF) (to:Int) (p:Bool) (j:Hd)=> [Ad.box b 163 (Ae.enc ⟨X.w,X.b,j⟩),Ad.own j 56 16 (X.out.flatMap Ing.Event.enc)]) (.t2 0 3) rfl ?_ (fun X to p j hC=>?_)
 ·
  refine Gs (Gt (Aj DG rfl) (Gt (AG rfl A5 .m2 Order.l0 rfl rfl) (Gn (.t5 0 3 4 5 11) (Ag (Gs (Gt (Ak rfl rfl) (Ga rfl ?_)))))))
  refine Gn (.t6 0 3 4 5 11 12) ?_
  refine Gc (fun c1=>?_) (fun c1=>?_)
  ·
   have c1p:=kz c1
   refine AJ (Gm rfl (Gt (Aj IN rfl) (Gt (AG rfl CM .m2 Order.l4 rfl rfl) ?_)))
   refine BJ rfl ZP (.c rfl (.c rfl .n)) (.c .h (.c .h .n)) (Mx _ T _ _ hg hF hu (by omega)) (fun w hS=>⟨gl0.pull gm0 hS (.c .h (.c .h .n)),gl1.pull gm1 hS (.c .h (.c .h .n))⟩) (fun v1 B hv=>?_)
   obtain⟨y2,rfl,y3,rfl⟩:=hv
   refine Gm rfl (Gt (AL rfl rfl) (Gt (AL rfl rfl) (Ga rfl (Ga rfl ?_))))
   refine AQ (AB (.t4 0 3 4 5) ?_)
   refine AV ?_
   refine Qv _ _ _ _ ?_ (.t4 4 5 0 3) (.refl _)
   · have ht:T.Cv o=_:=BF c1
     exact⟨by rw [ht],by rw [ht],by rw [ht],by assumption⟩
  have c1p:=kz c1
  refine Gs (Gt (Ak rfl rfl) (Ga rfl (Gn (.t5 0 3 4 5 21) ?_)))
  refine Gc (fun c2=>?_) (fun c2=>?_)
  ·
   have c2p:=kz c2
   refine AJ (Gm rfl (Gt (Aj IN rfl) (Gt (AG rfl CM .m2 Order.l4 rfl rfl) ?_)))
   refine BJ rfl ZW (.c rfl (.c rfl .n)) (.c .h (.c .h .n)) (Ir _ T _ _ hg hF hu (by omega)) (fun w hS=>⟨gl0.pull gm0 hS (.c .h (.c .h .n)),gl1.pull gm1 hS (.c .h (.c .h .n))⟩) (fun v4 B hv=>?_)
   obtain⟨y5,rfl,y6,rfl⟩:=hv
   refine Gm rfl (Gt (AL rfl rfl) (Gt (AL rfl rfl) (Ga rfl (Ga rfl ?_))))
   refine AQ (AB (.t4 0 3 4 5) ?_)
   refine AV ?_
   refine Qv _ _ _ _ ?_ (.t4 4 5 0 3) (.refl _)
   · have ht:T.Cv o=_:=(AX c1).trans (BF c2)
     exact⟨by rw [ht],by rw [ht],by rw [ht],by assumption⟩
  have c2p:=kz c2
  refine Aa ?_
  refine AB (.t4 0 3 4 5) ?_
  refine AV ?_
  refine Qv _ _ _ _ ?_ (.t4 4 5 0 3) (.refl _)
  · have ht:T.Cv o=_:=(AX c1).trans (AX c2)
    exact⟨by rw [ht],by rw [ht],by rw [ht],by assumption⟩
 obtain⟨hD1,hD2,hD3,hD4⟩:=hC
 have hXw:=T.U4 o
 have hXo:X.out.length≤T.out.length+1:=by rw [hD1];exact T.QC o
 rw [← hD1] at hXw
 have hXF:X.Fit:=hF.Ep hXw.1 hXw.2
 have hPl:((AF.BQ X.w X.own o.nth o.name o.Bm)).length≤9:=AF.R7.2.2
 refine CD (Gm rfl (Gt (BR rfl) (Gn (.t4 0 3 4 31) ?_)))
 refine Gc (fun c3=>?_) (fun c3=>?_)
 ·
  refine Ac (AE ?_)
  refine AZ rfl .n ?_
  intro w1 hS
  have hS:=(hS.perm (Ay.perm (.c .h (.c .h .n)))).A4
  have hq:T.FP o=X:=AF.VP hD1 hD3 c3
  refine⟨_,⟨?gq1,rfl,?hl1,?hB1⟩,hS⟩
  case hB1=>rw [hq];(try rfl)
  case hl1=>rw [hq];exact hD4
 have c3p:=kz c3
 obtain⟨hgo,hn0,hn9,hok⟩:=AF.S2 hD1 hD2 hD3 c3
 refine Aa ?_
 refine AB (.t3 0 3 4) ?_
 refine AA (Aq ?_)
 refine BE (N:=11) [0,0,2,0,8,0,32,0,128,511,1023] mix (by kernel_rfl) rfl ?_
 refine Pf 0 rfl (AD rfl) (Pf 1 rfl (AD rfl) (Pf 3 rfl (Aj GZ rfl) (Pf 4 rfl (AG rfl A5 .m2 Order.l1 rfl rfl) (Pf 5 rfl (Aj Fq rfl) (Pf 6 rfl (AG rfl CM .m2 Order.l3 rfl rfl) (Pf 7 rfl (Aj HN rfl) (Pf 8 rfl (AG rfl DO .m2 Order.l2 rfl rfl) ?_)))))))
 refine Af 2 rfl (by kernel_rfl) ?_
 refine Ah rfl Ur (.c rfl .n) (.c .h .n) (IH _ X _ hXF) (fun v7 B hv=>?_)
 obtain⟨y8,rfl,y9,rfl⟩:=hv
 refine Bf rfl ⟨?_,?_⟩
 · exact(Po rfl (AG rfl DO .m3 Order.l2 rfl rfl) rfl rfl (Po rfl (Aj HN rfl) rfl rfl (Po rfl (AG rfl CM .m3 Order.l3 rfl rfl) rfl rfl (Po rfl (Aj Fq rfl) rfl rfl (Po rfl (AG rfl A5 .m3 Order.l1 rfl rfl) rfl rfl (Po rfl (Aj GZ rfl) rfl rfl (Pk (Po rfl (AD rfl) rfl rfl Ar))))))))
 refine Af 9 rfl (by kernel_rfl) ?_
 refine Ah rfl QS (.c rfl (.c rfl (.c rfl (.c rfl (.c rfl .n))))) (.c .h (.c .h .n)) (E1 _ X _ _ X.own _ _ _ hXF (by assumption) (Nat.le_trans X.KQ (by decide)) (fun i hi=>AF.Lz hi)) (fun v11 B hv=>?_)
 obtain⟨y12,rfl,y13,rfl⟩:=hv
 refine Bf rfl ⟨?_,?_⟩
 · exact(Pk (Pk (Pk (Pk (Pk (Pk (Pk (Pk Ar))))))))
 refine Pf 10 rfl (A2 rfl) ?_
 refine A1 (by kernel_rfl) ?_
 refine AB (.t4 0 3 4 6) ?_
 refine AA ?_
 refine Bc (.t (.t (.t .h))) ?_
 refine Bc (.t .h) ?_
 refine Qi (Lm:= [_,_]) (fun(Z:AF) (m:Hd)=>Z=X.RJ o∧m.len=Z.out.length) (fun(Z:AF) (m:Hd)=> []) (fun(Z:AF) (m:Hd)=> [Ad.box b 163 (Ae.enc ⟨Z.w,Z.b,m⟩),Ad.own m 56 16 (Z.out.flatMap Ing.Event.enc)]) (.t4 0 3 4 6) rfl ?_ (fun Z m hC=>?_)
 ·
  refine Gs (Gm rfl (Gt (Av rfl Tryz.underlying169 rfl) (Gt (Ak rfl rfl) (Gn (.t5 0 3 4 6 44) ?_))))
  refine Gc (fun c4=>?_) (fun c4=>?_)
  ·
   have c4p:=kz c4
   rw [y13] at c4
   refine AJ (Gm rfl ?_)
   refine Ah rfl EJ (.c rfl (.c rfl .n)) (.c .h (.c .h .n)) (Bh _ X _ _ (by assumption) (by rw [hXw.2];exact hb) (by omega)) (fun v15 B hv=>?_)
   obtain⟨y16,rfl,y17,rfl⟩:=hv
   refine AQ (AB (.t4 0 3 4 6) ?_)
   refine Ej _ _ ?_ (.t4 0 3 4 6) (.refl _)
   · exact⟨(AF.Zz (T:=X) (o:=o) c4).symm,by assumption⟩
  rw [y13] at c4
  refine Aa ?_
  refine AB (.t4 0 3 4 6) ?_
  refine Ej _ _ ?_ (.t4 0 3 4 6) (.refl _)
  · exact⟨(AF.aM (T:=X) (o:=o) c4).symm,by exact hD4⟩
 obtain⟨hE1,hE2⟩:=hC
 refine Gs (Gm rfl (Gt (Av rfl Tryz.underlying169 rfl) (Gm rfl (Gn (.t6 0 3 4 47 48 49) (Ag ?_)))))
 refine Bo (.t6 49 0 3 4 47 48) ?_
 refine Bc (.t .h) ?_
 refine Bc (.t .h) ?_
 refine D2 (fun(k:Int) (V:AF) (f:Hd)=>0≤k∧V=X.Qu to o k.toNat∧k≤((AF.BQ X.w X.own o.nth o.name o.Bm).length:Int)∧f.len=V.out.length) (fun(k:Int) (V:AF) (f:Hd)=>(((AF.BQ X.w X.own o.nth o.name o.Bm).length:Int) - k).toNat) (fun(k:Int) (V:AF) (f:Hd)=> [(49, .int .i64 k)]) (fun(k:Int) (V:AF) (f:Hd)=> [Ad.box b 163 (Ae.enc ⟨V.w,V.b,f⟩),Ad.own f 56 16 (V.out.flatMap Ing.Event.enc)]) (0) (_) (_) ?_ rfl rfl (fun k V f hI1=>?_)
 · exact⟨by omega,hE1,by omega,hE2⟩
 obtain⟨hI11,hI12,hI13,hI14⟩:=hI1
 refine Gs (Gt (BA rfl rfl) (AQ (AA (Aq ?_))))
 refine Gc (fun c5=>?_) (fun c5=>?_)
 ·
  have c5p:=kz c5
  have hx:0≤((AF.BQ X.w X.own o.nth o.name o.Bm).getD k.toNat 0)∧((AF.BQ X.w X.own o.nth o.name o.Bm).getD k.toNat 0) < 9:=AF.Lz (AF.D0 (Bi.E3 (xs:=(AF.BQ X.w X.own o.nth o.name o.Bm)) (i:=k.toNat) (by omega)))
  have hVK:=AF.XE X to o k.toNat
  rw [← hI12] at hVK
  have hVb:=hVK.2
  have hVo:=hVK.1
  have hbV:0≤V.b∧V.b < 6:=by rw [hVb,hXw.2];exact hb
  refine Aa ?_
  refine AB (.t6 0 3 4 47 48 49) ?_
  refine AA (Aq (Ag (Gs ?_)))
  refine Gt (Bs G2 (by decide) (Kn.own .m3) rfl rfl (by omega) (by omega)) ?_
  refine Gt (DI rfl A5 (Kn.own .m3) (by omega)) ?_
  refine Ga rfl (Gn (.t7 0 3 4 8 47 48 49) (Gs (Gm rfl (Gm rfl (Gt (BV rfl) (Gt (Aj BC rfl) (Gt (Aj Cx rfl) ?_)))))))
  refine Gt (AN GW rfl rfl (by first | omega | exact hbV.1 | exact hbV.2 | (dsimp only;omega)) (by first | omega | exact hbV.1 | exact hbV.2 | (dsimp only;omega))) ?_
  refine Ga rfl (Gn (.t8 0 3 4 8 9 47 48 49) (Ag (Gs (Gm rfl (Gt (BV rfl) (Gt (Aj G9 rfl) ?_))))))
  refine Gt (AG rfl A5 .m0 (((Ae.l0.comp AI.l1).comp (AS.ar (n:=9) Ao.fl (by first | omega | exact hbV | (dsimp only;omega)))).comp Ao.l1) rfl rfl) ?_
  refine Gt (Ak rfl rfl) (Gm rfl (Bb 87 rfl rfl (fun q=>AD rfl) (Bb 87 rfl rfl (fun q=>BV (BX rfl q)) (Bb 87 rfl rfl (fun q=>Aj GP (BX rfl q)) ?_))))
  refine Bb 87 rfl rfl (fun q=>by have q1:=q;(try simp at q1);exact AG (BX rfl q) DO .m0 (((Ae.l0.comp AI.l1).comp (AS.ar (n:=9) Ao.fl (by first | omega | exact hbV | (dsimp only;omega)))).comp Ao.l4) rfl rfl) ?_
  refine Gt (BI rfl rfl (fun h=>h)) (Ga rfl (Gn (.t9 0 3 4 8 9 47 48 49 81) ?_))
  refine Gc (fun c6=>?_) (fun c6=>?_)
  ·
   have c6p:=kz c6
   refine AJ (Gm rfl ?_)
   refine Ah rfl EJ (.c rfl (.c rfl .n)) (.c .h (.c .h .n)) (Bh _ V _ _ (by assumption) hbV (by omega)) (fun v18 B hv=>?_)
   obtain⟨y19,rfl,y20,rfl⟩:=hv
   refine AQ (AB (.t6 0 3 4 47 48 49) ?_)
   refine AV (AV (AA (AJ ?_)))
   refine Gt (Ax rfl rfl (IntWalk.i64_in _ (by first | omega | exact hbV.1 | exact hbV.2 | (dsimp only;omega)))) ?_
   refine Gm rfl ?_
   refine AQ (AB (.t6 0 3 4 47 48 49) ?_)
   refine B3 (k+1) _ _ ?_ ?_ (.t6 49 0 3 4 47 48) (.refl _)
   · have hq:V.Cs o.verb to ((AF.BQ X.w X.own o.nth o.name o.Bm).getD k.toNat 0)=_:=(BF c6)
     (try rw [AF.EA hx.1 hx.2] at *)
     (try rw [AF.Dn hx.1 hx.2 hn0] at *)
     exact⟨by omega,(by(try rw [AF.EA hx.1 hx.2]);(try rw [AF.Dn hx.1 hx.2 hn0]);exact hq.symm.trans ((congrArg (fun q=>AF.Cs q o.verb to ((AF.BQ X.w X.own o.nth o.name o.Bm).getD k.toNat 0)) hI12).trans (AF.Ih hI11 (by show k < (((AF.BQ X.w X.own o.nth o.name o.Bm)).length:Int);omega)).symm)),by omega,by assumption⟩
   · omega
  have c6p:=kz c6
  refine Gs (Gt (Aj DG rfl) (Gt (AG rfl A5 .m4 Order.l0 rfl rfl) (Gt (Ak rfl rfl) (Ga rfl (Gn (.t9 0 3 4 8 9 47 48 49 95) ?_)))))
  refine Gc (fun c7=>?_) (fun c7=>?_)
  ·
   have c7p:=kz c7
   refine Aq ?_
   refine BE (N:=19) [0,0,0,0,8,24,56,4,132,388,1020,2044,4092,8189,16381,32765,65535,131071,262143] mix (by kernel_rfl) rfl ?_
   refine Pf 0 rfl (AD rfl) (Pf 1 rfl (AD rfl) (Pf 2 rfl (AD rfl) (Pf 3 rfl (AD rfl) (Pf 4 rfl (BV rfl) (Pf 5 rfl (Aj CV rfl) (Pf 6 rfl (AG rfl A5 .m0 Ae.l1 rfl rfl) (Pf 7 rfl (BV rfl) ?_)))))))
   refine Pf 8 rfl (Aj BC rfl) (Pf 9 rfl (Aj Br rfl) ?_)
   refine Pf 10 rfl (AN C8 rfl rfl (by first | omega | exact hbV.1 | exact hbV.2 | (dsimp only;omega)) (by first | omega | exact hbV.1 | exact hbV.2 | (dsimp only;omega))) ?_
   refine Pf 11 rfl (Aj C6 rfl) ?_
   refine Pf 12 rfl (AG rfl A5 .m0 (((Ae.l0.comp AI.l2).comp (AS.ar (n:=6) An.fl (by first | omega | exact hbV | (dsimp only;omega)))).comp An.l3) rfl rfl) ?_
   refine Pf 13 rfl (BV rfl) (Pf 14 rfl (Aj Fe rfl) ?_)
   refine Af 15 rfl (by kernel_rfl) ?_
   refine AU (AK (((Ae.l0.comp AI.l1).comp (AS.ar (n:=9) Ao.fl (by first | omega | exact hbV | (dsimp only;omega)))).comp Ao.l2) rfl rfl rfl DD rfl .h) ?_
   refine BN rfl ⟨?_,?_⟩
   · exact(Pk (Pk (Pk (Pk (Pk (Pk (Pk (Pk (Pk (Pk (Pk (Pk (Pk (Po rfl (AD rfl) rfl rfl (Pk Ar)))))))))))))))
   refine Pf 16 rfl (BV rfl) (Pf 17 rfl (Aj DN rfl) ?_)
   refine Af 18 rfl (by kernel_rfl) ?_
   refine AU (AK (((Ae.l0.comp AI.l1).comp (AS.ar (n:=9) Ao.fl (by first | omega | exact hbV | (dsimp only;omega)))).comp Ao.l3) rfl rfl rfl DD rfl .h) ?_
   refine BN rfl ⟨?_,?_⟩
   · exact(Pk (Pk (Pk (Pk (Pk (Pk (Pk (Pk (Pk (Pk (Pk (Pk (Pk (Pk (Pk (Pk (Pk Ar)))))))))))))))))
   refine A1 (by kernel_rfl) ?_
   refine AB (.t7 0 3 4 8 47 48 49) ?_
   refine AA ?_
   refine GK (fun _=> .h) (congrArg (fun q=>Ae.enc ⟨q,_,_⟩) (AF.Hs V hx.1 hx.2 0 (V.w.AO.at V.b).room)) ?_
   refine AJ (Gm rfl (Gm rfl ?_))
   refine Ah rfl OZ (.c rfl (.c rfl (.c rfl .n))) (.c .h (.c .h .n)) (D9 _ (V.place ((AF.BQ X.w X.own o.nth o.name o.Bm).getD k.toNat 0) 0 (V.w.AO.at V.b).room) _ 4 ((AF.BQ X.w X.own o.nth o.name o.Bm).getD k.toNat 0) (by assumption) hbV hx (show V.out.length≤100000 by omega)) (fun v21 B hv=>?_)
   obtain⟨y22,rfl,y23,rfl⟩:=hv
   refine AQ (AB (.t6 0 3 4 47 48 49) ?_)
   refine AV (AV (AA (AJ ?_)))
   refine Gt (Ax rfl rfl (IntWalk.i64_in _ (by first | omega | exact hbV.1 | exact hbV.2 | (dsimp only;omega)))) ?_
   refine Gm rfl ?_
   refine AQ (AB (.t6 0 3 4 47 48 49) ?_)
   refine B3 (k+1) _ _ ?_ ?_ (.t6 49 0 3 4 47 48) (.refl _)
   · have hq:V.Cs o.verb to ((AF.BQ X.w X.own o.nth o.name o.Bm).getD k.toNat 0)=_:=((AX c6).trans (BF c7))
     (try rw [AF.EA hx.1 hx.2] at *)
     (try rw [AF.Dn hx.1 hx.2 hn0] at *)
     exact⟨by omega,(by(try rw [AF.EA hx.1 hx.2]);(try rw [AF.Dn hx.1 hx.2 hn0]);exact hq.symm.trans ((congrArg (fun q=>AF.Cs q o.verb to ((AF.BQ X.w X.own o.nth o.name o.Bm).getD k.toNat 0)) hI12).trans (AF.Ih hI11 (by show k < (((AF.BQ X.w X.own o.nth o.name o.Bm)).length:Int);omega)).symm)),by omega,by assumption⟩
   · omega
  have c7p:=kz c7
  refine Gs (Gt (Aj DG rfl) (Gt (AG rfl A5 .m4 Order.l0 rfl rfl) (Gt (Ak rfl rfl) (Ga rfl (Gn (.t9 0 3 4 8 9 47 48 49 119) ?_)))))
  refine Gc (fun c8=>?_) (fun c8=>?_)
  ·
   have c8p:=kz c8
   refine Gs (Gm rfl (Gm rfl (Gm rfl (Gt (BV rfl) (Gt (Aj Fe rfl) ?_)))))
   refine AU (AK (((Ae.l0.comp AI.l1).comp (AS.ar (n:=9) Ao.fl (by first | omega | exact hbV | (dsimp only;omega)))).comp Ao.l2) rfl rfl rfl DD rfl .h) ?_
   refine Gt (BV rfl) (Gt (Aj DN rfl) ?_)
   refine AU (AK (((Ae.l0.comp AI.l1).comp (AS.ar (n:=9) Ao.fl (by first | omega | exact hbV | (dsimp only;omega)))).comp Ao.l3) rfl rfl rfl DD rfl .h) ?_
   refine Gn (.t7 0 3 4 9 47 48 49) ?_
   refine GK (fun _=> .h) (congrArg (fun q=>Ae.enc ⟨q,_,_⟩) (AF.Hs V hx.1 hx.2 1 to)) ?_
   refine AJ (Gm rfl (Gm rfl (Gm rfl (Gt (BV rfl) (Gt (Aj Mn rfl) ?_)))))
   refine Gt (AG rfl CM .m0 (((Ae.l0.comp AI.l1).comp (AS.ar (n:=9) Ao.fl (by first | omega | exact hbV | (dsimp only;omega)))).comp Ao.l0) rfl rfl) ?_
   refine Gt (BH N9 JA rfl (.cons Ing.Event.l0 rfl rfl rfl (.cons Ing.Event.l3 rfl rfl rfl (.cons Ing.Event.l8 rfl rfl rfl .nil)))) ?_
   refine Ah rfl O4 (.c rfl (.c rfl .n)) (.c .h (.c .h .n)) (CU _ (V.place ((AF.BQ X.w X.own o.nth o.name o.Bm).getD k.toNat 0) 1 to) _ { AF.Fw 6 with other:=to,Bw:=((V.place ((AF.BQ X.w X.own o.nth o.name o.Bm).getD k.toNat 0) 1 to).w.AP.at ((AF.BQ X.w X.own o.nth o.name o.Bm).getD k.toNat 0)).name } (by assumption) hbV (show to < 6 from(hok hv).ef (by omega)) (show V.out.length≤100000 by omega)) (fun v24 B hv=>?_)
   obtain⟨y25,rfl,y26,rfl⟩:=hv
   refine AQ (AB (.t6 0 3 4 47 48 49) ?_)
   refine AV (AV (AA (AJ ?_)))
   refine Gt (Ax rfl rfl (IntWalk.i64_in _ (by first | omega | exact hbV.1 | exact hbV.2 | (dsimp only;omega)))) ?_
   refine Gm rfl ?_
   refine AQ (AB (.t6 0 3 4 47 48 49) ?_)
   refine B3 (k+1) _ _ ?_ ?_ (.t6 49 0 3 4 47 48) (.refl _)
   · have hq:V.Cs o.verb to ((AF.BQ X.w X.own o.nth o.name o.Bm).getD k.toNat 0)=_:=((AX c6).trans ((AX c7).trans (BF c8)))
     (try rw [AF.EA hx.1 hx.2] at *)
     (try rw [AF.Dn hx.1 hx.2 hn0] at *)
     exact⟨by omega,(by(try rw [AF.EA hx.1 hx.2]);(try rw [AF.Dn hx.1 hx.2 hn0]);exact hq.symm.trans ((congrArg (fun q=>AF.Cs q o.verb to ((AF.BQ X.w X.own o.nth o.name o.Bm).getD k.toNat 0)) hI12).trans (AF.Ih hI11 (by show k < (((AF.BQ X.w X.own o.nth o.name o.Bm)).length:Int);omega)).symm)),by omega,by assumption⟩
   · omega
  have c8p:=kz c8
  refine Gs (Gm rfl (Gt (BV rfl) (Gt (Aj BC rfl) (Gt (AY rfl Ba .m0 Ae.l0 rfl) (Gm rfl (Gm rfl ?_))))))
  refine BD rfl bl (.c rfl (.c rfl (.c rfl .n))) (fun w hS=>MO _ _ _ w) ?_
  refine Ga rfl (Gn (.t8 0 3 4 9 47 48 49 138) ?_)
  refine Gc (fun c9=>?_) (fun c9=>?_)
  ·
   have c9p:=kz c9
   refine AJ (Gm rfl ?_)
   refine Ah rfl EJ (.c rfl (.c rfl .n)) (.c .h (.c .h .n)) (Bh _ V _ _ (by assumption) hbV (by omega)) (fun v27 B hv=>?_)
   obtain⟨y28,rfl,y29,rfl⟩:=hv
   refine AQ (AB (.t6 0 3 4 47 48 49) ?_)
   refine AV (AV (AA (AJ ?_)))
   refine Gt (Ax rfl rfl (IntWalk.i64_in _ (by first | omega | exact hbV.1 | exact hbV.2 | (dsimp only;omega)))) ?_
   refine Gm rfl ?_
   refine AQ (AB (.t6 0 3 4 47 48 49) ?_)
   refine B3 (k+1) _ _ ?_ ?_ (.t6 49 0 3 4 47 48) (.refl _)
   · have hq:V.Cs o.verb to ((AF.BQ X.w X.own o.nth o.name o.Bm).getD k.toNat 0)=_:=((AX c6).trans ((AX c7).trans ((AX c8).trans (BF c9))))
     (try rw [AF.EA hx.1 hx.2] at *)
     (try rw [AF.Dn hx.1 hx.2 hn0] at *)
     exact⟨by omega,(by(try rw [AF.EA hx.1 hx.2]);(try rw [AF.Dn hx.1 hx.2 hn0]);exact hq.symm.trans ((congrArg (fun q=>AF.Cs q o.verb to ((AF.BQ X.w X.own o.nth o.name o.Bm).getD k.toNat 0)) hI12).trans (AF.Ih hI11 (by show k < (((AF.BQ X.w X.own o.nth o.name o.Bm)).length:Int);omega)).symm)),by omega,by assumption⟩
   · omega
  have c9p:=kz c9
  refine Gs (Gm rfl (Gm rfl (Gm rfl (Gt (BV rfl) (Gt (Aj Fe rfl) ?_)))))
  refine AU (AK (((Ae.l0.comp AI.l1).comp (AS.ar (n:=9) Ao.fl (by first | omega | exact hbV | (dsimp only;omega)))).comp Ao.l2) rfl rfl rfl DD rfl .h) ?_
  refine Gt (BV rfl) (Gt (Aj DN rfl) ?_)
  refine AU (AK (((Ae.l0.comp AI.l1).comp (AS.ar (n:=9) Ao.fl (by first | omega | exact hbV | (dsimp only;omega)))).comp Ao.l3) rfl rfl rfl DD rfl .h) ?_
  refine Gn (.t7 0 3 4 9 47 48 49) ?_
  refine GK (fun _=> .h) (congrArg (fun q=>Ae.enc ⟨q,_,_⟩) (AF.Hs V hx.1 hx.2 2 to)) ?_
  refine BE (N:=15) [0,0,2,6,14,0,0,32,160,416,992,2016,4064,8190,16383] mix (by kernel_rfl) rfl ?_
  refine Pf 0 rfl (AD rfl) (Pf 1 rfl (AD rfl) (Pf 2 rfl (BV rfl) (Pf 3 rfl (Aj Mn rfl) ?_)))
  refine Pf 4 rfl (AG rfl CM .m0 (((Ae.l0.comp AI.l1).comp (AS.ar (n:=9) Ao.fl (by first | omega | exact hbV | (dsimp only;omega)))).comp Ao.l0) rfl rfl) ?_
  refine Pf 5 rfl (AD rfl) (Pf 6 rfl (AD rfl) (Pf 7 rfl (BV rfl) (Pf 8 rfl (Aj BC rfl) (Pf 9 rfl (Aj Cx rfl) ?_))))
  refine Pf 10 rfl (AN GW rfl rfl (by first | omega | exact hbV.1 | exact hbV.2 | (dsimp only;omega)) (by first | omega | exact hbV.1 | exact hbV.2 | (dsimp only;omega))) ?_
  refine Pf 11 rfl (Aj Mn rfl) ?_
  refine Pf 12 rfl (AG rfl CM .m0 (((Ae.l0.comp AI.l1).comp (AS.ar (n:=9) Ao.fl (by first | omega | exact hbV | (dsimp only;omega)))).comp Ao.l0) rfl rfl) ?_
  refine Pf 13 rfl (BH N9 JA rfl (.cons Ing.Event.l0 rfl rfl rfl (.cons Ing.Event.l3 rfl rfl rfl (.cons Ing.Event.l8 rfl rfl rfl (.cons Ing.Event.l9 rfl rfl rfl .nil))))) ?_
  refine Af 14 rfl (by kernel_rfl) ?_
  refine Ah rfl O4 (.c rfl (.c rfl .n)) (.c .h (.c .h .n)) (CU _ (V.place ((AF.BQ X.w X.own o.nth o.name o.Bm).getD k.toNat 0) 2 to) _ { AF.Fw 5 with Bw:=((V.place ((AF.BQ X.w X.own o.nth o.name o.Bm).getD k.toNat 0) 2 to).w.AP.at ((AF.BQ X.w X.own o.nth o.name o.Bm).getD k.toNat 0)).name,text:=((V.place ((AF.BQ X.w X.own o.nth o.name o.Bm).getD k.toNat 0) 2 to).w.AP.at to).name } (by assumption) hbV (show(-1:Int) < 6 by decide) (show V.out.length≤100000 by omega)) (fun v30 B hv=>?_)
  obtain⟨y31,rfl,y32,rfl⟩:=hv
  refine Bf rfl ⟨?_,?_⟩
  · exact(Pk (Pk (Pk (Pk (Pk (Pk (Pk (Pk (Pk (Pk (Pk (Pk (Pk (Pk Ar))))))))))))))
  refine A1 (by kernel_rfl) ?_
  refine AB (.t6 0 3 4 47 48 49) ?_
  refine AV (AV (AA (AJ ?_)))
  refine Gt (Ax rfl rfl (IntWalk.i64_in _ (by first | omega | exact hbV.1 | exact hbV.2 | (dsimp only;omega)))) ?_
  refine Gm rfl ?_
  refine AQ (AB (.t6 0 3 4 47 48 49) ?_)
  refine B3 (k+1) _ _ ?_ ?_ (.t6 49 0 3 4 47 48) (.refl _)
  · have hq:V.Cs o.verb to ((AF.BQ X.w X.own o.nth o.name o.Bm).getD k.toNat 0)=_:=((AX c6).trans ((AX c7).trans ((AX c8).trans (AX c9))))
    (try rw [AF.EA hx.1 hx.2] at *)
    (try rw [AF.Dn hx.1 hx.2 hn0] at *)
    exact⟨by omega,(by(try rw [AF.EA hx.1 hx.2]);(try rw [AF.Dn hx.1 hx.2 hn0]);exact hq.symm.trans ((congrArg (fun q=>AF.Cs q o.verb to ((AF.BQ X.w X.own o.nth o.name o.Bm).getD k.toNat 0)) hI12).trans (AF.Ih hI11 (by show k < (((AF.BQ X.w X.own o.nth o.name o.Bm)).length:Int);omega)).symm)),by omega,by assumption⟩
  · omega
 have c5p:=kz c5
 obtain rfl:k=((AF.BQ X.w X.own o.nth o.name o.Bm).length:Int):=by omega
 refine Be (AW (AW (Ai ?_)))
 refine Bn rfl .n ?_
 intro w1 hS
 have hS:=(hS.perm (Ay.perm (.c .h (.c .h .n)))).A4
 have hq:T.FP o=V:=hgo.trans (hI12.trans AF.Wz).symm
 refine⟨_,⟨?gq2,rfl,?hl2,?hB2⟩,hS⟩
 case hB2=>rw [hq];(try rfl)
 case hl2=>rw [hq];exact hI14
theorem Jz (s:Au)(w:World)(gl0:GV 0 AI.DP w):En Tryz.prog 138 #[BT s] w fun v w'=>v = .tuple #[.int .i64 (Words.dir s).1, .bool (Words.dir s).2]∧B9 w w':=by
 refine Am [] [] Tryz.func138 rfl rfl rfl (St.start w []) ?_
 refine Gs (Ga rfl (Ga rfl (Gn (.t1 0) (CD (Gm rfl (AQ (AA ?_)))))))
 refine Ag ?_
 refine Bo (.t2 5 0) ?_
 refine CT (fun(k:Int)=>0≤k∧k≤6∧Words.OS s 6=Words.OS s (6 - k).toNat) (fun(k:Int)=>(6 - k).toNat) (fun(k:Int)=> [(5, .int .i64 k)]) (fun(k:Int)=> []) (0) ?_ rfl rfl (fun k hI1=>?_)
 · exact⟨by omega,by omega,rfl⟩
 obtain⟨hI11,hI12,hI13⟩:=hI1
 refine Gs (Gt (BA rfl rfl) (AQ (AA (Aq ?_))))
 refine Gc (fun c1=>?_) (fun c1=>?_)
 ·
  have c1p:=kz c1
  rw [Words.VH hI11 (by omega)] at hI13
  refine Aa ?_
  refine AB (.t2 0 5) ?_
  refine AA (Aq (Ag (Gs (Gm rfl (Ga rfl (Gn (.t3 0 4 5) (Gs ?_)))))))
  refine Gm rfl ?_
  refine Gt (AN Xo rfl rfl (by omega) (by omega)) ?_
  refine Gt (RN gl0 rfl CM (AI.O3 (by omega) (by omega))) ?_
  refine Gm rfl (Gt (Bu rfl rfl) (Gn (.t4 0 4 5 12) ?_))
  refine Gc (fun c2=>?_) (fun c2=>?_)
  ·
   refine Gs (Gm rfl (Ga rfl (Ga rfl (Gn (.t2 2 3) (Ac (AT (AE ?_)))))))
   refine AE (AT (AE ?_))
   refine AZ rfl (.tmp rfl (.tmp rfl .n)) ?_
   intro w1 hS;refine⟨?_,hS.Al⟩;rw [Words.dir,hI13,BF c2];rfl
  have c2p:=kz c2
  refine Aa ?_
  refine AB (.t2 0 5) ?_
  refine AV (AA (AJ ?_))
  refine Gt (Ax rfl rfl (IntWalk.i64_in _ (by omega))) ?_
  refine Gm rfl ?_
  refine AQ (AB (.t2 0 5) ?_)
  refine Bz (k+1) ?_ ?_ (.t2 5 0) (.refl _)
  · exact⟨by omega,by omega,by rw [hI13,AX c2]⟩
  · omega
 have c1p:=kz c1
 obtain rfl:k=6:=by omega
 refine Be (AW (AW (Ai ?_)))
 refine AB (.nil _) ?_
 refine AA (Gs (Ga rfl (Ga rfl (AQ (AA (Ac ?_))))))
 refine AZ rfl (.tmp rfl (.tmp rfl .n)) ?_
 intro w1 hS;refine⟨?_,hS.Al⟩;rw [Words.dir,hI13];rfl
theorem RG (b:Nat)(T:AF)(g:Hd)(d:Int)(p:Bool)(k:Int)(hg:g.len=T.out.length)(hF:T.Fit)(hd:0≤d∧d < 6)(hn:T.out.length≤90000):Jk Tryz.prog 139 #[.pointer (some ⟨b,0,none⟩), .int .i64 d, .bool p, .int .i64 k] [Ad.box b 163 (Ae.enc ⟨T.w,T.b,g⟩),Ad.own g 56 16 (T.out.flatMap Ing.Event.enc)] (fun v B=>∃ g':Hd,v = .tuple #[]∧g'.len=(T.HB d p k).out.length∧B = [Ad.box b 163 (Ae.enc ⟨(T.HB d p k).w,(T.HB d p k).b,g'⟩),Ad.own g' 56 16 ((T.HB d p k).out.flatMap Ing.Event.enc)]):=by
 intro w hS0
 have hb:=hF.b
 have hr:=hF.room
 have hx:=hF.exit hd.1 hd.2
 have hop:=AI.MD d
 refine Am _ _ Tryz.func139 rfl rfl rfl (hS0) ?_
 refine Aq ?_
 refine BE (N:=12) [0,0,2,6,14,1,33,97,255,511,1023,2047] mix (by kernel_rfl) rfl ?_
 refine Pf 0 rfl (AD rfl) (Pf 1 rfl (AD rfl) (Pf 2 rfl (BV rfl) (Pf 3 rfl (Aj CV rfl) (Pf 4 rfl (AG rfl A5 .m0 Ae.l1 rfl rfl) (Pf 5 rfl (BV rfl) (Pf 6 rfl (Aj BC rfl) (Pf 7 rfl (Aj Br rfl) ?_)))))))
 refine Pf 8 rfl (AN C8 rfl rfl (by first | omega | exact hb.1 | exact hb.2 | exact hr.1 | exact hr.2 | (dsimp only;omega)) (by first | omega | exact hb.1 | exact hb.2 | exact hr.1 | exact hr.2 | (dsimp only;omega))) ?_
 refine Pf 9 rfl (Aj C6 rfl) ?_
 refine Pf 10 rfl (AG rfl A5 .m0 (((Ae.l0.comp AI.l2).comp (AS.ar (n:=6) An.fl (by first | omega | exact hb | exact hr | (dsimp only;omega)))).comp An.l3) rfl rfl) ?_
 refine Pf 11 rfl (A2 rfl) ?_
 refine A1 (by kernel_rfl) ?_
 refine AB (.t5 0 1 2 3 8) ?_
 refine AA (Gs (Gm rfl (Gm rfl (Gm rfl (Gt (BV rfl) (Gt (Aj BC rfl) (Gt (Aj G7 rfl) ?_)))))))
 refine Gt (AN Nw rfl rfl (by first | omega | exact hb.1 | exact hb.2 | exact hr.1 | exact hr.2 | (dsimp only;omega)) (by first | omega | exact hb.1 | exact hb.2 | exact hr.1 | exact hr.2 | (dsimp only;omega))) ?_
 refine Gt (Aj MZ rfl) ?_
 refine Gt (AN Rh rfl rfl (by first | omega | exact hb.1 | exact hb.2 | exact hr.1 | exact hr.2 | (dsimp only;omega)) (by first | omega | exact hb.1 | exact hb.2 | exact hr.1 | exact hr.2 | (dsimp only;omega))) ?_
 refine Gt (AG rfl A5 .m0 ((((Ae.l0.comp AI.l0).comp (AS.ar (n:=6) Room.fl (by first | omega | exact hb | exact hr | (dsimp only;omega)))).comp Room.l2).comp (AS.ar (n:=6) B1 (by first | omega | exact hb | exact hr | (dsimp only;omega)))) rfl rfl) ?_
 refine Gt (FX rfl rfl (IntWalk.i64_in _ (by first | omega | exact hb.1 | exact hb.2 | exact hr.1 | exact hr.2 | (dsimp only;omega)))) ?_
 refine Ga rfl (Gn (.t6 0 1 2 3 8 9) (Ag (Gs (Gm rfl (Gt (BA rfl rfl) (Ga rfl (Gn (.t7 0 1 2 3 8 9 74) ?_)))))))
 refine Gc (fun c1=>?_) (fun c1=>?_)
 ·
  have c1p:=kz c1
  try dsimp only at c1p
  refine AJ (Gm rfl ?_)
  refine Ah rfl EJ (.c rfl (.c rfl .n)) (.c .h (.c .h .n)) (Bh _ _ _ _ hg hb (by omega)) (fun v1 B hv=>?_)
  obtain⟨y2,rfl,y3,rfl⟩:=hv
  refine AQ (AB (.nil _) ?_)
  refine AV ?_
  refine Bn rfl .n ?_
  intro w1 hS
  have hS:=(hS.perm (Ay.perm (.c .h (.c .h .n)))).A4
  have hq:T.HB d p k=_:=(BF c1)
  refine⟨_,⟨?gq1,rfl,?hl1,?hB1⟩,hS⟩
  case hB1=>rw [hq];(try rfl)
  case hl1=>rw [hq];assumption
 have c1p:=kz c1
 try dsimp only at c1p
 refine Gs (Gm rfl (Gm rfl (Gm rfl (Gt (BV rfl) (Gt (Aj BC rfl) (Gt (Aj G7 rfl) ?_))))))
 refine Gt (AN Nw rfl rfl (by first | omega | exact hb.1 | exact hb.2 | exact hr.1 | exact hr.2 | (dsimp only;omega)) (by first | omega | exact hb.1 | exact hb.2 | exact hr.1 | exact hr.2 | (dsimp only;omega))) ?_
 refine Gt (Aj MR rfl) ?_
 refine Gt (AN Vg rfl rfl (by first | omega | exact hb.1 | exact hb.2 | exact hr.1 | exact hr.2 | (dsimp only;omega)) (by first | omega | exact hb.1 | exact hb.2 | exact hr.1 | exact hr.2 | (dsimp only;omega))) ?_
 refine Gt (AG rfl DO .m0 ((((Ae.l0.comp AI.l0).comp (AS.ar (n:=6) Room.fl (by first | omega | exact hb | exact hr | (dsimp only;omega)))).comp Room.l3).comp (AS.ar (n:=6) HT (by first | omega | exact hb | exact hr | (dsimp only;omega)))) rfl rfl) ?_
 refine Gm rfl (Gt (Jq Tryz.underlying4 rfl rfl) (Ga rfl (Gn (.t7 0 1 2 3 8 9 79) ?_)))
 refine Gc (fun c2=>?_) (fun c2=>?_)
 ·
  have c2p:=kz c2
  try dsimp only at c2p
  refine AJ (Gm rfl ?_)
  refine Ah rfl EJ (.c rfl (.c rfl .n)) (.c .h (.c .h .n)) (Bh _ _ _ _ hg hb (by omega)) (fun v4 B hv=>?_)
  obtain⟨y5,rfl,y6,rfl⟩:=hv
  refine AQ (AB (.nil _) ?_)
  refine AV ?_
  refine Bn rfl .n ?_
  intro w1 hS
  have hS:=(hS.perm (Ay.perm (.c .h (.c .h .n)))).A4
  have hq:T.HB d p k=_:=((AX c1).trans (BF c2))
  refine⟨_,⟨?gq2,rfl,?hl2,?hB2⟩,hS⟩
  case hB2=>rw [hq];(try rfl)
  case hl2=>rw [hq];assumption
 have c2p:=kz c2
 try dsimp only at c2p
 refine Gs (Gm rfl (Gm rfl (Gm rfl (Gm rfl (Gt (BR rfl) (Gt (BV rfl) (Gt (Aj BC rfl) ?_)))))))
 refine Gt (Aj G7 rfl) ?_
 refine Gt (AN Nw rfl rfl (by first | omega | exact hb.1 | exact hb.2 | exact hr.1 | exact hr.2 | (dsimp only;omega)) (by first | omega | exact hb.1 | exact hb.2 | exact hr.1 | exact hr.2 | (dsimp only;omega))) ?_
 refine Gt (Aj MR rfl) ?_
 refine Gt (AN Vg rfl rfl (by first | omega | exact hb.1 | exact hb.2 | exact hr.1 | exact hr.2 | (dsimp only;omega)) (by first | omega | exact hb.1 | exact hb.2 | exact hr.1 | exact hr.2 | (dsimp only;omega))) ?_
 refine AU (AK ((((Ae.l0.comp AI.l0).comp (AS.ar (n:=6) Room.fl (by first | omega | exact hb | exact hr | (dsimp only;omega)))).comp Room.l3).comp (AS.ar (n:=6) HT (by first | omega | exact hb | exact hr | (dsimp only;omega)))) rfl rfl rfl Km rfl .h) ?_
 refine Gn (.t6 0 1 2 3 8 9) (CD (Gm rfl ?_))
 refine BD rfl Zm (.c rfl .n) (fun w hS=>Ha _ w) ?_
 refine Ga rfl (Gn (.t6 0 2 3 8 9 10) (Gs (Gm rfl (Gm rfl (Gm rfl (Gt (BV rfl) (Gt (Aj BC rfl) ?_)))))))
 refine Gt (Aj G7 rfl) ?_
 refine Gt (AN Nw rfl rfl (by first | omega | exact hb.1 | exact hb.2 | exact hr.1 | exact hr.2 | (dsimp only;omega)) (by first | omega | exact hb.1 | exact hb.2 | exact hr.1 | exact hr.2 | (dsimp only;omega))) ?_
 refine Gt (Aj MZ rfl) ?_
 refine Gt (AN Rh rfl rfl (by first | omega | exact hb.1 | exact hb.2 | exact hr.1 | exact hr.2 | (dsimp only;omega)) (by first | omega | exact hb.1 | exact hb.2 | exact hr.1 | exact hr.2 | (dsimp only;omega))) ?_
 refine Gt (AG rfl A5 .m0 ((((Ae.l0.comp AI.l0).comp (AS.ar (n:=6) Room.fl (by first | omega | exact hb | exact hr | (dsimp only;omega)))).comp Room.l2).comp (AS.ar (n:=6) B1 (by first | omega | exact hb | exact hr | (dsimp only;omega)))) rfl rfl) ?_
 refine Gm rfl ?_
 refine Gt (Ax rfl rfl (IntWalk.i64_in _ (by first | omega | exact hb.1 | exact hb.2 | exact hr.1 | exact hr.2 | (dsimp only;omega)))) ?_
 refine Gt (Ak rfl rfl) (Gn (.t6 0 2 3 9 10 58) ?_)
 refine Gc (fun c3=>?_) (fun c3=>?_)
 ·
  have c3p:=kz c3
  try dsimp only at c3p
  refine AJ (Gm rfl (Gm rfl (Gm rfl (Gm rfl (Gt (BR rfl) (Gt (BV rfl) (Gt (Aj BC rfl) ?_)))))))
  refine Gt (Aj G7 rfl) ?_
  refine Gt (AN Nw rfl rfl (by first | omega | exact hb.1 | exact hb.2 | exact hr.1 | exact hr.2 | (dsimp only;omega)) (by first | omega | exact hb.1 | exact hb.2 | exact hr.1 | exact hr.2 | (dsimp only;omega))) ?_
  refine Gt (Aj MR rfl) ?_
  refine Gt (AN Vg rfl rfl (by first | omega | exact hb.1 | exact hb.2 | exact hr.1 | exact hr.2 | (dsimp only;omega)) (by first | omega | exact hb.1 | exact hb.2 | exact hr.1 | exact hr.2 | (dsimp only;omega))) ?_
  refine AU (AK ((((Ae.l0.comp AI.l0).comp (AS.ar (n:=6) Room.fl (by first | omega | exact hb | exact hr | (dsimp only;omega)))).comp Room.l3).comp (AS.ar (n:=6) HT (by first | omega | exact hb | exact hr | (dsimp only;omega)))) rfl rfl rfl Km rfl .h) ?_
  refine Gn (.t2 0 3) (AJ (Gm rfl (Gm rfl (Gt (BH N9 JA rfl (.cons Ing.Event.l0 rfl rfl rfl (.cons Ing.Event.l3 rfl rfl rfl (.cons Ing.Event.l8 rfl rfl rfl .nil)))) ?_))))
  refine Ah rfl O4 (.c rfl (.c rfl .n)) (.c .h (.c .h .n)) (CU _ (AF.C7 (T.C7 T.me.room d (!p)) ((T.w.BS.at (T.w.AO.at T.b).room).CR.at d - 1) (AI.opposite d) (!p)) _ { AF.Fw k with Bw:=AF.P4 } hg hb (show(-1:Int) < 6 by decide) (show T.out.length≤100000 by omega)) (fun v7 B hv=>?_)
  obtain⟨y8,rfl,y9,rfl⟩:=hv
  refine AQ (AB (.nil _) ?_)
  refine AV ?_
  refine Bn rfl .n ?_
  intro w1 hS
  have hS:=(hS.perm (Ay.perm (.c .h (.c .h .n)))).A4
  have hq:T.HB d p k=_:=(show T.HB d p k=_ from(AX c1).trans (AX c2)).trans (congrArg (fun q=>AF.BP q { AF.Fw k with Bw:=AF.P4 }) (BF c3))
  refine⟨_,⟨?gq3,rfl,?hl3,?hB3⟩,hS⟩
  case hB3=>rw [hq];(try rfl)
  case hl3=>rw [hq];assumption
 have c3p:=kz c3
 try dsimp only at c3p
 refine Aa ?_
 refine AB (.t2 0 3) ?_
 refine AA (AJ (Gm rfl (Gm rfl (Gt (BH N9 JA rfl (.cons Ing.Event.l0 rfl rfl rfl (.cons Ing.Event.l3 rfl rfl rfl (.cons Ing.Event.l8 rfl rfl rfl .nil)))) ?_))))
 refine Ah rfl O4 (.c rfl (.c rfl .n)) (.c .h (.c .h .n)) (CU _ (T.C7 T.me.room d (!p)) _ { AF.Fw k with Bw:=AF.P4 } hg hb (show(-1:Int) < 6 by decide) (show T.out.length≤100000 by omega)) (fun v10 B hv=>?_)
 obtain⟨y11,rfl,y12,rfl⟩:=hv
 refine AQ (AB (.nil _) ?_)
 refine AV ?_
 refine Bn rfl .n ?_
 intro w1 hS
 have hS:=(hS.perm (Ay.perm (.c .h (.c .h .n)))).A4
 have hq:T.HB d p k=_:=(show T.HB d p k=_ from(AX c1).trans (AX c2)).trans (congrArg (fun q=>AF.BP q { AF.Fw k with Bw:=AF.P4 }) (AX c3))
 refine⟨_,⟨?gq4,rfl,?hl4,?hB4⟩,hS⟩
 case hB4=>rw [hq];(try rfl)
 case hl4=>rw [hq];assumption
theorem Fz (b:Nat)(T:AF)(g:Hd)(a:Bool)(i:Int)(p:Bool)(k:Int)(hg:g.len=T.out.length)(hb:0≤T.b∧T.b < 6)(hi:0≤i∧i < 9)(hn:T.out.length≤90000):Jk Tryz.prog 140 #[.pointer (some ⟨b,0,none⟩), .bool a, .int .i64 i, .bool p, .int .i64 k] [Ad.box b 163 (Ae.enc ⟨T.w,T.b,g⟩),Ad.own g 56 16 (T.out.flatMap Ing.Event.enc)] (fun v B=>∃ g':Hd,v = .tuple #[]∧g'.len=(T.before a i p k).out.length∧B = [Ad.box b 163 (Ae.enc ⟨(T.before a i p k).w,(T.before a i p k).b,g'⟩),Ad.own g' 56 16 ((T.before a i p k).out.flatMap Ing.Event.enc)]):=by
 intro w hS0
 refine Am _ _ Tryz.func140 rfl rfl rfl (hS0) ?_
 refine CD (Gm rfl (Gn (.t5 0 2 3 4 10) ?_))
 refine Gc (fun c1=>?_) (fun c1=>?_)
 ·
  have c1p:=kz c1
  refine Gs (Gm rfl (Gm rfl (Gm rfl (Gt (BV rfl) (Gt (Aj BC rfl) (Gt (Aj Cx rfl) ?_))))))
  refine Gt (AN GW rfl rfl (by first | omega | exact hb.1 | exact hb.2 | (dsimp only;omega)) (by first | omega | exact hb.1 | exact hb.2 | (dsimp only;omega))) ?_
  refine Gt (Aj GP rfl) ?_
  refine AU (AK (((Ae.l0.comp AI.l1).comp (AS.ar (n:=9) Ao.fl (by first | omega | exact hb | (dsimp only;omega)))).comp Ao.l4) rfl rfl rfl Km rfl .h) ?_
  refine Gn (.t3 0 2 4) (Gs (Gm rfl (Gm rfl (Gm rfl ?_))))
  refine Ah rfl OZ (.c rfl (.c rfl (.c rfl .n))) (.c .h (.c .h .n)) (D9 _ (T.C9 i { T.w.AP.at i with on:=p }) _ k i hg hb hi (show T.out.length≤100000 by omega)) (fun v1 B hv=>?_)
  obtain⟨y2,rfl,y3,rfl⟩:=hv
  refine Gn (.nil _) (Ac (AE ?_))
  refine AZ rfl .n ?_
  intro w1 hS
  have hS:=(hS.perm (Ay.perm (.c .h (.c .h .n)))).A4
  have hq:T.before a i p k=_:=(BF c1)
  refine⟨_,⟨?gq1,rfl,?hl1,?hB1⟩,hS⟩
  case hB1=>rw [hq];(try rfl)
  case hl1=>rw [hq];assumption
 have c1p:=kz c1
 refine Aa ?_
 refine AB (.t4 0 2 3 4) ?_
 refine AA (Gs (Gm rfl (Gm rfl (Gm rfl ?_))))
 refine Ah rfl OZ (.c rfl (.c rfl (.c rfl .n))) (.c .h (.c .h .n)) (D9 _ T _ k i hg hb hi (show T.out.length≤100000 by omega)) (fun v4 B hv=>?_)
 obtain⟨y5,rfl,y6,rfl⟩:=hv
 refine Gn (.t3 0 2 3) (AJ (Gm rfl (Gm rfl (Gm rfl (Gt (BV rfl) (Gt (Aj BC rfl) (Gt (Aj Cx rfl) ?_)))))))
 refine Gt (AN GW rfl rfl (by first | omega | exact hb.1 | exact hb.2 | (dsimp only;omega)) (by first | omega | exact hb.1 | exact hb.2 | (dsimp only;omega))) ?_
 refine Gt (Aj GP rfl) ?_
 refine AU (AK (((Ae.l0.comp AI.l1).comp (AS.ar (n:=9) Ao.fl (by first | omega | exact hb | (dsimp only;omega)))).comp Ao.l4) rfl rfl rfl Km rfl .h) ?_
 refine AQ ?_
 refine Bn rfl .n ?_
 intro w1 hS
 have hS:=(hS.perm (Ay.perm (.c .h (.c .h .n)))).A4
 have hq:T.before a i p k=_:=(AX c1)
 refine⟨_,⟨?gq2,rfl,?hl2,?hB2⟩,hS⟩
 case hB2=>rw [hq];(try rfl)
 case hl2=>rw [hq];assumption
theorem R2 (b:Nat)(T:AF)(g:Hd)(o:Order)(hg:g.len=T.out.length)(hF:T.Fit)(hv:12≤o.verb∧o.verb≤17)(hn:T.out.length≤80000):Fa Tryz.prog 107 #[.pointer (some ⟨b,0,none⟩), .agg o.enc.toArray] [Ad.box b 163 (Ae.enc ⟨T.w,T.b,g⟩),Ad.own g 56 16 (T.out.flatMap Ing.Event.enc)] (fun w=>(GV 0 AI.DP w∧0 ∉ Cj [Ad.box b 163 (Ae.enc ⟨T.w,T.b,g⟩),Ad.own g 56 16 (T.out.flatMap Ing.Event.enc)])) (fun v B=>∃ g':Hd,v = .tuple #[]∧g'.len=(T.set o).out.length∧B = [Ad.box b 163 (Ae.enc ⟨(T.set o).w,(T.set o).b,g'⟩),Ad.own g' 56 16 ((T.set o).out.flatMap Ing.Event.enc)]):=by
 intro w hS0 hH
 obtain⟨gl0,gm0⟩:=hH
 have hb:=hF.b
 have hr:=hF.room
 have ho9:=T.KQ
 have hs9:=T.I2
 refine Am _ _ Tryz.func107 rfl rfl rfl (hS0) ?_
 refine Gs ?_
 refine B0 rfl rfl rfl (fun b1=>?_)
 refine Gn (.t2 0 3) (Gs (Gt (Aj DG rfl) (Gt (AG rfl A5 .m0 Order.l0 rfl rfl) (Gt (Ak rfl rfl) (Gm rfl (Bg 13 rfl rfl (fun q=>Aj DG rfl) (Bg 13 rfl rfl (fun q=>AG (cF rfl q) A5 .m0 Order.l0 rfl rfl) ?_)))))))
 refine Bg 13 rfl rfl (fun q=>Ak (cF rfl q) rfl) ?_
 refine Gt (BU rfl rfl (fun h=>by rw [h];rfl)) ?_
 refine Gm rfl (Bg 18 rfl rfl (fun q=>Aj DG rfl) (Bg 18 rfl rfl (fun q=>AG (cF rfl q) A5 .m0 Order.l0 rfl rfl) (Bg 18 rfl rfl (fun q=>Ak (cF rfl q) rfl) ?_)))
 refine Gt (BU rfl rfl (fun h=>by rw [h];rfl)) ?_
 refine Ga rfl (Gn (.t3 0 3 4) (Gs (Ga rfl (Ga rfl (AQ (AA ?_))))))
 refine Qi (Lm:= []) (fun(kd:Int) (ev:Int)=>kd=AF.setKind o.verb∧ev=AF.Nj o.verb) (fun(kd:Int) (ev:Int)=> [(5, .int .i64 kd),(6, .int .i64 ev)]) (fun(kd:Int) (ev:Int)=> []) (.t3 0 3 4) rfl ?_ (fun kd ev hC=>?_)
 ·
  refine Gs (Gt (Aj DG rfl) (Gt (AG rfl A5 .m0 Order.l0 rfl rfl) (Gn (.t6 0 3 4 5 6 24) (Ag (Gs (Gt (Ak rfl rfl) (Ga rfl ?_)))))))
  refine Gn (.t7 0 3 4 5 6 24 25) ?_
  refine Gc (fun c1=>?_) (fun c1=>?_)
  ·
   have c1p:=kz c1
   refine AJ (Ga rfl ?_)
   refine AQ (AB (.t5 0 3 4 5 6) ?_)
   refine AV ?_
   refine Ej _ _ ?_ (.t5 5 6 0 3 4) (.refl _)
   · have hv6:o.verb=12∨o.verb=13∨o.verb=14∨o.verb=15∨o.verb=16∨o.verb=17:=by omega
     rcases hv6 with e | e | e | e | e | e<;>(try rw [e] at c1)<;>first | exact⟨by rw [e];rfl,by rw [e];rfl⟩ | exact absurd c1 (by decide)
  have c1p:=kz c1
  refine CD (Gt (Ak rfl rfl) (Ga rfl (Gn (.t7 0 3 4 5 6 24 27) ?_)))
  refine Gc (fun c2=>?_) (fun c2=>?_)
  ·
   have c2p:=kz c2
   refine Aa (AA ?_)
   refine HF rfl c2 ?_
   refine Gs (Ga rfl (Ga rfl (Gn (.t5 0 3 4 5 6) (Gs (Gm rfl (Gt (BR rfl) (Gn (.t6 0 3 4 5 6 31) ?_)))))))
   refine Gc (fun c3=>?_) (fun c3=>?_)
   ·
    have c3p:=kz c3
    refine AJ (Ga rfl ?_)
    refine AQ (AB (.t5 0 3 4 5 6) ?_)
    refine AV ?_
    refine Ej _ _ ?_ (.t5 5 6 0 3 4) (.refl _)
    · have hv6:o.verb=12∨o.verb=13∨o.verb=14∨o.verb=15∨o.verb=16∨o.verb=17:=by omega
      rcases hv6 with e | e | e | e | e | e<;>(try rw [e] at c1)<;>(try rw [e] at c2)<;>(try rw [e] at c3)<;>first | exact⟨by rw [e];rfl,by rw [e];rfl⟩ | exact absurd c1 (by decide) | exact absurd c2 (by decide) | exact absurd c3 (by decide)
   have c3p:=kz c3
   refine Aa ?_
   refine AB (.t5 0 3 4 5 6) ?_
   refine AV ?_
   refine Ej _ _ ?_ (.t5 5 6 0 3 4) (.refl _)
   · have hv6:o.verb=12∨o.verb=13∨o.verb=14∨o.verb=15∨o.verb=16∨o.verb=17:=by omega
     rcases hv6 with e | e | e | e | e | e<;>(try rw [e] at c1)<;>(try rw [e] at c2)<;>(try rw [e] at c3)<;>first | exact⟨by rw [e];rfl,by rw [e];rfl⟩ | exact absurd c1 (by decide) | exact absurd c2 (by decide) | exact absurd c3 (by decide)
  have c2p:=kz c2
  refine AJ (Gt (Ak rfl rfl) (Ga rfl (Gn (.t7 0 3 4 5 6 24 27) ?_)))
  refine Gc (fun c4=>?_) (fun c4=>?_)
  ·
   have c4p:=kz c4
   refine Gs (Ga rfl (Ga rfl (Gn (.t5 0 3 4 5 6) (Gs (Gm rfl (Gt (BR rfl) (Gn (.t6 0 3 4 5 6 31) ?_)))))))
   refine Gc (fun c5=>?_) (fun c5=>?_)
   ·
    have c5p:=kz c5
    refine AJ (Ga rfl ?_)
    refine AQ (AB (.t5 0 3 4 5 6) ?_)
    refine AV ?_
    refine Ej _ _ ?_ (.t5 5 6 0 3 4) (.refl _)
    · have hv6:o.verb=12∨o.verb=13∨o.verb=14∨o.verb=15∨o.verb=16∨o.verb=17:=by omega
      rcases hv6 with e | e | e | e | e | e<;>(try rw [e] at c1)<;>(try rw [e] at c2)<;>(try rw [e] at c4)<;>(try rw [e] at c5)<;>first | exact⟨by rw [e];rfl,by rw [e];rfl⟩ | exact absurd c1 (by decide) | exact absurd c2 (by decide) | exact absurd c4 (by decide) | exact absurd c5 (by decide)
   have c5p:=kz c5
   refine Aa ?_
   refine AB (.t5 0 3 4 5 6) ?_
   refine AV ?_
   refine Ej _ _ ?_ (.t5 5 6 0 3 4) (.refl _)
   · have hv6:o.verb=12∨o.verb=13∨o.verb=14∨o.verb=15∨o.verb=16∨o.verb=17:=by omega
     rcases hv6 with e | e | e | e | e | e<;>(try rw [e] at c1)<;>(try rw [e] at c2)<;>(try rw [e] at c4)<;>(try rw [e] at c5)<;>first | exact⟨by rw [e];rfl,by rw [e];rfl⟩ | exact absurd c1 (by decide) | exact absurd c2 (by decide) | exact absurd c4 (by decide) | exact absurd c5 (by decide)
  have c4p:=kz c4
  refine CD (Gt (Ak rfl rfl) (Ga rfl (Gn (.t7 0 3 4 5 6 24 32) ?_)))
  refine Gc (fun c6=>?_) (fun c6=>?_)
  ·
   have c6p:=kz c6
   refine Aa ?_
   refine AB (.t6 0 3 4 5 6 32) ?_
   refine AA ?_
   refine HF rfl c6 ?_
   refine Gs (Ga rfl (Ga rfl (Gn (.t5 0 3 4 5 6) (Gs (Gm rfl (Gt (BR rfl) (Gn (.t6 0 3 4 5 6 36) ?_)))))))
   refine Gc (fun c7=>?_) (fun c7=>?_)
   ·
    have c7p:=kz c7
    refine AJ (Ga rfl ?_)
    refine AQ (AB (.t5 0 3 4 5 6) ?_)
    refine AV ?_
    refine Ej _ _ ?_ (.t5 5 6 0 3 4) (.refl _)
    · have hv6:o.verb=12∨o.verb=13∨o.verb=14∨o.verb=15∨o.verb=16∨o.verb=17:=by omega
      rcases hv6 with e | e | e | e | e | e<;>(try rw [e] at c1)<;>(try rw [e] at c2)<;>(try rw [e] at c4)<;>(try rw [e] at c6)<;>(try rw [e] at c7)<;>first | exact⟨by rw [e];rfl,by rw [e];rfl⟩ | exact absurd c1 (by decide) | exact absurd c2 (by decide) | exact absurd c4 (by decide) | exact absurd c6 (by decide) | exact absurd c7 (by decide)
   have c7p:=kz c7
   refine Aa ?_
   refine AB (.t5 0 3 4 5 6) ?_
   refine AV ?_
   refine Ej _ _ ?_ (.t5 5 6 0 3 4) (.refl _)
   · have hv6:o.verb=12∨o.verb=13∨o.verb=14∨o.verb=15∨o.verb=16∨o.verb=17:=by omega
     rcases hv6 with e | e | e | e | e | e<;>(try rw [e] at c1)<;>(try rw [e] at c2)<;>(try rw [e] at c4)<;>(try rw [e] at c6)<;>(try rw [e] at c7)<;>first | exact⟨by rw [e];rfl,by rw [e];rfl⟩ | exact absurd c1 (by decide) | exact absurd c2 (by decide) | exact absurd c4 (by decide) | exact absurd c6 (by decide) | exact absurd c7 (by decide)
  have c6p:=kz c6
  refine AJ (Gt (Ak rfl rfl) (Ga rfl (Gn (.t6 0 3 4 5 6 32) ?_)))
  refine Gc (fun c8=>?_) (fun c8=>?_)
  ·
   have c8p:=kz c8
   refine Gs (Ga rfl (Ga rfl (Gn (.t5 0 3 4 5 6) (Gs (Gm rfl (Gt (BR rfl) (Gn (.t6 0 3 4 5 6 36) ?_)))))))
   refine Gc (fun c9=>?_) (fun c9=>?_)
   ·
    have c9p:=kz c9
    refine AJ (Ga rfl ?_)
    refine AQ (AB (.t5 0 3 4 5 6) ?_)
    refine AV ?_
    refine Ej _ _ ?_ (.t5 5 6 0 3 4) (.refl _)
    · have hv6:o.verb=12∨o.verb=13∨o.verb=14∨o.verb=15∨o.verb=16∨o.verb=17:=by omega
      rcases hv6 with e | e | e | e | e | e<;>(try rw [e] at c1)<;>(try rw [e] at c2)<;>(try rw [e] at c4)<;>(try rw [e] at c6)<;>(try rw [e] at c8)<;>(try rw [e] at c9)<;>first | exact⟨by rw [e];rfl,by rw [e];rfl⟩ | exact absurd c1 (by decide) | exact absurd c2 (by decide) | exact absurd c4 (by decide) | exact absurd c6 (by decide) | exact absurd c8 (by decide) | exact absurd c9 (by decide)
   have c9p:=kz c9
   refine Aa ?_
   refine AB (.t5 0 3 4 5 6) ?_
   refine AV ?_
   refine Ej _ _ ?_ (.t5 5 6 0 3 4) (.refl _)
   · have hv6:o.verb=12∨o.verb=13∨o.verb=14∨o.verb=15∨o.verb=16∨o.verb=17:=by omega
     rcases hv6 with e | e | e | e | e | e<;>(try rw [e] at c1)<;>(try rw [e] at c2)<;>(try rw [e] at c4)<;>(try rw [e] at c6)<;>(try rw [e] at c8)<;>(try rw [e] at c9)<;>first | exact⟨by rw [e];rfl,by rw [e];rfl⟩ | exact absurd c1 (by decide) | exact absurd c2 (by decide) | exact absurd c4 (by decide) | exact absurd c6 (by decide) | exact absurd c8 (by decide) | exact absurd c9 (by decide)
  have c8p:=kz c8
  refine Aa ?_
  refine AB (.t5 0 3 4 5 6) ?_
  refine AV ?_
  refine Ej _ _ ?_ (.t5 5 6 0 3 4) (.refl _)
  · have hv6:o.verb=12∨o.verb=13∨o.verb=14∨o.verb=15∨o.verb=16∨o.verb=17:=by omega
    rcases hv6 with e | e | e | e | e | e<;>(try rw [e] at c1)<;>(try rw [e] at c2)<;>(try rw [e] at c4)<;>(try rw [e] at c6)<;>(try rw [e] at c8)<;>first | exact⟨by rw [e];rfl,by rw [e];rfl⟩ | exact absurd c1 (by decide) | exact absurd c2 (by decide) | exact absurd c4 (by decide) | exact absurd c6 (by decide) | exact absurd c8 (by decide)
 obtain⟨rfl,rfl⟩:=hC
 refine CD (Gt (Aj Fq rfl) (Gt (AG rfl CM .m0 Order.l3 rfl rfl) ?_))
 refine BD rfl cO (.c rfl .n) (fun w hS=>Jz _ w (gl0.stM gm0 hS)) ?_
 refine Gm rfl (Gt (AL rfl rfl) (Gt (AL rfl rfl) (Ga rfl (Ga rfl (Gn (.t7 0 3 4 5 6 7 8) (Gs (Gm rfl ?_)))))))
 refine Gm rfl (Bb 44 rfl rfl (fun q=>AD rfl) (Bb 44 rfl rfl (fun q=>Ak (BX rfl q) rfl) (Gt (BI rfl rfl (fun h=>h)) (Gn (.t7 0 3 4 5 6 7 47) ?_))))
 refine Gc (fun c10=>?_) (fun c10=>?_)
 ·
  have c10p:=kz c10
  refine Gs (Gm rfl (Gm rfl (Gm rfl (Gm rfl ?_))))
  refine Ah rfl cq (.c rfl (.c rfl (.c rfl (.c rfl .n)))) (.c (.t .h) (.c (.t .h) .n)) (RG _ T _ _ _ _ hg hF (Words.U3 (Bool.and_eq_true_iff.1 c10).1) (by omega)) (fun v1 B hv=>?_)
  obtain⟨y2,rfl,y3,rfl⟩:=hv
  refine Gn (.nil _) (Ac (AE ?_))
  refine AZ rfl .n ?_
  intro w1 hS
  have hS:=(hS.perm (Ay.perm (.c .h (.c .h .n)))).A4
  have hq:T.set o=_:=(BF c10)
  refine⟨_,⟨?gq1,rfl,?hl1,?hB1⟩,hS⟩
  case hB1=>rw [hq];(try rfl)
  case hl1=>rw [hq];assumption
 have c10p:=kz c10
 refine Aa ?_
 refine AB (.t5 0 3 4 5 6) ?_
 refine AA (Gs (Gm rfl ?_))
 refine Ah rfl Ur (.c rfl .n) (.c (.t .h) .n) (IH _ T _ hF) (fun v4 B hv=>?_)
 obtain⟨y5,rfl,y6,rfl⟩:=hv
 refine Ga rfl (Gn (.t6 0 3 4 5 6 9) (CD (Gm rfl (Gt (Ak rfl rfl) (Gn (.t7 0 3 4 5 6 9 56) ?_)))))
 refine Gc (fun c11=>?_) (fun c11=>?_)
 ·
  have c11p:=kz c11
  refine AJ (Gm rfl (Gm rfl ?_))
  refine Ah rfl X4 (.c rfl .n) (.c .h .n) (JS _ T _ hF) (fun v8 B hv=>?_)
  obtain⟨y9,rfl,y10,rfl⟩:=hv
  refine Ch B1 rfl Tryz.underlying169 DD ao rfl dE (by decide) (by decide) rfl rfl (fun w hS=>Src.D8 Tryz.underlying169 ((Kn.own .m1) w hS)) (by(try dsimp only);omega) (fun _=>(.t (.t .h))) (fun h12 h12l h12z=>?_)
  refine Ga rfl (Gn (.t6 0 3 4 5 6 9) (Gs (Gm rfl (Gm rfl (Gt (Aj GZ rfl) (Gt (AG rfl A5 .m3 Order.l1 rfl rfl) (Gt (Ly rfl rfl) ?_)))))))
  refine Gt (Aj Fq rfl) (Gt (AG rfl CM .m3 Order.l3 rfl rfl) ?_)
  refine Ah rfl QS (.c rfl (.c rfl (.c rfl (.c rfl (.c rfl .n))))) (.c .h (.c (.t .h) .n)) (E1 _ T _ _ (T.own++T.seen) _ _ _ hF (by rw [List.length_append];omega) (by rw [List.length_append];omega) (fun i hi=>AF.RX hi)) (fun v13 B hv=>?_)
  obtain⟨y14,rfl,y15,rfl⟩:=hv
  refine Ga rfl (Gn (.t5 0 4 5 6 9) (Ag (Aq ?_)))
  have hx0:=AF.Sk (l:=(AF.BQ T.w (T.own++T.seen) (max o.nth 1) o.name false)) (fun i hi=>AF.RX (AF.D0 hi))
  refine BE (N:=18) [0,1,3,7,15,15,47,111,31,287,799,2047,4095,8191,15,32767,65535,131071] mix (by kernel_rfl) rfl ?_
  refine Pf 0 rfl (AD rfl) (Pf 1 rfl (Av rfl Tryz.underlying169 rfl) (Pf 2 rfl (Ak rfl rfl) (Pf 3 rfl (AD rfl) (GB 4 82 rfl rfl rfl (fun q=>AD rfl) (GB 5 82 rfl rfl rfl (fun q=>AD rfl) ?_)))))
  refine Ab 6 rfl rfl (by kernel_rfl) (DE (t:=82) rfl rfl (fun q=>by have q1:=q;(try simp at q1);exact Cu (Bs G2 (by decide) (Kn.own .m2) (cF rfl q) rfl (by omega) (by first | omega | (simp at q ⊢;omega))))) ?_
  refine Ab 7 rfl rfl (by kernel_rfl) (DE (t:=82) rfl rfl (fun q=>by have q1:=q;(try simp at q1);exact Cu (DI (cF rfl q) A5 (Kn.own .m2) (by first | omega | (simp at q ⊢;omega))))) ?_
  refine GB 8 82 rfl rfl rfl (fun q=>BV (cF rfl q)) (GB 9 82 rfl rfl rfl (fun q=>Aj BC (cF rfl q)) (GB 10 82 rfl rfl rfl (fun q=>Aj Cx (cF rfl q)) ?_))
  refine Ab 11 rfl rfl (by kernel_rfl) (DE (t:=82) rfl rfl (fun q=>by have q1:=q;(try simp at q1);exact Cu (AN GW (cF rfl q) (cF rfl q) (by first | omega | exact hb.1 | exact hb.2 | exact hx0.1 | exact hx0.2 | (dsimp only;omega)) (by first | omega | exact hb.1 | exact hb.2 | exact hx0.1 | exact hx0.2 | (dsimp only;omega))))) ?_
  refine GB 12 82 rfl rfl rfl (fun q=>Aj G9 (cF rfl q)) ?_
  refine Ab 13 rfl rfl (by kernel_rfl) (DE (t:=82) rfl rfl (fun q=>by have q1:=q;(try simp at q1);exact Cu (AG (cF rfl q) A5 .m0 (((Ae.l0.comp AI.l1).comp (AS.ar (n:=9) Ao.fl (by first | omega | exact hb | exact hx0 | (dsimp only;omega)))).comp Ao.l1) rfl rfl))) ?_
  refine GB 14 82 rfl rfl rfl (fun q=>AD rfl) (GB 15 82 rfl rfl rfl (fun q=>CN (cF rfl q) (cF rfl q)) ?_)
  refine Pf 16 rfl (BU rfl rfl (fun h=>by rw [h];rfl)) ?_
  refine Pf 17 rfl (A2 rfl) ?_
  refine A1 (by kernel_rfl) ?_
  refine AB (.t6 0 4 5 6 9 78) ?_
  refine AA ?_
  refine Gc (fun c12=>?_) (fun c12=>?_)
  ·
   have c12p:=kz c12
   rw [y15] at c12 c12p
   have hsl:T.EY o=(AF.BQ T.w (T.own++T.seen) (max o.nth 1) o.name false):=congrArg (fun q=>AF.BQ T.w q _ _ _) (BF c11)
   refine AJ (Gm rfl ?_)
   refine Ah rfl EJ (.c rfl (.c rfl .n)) (.c .h (.c (.t (.t (.t (.t .h)))) .n)) (Bh _ _ _ _ hg hb (by omega)) (fun v17 B hv=>?_)
   obtain⟨y18,rfl,y19,rfl⟩:=hv
   refine AQ (AB (.nil _) ?_)
   refine AV ?_
   refine Bn rfl .n ?_
   intro w1 hS
   have hS:=(hS.perm (Ay.perm (.c .h (.c .h .n)))).A4
   have d0:(decide (((T.EY o).length:Int)=0) || !decide ((T.w.AP.at ((T.EY o).getD 0 0)).kind=AF.setKind o.verb))=true:=by rw [hsl];exact c12
   have hq:T.set o=_:=(AX c10).trans (BF d0)
   (try rw [hsl] at hq)
   refine⟨_,⟨?gq2,rfl,?hl2,?hB2⟩,hS⟩
   case hB2=>rw [hq];(try rfl)
   case hl2=>rw [hq];assumption
  have c12p:=kz c12
  rw [y15] at c12 c12p
  have hsl:T.EY o=(AF.BQ T.w (T.own++T.seen) (max o.nth 1) o.name false):=congrArg (fun q=>AF.BQ T.w q _ _ _) (BF c11)
  refine Aq ?_
  refine BE (N:=13) [0,0,2,6,1,17,49,127,255,511,0,2047,4095] mix (by kernel_rfl) rfl ?_
  refine Pf 0 rfl (AD rfl) (Pf 1 rfl (AD rfl) ?_)
  refine Pf 2 rfl (Bs G2 (by decide) (Kn.own .m2) rfl rfl (by omega) (by first | omega | (simp at q ⊢;omega))) ?_
  refine Pf 3 rfl (DI rfl A5 (Kn.own .m2) (by first | omega | (simp at q ⊢;omega))) ?_
  refine Pf 4 rfl (BV rfl) (Pf 5 rfl (Aj BC rfl) (Pf 6 rfl (Aj Cx rfl) ?_))
  refine Pf 7 rfl (AN GW rfl rfl (by first | omega | exact hb.1 | exact hb.2 | exact hx0.1 | exact hx0.2 | (dsimp only;omega)) (by first | omega | exact hb.1 | exact hb.2 | exact hx0.1 | exact hx0.2 | (dsimp only;omega))) ?_
  refine Pf 8 rfl (Aj GP rfl) ?_
  refine Pf 9 rfl (AG rfl DO .m0 (((Ae.l0.comp AI.l1).comp (AS.ar (n:=9) Ao.fl (by first | omega | exact hb | exact hx0 | (dsimp only;omega)))).comp Ao.l4) rfl rfl) ?_
  refine Pf 10 rfl (AD rfl) (Pf 11 rfl (Ew Tryz.underlying4 rfl rfl) (Pf 12 rfl (A2 rfl) ?_))
  refine A1 (by kernel_rfl) ?_
  refine AB (.t6 0 4 5 6 9 98) ?_
  refine AA ?_
  refine Gc (fun c13=>?_) (fun c13=>?_)
  ·
   have c13p:=kz c13
   refine AJ (Gm rfl ?_)
   refine Ah rfl EJ (.c rfl (.c rfl .n)) (.c .h (.c (.t (.t (.t (.t .h)))) .n)) (Bh _ _ _ _ hg hb (by omega)) (fun v20 B hv=>?_)
   obtain⟨y21,rfl,y22,rfl⟩:=hv
   refine AQ (AB (.nil _) ?_)
   refine AV ?_
   refine Bn rfl .n ?_
   intro w1 hS
   have hS:=(hS.perm (Ay.perm (.c .h (.c .h .n)))).A4
   have d0:(decide (((T.EY o).length:Int)=0) || !decide ((T.w.AP.at ((T.EY o).getD 0 0)).kind=AF.setKind o.verb))=false:=by rw [hsl];exact c12
   have d1:((T.w.AP.at ((T.EY o).getD 0 0)).on == AF.Hu o.verb)=true:=by rw [hsl];exact c13
   have hq:T.set o=_:=(AX c10).trans ((AX d0).trans (BF d1))
   (try rw [hsl] at hq)
   refine⟨_,⟨?gq3,rfl,?hl3,?hB3⟩,hS⟩
   case hB3=>rw [hq];(try rfl)
   case hl3=>rw [hq];assumption
  have c13p:=kz c13
  refine Gs (Gm rfl (Ga rfl (Gn (.t6 0 4 5 6 9 113) ?_)))
  refine Gc (fun c14=>?_) (fun c14=>?_)
  ·
   have c14p:=kz c14
   refine AJ (Gm rfl (Gm rfl (Gt (CN rfl rfl) (Gm rfl ?_))))
   refine Gt (Bs G2 (by decide) (Kn.own .m2) rfl rfl (by omega) (by first | omega | (simp at q ⊢;omega))) ?_
   refine Gt (DI rfl A5 (Kn.own .m2) (by first | omega | (simp at q ⊢;omega))) ?_
   refine Gm rfl (Gm rfl ?_)
   refine Ah rfl VA (.c rfl (.c rfl (.c rfl (.c rfl (.c rfl .n))))) (.c .h (.c (.t (.t (.t (.t .h)))) .n)) (Fz _ T _ (!decide (AF.setKind o.verb=2)) ((AF.BQ T.w (T.own++T.seen) (max o.nth 1) o.name false).getD (0:Int).toNat 0) _ _ hg hb hx0 (by omega)) (fun v23 B hv=>?_)
   obtain⟨y24,rfl,y25,rfl⟩:=hv
   refine AQ (AB (.nil _) ?_)
   refine AV ?_
   refine Bn rfl .n ?_
   intro w1 hS
   have hS:=(hS.perm (Ay.perm (.c .h (.c .h .n)))).A4
   have d0:(decide (((T.EY o).length:Int)=0) || !decide ((T.w.AP.at ((T.EY o).getD 0 0)).kind=AF.setKind o.verb))=false:=by rw [hsl];exact c12
   have d1:((T.w.AP.at ((T.EY o).getD 0 0)).on == AF.Hu o.verb)=false:=by rw [hsl];exact c13
   have d2:AF.Hu o.verb=true:=c14
   have hq:T.set o=_:=(AX c10).trans ((AX d0).trans ((AX d1).trans (BF d2)))
   (try rw [hsl] at hq)
   refine⟨_,⟨?gq4,rfl,?hl4,?hB4⟩,hS⟩
   case hB4=>rw [hq];(try rfl)
   case hl4=>rw [hq];assumption
  have c14p:=kz c14
  refine AJ (Gm rfl (Gm rfl (Gt (Ak rfl rfl) (Gm rfl ?_))))
  refine Gt (Bs G2 (by decide) (Kn.own .m2) rfl rfl (by omega) (by first | omega | (simp at q ⊢;omega))) ?_
  refine Gt (DI rfl A5 (Kn.own .m2) (by first | omega | (simp at q ⊢;omega))) ?_
  refine Gm rfl (Gm rfl ?_)
  refine Ah rfl VA (.c rfl (.c rfl (.c rfl (.c rfl (.c rfl .n))))) (.c .h (.c (.t (.t (.t (.t .h)))) .n)) (Fz _ T _ (decide (AF.setKind o.verb=2)) ((AF.BQ T.w (T.own++T.seen) (max o.nth 1) o.name false).getD (0:Int).toNat 0) _ _ hg hb hx0 (by omega)) (fun v26 B hv=>?_)
  obtain⟨y27,rfl,y28,rfl⟩:=hv
  refine AQ (AB (.nil _) ?_)
  refine AV ?_
  refine Bn rfl .n ?_
  intro w1 hS
  have hS:=(hS.perm (Ay.perm (.c .h (.c .h .n)))).A4
  have d0:(decide (((T.EY o).length:Int)=0) || !decide ((T.w.AP.at ((T.EY o).getD 0 0)).kind=AF.setKind o.verb))=false:=by rw [hsl];exact c12
  have d1:((T.w.AP.at ((T.EY o).getD 0 0)).on == AF.Hu o.verb)=false:=by rw [hsl];exact c13
  have d2:AF.Hu o.verb=false:=c14
  have hq:T.set o=_:=(AX c10).trans ((AX d0).trans ((AX d1).trans (AX d2)))
  (try rw [hsl] at hq)
  refine⟨_,⟨?gq5,rfl,?hl5,?hB5⟩,hS⟩
  case hB5=>rw [hq];(try rfl)
  case hl5=>rw [hq];assumption
 have c11p:=kz c11
 refine Aa ?_
 refine AB (.t6 0 3 4 5 6 9) ?_
 refine AA (Gs (Gm rfl (Gm rfl (Gt (Aj GZ rfl) (Gt (AG rfl A5 .m2 Order.l1 rfl rfl) (Gt (Ly rfl rfl) (Gt (Aj Fq rfl) ?_)))))))
 refine Gt (AG rfl CM .m2 Order.l3 rfl rfl) ?_
 refine Ah rfl QS (.c rfl (.c rfl (.c rfl (.c rfl (.c rfl .n))))) (.c .h (.c .h .n)) (E1 _ T _ _ T.own _ _ _ hF (by assumption) (by omega) (fun i hi=>AF.Lz hi)) (fun v29 B hv=>?_)
 obtain⟨y30,rfl,y31,rfl⟩:=hv
 refine Ga rfl (Gn (.t5 0 4 5 6 9) (Ag (Aq ?_)))
 have hx0:=AF.Sk (l:=(AF.BQ T.w T.own (max o.nth 1) o.name false)) (fun i hi=>AF.Lz (AF.D0 hi))
 refine BE (N:=18) [0,1,3,7,15,15,47,111,31,287,799,2047,4095,8191,15,32767,65535,131071] mix (by kernel_rfl) rfl ?_
 refine Pf 0 rfl (AD rfl) (Pf 1 rfl (Av rfl Tryz.underlying169 rfl) (Pf 2 rfl (Ak rfl rfl) (Pf 3 rfl (AD rfl) (GB 4 82 rfl rfl rfl (fun q=>AD rfl) (GB 5 82 rfl rfl rfl (fun q=>AD rfl) ?_)))))
 refine Ab 6 rfl rfl (by kernel_rfl) (DE (t:=82) rfl rfl (fun q=>by have q1:=q;(try simp at q1);exact Cu (Bs G2 (by decide) (Kn.own .m2) (cF rfl q) rfl (by omega) (by first | omega | (simp at q ⊢;omega))))) ?_
 refine Ab 7 rfl rfl (by kernel_rfl) (DE (t:=82) rfl rfl (fun q=>by have q1:=q;(try simp at q1);exact Cu (DI (cF rfl q) A5 (Kn.own .m2) (by first | omega | (simp at q ⊢;omega))))) ?_
 refine GB 8 82 rfl rfl rfl (fun q=>BV (cF rfl q)) (GB 9 82 rfl rfl rfl (fun q=>Aj BC (cF rfl q)) (GB 10 82 rfl rfl rfl (fun q=>Aj Cx (cF rfl q)) ?_))
 refine Ab 11 rfl rfl (by kernel_rfl) (DE (t:=82) rfl rfl (fun q=>by have q1:=q;(try simp at q1);exact Cu (AN GW (cF rfl q) (cF rfl q) (by first | omega | exact hb.1 | exact hb.2 | exact hx0.1 | exact hx0.2 | (dsimp only;omega)) (by first | omega | exact hb.1 | exact hb.2 | exact hx0.1 | exact hx0.2 | (dsimp only;omega))))) ?_
 refine GB 12 82 rfl rfl rfl (fun q=>Aj G9 (cF rfl q)) ?_
 refine Ab 13 rfl rfl (by kernel_rfl) (DE (t:=82) rfl rfl (fun q=>by have q1:=q;(try simp at q1);exact Cu (AG (cF rfl q) A5 .m0 (((Ae.l0.comp AI.l1).comp (AS.ar (n:=9) Ao.fl (by first | omega | exact hb | exact hx0 | (dsimp only;omega)))).comp Ao.l1) rfl rfl))) ?_
 refine GB 14 82 rfl rfl rfl (fun q=>AD rfl) (GB 15 82 rfl rfl rfl (fun q=>CN (cF rfl q) (cF rfl q)) ?_)
 refine Pf 16 rfl (BU rfl rfl (fun h=>by rw [h];rfl)) ?_
 refine Pf 17 rfl (A2 rfl) ?_
 refine A1 (by kernel_rfl) ?_
 refine AB (.t6 0 4 5 6 9 78) ?_
 refine AA ?_
 refine Gc (fun c15=>?_) (fun c15=>?_)
 ·
  have c15p:=kz c15
  rw [y31] at c15 c15p
  have hsl:T.EY o=(AF.BQ T.w T.own (max o.nth 1) o.name false):=congrArg (fun q=>AF.BQ T.w q _ _ _) (AX c11)
  refine AJ (Gm rfl ?_)
  refine Ah rfl EJ (.c rfl (.c rfl .n)) (.c .h (.c (.t (.t (.t .h))) .n)) (Bh _ _ _ _ hg hb (by omega)) (fun v33 B hv=>?_)
  obtain⟨y34,rfl,y35,rfl⟩:=hv
  refine AQ (AB (.nil _) ?_)
  refine AV ?_
  refine Bn rfl .n ?_
  intro w1 hS
  have hS:=(hS.perm (Ay.perm (.c .h (.c .h .n)))).A4
  have d0:(decide (((T.EY o).length:Int)=0) || !decide ((T.w.AP.at ((T.EY o).getD 0 0)).kind=AF.setKind o.verb))=true:=by rw [hsl];exact c15
  have hq:T.set o=_:=(AX c10).trans (BF d0)
  (try rw [hsl] at hq)
  refine⟨_,⟨?gq6,rfl,?hl6,?hB6⟩,hS⟩
  case hB6=>rw [hq];(try rfl)
  case hl6=>rw [hq];assumption
 have c15p:=kz c15
 rw [y31] at c15 c15p
 have hsl:T.EY o=(AF.BQ T.w T.own (max o.nth 1) o.name false):=congrArg (fun q=>AF.BQ T.w q _ _ _) (AX c11)
 refine Aq ?_
 refine BE (N:=13) [0,0,2,6,1,17,49,127,255,511,0,2047,4095] mix (by kernel_rfl) rfl ?_
 refine Pf 0 rfl (AD rfl) (Pf 1 rfl (AD rfl) ?_)
 refine Pf 2 rfl (Bs G2 (by decide) (Kn.own .m2) rfl rfl (by omega) (by first | omega | (simp at q ⊢;omega))) ?_
 refine Pf 3 rfl (DI rfl A5 (Kn.own .m2) (by first | omega | (simp at q ⊢;omega))) ?_
 refine Pf 4 rfl (BV rfl) (Pf 5 rfl (Aj BC rfl) (Pf 6 rfl (Aj Cx rfl) ?_))
 refine Pf 7 rfl (AN GW rfl rfl (by first | omega | exact hb.1 | exact hb.2 | exact hx0.1 | exact hx0.2 | (dsimp only;omega)) (by first | omega | exact hb.1 | exact hb.2 | exact hx0.1 | exact hx0.2 | (dsimp only;omega))) ?_
 refine Pf 8 rfl (Aj GP rfl) ?_
 refine Pf 9 rfl (AG rfl DO .m0 (((Ae.l0.comp AI.l1).comp (AS.ar (n:=9) Ao.fl (by first | omega | exact hb | exact hx0 | (dsimp only;omega)))).comp Ao.l4) rfl rfl) ?_
 refine Pf 10 rfl (AD rfl) (Pf 11 rfl (Ew Tryz.underlying4 rfl rfl) (Pf 12 rfl (A2 rfl) ?_))
 refine A1 (by kernel_rfl) ?_
 refine AB (.t6 0 4 5 6 9 98) ?_
 refine AA ?_
 refine Gc (fun c16=>?_) (fun c16=>?_)
 ·
  have c16p:=kz c16
  refine AJ (Gm rfl ?_)
  refine Ah rfl EJ (.c rfl (.c rfl .n)) (.c .h (.c (.t (.t (.t .h))) .n)) (Bh _ _ _ _ hg hb (by omega)) (fun v36 B hv=>?_)
  obtain⟨y37,rfl,y38,rfl⟩:=hv
  refine AQ (AB (.nil _) ?_)
  refine AV ?_
  refine Bn rfl .n ?_
  intro w1 hS
  have hS:=(hS.perm (Ay.perm (.c .h (.c .h .n)))).A4
  have d0:(decide (((T.EY o).length:Int)=0) || !decide ((T.w.AP.at ((T.EY o).getD 0 0)).kind=AF.setKind o.verb))=false:=by rw [hsl];exact c15
  have d1:((T.w.AP.at ((T.EY o).getD 0 0)).on == AF.Hu o.verb)=true:=by rw [hsl];exact c16
  have hq:T.set o=_:=(AX c10).trans ((AX d0).trans (BF d1))
  (try rw [hsl] at hq)
  refine⟨_,⟨?gq7,rfl,?hl7,?hB7⟩,hS⟩
  case hB7=>rw [hq];(try rfl)
  case hl7=>rw [hq];assumption
 have c16p:=kz c16
 refine Gs (Gm rfl (Ga rfl (Gn (.t6 0 4 5 6 9 113) ?_)))
 refine Gc (fun c17=>?_) (fun c17=>?_)
 ·
  have c17p:=kz c17
  refine AJ (Gm rfl (Gm rfl (Gt (CN rfl rfl) (Gm rfl ?_))))
  refine Gt (Bs G2 (by decide) (Kn.own .m2) rfl rfl (by omega) (by first | omega | (simp at q ⊢;omega))) ?_
  refine Gt (DI rfl A5 (Kn.own .m2) (by first | omega | (simp at q ⊢;omega))) ?_
  refine Gm rfl (Gm rfl ?_)
  refine Ah rfl VA (.c rfl (.c rfl (.c rfl (.c rfl (.c rfl .n))))) (.c .h (.c (.t (.t (.t .h))) .n)) (Fz _ T _ (!decide (AF.setKind o.verb=2)) ((AF.BQ T.w T.own (max o.nth 1) o.name false).getD (0:Int).toNat 0) _ _ hg hb hx0 (by omega)) (fun v39 B hv=>?_)
  obtain⟨y40,rfl,y41,rfl⟩:=hv
  refine AQ (AB (.nil _) ?_)
  refine AV ?_
  refine Bn rfl .n ?_
  intro w1 hS
  have hS:=(hS.perm (Ay.perm (.c .h (.c .h .n)))).A4
  have d0:(decide (((T.EY o).length:Int)=0) || !decide ((T.w.AP.at ((T.EY o).getD 0 0)).kind=AF.setKind o.verb))=false:=by rw [hsl];exact c15
  have d1:((T.w.AP.at ((T.EY o).getD 0 0)).on == AF.Hu o.verb)=false:=by rw [hsl];exact c16
  have d2:AF.Hu o.verb=true:=c17
  have hq:T.set o=_:=(AX c10).trans ((AX d0).trans ((AX d1).trans (BF d2)))
  (try rw [hsl] at hq)
  refine⟨_,⟨?gq8,rfl,?hl8,?hB8⟩,hS⟩
  case hB8=>rw [hq];(try rfl)
  case hl8=>rw [hq];assumption
 have c17p:=kz c17
 refine AJ (Gm rfl (Gm rfl (Gt (Ak rfl rfl) (Gm rfl ?_))))
 refine Gt (Bs G2 (by decide) (Kn.own .m2) rfl rfl (by omega) (by first | omega | (simp at q ⊢;omega))) ?_
 refine Gt (DI rfl A5 (Kn.own .m2) (by first | omega | (simp at q ⊢;omega))) ?_
 refine Gm rfl (Gm rfl ?_)
 refine Ah rfl VA (.c rfl (.c rfl (.c rfl (.c rfl (.c rfl .n))))) (.c .h (.c (.t (.t (.t .h))) .n)) (Fz _ T _ (decide (AF.setKind o.verb=2)) ((AF.BQ T.w T.own (max o.nth 1) o.name false).getD (0:Int).toNat 0) _ _ hg hb hx0 (by omega)) (fun v42 B hv=>?_)
 obtain⟨y43,rfl,y44,rfl⟩:=hv
 refine AQ (AB (.nil _) ?_)
 refine AV ?_
 refine Bn rfl .n ?_
 intro w1 hS
 have hS:=(hS.perm (Ay.perm (.c .h (.c .h .n)))).A4
 have d0:(decide (((T.EY o).length:Int)=0) || !decide ((T.w.AP.at ((T.EY o).getD 0 0)).kind=AF.setKind o.verb))=false:=by rw [hsl];exact c15
 have d1:((T.w.AP.at ((T.EY o).getD 0 0)).on == AF.Hu o.verb)=false:=by rw [hsl];exact c16
 have d2:AF.Hu o.verb=false:=c17
 have hq:T.set o=_:=(AX c10).trans ((AX d0).trans ((AX d1).trans (AX d2)))
 (try rw [hsl] at hq)
 refine⟨_,⟨?gq9,rfl,?hl9,?hB9⟩,hS⟩
 case hB9=>rw [hq];(try rfl)
 case hl9=>rw [hq];assumption
theorem Gb (X:AI)(b:Int)(o:Order)(hw:X.DL)(hu:o.second.length≤5000000)(hm:o.name.length≤5000000):Fa Tryz.prog 84 #[.agg X.enc.toArray, .int .i64 b, .agg o.enc.toArray] [] (fun w=>(GV 0 AI.DP w∧0 ∉ Cj [])∧(G3 7 w∧7 ∉ Cj [])∧(G3 8 w∧8 ∉ Cj [])) (fun v B=>∃ h:Hd,v = .tuple #[.agg ((AF.EH X b o).1.enc).toArray,h.val, .int .i64 (AF.EH X b o).2.2]∧h.len=(AF.EH X b o).2.1.length∧B = [Ad.own h 56 16 ((AF.EH X b o).2.1.flatMap Ing.Event.enc)]):=by
 intro w hS0 hH
 obtain⟨⟨gl0,gm0⟩,⟨gl1,gm1⟩,⟨gl2,gm2⟩⟩:=hH
 refine Am _ _ Tryz.func84 rfl rfl rfl (hS0) ?_
 refine Gs ?_
 refine B0 rfl rfl rfl (fun b1=>?_)
 refine B0 rfl rfl rfl (fun b2=>?_)
 refine BG rfl NQ rfl (fun b3=>?_)
 refine Ga rfl (Ga rfl (Gn (.t4 1 3 5 6) (Aq (Ag (Gs (Gt (AY rfl Ba .m2 (AS.id AI.fl.len AI.fl.one) rfl) ?_))))))
 refine BD rfl Zw (.c rfl .n) (fun w hS=>Ho _ w) ?_
 refine Gt (BR rfl) (Ga rfl (Gn (.t5 1 3 5 6 10) ?_))
 refine Gc (fun c1=>?_) (fun c1=>?_)
 ·
  refine Gs (Gt (AY rfl Ba .m2 (AS.id AI.fl.len AI.fl.one) rfl) ?_)
  refine AU (AK (AS.id AI.fl.len AI.fl.one) rfl rfl rfl EF rfl .h) ?_
  refine Ga rfl (Ga rfl (Gn (.t3 6 7 8) (Ac (AT (AE ?_)))))
  refine AZ rfl (.cell rfl .m0 (.inl ⟨(by rw [AI.fl.len];exact Ba),rfl⟩) (.tmp rfl (.tmp rfl .n))) ?_
  intro w1 hS
  have hS:=hS.Cr 56 16
  have hS:=(hS.perm (Ay.perm (.c .h .n))).A4
  have hq:AF.EH X b o=_:=(BF c1)
  refine⟨_,⟨⟨none,0,0⟩,?hv1,?hl1,?hB1⟩,hS⟩
  case hv1=>rw [hq];rfl
  case hl1=>rw [hq];rfl
  case hB1=>rw [hq];rfl
 have c1p:=kz c1
 refine Gs (Gm rfl (Gt (BA rfl rfl) (Gm rfl (Bg 18 rfl rfl (fun q=>AD rfl) (Bg 18 rfl rfl (fun q=>CK (cF rfl q) rfl) ?_)))))
 refine Gt (BU rfl rfl (fun h=>by rw [h];rfl)) ?_
 refine Gm rfl (Bg 22 rfl rfl (fun q=>AD rfl) (Bg 22 rfl rfl (fun q=>Aj Br rfl) ?_))
 refine Bg 22 rfl rfl (fun q=>by have q1:=q;(try simp at q1);exact AN C8 (cF rfl q) (cF rfl q) (by first | omega | exact hb.1 | exact hb.2 | (dsimp only;omega)) (by first | omega | exact hb.1 | exact hb.2 | (dsimp only;omega))) ?_
 refine Bg 22 rfl rfl (fun q=>Aj Ie (cF rfl q)) ?_
 refine Bg 22 rfl rfl (fun q=>by have q1:=q;(try simp at q1);exact AG (cF rfl q) DO .m2 ((AI.l2.comp (AS.ar (n:=6) An.fl (by first | omega | exact hb | (dsimp only;omega)))).comp An.l1) rfl rfl) ?_
 refine Bg 22 rfl rfl (fun q=>BR (cF rfl q)) ?_
 refine Gt (BU rfl rfl (fun h=>by rw [h];rfl)) ?_
 refine Ga rfl (Gn (.t5 1 3 5 6 15) ?_)
 refine Gc (fun c2=>?_) (fun c2=>?_)
 ·
  refine Gs (Gt (AY rfl Ba .m2 (AS.id AI.fl.len AI.fl.one) rfl) ?_)
  refine AU (AK (AS.id AI.fl.len AI.fl.one) rfl rfl rfl EF rfl .h) ?_
  refine Ga rfl (Ga rfl (Gn (.t3 6 7 8) (Ac (AT (AE ?_)))))
  refine AZ rfl (.cell rfl .m0 (.inl ⟨(by rw [AI.fl.len];exact Ba),rfl⟩) (.tmp rfl (.tmp rfl .n))) ?_
  intro w1 hS
  have hS:=hS.Cr 56 16
  have hS:=(hS.perm (Ay.perm (.c .h .n))).A4
  have hq:AF.EH X b o=_:=((AX c1).trans (BF c2))
  refine⟨_,⟨⟨none,0,0⟩,?hv2,?hl2,?hB2⟩,hS⟩
  case hv2=>rw [hq];rfl
  case hl2=>rw [hq];rfl
  case hB2=>rw [hq];rfl
 have c2p:=kz c2
 refine Gs (Gt (Aj DG rfl) (Gt (AG rfl A5 .m1 Order.l0 rfl rfl) (Gt (BA rfl rfl) (Gm rfl (Bg 35 rfl rfl (fun q=>Aj DG rfl) (Bg 35 rfl rfl (fun q=>AG (cF rfl q) A5 .m1 Order.l0 rfl rfl) (Bg 35 rfl rfl (fun q=>Cp (cF rfl q) rfl) ?_)))))))
 refine Gt (BU rfl rfl (fun h=>by rw [h];rfl)) ?_
 refine Ga rfl (Gn (.t5 1 3 5 6 31) ?_)
 refine Gc (fun c3=>?_) (fun c3=>?_)
 ·
  refine Gs (Gt (AY rfl Ba .m2 (AS.id AI.fl.len AI.fl.one) rfl) ?_)
  refine AU (AK (AS.id AI.fl.len AI.fl.one) rfl rfl rfl EF rfl .h) ?_
  refine Ga rfl (Ga rfl (Gn (.t3 6 7 8) (Ac (AT (AE ?_)))))
  refine AZ rfl (.cell rfl .m0 (.inl ⟨(by rw [AI.fl.len];exact Ba),rfl⟩) (.tmp rfl (.tmp rfl .n))) ?_
  intro w1 hS
  have hS:=hS.Cr 56 16
  have hS:=(hS.perm (Ay.perm (.c .h .n))).A4
  have hq:AF.EH X b o=_:=((AX c1).trans ((AX c2).trans (BF c3)))
  refine⟨_,⟨⟨none,0,0⟩,?hv3,?hl3,?hB3⟩,hS⟩
  case hv3=>rw [hq];rfl
  case hl3=>rw [hq];rfl
  case hB3=>rw [hq];rfl
 have c3p:=kz c3
 have hF:=AF.Vy hw c1 c2
 have hb:=hF.b
 refine Aa ?_
 refine AB (.t4 1 3 5 6) ?_
 refine AV (AA (Gs (Gt (AY rfl Ba .m2 (AS.id AI.fl.len AI.fl.one) rfl) (Gm rfl (Gt (BH UM US rfl (.cons Ae.l0 rfl rfl rfl (.cons Ae.l1 rfl rfl rfl .nil))) ?_)))))
 refine B0 rfl rfl rfl (fun b4=>?_)
 refine Ga rfl (Gn (.t4 1 5 6 9) (Aq (Ag (Gs (Gt (Aj DG rfl) (Gt (AG rfl A5 .m2 Order.l0 rfl rfl) (Gt (BA rfl rfl) ?_)))))))
 refine Ga rfl (Gn (.t5 1 5 6 9 48) ?_)
 refine Gc (fun c4=>?_) (fun c4=>?_)
 ·
  have c4p:=kz c4
  refine AJ (Gm rfl (Gt (Aj DG rfl) (Gt (AG rfl A5 .m2 Order.l0 rfl rfl) ?_)))
  refine Dg Ing.Event.enc 56 16 ?_
  refine BJ rfl eJ (.c rfl (.c rfl .n)) (.c (.t .h) (.c .h .n)) (Q4 _ (⟨X,b,[]⟩:AF) _ o.verb rfl hF (by omega) (Nat.zero_le _)) (fun w hS=>gl0.pull gm0 hS (.c (.t .h) (.c .h .n))) (fun v5 B hv=>?_)
  obtain⟨y6,rfl,y7,rfl⟩:=hv
  refine AQ (AB (.t2 6 9) ?_)
  refine AV (AA (Aq ?_))
  refine BE (N:=11) [0,1,3,7,0,16,48,112,15,511,1023] mix (by kernel_rfl) rfl ?_
  refine Pf 0 rfl (AD rfl) (Pf 1 rfl (BV rfl) (Pf 2 rfl (Aj BC rfl) (Pf 3 rfl (AY rfl Ba .m0 Ae.l0 rfl) (Pf 4 rfl (AD rfl) (Pf 5 rfl (BV rfl) (Pf 6 rfl (Aj CO rfl) (Pf 7 rfl (AG rfl Dw .m0 Ae.l2 rfl rfl) ?_)))))))
  refine Af 8 rfl (by kernel_rfl) ?_
  refine AU (AK (AS.id AI.fl.len AI.fl.one) rfl rfl rfl EF rfl (.t (.t .h))) ?_
  refine BN rfl ⟨?_,?_⟩
  · exact(Po rfl (AG rfl Dw .m0 Ae.l2 rfl rfl) rfl rfl (Po rfl (Aj CO rfl) rfl rfl (Po rfl (BV rfl) rfl rfl (Po rfl (AD rfl) rfl rfl (Pk (Pk (Pk (Pk Ar))))))))
  refine Pf 9 rfl (A2 rfl) (Pf 10 rfl (A2 rfl) ?_)
  refine A1 (by kernel_rfl) ?_
  refine AB (.t3 6 7 8) ?_
  refine AA (Ac ?_)
  refine AZ rfl (.cell rfl .m2 (.inl ⟨(by rw [AI.fl.len];exact Ba),rfl⟩) (.tmp rfl (.tmp rfl .n))) ?_
  intro w1 hS
  have hS:=(hS.perm (Ay.perm (.c (.t .h) .n))).A4
  have ha:AF.act (⟨X,b,[]⟩:AF) o=_:=(BF c4)
  have hq:AF.EH X b o=((AF.act (⟨X,b,[]⟩:AF) o).w,(AF.act (⟨X,b,[]⟩:AF) o).out,0):=((AX c1).trans ((AX c2).trans (AX c3)))
  rw [ha] at hq
  refine⟨_,⟨?gq4,?hv4,?hl4,?hB4⟩,hS⟩
  case hB4=>rw [hq];(try rfl)
  case hv4=>rw [hq];(try rfl)
  case hl4=>rw [hq];(try dsimp only);exact y7
 have c4p:=kz c4
 refine Gs (Gt (Aj DG rfl) (Gt (AG rfl A5 .m2 Order.l0 rfl rfl) (Gt (Ak rfl rfl) (Ga rfl (Gn (.t5 1 5 6 9 56) ?_)))))
 refine Gc (fun c5=>?_) (fun c5=>?_)
 ·
  refine AJ (Gm rfl ?_)
  refine Dg Ing.Event.enc 56 16 ?_
  refine BJ rfl Ux (.c rfl .n) (.c (.t .h) (.c .h .n)) (HQ _ (⟨X,b,[]⟩:AF) _ rfl hF.b hF.br (Nat.zero_le _)) (fun w hS=>gl0.pull gm0 hS (.c (.t .h) (.c .h .n))) (fun v9 B hv=>?_)
  obtain⟨y10,rfl,y11,rfl⟩:=hv
  refine AQ (AB (.t2 6 9) ?_)
  refine AV (AA (Aq ?_))
  refine BE (N:=11) [0,1,3,7,0,16,48,112,15,511,1023] mix (by kernel_rfl) rfl ?_
  refine Pf 0 rfl (AD rfl) (Pf 1 rfl (BV rfl) (Pf 2 rfl (Aj BC rfl) (Pf 3 rfl (AY rfl Ba .m0 Ae.l0 rfl) (Pf 4 rfl (AD rfl) (Pf 5 rfl (BV rfl) (Pf 6 rfl (Aj CO rfl) (Pf 7 rfl (AG rfl Dw .m0 Ae.l2 rfl rfl) ?_)))))))
  refine Af 8 rfl (by kernel_rfl) ?_
  refine AU (AK (AS.id AI.fl.len AI.fl.one) rfl rfl rfl EF rfl (.t (.t .h))) ?_
  refine BN rfl ⟨?_,?_⟩
  · exact(Po rfl (AG rfl Dw .m0 Ae.l2 rfl rfl) rfl rfl (Po rfl (Aj CO rfl) rfl rfl (Po rfl (BV rfl) rfl rfl (Po rfl (AD rfl) rfl rfl (Pk (Pk (Pk (Pk Ar))))))))
  refine Pf 9 rfl (A2 rfl) (Pf 10 rfl (A2 rfl) ?_)
  refine A1 (by kernel_rfl) ?_
  refine AB (.t3 6 7 8) ?_
  refine AA (Ac ?_)
  refine AZ rfl (.cell rfl .m2 (.inl ⟨(by rw [AI.fl.len];exact Ba),rfl⟩) (.tmp rfl (.tmp rfl .n))) ?_
  intro w1 hS
  have hS:=(hS.perm (Ay.perm (.c (.t .h) .n))).A4
  have ha:AF.act (⟨X,b,[]⟩:AF) o=_:=((AX c4).trans (BF c5))
  have hq:AF.EH X b o=((AF.act (⟨X,b,[]⟩:AF) o).w,(AF.act (⟨X,b,[]⟩:AF) o).out,0):=((AX c1).trans ((AX c2).trans (AX c3)))
  rw [ha] at hq
  refine⟨_,⟨?gq5,?hv5,?hl5,?hB5⟩,hS⟩
  case hB5=>rw [hq];(try rfl)
  case hv5=>rw [hq];(try rfl)
  case hl5=>rw [hq];(try dsimp only);exact y11
 have c5p:=kz c5
 refine Gs (Gt (Aj DG rfl) (Gt (AG rfl A5 .m2 Order.l0 rfl rfl) (Gt (Ak rfl rfl) (Ga rfl (Gn (.t5 1 5 6 9 62) ?_)))))
 refine Gc (fun c6=>?_) (fun c6=>?_)
 ·
  have c6p:=kz c6
  refine AJ (Gm rfl (Gm rfl (Gt (BV rfl) (Gt (Aj BC rfl) (Gt (AY rfl Ba .m0 Ae.l0 rfl) (Gm rfl ?_))))))
  refine Ah rfl Sr (.c rfl (.c rfl (.c rfl .n))) .n (FK _ _ _) (fun v12 B hv=>?_)
  obtain⟨y13,rfl,y14,rfl⟩:=hv
  refine Dg Ing.Event.enc 56 16 ?_
  refine Ah rfl ZZ (.c rfl (.c rfl (.c rfl .n))) (.c (.t (.t .h)) (.c .h (.c .h .n))) (Lr _ (⟨X,b,[]⟩:AF) _ [89,111,117,32,104,97,118,101] _ (X.has 1 b) rfl hF.b (by assumption) (AI.Ig _ _ _) (fun i hi=>AI.F9 hi) hF.br (by decide) (Nat.zero_le _)) (fun v17 B hv=>?_)
  obtain⟨y18,rfl,y19,rfl⟩:=hv
  refine AQ (AB (.t2 6 9) ?_)
  refine AV (AA (Aq ?_))
  refine BE (N:=11) [0,1,3,7,0,16,48,112,15,511,1023] mix (by kernel_rfl) rfl ?_
  refine Pf 0 rfl (AD rfl) (Pf 1 rfl (BV rfl) (Pf 2 rfl (Aj BC rfl) (Pf 3 rfl (AY rfl Ba .m0 Ae.l0 rfl) (Pf 4 rfl (AD rfl) (Pf 5 rfl (BV rfl) (Pf 6 rfl (Aj CO rfl) (Pf 7 rfl (AG rfl Dw .m0 Ae.l2 rfl rfl) ?_)))))))
  refine Af 8 rfl (by kernel_rfl) ?_
  refine AU (AK (AS.id AI.fl.len AI.fl.one) rfl rfl rfl EF rfl (.t (.t (.t .h)))) ?_
  refine BN rfl ⟨?_,?_⟩
  · exact(Po rfl (AG rfl Dw .m0 Ae.l2 rfl rfl) rfl rfl (Po rfl (Aj CO rfl) rfl rfl (Po rfl (BV rfl) rfl rfl (Po rfl (AD rfl) rfl rfl (Pk (Pk (Pk (Pk Ar))))))))
  refine Pf 9 rfl (A2 rfl) (Pf 10 rfl (A2 rfl) ?_)
  refine A1 (by kernel_rfl) ?_
  refine AB (.t3 6 7 8) ?_
  refine AA (Ac ?_)
  refine AZ rfl (.cell rfl .m3 (.inl ⟨(by rw [AI.fl.len];exact Ba),rfl⟩) (.tmp rfl (.tmp rfl .n))) ?_
  intro w1 hS
  have hS:=(hS.perm (Ay.perm (.c (.t .h) .n))).A4
  have ha:AF.act (⟨X,b,[]⟩:AF) o=_:=((AX c4).trans ((AX c5).trans (BF c6)))
  have hq:AF.EH X b o=((AF.act (⟨X,b,[]⟩:AF) o).w,(AF.act (⟨X,b,[]⟩:AF) o).out,0):=((AX c1).trans ((AX c2).trans (AX c3)))
  rw [ha] at hq
  refine⟨_,⟨?gq6,?hv6,?hl6,?hB6⟩,hS⟩
  case hB6=>rw [hq];(try rfl)
  case hv6=>rw [hq];(try rfl)
  case hl6=>rw [hq];(try dsimp only);exact y19
 have c6p:=kz c6
 refine Gs (Gt (Aj DG rfl) (Gt (AG rfl A5 .m2 Order.l0 rfl rfl) (Gt (Ak rfl rfl) (Ga rfl (Gn (.t4 5 6 9 74) ?_)))))
 refine Gc (fun c7=>?_) (fun c7=>?_)
 ·
  refine AJ (Gm rfl (Gt (Aj RA rfl) (Gt (AG rfl CM .m2 Order.l5 rfl rfl) (Gt (BH N9 JA rfl (.cons Ing.Event.l0 rfl rfl rfl (.cons Ing.Event.l3 rfl rfl rfl (.cons Ing.Event.l9 rfl rfl rfl .nil)))) ?_))))
  refine Dg Ing.Event.enc 56 16 ?_
  refine Ah rfl O4 (.c rfl (.c rfl .n)) (.c (.t .h) (.c .h .n)) (CU _ (⟨X,b,[]⟩:AF) _ { AF.Fw 7 with text:=o.text } rfl hF.b (show(-1:Int) < 6 by decide) (Nat.zero_le _)) (fun v21 B hv=>?_)
  obtain⟨y22,rfl,y23,rfl⟩:=hv
  refine AQ (AB (.t2 6 9) ?_)
  refine AV (AA (Aq ?_))
  refine BE (N:=11) [0,1,3,7,0,16,48,112,15,511,1023] mix (by kernel_rfl) rfl ?_
  refine Pf 0 rfl (AD rfl) (Pf 1 rfl (BV rfl) (Pf 2 rfl (Aj BC rfl) (Pf 3 rfl (AY rfl Ba .m0 Ae.l0 rfl) (Pf 4 rfl (AD rfl) (Pf 5 rfl (BV rfl) (Pf 6 rfl (Aj CO rfl) (Pf 7 rfl (AG rfl Dw .m0 Ae.l2 rfl rfl) ?_)))))))
  refine Af 8 rfl (by kernel_rfl) ?_
  refine AU (AK (AS.id AI.fl.len AI.fl.one) rfl rfl rfl EF rfl (.t (.t .h))) ?_
  refine BN rfl ⟨?_,?_⟩
  · exact(Po rfl (AG rfl Dw .m0 Ae.l2 rfl rfl) rfl rfl (Po rfl (Aj CO rfl) rfl rfl (Po rfl (BV rfl) rfl rfl (Po rfl (AD rfl) rfl rfl (Pk (Pk (Pk (Pk Ar))))))))
  refine Pf 9 rfl (A2 rfl) (Pf 10 rfl (A2 rfl) ?_)
  refine A1 (by kernel_rfl) ?_
  refine AB (.t3 6 7 8) ?_
  refine AA (Ac ?_)
  refine AZ rfl (.cell rfl .m2 (.inl ⟨(by rw [AI.fl.len];exact Ba),rfl⟩) (.tmp rfl (.tmp rfl .n))) ?_
  intro w1 hS
  have hS:=(hS.perm (Ay.perm (.c (.t .h) .n))).A4
  have ha:AF.act (⟨X,b,[]⟩:AF) o=_:=((AX c4).trans ((AX c5).trans ((AX c6).trans (BF c7))))
  have hq:AF.EH X b o=((AF.act (⟨X,b,[]⟩:AF) o).w,(AF.act (⟨X,b,[]⟩:AF) o).out,0):=((AX c1).trans ((AX c2).trans (AX c3)))
  rw [ha] at hq
  refine⟨_,⟨?gq7,?hv7,?hl7,?hB7⟩,hS⟩
  case hB7=>rw [hq];(try rfl)
  case hv7=>rw [hq];(try rfl)
  case hl7=>rw [hq];(try dsimp only);exact y23
 have c7p:=kz c7
 refine Gs (Gt (Aj DG rfl) (Gt (AG rfl A5 .m2 Order.l0 rfl rfl) (Gt (Ak rfl rfl) (Ga rfl (Gn (.t4 5 6 9 83) ?_)))))
 refine Gc (fun c8=>?_) (fun c8=>?_)
 ·
  refine AJ (Gm rfl ?_)
  refine Dg Ing.Event.enc 56 16 ?_
  refine Ah rfl bg (.c rfl .n) (.c (.t .h) (.c .h .n)) (Qm _ (⟨X,b,[]⟩:AF) _ rfl hF (Nat.zero_le _)) (fun v25 B hv=>?_)
  obtain⟨y26,rfl,y27,rfl⟩:=hv
  refine AQ (AB (.t2 6 9) ?_)
  refine AV (AA (Aq ?_))
  refine BE (N:=11) [0,1,3,7,0,16,48,112,15,511,1023] mix (by kernel_rfl) rfl ?_
  refine Pf 0 rfl (AD rfl) (Pf 1 rfl (BV rfl) (Pf 2 rfl (Aj BC rfl) (Pf 3 rfl (AY rfl Ba .m0 Ae.l0 rfl) (Pf 4 rfl (AD rfl) (Pf 5 rfl (BV rfl) (Pf 6 rfl (Aj CO rfl) (Pf 7 rfl (AG rfl Dw .m0 Ae.l2 rfl rfl) ?_)))))))
  refine Af 8 rfl (by kernel_rfl) ?_
  refine AU (AK (AS.id AI.fl.len AI.fl.one) rfl rfl rfl EF rfl (.t (.t .h))) ?_
  refine BN rfl ⟨?_,?_⟩
  · exact(Po rfl (AG rfl Dw .m0 Ae.l2 rfl rfl) rfl rfl (Po rfl (Aj CO rfl) rfl rfl (Po rfl (BV rfl) rfl rfl (Po rfl (AD rfl) rfl rfl (Pk (Pk (Pk (Pk Ar))))))))
  refine Pf 9 rfl (A2 rfl) (Pf 10 rfl (A2 rfl) ?_)
  refine A1 (by kernel_rfl) ?_
  refine AB (.t3 6 7 8) ?_
  refine AA (Ac ?_)
  refine AZ rfl (.cell rfl .m2 (.inl ⟨(by rw [AI.fl.len];exact Ba),rfl⟩) (.tmp rfl (.tmp rfl .n))) ?_
  intro w1 hS
  have hS:=(hS.perm (Ay.perm (.c (.t .h) .n))).A4
  have ha:AF.act (⟨X,b,[]⟩:AF) o=_:=((AX c4).trans ((AX c5).trans ((AX c6).trans ((AX c7).trans (BF c8)))))
  have hq:AF.EH X b o=((AF.act (⟨X,b,[]⟩:AF) o).w,(AF.act (⟨X,b,[]⟩:AF) o).out,0):=((AX c1).trans ((AX c2).trans (AX c3)))
  rw [ha] at hq
  refine⟨_,⟨?gq8,?hv8,?hl8,?hB8⟩,hS⟩
  case hB8=>rw [hq];(try rfl)
  case hv8=>rw [hq];(try rfl)
  case hl8=>rw [hq];(try dsimp only);exact y27
 have c8p:=kz c8
 refine Gs (Gt (Aj DG rfl) (Gt (AG rfl A5 .m2 Order.l0 rfl rfl) (Gt (Ak rfl rfl) (Ga rfl (Gn (.t4 5 6 9 89) ?_)))))
 refine Gc (fun c9=>?_) (fun c9=>?_)
 ·
  refine AJ (Gm rfl (Gt (AY rfl CB .m2 (AS.id Order.fl.len Order.fl.one) rfl) ?_))
  refine Dg Ing.Event.enc 56 16 ?_
  refine BJ rfl bV (.c rfl (.c rfl .n)) (.c (.t .h) (.c .h .n)) (PV _ (⟨X,b,[]⟩:AF) _ o rfl hF hm (Nat.zero_le _)) (fun w hS=>⟨gl1.pull gm1 hS (.c (.t .h) (.c .h .n)),gl2.pull gm2 hS (.c (.t .h) (.c .h .n))⟩) (fun v29 B hv=>?_)
  obtain⟨y30,rfl,y31,rfl⟩:=hv
  refine AQ (AB (.t2 6 9) ?_)
  refine AV (AA (Aq ?_))
  refine BE (N:=11) [0,1,3,7,0,16,48,112,15,511,1023] mix (by kernel_rfl) rfl ?_
  refine Pf 0 rfl (AD rfl) (Pf 1 rfl (BV rfl) (Pf 2 rfl (Aj BC rfl) (Pf 3 rfl (AY rfl Ba .m0 Ae.l0 rfl) (Pf 4 rfl (AD rfl) (Pf 5 rfl (BV rfl) (Pf 6 rfl (Aj CO rfl) (Pf 7 rfl (AG rfl Dw .m0 Ae.l2 rfl rfl) ?_)))))))
  refine Af 8 rfl (by kernel_rfl) ?_
  refine AU (AK (AS.id AI.fl.len AI.fl.one) rfl rfl rfl EF rfl (.t (.t .h))) ?_
  refine BN rfl ⟨?_,?_⟩
  · exact(Po rfl (AG rfl Dw .m0 Ae.l2 rfl rfl) rfl rfl (Po rfl (Aj CO rfl) rfl rfl (Po rfl (BV rfl) rfl rfl (Po rfl (AD rfl) rfl rfl (Pk (Pk (Pk (Pk Ar))))))))
  refine Pf 9 rfl (A2 rfl) (Pf 10 rfl (A2 rfl) ?_)
  refine A1 (by kernel_rfl) ?_
  refine AB (.t3 6 7 8) ?_
  refine AA (Ac ?_)
  refine AZ rfl (.cell rfl .m2 (.inl ⟨(by rw [AI.fl.len];exact Ba),rfl⟩) (.tmp rfl (.tmp rfl .n))) ?_
  intro w1 hS
  have hS:=(hS.perm (Ay.perm (.c (.t .h) .n))).A4
  have ha:AF.act (⟨X,b,[]⟩:AF) o=_:=((AX c4).trans ((AX c5).trans ((AX c6).trans ((AX c7).trans ((AX c8).trans (BF c9))))))
  have hq:AF.EH X b o=((AF.act (⟨X,b,[]⟩:AF) o).w,(AF.act (⟨X,b,[]⟩:AF) o).out,0):=((AX c1).trans ((AX c2).trans (AX c3)))
  rw [ha] at hq
  refine⟨_,⟨?gq9,?hv9,?hl9,?hB9⟩,hS⟩
  case hB9=>rw [hq];(try rfl)
  case hv9=>rw [hq];(try rfl)
  case hl9=>rw [hq];(try dsimp only);exact y31
 have c9p:=kz c9
 refine Gs (Gt (Aj DG rfl) (Gt (AG rfl A5 .m2 Order.l0 rfl rfl) (Gt (Ak rfl rfl) (Ga rfl (Gn (.t4 5 6 9 96) ?_)))))
 refine Gc (fun c10=>?_) (fun c10=>?_)
 ·
  refine AJ (Gm rfl (Gt (AY rfl CB .m2 (AS.id Order.fl.len Order.fl.one) rfl) ?_))
  refine Dg Ing.Event.enc 56 16 ?_
  refine BJ rfl bo (.c rfl (.c rfl .n)) (.c (.t .h) (.c .h .n)) (SC _ (⟨X,b,[]⟩:AF) _ o rfl hF hu (Nat.zero_le _)) (fun w hS=>⟨gl1.pull gm1 hS (.c (.t .h) (.c .h .n)),gl2.pull gm2 hS (.c (.t .h) (.c .h .n))⟩) (fun v33 B hv=>?_)
  obtain⟨y34,rfl,y35,rfl⟩:=hv
  refine AQ (AB (.t2 6 9) ?_)
  refine AV (AA (Aq ?_))
  refine BE (N:=11) [0,1,3,7,0,16,48,112,15,511,1023] mix (by kernel_rfl) rfl ?_
  refine Pf 0 rfl (AD rfl) (Pf 1 rfl (BV rfl) (Pf 2 rfl (Aj BC rfl) (Pf 3 rfl (AY rfl Ba .m0 Ae.l0 rfl) (Pf 4 rfl (AD rfl) (Pf 5 rfl (BV rfl) (Pf 6 rfl (Aj CO rfl) (Pf 7 rfl (AG rfl Dw .m0 Ae.l2 rfl rfl) ?_)))))))
  refine Af 8 rfl (by kernel_rfl) ?_
  refine AU (AK (AS.id AI.fl.len AI.fl.one) rfl rfl rfl EF rfl (.t (.t .h))) ?_
  refine BN rfl ⟨?_,?_⟩
  · exact(Po rfl (AG rfl Dw .m0 Ae.l2 rfl rfl) rfl rfl (Po rfl (Aj CO rfl) rfl rfl (Po rfl (BV rfl) rfl rfl (Po rfl (AD rfl) rfl rfl (Pk (Pk (Pk (Pk Ar))))))))
  refine Pf 9 rfl (A2 rfl) (Pf 10 rfl (A2 rfl) ?_)
  refine A1 (by kernel_rfl) ?_
  refine AB (.t3 6 7 8) ?_
  refine AA (Ac ?_)
  refine AZ rfl (.cell rfl .m2 (.inl ⟨(by rw [AI.fl.len];exact Ba),rfl⟩) (.tmp rfl (.tmp rfl .n))) ?_
  intro w1 hS
  have hS:=(hS.perm (Ay.perm (.c (.t .h) .n))).A4
  have ha:AF.act (⟨X,b,[]⟩:AF) o=_:=((AX c4).trans ((AX c5).trans ((AX c6).trans ((AX c7).trans ((AX c8).trans ((AX c9).trans (BF c10)))))))
  have hq:AF.EH X b o=((AF.act (⟨X,b,[]⟩:AF) o).w,(AF.act (⟨X,b,[]⟩:AF) o).out,0):=((AX c1).trans ((AX c2).trans (AX c3)))
  rw [ha] at hq
  refine⟨_,⟨?gq10,?hv10,?hl10,?hB10⟩,hS⟩
  case hB10=>rw [hq];(try rfl)
  case hv10=>rw [hq];(try rfl)
  case hl10=>rw [hq];(try dsimp only);exact y35
 have c10p:=kz c10
 refine Gs (Gt (Aj DG rfl) (Gt (AG rfl A5 .m2 Order.l0 rfl rfl) (Gt (Ak rfl rfl) (Gm rfl (Bg 107 rfl rfl (fun q=>Aj DG rfl) (Bg 107 rfl rfl (fun q=>AG (cF rfl q) A5 .m2 Order.l0 rfl rfl) (Bg 107 rfl rfl (fun q=>Ak (cF rfl q) rfl) ?_)))))))
 refine Gt (BU rfl rfl (fun h=>by rw [h];rfl)) ?_
 refine Gm rfl (Bg 112 rfl rfl (fun q=>Aj DG rfl) (Bg 112 rfl rfl (fun q=>AG (cF rfl q) A5 .m2 Order.l0 rfl rfl) (Bg 112 rfl rfl (fun q=>Ak (cF rfl q) rfl) ?_)))
 refine Gt (BU rfl rfl (fun h=>by rw [h];rfl)) ?_
 refine Ga rfl (Gn (.t4 5 6 9 103) ?_)
 refine Gc (fun c11=>?_) (fun c11=>?_)
 ·
  have c11p:=kz c11
  refine AJ (Gm rfl (Gt (AY rfl CB .m2 (AS.id Order.fl.len Order.fl.one) rfl) ?_))
  refine Dg Ing.Event.enc 56 16 ?_
  refine BJ rfl av (.c rfl (.c rfl .n)) (.c (.t .h) (.c .h .n)) (R1 _ (⟨X,b,[]⟩:AF) _ o rfl hF (by omega) hu (Nat.zero_le _)) (fun w hS=>⟨gl1.pull gm1 hS (.c (.t .h) (.c .h .n)),gl2.pull gm2 hS (.c (.t .h) (.c .h .n))⟩) (fun v37 B hv=>?_)
  obtain⟨y38,rfl,y39,rfl⟩:=hv
  refine AQ (AB (.t2 6 9) ?_)
  refine AV (AA (Aq ?_))
  refine BE (N:=11) [0,1,3,7,0,16,48,112,15,511,1023] mix (by kernel_rfl) rfl ?_
  refine Pf 0 rfl (AD rfl) (Pf 1 rfl (BV rfl) (Pf 2 rfl (Aj BC rfl) (Pf 3 rfl (AY rfl Ba .m0 Ae.l0 rfl) (Pf 4 rfl (AD rfl) (Pf 5 rfl (BV rfl) (Pf 6 rfl (Aj CO rfl) (Pf 7 rfl (AG rfl Dw .m0 Ae.l2 rfl rfl) ?_)))))))
  refine Af 8 rfl (by kernel_rfl) ?_
  refine AU (AK (AS.id AI.fl.len AI.fl.one) rfl rfl rfl EF rfl (.t (.t .h))) ?_
  refine BN rfl ⟨?_,?_⟩
  · exact(Po rfl (AG rfl Dw .m0 Ae.l2 rfl rfl) rfl rfl (Po rfl (Aj CO rfl) rfl rfl (Po rfl (BV rfl) rfl rfl (Po rfl (AD rfl) rfl rfl (Pk (Pk (Pk (Pk Ar))))))))
  refine Pf 9 rfl (A2 rfl) (Pf 10 rfl (A2 rfl) ?_)
  refine A1 (by kernel_rfl) ?_
  refine AB (.t3 6 7 8) ?_
  refine AA (Ac ?_)
  refine AZ rfl (.cell rfl .m2 (.inl ⟨(by rw [AI.fl.len];exact Ba),rfl⟩) (.tmp rfl (.tmp rfl .n))) ?_
  intro w1 hS
  have hS:=(hS.perm (Ay.perm (.c (.t .h) .n))).A4
  have ha:AF.act (⟨X,b,[]⟩:AF) o=_:=((AX c4).trans ((AX c5).trans ((AX c6).trans ((AX c7).trans ((AX c8).trans ((AX c9).trans ((AX c10).trans (BF c11))))))))
  have hq:AF.EH X b o=((AF.act (⟨X,b,[]⟩:AF) o).w,(AF.act (⟨X,b,[]⟩:AF) o).out,0):=((AX c1).trans ((AX c2).trans (AX c3)))
  rw [ha] at hq
  refine⟨_,⟨?gq11,?hv11,?hl11,?hB11⟩,hS⟩
  case hB11=>rw [hq];(try rfl)
  case hv11=>rw [hq];(try rfl)
  case hl11=>rw [hq];(try dsimp only);exact y39
 have c11p:=kz c11
 refine AJ (Gm rfl (Gt (AY rfl CB .m2 (AS.id Order.fl.len Order.fl.one) rfl) ?_))
 refine Dg Ing.Event.enc 56 16 ?_
 refine BJ rfl bm (.c rfl (.c rfl .n)) (.c (.t .h) (.c .h .n)) (R2 _ (⟨X,b,[]⟩:AF) _ o rfl hF (by omega) (Nat.zero_le _)) (fun w hS=>gl0.pull gm0 hS (.c (.t .h) (.c .h .n))) (fun v41 B hv=>?_)
 obtain⟨y42,rfl,y43,rfl⟩:=hv
 refine AQ (AB (.t2 6 9) ?_)
 refine AV (AA (Aq ?_))
 refine BE (N:=11) [0,1,3,7,0,16,48,112,15,511,1023] mix (by kernel_rfl) rfl ?_
 refine Pf 0 rfl (AD rfl) (Pf 1 rfl (BV rfl) (Pf 2 rfl (Aj BC rfl) (Pf 3 rfl (AY rfl Ba .m0 Ae.l0 rfl) (Pf 4 rfl (AD rfl) (Pf 5 rfl (BV rfl) (Pf 6 rfl (Aj CO rfl) (Pf 7 rfl (AG rfl Dw .m0 Ae.l2 rfl rfl) ?_)))))))
 refine Af 8 rfl (by kernel_rfl) ?_
 refine AU (AK (AS.id AI.fl.len AI.fl.one) rfl rfl rfl EF rfl (.t (.t .h))) ?_
 refine BN rfl ⟨?_,?_⟩
 · exact(Po rfl (AG rfl Dw .m0 Ae.l2 rfl rfl) rfl rfl (Po rfl (Aj CO rfl) rfl rfl (Po rfl (BV rfl) rfl rfl (Po rfl (AD rfl) rfl rfl (Pk (Pk (Pk (Pk Ar))))))))
 refine Pf 9 rfl (A2 rfl) (Pf 10 rfl (A2 rfl) ?_)
 refine A1 (by kernel_rfl) ?_
 refine AB (.t3 6 7 8) ?_
 refine AA (Ac ?_)
 refine AZ rfl (.cell rfl .m2 (.inl ⟨(by rw [AI.fl.len];exact Ba),rfl⟩) (.tmp rfl (.tmp rfl .n))) ?_
 intro w1 hS
 have hS:=(hS.perm (Ay.perm (.c (.t .h) .n))).A4
 have ha:AF.act (⟨X,b,[]⟩:AF) o=_:=((AX c4).trans ((AX c5).trans ((AX c6).trans ((AX c7).trans ((AX c8).trans ((AX c9).trans ((AX c10).trans (AX c11))))))))
 have hq:AF.EH X b o=((AF.act (⟨X,b,[]⟩:AF) o).w,(AF.act (⟨X,b,[]⟩:AF) o).out,0):=((AX c1).trans ((AX c2).trans (AX c3)))
 rw [ha] at hq
 refine⟨_,⟨?gq12,?hv12,?hl12,?hB12⟩,hS⟩
 case hB12=>rw [hq];(try rfl)
 case hv12=>rw [hq];(try rfl)
 case hl12=>rw [hq];(try dsimp only);exact y43
theorem IQ (b:Nat)(V:AM)(ls:Vector BK 4)(ev:List Ing.Event)(k:Int)(n m:Nat)(hk:0≤k∧k < 4)(hF:AH.Fit (A7 V ls ev) n m)(hn:n≤900000)(hm:m≤900000):Fa Tryz.prog 67 #[.pointer (some ⟨b,0,none⟩), .pointer (some ⟨b,165+k.toNat * 22,none⟩)] [Ad.box b 101 (AM.enc V),Ad.Da (CL 9 (AM.As V) ls),Ad.own (AM.last V) 56 16 ((ev).flatMap Ing.Event.enc)] (fun w=>(GV 2 Fy w∧2 ∉ Cj [Ad.box b 101 (AM.enc V),Ad.Da (CL 9 (AM.As V) ls),Ad.own (AM.last V) 56 16 ((ev).flatMap Ing.Event.enc)])∧(GV 0 AI.DP w∧0 ∉ Cj [Ad.box b 101 (AM.enc V),Ad.Da (CL 9 (AM.As V) ls),Ad.own (AM.last V) 56 16 ((ev).flatMap Ing.Event.enc)])∧(G3 7 w∧7 ∉ Cj [Ad.box b 101 (AM.enc V),Ad.Da (CL 9 (AM.As V) ls),Ad.own (AM.last V) 56 16 ((ev).flatMap Ing.Event.enc)])∧(G3 8 w∧8 ∉ Cj [Ad.box b 101 (AM.enc V),Ad.Da (CL 9 (AM.As V) ls),Ad.own (AM.last V) 56 16 ((ev).flatMap Ing.Event.enc)])) (fun v B=>∃ V' ls' ev',v = .tuple #[]∧A7 V' ls' ev'=AH.leave (A7 V ls ev) k∧B = [Ad.box b 101 (AM.enc V'),Ad.Da (CL 9 (AM.As V') ls'),Ad.own (AM.last V') 56 16 ((ev').flatMap Ing.Event.enc)]):=by
 intro w hS0 hH
 obtain⟨⟨gl0,gm0⟩,⟨gl1,gm1⟩,⟨gl2,gm2⟩,⟨gl3,gm3⟩⟩:=hH
 have hbe:=WS hF hk.1 hk.2
 refine Am _ _ Tryz.func67 rfl rfl rfl (hS0) ?_
 refine Aq (Aq ?_)
 refine BE (N:=18) [0,1,3,7,15,31,63,63,191,447,959,127,2175,6271,16383,32767,65535,131071] mix (by kernel_rfl) rfl ?_
 refine Pf 0 rfl (AD rfl) (Pf 1 rfl (BV rfl) (Pf 2 rfl (Aj Ja rfl) (Pf 3 rfl (AG rfl A5 .m0 ((AM.l1.comp (AS.arr (n:=4) A3.fl hk.1 hk.2)).comp A3.l0) rfl rfl) (Pf 4 rfl (Ak rfl rfl) (Pf 5 rfl (AD rfl) (Mo 6 12 rfl rfl rfl (fun q=>AD rfl) (Mo 7 12 rfl rfl rfl (fun q=>AD rfl) ?_)))))))
 refine Mo 8 12 rfl rfl rfl (fun q=>BV (BX rfl q)) (Mo 9 12 rfl rfl rfl (fun q=>Aj IV (BX rfl q)) (Mo 10 12 rfl rfl rfl (fun q=>AG (BX rfl q) A5 .m0 ((AM.l1.comp (AS.arr (n:=4) A3.fl hk.1 hk.2)).comp A3.l1) rfl rfl) (Mo 11 12 rfl rfl rfl (fun q=>BV (BX rfl q)) (Mo 12 12 rfl rfl rfl (fun q=>Aj ET (BX rfl q)) (Mo 13 12 rfl rfl rfl (fun q=>Aj Br (BX rfl q)) ?_)))))
 refine Ab 14 rfl rfl (by kernel_rfl) (Sc (t:=12) rfl rfl (fun q=>by have q1:=q;(try simp at q1);exact Cu (AN C8 (BX rfl q) (BX rfl q) (by first | omega | exact hk.1 | exact hk.2) (by first | omega | exact hk.1 | exact hk.2)))) ?_
 refine Mo 15 12 rfl rfl rfl (fun q=>Aj Ie (BX rfl q)) ?_
 refine Ab 16 rfl rfl (by kernel_rfl) (Sc (t:=12) rfl rfl (fun q=>by have q1:=q;(try simp at q1);exact Cu (AG (BX rfl q) DO .m0 (((AM.l0.comp AI.l2).comp (AS.ar (n:=6) An.fl (by first | omega | exact hk))).comp An.l1) rfl rfl))) ?_
 refine Pf 17 rfl (BI rfl rfl (fun h=>h)) ?_
 refine A1 (by kernel_rfl) ?_
 refine AB (.t3 0 1 24) ?_
 refine AA ?_
 refine Gc (fun c1=>?_) (fun c1=>?_)
 ·
  have c1p:=kz c1
  have hdl:=AF.Na V.w (V.As.at k).A0 AH.EI
  have hds:=AF.KZ (b:=(V.As.at k).A0) (o:=AH.EI) hF.F5 AH.Mj
  refine Aq ?_
  refine BE (N:=18) [0,1,3,7,0,16,48,112,0,511,1023,2047,2047,2047,0,20479,57343,131071] mix (by kernel_rfl) rfl ?_
  refine Pf 0 rfl (AD rfl) (Pf 1 rfl (BV rfl) (Pf 2 rfl (Aj ET rfl) (Pf 3 rfl (AY rfl Ba .m0 AM.l0 rfl) (Pf 4 rfl (AD rfl) (Pf 5 rfl (BV rfl) (Pf 6 rfl (Aj IV rfl) (Pf 7 rfl (AG rfl A5 .m0 ((AM.l1.comp (AS.arr (n:=4) A3.fl hk.1 hk.2)).comp A3.l1) rfl rfl) ?_)))))))
  refine Pf 8 rfl (BH Sn Lo rfl (.cons Order.l0 rfl rfl rfl .nil)) ?_
  refine J9 9 14 rfl rfl (by kernel_rfl) ?_ ?_
  ·
   refine BJ rfl ZK (.c rfl (.c rfl (.c rfl .n))) .n (Gb V.w (V.As.at k).A0 AH.EI hF.F5.IP (Nat.zero_le _) (Nat.zero_le _)) (fun w hS=>⟨gl1.pull gm1 hS .n,gl2.pull gm2 hS .n,gl3.pull gm3 hS .n⟩) (fun v1 B hv=>?_)
   obtain⟨y2,rfl,y3,rfl⟩:=hv
   refine Bf rfl ⟨?_,?_⟩
   · exact(Pk (Pk (Pk (Pk (Pk (Pk (Pk (Pk (Pk Ar)))))))))
   refine Pf 10 rfl (AD rfl) (Pf 11 rfl (AL rfl rfl) (Pf 12 rfl (AL rfl rfl) (Pf 13 rfl (AL rfl rfl) ?_)))
   refine Af 14 rfl (by kernel_rfl) ?_
   refine BG rfl NQ rfl (fun b1=>?_)
   refine Bf rfl ⟨?_,?_⟩
   · exact(Po rfl (AL rfl rfl) rfl rfl (Po rfl (AL rfl rfl) rfl rfl (Po rfl (AL rfl rfl) rfl rfl (Po rfl (AD rfl) rfl rfl (Po rfl (BH Sn Lo rfl (.cons Order.l0 rfl rfl rfl .nil)) rfl rfl (Po rfl (AG rfl A5 .m2 ((AM.l1.comp (AS.arr (n:=4) A3.fl hk.1 hk.2)).comp A3.l1) rfl rfl) rfl rfl (Po rfl (Aj IV rfl) rfl rfl (Po rfl (BV rfl) rfl rfl (Po rfl (AD rfl) rfl rfl (Po rfl (AY rfl Ba .m2 AM.l0 rfl) rfl rfl (Po rfl (Aj ET rfl) rfl rfl (Po rfl (BV rfl) rfl rfl (Po rfl (AD rfl) rfl rfl Ar)))))))))))))
   refine Af 15 rfl (by kernel_rfl) ?_
   refine AU (AK (AS.id AI.fl.len AI.fl.one) rfl rfl rfl EF rfl .h) ?_
   refine BN rfl ⟨?_,?_⟩
   · exact(Po rfl (AL rfl rfl) rfl rfl (Po rfl (AL rfl rfl) rfl rfl (Pk (Pk (Pk (Pk (Pk (Pk (Pk (Pk (Pk (Pk (Pk Ar)))))))))))))
   refine Pf 16 rfl (A2 rfl) (Pf 17 rfl (A2 rfl) ?_)
   refine A1 (by kernel_rfl) ?_
   refine AB (.t4 0 1 4 5) ?_
   refine AA (Gs (Gm rfl (Gt (AY rfl Ba .m0 (AS.id AI.fl.len AI.fl.one) rfl) (Gt (BV rfl) (Gt (Aj ET rfl) ?_)))))
   refine AU (AK AM.l0 rfl rfl rfl EF rfl (.t (.t .h))) ?_
   refine Gn (.t3 0 1 5) (Aq ?_)
   refine EN (.c (.t (.t .h)) (.c (.t (.t .h)) .n)) ?_
   refine FG (k:=k) hk.1 hk.2 (fun sv sl hsv hlv hln=>?_)
   refine AJ (Gm rfl (Gt (BH VQ Vi rfl .nil) (Gt (BV rfl) ?_)))
   refine AU (AK (AS.BB { V with w:=(AF.EH V.w (V.As.at k).A0 AH.EI).1 } hk.1 hk.2) rfl rfl rfl TD rfl (.t (.t (.t .h)))) ?_
   refine Gn (.t3 0 1 5) ?_
   refine FF A8 9 1 ?_
   refine FF A8 9 1 ?_
   refine FF A8 9 1 ?_
   refine EN (.c (.t (.t .h)) (.c (.t .h) (.c .h (.c (.t (.t (.t .h))) (.c (.t (.t (.t .h))) .n))))) ?_
   refine HH hk.1 hk.2 (by rfl) (by rfl) (by rfl) ?_
   refine AJ (Gm rfl (Gm rfl ?_))
   refine BJ rfl Vj (.c rfl (.c rfl .n)) (.c .h (.c .h (.c (.t (.t (.t (.t (.t .h))))) (.c (.t (.t (.t (.t .h)))) .n)))) (E4 _ (AM.BB { V with w:=(AF.EH V.w (V.As.at k).A0 AH.EI).1 } k default) (ls.put k ⟨[],[],[]⟩) ev _ (AF.EH V.w (V.As.at k).A0 AH.EI).2.1 n (by assumption) (Gx (((hF.land hds.1).free hk.1 hk.2) |> fun h=>by rw [← N6,← I7 hk.1 hk.2] at h;exact h)) (by omega) (Nat.le_trans hF.last (by omega)) (fun e he c _=>hds.2 e he)) (fun w hS=>⟨gl0.pull gm0 hS (.c .h (.c .h (.c (.t (.t (.t (.t (.t .h))))) (.c (.t (.t (.t (.t .h)))) .n)))),gl1.pull gm1 hS (.c .h (.c .h (.c (.t (.t (.t (.t (.t .h))))) (.c (.t (.t (.t (.t .h)))) .n))))⟩) (fun v8 B hv=>?_)
   obtain⟨y9,y10,y11,rfl,y12,rfl⟩:=hv
   refine Gn (.t1 1) ?_
   refine FG (k:=k) hk.1 hk.2 (fun sv sl hsv hlv hln=>?_)
   refine AJ (Gm rfl (Gt (BH VQ Vi rfl .nil) (Gt (BV rfl) ?_)))
   refine AU (AK (AS.BB y9 hk.1 hk.2) rfl rfl rfl TD rfl (.t (.t (.t .h)))) ?_
   refine AQ ?_
   refine Bn rfl .n ?_
   intro w1 hS
   have hS:=hS.Cr 9 1
   have hS:=hS.Cr 9 1
   have hS:=hS.Cr 9 1
   have hS:=(hS.perm (Ay.perm (.c (.t (.t .h)) (.c (.t .h) (.c .h (.c (.t (.t (.t .h))) (.c (.t (.t (.t .h))) (.c (.t (.t (.t .h))) .n)))))))).A4
   have hS:=St.close' (s:=default) (qs:= []) (ws:= []) (ts:= []) hk.1 hk.2 rfl rfl rfl hS
   refine⟨_,⟨_,_,_,rfl,?ga1,rfl⟩,hS⟩
   case ga1=>exact RC hk.1 hk.2 c1 y12
  ·
   refine BG rfl NQ rfl (fun b2=>?_)
   refine Bf rfl ⟨?_,?_⟩
   · exact(Po rfl (BH Sn Lo rfl (.cons Order.l0 rfl rfl rfl .nil)) rfl rfl (Po rfl (AG rfl A5 .m1 ((AM.l1.comp (AS.arr (n:=4) A3.fl hk.1 hk.2)).comp A3.l1) rfl rfl) rfl rfl (Po rfl (Aj IV rfl) rfl rfl (Po rfl (BV rfl) rfl rfl (Po rfl (AD rfl) rfl rfl (Po rfl (AY rfl Ba .m1 AM.l0 rfl) rfl rfl (Po rfl (Aj ET rfl) rfl rfl (Po rfl (BV rfl) rfl rfl (Po rfl (AD rfl) rfl rfl Ar)))))))))
   refine Af 9 rfl (by kernel_rfl) ?_
   refine BJ rfl ZK (.c rfl (.c rfl (.c rfl .n))) .n (Gb V.w (V.As.at k).A0 AH.EI hF.F5.IP (Nat.zero_le _) (Nat.zero_le _)) (fun w hS=>⟨gl1.pull gm1 hS .n,gl2.pull gm2 hS .n,gl3.pull gm3 hS .n⟩) (fun v16 B hv=>?_)
   obtain⟨y17,rfl,y18,rfl⟩:=hv
   refine Bf rfl ⟨?_,?_⟩
   · exact(Pk (Pk (Pk (Pk (Pk (Pk (Pk (Pk (Pk Ar)))))))))
   refine Pf 10 rfl (AD rfl) (Pf 11 rfl (AL rfl rfl) (Pf 12 rfl (AL rfl rfl) (Pf 13 rfl (AL rfl rfl) ?_)))
   refine Af 15 rfl (by kernel_rfl) ?_
   refine AU (AK (AS.id AI.fl.len AI.fl.one) rfl rfl rfl EF rfl (.t .h)) ?_
   refine BN rfl ⟨?_,?_⟩
   · exact(Po rfl (AL rfl rfl) rfl rfl (Po rfl (AL rfl rfl) rfl rfl (Pk (Pk (Pk (Pk (Pk (Pk (Pk (Pk (Pk (Pk (Pk Ar)))))))))))))
   refine Pf 16 rfl (A2 rfl) (Pf 17 rfl (A2 rfl) ?_)
   refine A1 (by kernel_rfl) ?_
   refine AB (.t4 0 1 4 5) ?_
   refine AA (Gs (Gm rfl (Gt (AY rfl Ba .m1 (AS.id AI.fl.len AI.fl.one) rfl) (Gt (BV rfl) (Gt (Aj ET rfl) ?_)))))
   refine AU (AK AM.l0 rfl rfl rfl EF rfl (.t (.t .h))) ?_
   refine Gn (.t3 0 1 5) (Aq ?_)
   refine EN (.c (.t (.t .h)) (.c (.t (.t .h)) .n)) ?_
   refine FG (k:=k) hk.1 hk.2 (fun sv sl hsv hlv hln=>?_)
   refine AJ (Gm rfl (Gt (BH VQ Vi rfl .nil) (Gt (BV rfl) ?_)))
   refine AU (AK (AS.BB { V with w:=(AF.EH V.w (V.As.at k).A0 AH.EI).1 } hk.1 hk.2) rfl rfl rfl TD rfl (.t (.t (.t .h)))) ?_
   refine Gn (.t3 0 1 5) ?_
   refine FF A8 9 1 ?_
   refine FF A8 9 1 ?_
   refine FF A8 9 1 ?_
   refine EN (.c (.t (.t .h)) (.c (.t .h) (.c .h (.c (.t (.t (.t .h))) (.c (.t (.t (.t .h))) .n))))) ?_
   refine HH hk.1 hk.2 (by rfl) (by rfl) (by rfl) ?_
   refine AJ (Gm rfl (Gm rfl ?_))
   refine BJ rfl Vj (.c rfl (.c rfl .n)) (.c .h (.c .h (.c (.t (.t (.t (.t (.t .h))))) (.c (.t (.t (.t .h))) .n)))) (E4 _ (AM.BB { V with w:=(AF.EH V.w (V.As.at k).A0 AH.EI).1 } k default) (ls.put k ⟨[],[],[]⟩) ev _ (AF.EH V.w (V.As.at k).A0 AH.EI).2.1 n (by assumption) (Gx (((hF.land hds.1).free hk.1 hk.2) |> fun h=>by rw [← N6,← I7 hk.1 hk.2] at h;exact h)) (by omega) (Nat.le_trans hF.last (by omega)) (fun e he c _=>hds.2 e he)) (fun w hS=>⟨gl0.pull gm0 hS (.c .h (.c .h (.c (.t (.t (.t (.t (.t .h))))) (.c (.t (.t (.t .h))) .n)))),gl1.pull gm1 hS (.c .h (.c .h (.c (.t (.t (.t (.t (.t .h))))) (.c (.t (.t (.t .h))) .n))))⟩) (fun v23 B hv=>?_)
   obtain⟨y24,y25,y26,rfl,y27,rfl⟩:=hv
   refine Gn (.t1 1) ?_
   refine FG (k:=k) hk.1 hk.2 (fun sv sl hsv hlv hln=>?_)
   refine AJ (Gm rfl (Gt (BH VQ Vi rfl .nil) (Gt (BV rfl) ?_)))
   refine AU (AK (AS.BB y24 hk.1 hk.2) rfl rfl rfl TD rfl (.t (.t (.t .h)))) ?_
   refine AQ ?_
   refine Bn rfl .n ?_
   intro w1 hS
   have hS:=hS.Cr 9 1
   have hS:=hS.Cr 9 1
   have hS:=hS.Cr 9 1
   have hS:=(hS.perm (Ay.perm (.c (.t (.t .h)) (.c (.t .h) (.c .h (.c (.t (.t (.t .h))) (.c (.t (.t (.t .h))) (.c (.t (.t (.t .h))) .n)))))))).A4
   have hS:=St.close' (s:=default) (qs:= []) (ws:= []) (ts:= []) hk.1 hk.2 rfl rfl rfl hS
   refine⟨_,⟨_,_,_,rfl,?ga2,rfl⟩,hS⟩
   case ga2=>exact RC hk.1 hk.2 c1 y27
 refine Aa ?_
 refine AB (.t1 1) ?_
 refine AA ?_
 refine FG (k:=k) hk.1 hk.2 (fun sv sl hsv hlv hln=>?_)
 refine AJ (Gm rfl (Gt (BH VQ Vi rfl .nil) (Gt (BV rfl) ?_)))
 refine AU (AK (AS.BB V hk.1 hk.2) rfl rfl rfl TD rfl (.t (.t (.t .h)))) ?_
 refine AQ ?_
 refine Bn rfl .n ?_
 intro w1 hS
 have hS:=hS.Cr 9 1
 have hS:=hS.Cr 9 1
 have hS:=hS.Cr 9 1
 have hS:=(hS.perm (Ay.perm (.c (.t (.t .h)) (.c (.t .h) (.c .h (.c (.t (.t (.t .h))) (.c (.t (.t (.t .h))) (.c (.t (.t (.t .h))) .n)))))))).A4
 have hS:=St.close' (s:=default) (qs:= []) (ws:= []) (ts:= []) hk.1 hk.2 rfl rfl rfl hS
 refine⟨_,⟨_,_,_,rfl,?ga3,rfl⟩,hS⟩
 case ga3=>exact Ud hk.1 hk.2 c1
theorem PZ (b:Nat)(V:AM)(ls:Vector BK 4)(ev:List Ing.Event)(k:Int)(u:Au)(n m:Nat)(hk:0≤k∧k < 4)(hF:AH.Fit (A7 V ls ev) n m)(hn:n≤900000)(hm:m≤900000)(hu:u.length≤1000):Fa Tryz.prog 95 #[.pointer (some ⟨b,0,none⟩), .pointer (some ⟨b,165+k.toNat * 22,none⟩),BT u] [Ad.box b 101 (AM.enc V),Ad.Da (CL 9 (AM.As V) ls),Ad.own (AM.last V) 56 16 ((ev).flatMap Ing.Event.enc)] (fun w=>(GV 2 Fy w∧2 ∉ Cj [Ad.box b 101 (AM.enc V),Ad.Da (CL 9 (AM.As V) ls),Ad.own (AM.last V) 56 16 ((ev).flatMap Ing.Event.enc)])∧(GV 0 AI.DP w∧0 ∉ Cj [Ad.box b 101 (AM.enc V),Ad.Da (CL 9 (AM.As V) ls),Ad.own (AM.last V) 56 16 ((ev).flatMap Ing.Event.enc)])∧(G3 7 w∧7 ∉ Cj [Ad.box b 101 (AM.enc V),Ad.Da (CL 9 (AM.As V) ls),Ad.own (AM.last V) 56 16 ((ev).flatMap Ing.Event.enc)])∧(G3 8 w∧8 ∉ Cj [Ad.box b 101 (AM.enc V),Ad.Da (CL 9 (AM.As V) ls),Ad.own (AM.last V) 56 16 ((ev).flatMap Ing.Event.enc)])) (fun v B=>∃ V' ls' ev',v = .tuple #[]∧A7 V' ls' ev'=AH.order (A7 V ls ev) k u∧B = [Ad.box b 101 (AM.enc V'),Ad.Da (CL 9 (AM.As V') ls'),Ad.own (AM.last V') 56 16 ((ev').flatMap Ing.Event.enc)]):=by
 intro w hS0 hH
 obtain⟨⟨gl0,gm0⟩,⟨gl1,gm1⟩,⟨gl2,gm2⟩,⟨gl3,gm3⟩⟩:=hH
 have hps:=Words.J3 u
 have hdl:=AF.Na V.w (V.As.at k).A0 (Words.parse u).1
 have hds:=AF.KZ (b:=(V.As.at k).A0) (o:=(Words.parse u).1) hF.F5 (by have:=hps.2.2;omega)
 have htn:=Gx hF
 refine Am _ _ Tryz.func95 rfl rfl rfl (hS0) ?_
 refine Gs (Gm rfl ?_)
 refine BD rfl bP (.c rfl .n) (fun w hS=>MU u (by omega) w (gl1.stM gm1 hS) (gl2.stM gm2 hS) (gl3.stM gm3 hS)) ?_
 refine Gm rfl (Gt (AL rfl rfl) (Gt (AL rfl rfl) ?_))
 refine BG rfl Lo rfl (fun b1=>?_)
 refine AU (AK (AS.id Order.fl.len Order.fl.one) rfl rfl rfl ED rfl .h) ?_
 refine Ga rfl (Gn (.t4 0 1 6 7) (CD (Gm rfl (Gt (CN rfl rfl) (Gn (.t4 0 1 6 17) ?_)))))
 refine Gc (fun c1=>?_) (fun c1=>?_)
 ·
  have c1p:=kz c1
  refine Gs (Gm rfl (Gm rfl ?_))
  refine Ah rfl TY (.c rfl (.c rfl (.c rfl .n))) (.c (.t .h) (.c (.t .h) (.c (.t .h) .n))) (EU _ V ls ev k _ hk (Nat.le_trans (htn k hk.1 hk.2) (by omega))) (fun v1 B hv=>?_)
  obtain⟨y2,y3,y4,rfl,y5,rfl⟩:=hv
  refine Gn (.nil _) (Ac (AE ?_))
  refine AZ rfl .n ?_
  intro w1 hS
  have hS:=(hS.perm (Ay.perm (.c .h (.c .h (.c .h .n))))).A4
  refine⟨_,⟨y2,y3,y4,rfl,?ga1,rfl⟩,hS⟩
  case ga1=>exact y5.trans (if_pos c1).symm
 have c1p:=kz c1
 refine Aa ?_
 refine AB (.t3 0 1 6) ?_
 refine AA (CD (Gt (Aj DG rfl) (Gt (AG rfl A5 .m0 Order.l0 rfl rfl) (Gt (Ak rfl rfl) (Gn (.t4 0 1 6 23) ?_)))))
 refine Gc (fun c2=>?_) (fun c2=>?_)
 ·
  refine Gs (Gm rfl (Gm rfl ?_))
  refine BJ rfl aj (.c rfl (.c rfl .n)) (.c (.t .h) (.c (.t .h) (.c (.t .h) .n))) (IQ _ V ls ev k n m hk hF hn hm) (fun w hS=>⟨gl0.pull gm0 hS (.c (.t .h) (.c (.t .h) (.c (.t .h) .n))),gl1.pull gm1 hS (.c (.t .h) (.c (.t .h) (.c (.t .h) .n))),gl2.pull gm2 hS (.c (.t .h) (.c (.t .h) (.c (.t .h) .n))),gl3.pull gm3 hS (.c (.t .h) (.c (.t .h) (.c (.t .h) .n)))⟩) (fun v6 B hv=>?_)
  obtain⟨y7,y8,y9,rfl,y10,rfl⟩:=hv
  refine Gn (.nil _) (Ac (AE ?_))
  refine AZ rfl .n ?_
  intro w1 hS
  have hS:=(hS.perm (Ay.perm (.c .h (.c .h (.c .h .n))))).A4
  refine⟨_,⟨y7,y8,y9,rfl,?ga2,rfl⟩,hS⟩
  case ga2=>exact y10.trans ((AX c1).trans (BF c2)).symm
 have c2p:=kz c2
 refine Aa ?_
 refine AB (.t3 0 1 6) ?_
 refine AA (Aq ?_)
 refine BE (N:=18) [0,1,3,7,0,16,48,112,0,511,1023,2047,2047,2047,0,20479,57343,131071] mix (by kernel_rfl) rfl ?_
 refine Pf 0 rfl (AD rfl) (Pf 1 rfl (BV rfl) (Pf 2 rfl (Aj ET rfl) (Pf 3 rfl (AY rfl Ba .m1 AM.l0 rfl) (Pf 4 rfl (AD rfl) (Pf 5 rfl (BV rfl) (Pf 6 rfl (Aj IV rfl) (Pf 7 rfl (AG rfl A5 .m1 ((AM.l1.comp (AS.arr (n:=4) A3.fl hk.1 hk.2)).comp A3.l1) rfl rfl) ?_)))))))
 refine Pf 8 rfl (AY rfl CB .m0 (AS.id Order.fl.len Order.fl.one) rfl) ?_
 refine J9 9 14 rfl rfl (by kernel_rfl) ?_ ?_
 ·
  refine BJ rfl ZK (.c rfl (.c rfl (.c rfl .n))) .n (Gb V.w (V.As.at k).A0 (Words.parse u).1 hF.F5.IP (by have:=hps.2.1;omega) (by have:=hps.1;omega)) (fun w hS=>⟨gl1.pull gm1 hS .n,gl2.pull gm2 hS .n,gl3.pull gm3 hS .n⟩) (fun v11 B hv=>?_)
  obtain⟨y12,rfl,y13,rfl⟩:=hv
  refine Bf rfl ⟨?_,?_⟩
  · exact(Pk (Pk (Pk (Pk (Pk (Pk (Pk (Pk (Pk Ar)))))))))
  refine Pf 10 rfl (AD rfl) (Pf 11 rfl (AL rfl rfl) (Pf 12 rfl (AL rfl rfl) (Pf 13 rfl (AL rfl rfl) ?_)))
  refine Af 14 rfl (by kernel_rfl) ?_
  refine BG rfl NQ rfl (fun b2=>?_)
  refine Bf rfl ⟨?_,?_⟩
  · exact(Po rfl (AL rfl rfl) rfl rfl (Po rfl (AL rfl rfl) rfl rfl (Po rfl (AL rfl rfl) rfl rfl (Po rfl (AD rfl) rfl rfl (Po rfl (AY rfl CB .m2 (AS.id Order.fl.len Order.fl.one) rfl) rfl rfl (Po rfl (AG rfl A5 .m3 ((AM.l1.comp (AS.arr (n:=4) A3.fl hk.1 hk.2)).comp A3.l1) rfl rfl) rfl rfl (Po rfl (Aj IV rfl) rfl rfl (Po rfl (BV rfl) rfl rfl (Po rfl (AD rfl) rfl rfl (Po rfl (AY rfl Ba .m3 AM.l0 rfl) rfl rfl (Po rfl (Aj ET rfl) rfl rfl (Po rfl (BV rfl) rfl rfl (Po rfl (AD rfl) rfl rfl Ar)))))))))))))
  refine Af 15 rfl (by kernel_rfl) ?_
  refine AU (AK (AS.id AI.fl.len AI.fl.one) rfl rfl rfl EF rfl .h) ?_
  refine BN rfl ⟨?_,?_⟩
  · exact(Po rfl (AL rfl rfl) rfl rfl (Po rfl (AL rfl rfl) rfl rfl (Pk (Pk (Pk (Pk (Pk (Pk (Pk (Pk (Pk (Pk (Pk Ar)))))))))))))
  refine Pf 16 rfl (A2 rfl) (Pf 17 rfl (A2 rfl) ?_)
  refine A1 (by kernel_rfl) ?_
  refine AB (.t3 0 8 9) ?_
  refine AA (Gs (Gm rfl (Gt (AY rfl Ba .m0 (AS.id AI.fl.len AI.fl.one) rfl) (Gt (BV rfl) (Gt (Aj ET rfl) ?_)))))
  refine AU (AK AM.l0 rfl rfl rfl EF rfl (.t (.t (.t .h)))) ?_
  refine Gn (.t2 0 9) (AJ (Gm rfl (Gm rfl ?_)))
  refine BJ rfl Vj (.c rfl (.c rfl .n)) (.c (.t (.t (.t .h))) (.c (.t (.t (.t .h))) (.c (.t (.t (.t .h))) (.c (.t .h) .n)))) (E4 _ { V with w:=(AF.EH V.w (V.As.at k).A0 (Words.parse u).1).1 } ls ev _ (AF.EH V.w (V.As.at k).A0 (Words.parse u).1).2.1 n (by assumption) htn (by omega) (Nat.le_trans hF.last (by omega)) (fun e he c _=>hds.2 e he)) (fun w hS=>⟨gl0.pull gm0 hS (.c (.t (.t (.t .h))) (.c (.t (.t (.t .h))) (.c (.t (.t (.t .h))) (.c (.t .h) .n)))),gl1.pull gm1 hS (.c (.t (.t (.t .h))) (.c (.t (.t (.t .h))) (.c (.t (.t (.t .h))) (.c (.t .h) .n))))⟩) (fun v15 B hv=>?_)
  obtain⟨y16,y17,y18,rfl,y19,rfl⟩:=hv
  refine AQ ?_
  refine Bn rfl .n ?_
  intro w1 hS
  have hS:=(hS.perm (Ay.perm (.c .h (.c .h (.c .h .n))))).A4
  refine⟨_,⟨y16,y17,y18,rfl,?ga3,rfl⟩,hS⟩
  case ga3=>exact UK hk.1 hk.2 c1 c2 y19
 ·
  refine BG rfl NQ rfl (fun b3=>?_)
  refine Bf rfl ⟨?_,?_⟩
  · exact(Po rfl (AY rfl CB .m1 (AS.id Order.fl.len Order.fl.one) rfl) rfl rfl (Po rfl (AG rfl A5 .m2 ((AM.l1.comp (AS.arr (n:=4) A3.fl hk.1 hk.2)).comp A3.l1) rfl rfl) rfl rfl (Po rfl (Aj IV rfl) rfl rfl (Po rfl (BV rfl) rfl rfl (Po rfl (AD rfl) rfl rfl (Po rfl (AY rfl Ba .m2 AM.l0 rfl) rfl rfl (Po rfl (Aj ET rfl) rfl rfl (Po rfl (BV rfl) rfl rfl (Po rfl (AD rfl) rfl rfl Ar)))))))))
  refine Af 9 rfl (by kernel_rfl) ?_
  refine BJ rfl ZK (.c rfl (.c rfl (.c rfl .n))) .n (Gb V.w (V.As.at k).A0 (Words.parse u).1 hF.F5.IP (by have:=hps.2.1;omega) (by have:=hps.1;omega)) (fun w hS=>⟨gl1.pull gm1 hS .n,gl2.pull gm2 hS .n,gl3.pull gm3 hS .n⟩) (fun v20 B hv=>?_)
  obtain⟨y21,rfl,y22,rfl⟩:=hv
  refine Bf rfl ⟨?_,?_⟩
  · exact(Pk (Pk (Pk (Pk (Pk (Pk (Pk (Pk (Pk Ar)))))))))
  refine Pf 10 rfl (AD rfl) (Pf 11 rfl (AL rfl rfl) (Pf 12 rfl (AL rfl rfl) (Pf 13 rfl (AL rfl rfl) ?_)))
  refine Af 15 rfl (by kernel_rfl) ?_
  refine AU (AK (AS.id AI.fl.len AI.fl.one) rfl rfl rfl EF rfl (.t .h)) ?_
  refine BN rfl ⟨?_,?_⟩
  · exact(Po rfl (AL rfl rfl) rfl rfl (Po rfl (AL rfl rfl) rfl rfl (Pk (Pk (Pk (Pk (Pk (Pk (Pk (Pk (Pk (Pk (Pk Ar)))))))))))))
  refine Pf 16 rfl (A2 rfl) (Pf 17 rfl (A2 rfl) ?_)
  refine A1 (by kernel_rfl) ?_
  refine AB (.t3 0 8 9) ?_
  refine AA (Gs (Gm rfl (Gt (AY rfl Ba .m1 (AS.id AI.fl.len AI.fl.one) rfl) (Gt (BV rfl) (Gt (Aj ET rfl) ?_)))))
  refine AU (AK AM.l0 rfl rfl rfl EF rfl (.t (.t (.t .h)))) ?_
  refine Gn (.t2 0 9) (AJ (Gm rfl (Gm rfl ?_)))
  refine BJ rfl Vj (.c rfl (.c rfl .n)) (.c (.t (.t (.t .h))) (.c (.t (.t (.t .h))) (.c (.t (.t (.t .h))) (.c .h .n)))) (E4 _ { V with w:=(AF.EH V.w (V.As.at k).A0 (Words.parse u).1).1 } ls ev _ (AF.EH V.w (V.As.at k).A0 (Words.parse u).1).2.1 n (by assumption) htn (by omega) (Nat.le_trans hF.last (by omega)) (fun e he c _=>hds.2 e he)) (fun w hS=>⟨gl0.pull gm0 hS (.c (.t (.t (.t .h))) (.c (.t (.t (.t .h))) (.c (.t (.t (.t .h))) (.c .h .n)))),gl1.pull gm1 hS (.c (.t (.t (.t .h))) (.c (.t (.t (.t .h))) (.c (.t (.t (.t .h))) (.c .h .n))))⟩) (fun v24 B hv=>?_)
  obtain⟨y25,y26,y27,rfl,y28,rfl⟩:=hv
  refine AQ ?_
  refine Bn rfl .n ?_
  intro w1 hS
  have hS:=(hS.perm (Ay.perm (.c .h (.c .h (.c .h .n))))).A4
  refine⟨_,⟨y25,y26,y27,rfl,?ga4,rfl⟩,hS⟩
  case ga4=>exact UK hk.1 hk.2 c1 c2 y28
theorem Qb (b:Nat)(V:AM)(ls:Vector BK 4)(ev:List Ing.Event)(k:Int)(n m:Nat)(hk:0≤k∧k < 4)(hF:AH.Fit (A7 V ls ev) n m)(hn:n≤900000)(hm:m≤900000):Fa Tryz.prog 77 #[.pointer (some ⟨b,0,none⟩), .pointer (some ⟨b,165+k.toNat * 22,none⟩)] [Ad.box b 101 (AM.enc V),Ad.Da (CL 9 (AM.As V) ls),Ad.own (AM.last V) 56 16 ((ev).flatMap Ing.Event.enc)] (fun w=>(GV 2 Fy w∧2 ∉ Cj [Ad.box b 101 (AM.enc V),Ad.Da (CL 9 (AM.As V) ls),Ad.own (AM.last V) 56 16 ((ev).flatMap Ing.Event.enc)])∧(GV 0 AI.DP w∧0 ∉ Cj [Ad.box b 101 (AM.enc V),Ad.Da (CL 9 (AM.As V) ls),Ad.own (AM.last V) 56 16 ((ev).flatMap Ing.Event.enc)])∧(G3 7 w∧7 ∉ Cj [Ad.box b 101 (AM.enc V),Ad.Da (CL 9 (AM.As V) ls),Ad.own (AM.last V) 56 16 ((ev).flatMap Ing.Event.enc)])∧(G3 8 w∧8 ∉ Cj [Ad.box b 101 (AM.enc V),Ad.Da (CL 9 (AM.As V) ls),Ad.own (AM.last V) 56 16 ((ev).flatMap Ing.Event.enc)])) (fun v B=>∃ V' ls' ev',v = .tuple #[]∧A7 V' ls' ev'=AH.Ea (A7 V ls ev) k∧B = [Ad.box b 101 (AM.enc V'),Ad.Da (CL 9 (AM.As V') ls'),Ad.own (AM.last V') 56 16 ((ev').flatMap Ing.Event.enc)]):=by
 intro w hS0 hH
 obtain⟨⟨gl0,gm0⟩,⟨gl1,gm1⟩,⟨gl2,gm2⟩,⟨gl3,gm3⟩⟩:=hH
 refine Am _ _ Tryz.func77 rfl rfl rfl (hS0) ?_
 refine CD (Gm rfl (Gt (BV rfl) (Gt (Aj Ja rfl) (Gt (AG rfl A5 .m0 ((AM.l1.comp (AS.arr (n:=4) A3.fl hk.1 hk.2)).comp A3.l0) rfl rfl) (Gt (Ak rfl rfl) (Gn (.t3 0 1 11) ?_))))))
 refine Gc (fun c1=>?_) (fun c1=>?_)
 ·
  refine Ac (AE ?_)
  refine AZ rfl .n ?_
  intro w1 hS
  have hS:=(hS.perm (Ay.perm (.c .h (.c .h (.c .h .n))))).A4
  exact⟨_,⟨V,ls,ev,rfl,WR hk.1 hk.2 c1,rfl⟩,hS⟩
 have c1p:=kz c1
 refine Aa ?_
 refine AB (.t2 0 1) ?_
 refine AA (Gs (Ga rfl (Gn (.t2 0 1) (Gs (Ga rfl (Gn (.t2 0 1) (Aq ?_)))))))
 refine Aq ?_
 refine FG (k:=k) hk.1 hk.2 (fun sv sl hsv hlv hln=>?_)
 refine AJ (Gm rfl (Gm rfl (Gt (BV rfl) (Gt (Aj LI rfl) (Gt (AY rfl GH .m3 ((AS.BB V hk.1 hk.2).comp A3.l3) rfl) ?_)))))
 refine BJ rfl dP (.c rfl .n) .n (Np _ _ (by have h:=(Vc hF hk.1 hk.2).1;rw [hlv] at h;omega)) (fun w hS=>⟨(Kn.own .m0) w hS,(VB.own .m0) w hS⟩) (fun v1 B hv=>?_)
 rcases hv with ⟨y2,rfl,rfl⟩ | ⟨y3,y4,y5,y6,rfl,y7,rfl⟩
 ·
  refine Gm rfl (Gt (AL rfl rfl) (Gt (AL rfl rfl) (Gt (AL rfl rfl) (Gt (BV rfl) (Gt (Aj LI rfl) ?_)))))
  refine AU (AK ((AS.BB V hk.1 hk.2).comp A3.l3) rfl rfl rfl LM rfl (.t (.t (.t .h)))) ?_
  refine Ga rfl (Ga rfl (Gn (.t4 0 1 4 5) (Gs (Gm rfl (Gt (BR rfl) (Gn (.t4 0 1 4 25) ?_))))))
  refine HF rfl rfl ?_
  refine Ac (AE ?_)
  refine AZ rfl .n ?_
  intro w1 hS
  have hS:=(hS.perm (Ay.perm (.c .h (.c .h (.c .h (.c .h (.c .h (.c .h .n)))))))).A4
  have hS:=hS.close' hk.1 hk.2 (by rfl) (by rfl) (by rfl)
  refine⟨_,⟨V.BB k sv,ls.put k ⟨sl.queue,sl.wait,sl.told⟩,ev,rfl,?ga2,rfl⟩,hS⟩
  case ga2=>exact Vh hk.1 hk.2 hsv hlv y2 c1
 refine Gm rfl (Gt (AL rfl rfl) (Gt (AL rfl rfl) (Gt (AL rfl rfl) (Gt (BV rfl) (Gt (Aj LI rfl) ?_)))))
 refine AU (AK ((AS.BB V hk.1 hk.2).comp A3.l3) rfl rfl rfl LM rfl (.t (.t (.t (.t .h))))) ?_
 refine Ga rfl (Ga rfl (Gn (.t4 0 1 4 5) (Gs (Gm rfl (Gt (BR rfl) (Gn (.t4 0 1 4 25) ?_))))))
 refine DU rfl rfl ?_
 refine Aa ?_
 refine AB (.t3 0 1 4) ?_
 refine AA (Gs (Gm rfl (Gt (BV rfl) (Gt (Aj Dy rfl) (Gt (Aj Mm rfl) (Gt (AG rfl DO .m4 (((AS.BB V hk.1 hk.2).comp A3.l4).comp Ap.l2) rfl rfl) (Ga rfl ?_)))))))
 refine Gn (.t4 0 1 4 6) (Gs (Gm rfl (Gm rfl (Gt (BV rfl) (Gt (Aj Dy rfl) (Gt (AY rfl Co .m4 ((AS.BB V hk.1 hk.2).comp A3.l4) rfl) ?_))))))
 refine BD rfl dX (.c rfl .n) (fun w hS=>NN _ w) ?_
 refine Gt (BV rfl) (Gt (Aj Dy rfl) ?_)
 refine AU (AK ((AS.BB V hk.1 hk.2).comp A3.l4) rfl rfl rfl FH rfl (.t (.t (.t (.t .h))))) ?_
 refine Gn (.t4 0 1 4 6) (Ag (Aq ?_))
 refine EN (.c .h (.c (.t .h) (.c (.t .h) (.c (.t .h) (.c (.t .h) .n))))) ?_
 refine HH hk.1 hk.2 (by rfl) (by rfl) (by rfl) ?_
 refine AJ (Gm rfl (Ga rfl (Gn (.t4 0 1 4 43) ?_)))
 refine Gc (fun c2=>?_) (fun c2=>?_)
 ·
  refine Aa ?_
  refine AB (.nil _) ?_
  refine AV ?_
  refine Bn rfl .n ?_
  intro w1 hS
  have hS:=(hS.perm (Ay.perm (.c .h (.c .h (.c (.t .h) .n))))).A4
  exact⟨_,⟨(AM.BB V k { sv with D4:=⟨sv.D4.now,sv.D4.Ci,sv.D4.ret,y6⟩,out:=⟨sv.out.wait,0,false,sv.out.ring,sv.out.cut⟩ }),(ls.put k ⟨y4,sl.wait,sl.told⟩),ev,rfl,(Dq (ev:=ev) hk.1 hk.2 hsv hlv y5 c1 y6).1.trans ((Dq (ev:=ev) hk.1 hk.2 hsv hlv y5 c1 y6).2.2.trans (if_pos c2)).symm,rfl⟩,hS⟩
 have c2p:=kz c2
 refine Gs (Gm rfl (Gt (BV rfl) (Gt (Aj Ja rfl) (Gt (AG rfl A5 .m0 ((AM.l1.comp (AS.arr (n:=4) A3.fl hk.1 hk.2)).comp A3.l0) rfl rfl) (Gt (Ak rfl rfl) (Ga rfl (Gn (.t4 0 1 4 45) ?_)))))))
 refine Gc (fun c3=>?_) (fun c3=>?_)
 ·
  have c3p:=kz c3
  refine AJ (Gm rfl (Gm rfl (Gm rfl ?_)))
  refine BD rfl bk (.c rfl (.c rfl .n)) (fun w hS=>IK y3 (by have h:y3.length≤1000:=(by have h:=(hF.queue k hk.1 hk.2).2 y3 (by rw [(Dq (ev:=ev) hk.1 hk.2 hsv hlv y5 c1 y6).2.1];exact List.mem_cons_self ..);omega);omega) w) ?_
  refine BJ rfl dy (.c rfl (.c rfl (.c rfl .n))) (.c .h (.c .h (.c (.t .h) .n))) (RV _ (AM.BB V k { sv with D4:=⟨sv.D4.now,sv.D4.Ci,sv.D4.ret,y6⟩,out:=⟨sv.out.wait,0,false,sv.out.ring,sv.out.cut⟩ }) (ls.put k ⟨y4,sl.wait,sl.told⟩) ev k _ n m hk (by rw [(Dq (ev:=ev) hk.1 hk.2 hsv hlv y5 c1 y6).1];exact hF.F7 hk.1 hk.2 (Dq (ev:=ev) hk.1 hk.2 hsv hlv y5 c1 y6).2.1) hn hm (by have h:y3.length≤1000:=(by have h:=(hF.queue k hk.1 hk.2).2 y3 (by rw [(Dq (ev:=ev) hk.1 hk.2 hsv hlv y5 c1 y6).2.1];exact List.mem_cons_self ..);omega);have h1:=Words.Lv 32 (Words.Sb 32 y3);have h2:=Words.RP 32 y3;omega)) (fun w hS=>⟨gl0.pull gm0 hS (.c .h (.c .h (.c (.t .h) .n))),gl1.pull gm1 hS (.c .h (.c .h (.c (.t .h) .n)))⟩) (fun v9 B hv=>?_)
  obtain⟨y10,y11,y12,rfl,y13,rfl⟩:=hv
  refine AQ (AB (.nil _) ?_)
  refine AV ?_
  refine Bn rfl .n ?_
  intro w1 hS
  have hS:=(hS.perm (Ay.perm (.c .h (.c .h (.c .h .n))))).A4
  have c9:decide (sv.state=1)=true:=by
    have h:=c3
    rw [show(AM.As (AM.BB V k { sv with D4:=⟨sv.D4.now,sv.D4.Ci,sv.D4.ret,y6⟩,out:=⟨sv.out.wait,0,false,sv.out.ring,sv.out.cut⟩ })).at k=_ from Vector.CG hk.1 hk.2] at h
    exact h
  refine⟨_,⟨y10,y11,y12,rfl,?ga4,rfl⟩,hS⟩
  case ga4=>exact y13.trans ((congrArg (fun X=>AH.named X k _) (Dq (ev:=ev) hk.1 hk.2 hsv hlv y5 c1 y6).1).trans ((Dq (ev:=ev) hk.1 hk.2 hsv hlv y5 c1 y6).2.2.trans ((AX c2).trans (BF c9))).symm)
 have c3p:=kz c3
 refine AJ (Gm rfl (Gm rfl (Gm rfl ?_)))
 refine BJ rfl dz (.c rfl (.c rfl (.c rfl .n))) (.c .h (.c .h (.c (.t .h) .n))) (PZ _ (AM.BB V k { sv with D4:=⟨sv.D4.now,sv.D4.Ci,sv.D4.ret,y6⟩,out:=⟨sv.out.wait,0,false,sv.out.ring,sv.out.cut⟩ }) (ls.put k ⟨y4,sl.wait,sl.told⟩) ev k _ n m hk (by rw [(Dq (ev:=ev) hk.1 hk.2 hsv hlv y5 c1 y6).1];exact hF.F7 hk.1 hk.2 (Dq (ev:=ev) hk.1 hk.2 hsv hlv y5 c1 y6).2.1) hn hm (by have h:=(hF.queue k hk.1 hk.2).2 y3 (by rw [(Dq (ev:=ev) hk.1 hk.2 hsv hlv y5 c1 y6).2.1];exact List.mem_cons_self ..);omega)) (fun w hS=>⟨gl0.pull gm0 hS (.c .h (.c .h (.c (.t .h) .n))),gl1.pull gm1 hS (.c .h (.c .h (.c (.t .h) .n))),gl2.pull gm2 hS (.c .h (.c .h (.c (.t .h) .n))),gl3.pull gm3 hS (.c .h (.c .h (.c (.t .h) .n)))⟩) (fun v14 B hv=>?_)
 obtain⟨y15,y16,y17,rfl,y18,rfl⟩:=hv
 refine AQ (AB (.nil _) ?_)
 refine AV ?_
 refine Bn rfl .n ?_
 intro w1 hS
 have hS:=(hS.perm (Ay.perm (.c .h (.c .h (.c .h .n))))).A4
 have c9:decide (sv.state=1)=false:=by
   have h:=c3
   rw [show(AM.As (AM.BB V k { sv with D4:=⟨sv.D4.now,sv.D4.Ci,sv.D4.ret,y6⟩,out:=⟨sv.out.wait,0,false,sv.out.ring,sv.out.cut⟩ })).at k=_ from Vector.CG hk.1 hk.2] at h
   exact h
 refine⟨_,⟨y15,y16,y17,rfl,?ga5,rfl⟩,hS⟩
 case ga5=>exact y18.trans ((congrArg (fun X=>AH.order X k _) (Dq (ev:=ev) hk.1 hk.2 hsv hlv y5 c1 y6).1).trans ((Dq (ev:=ev) hk.1 hk.2 hsv hlv y5 c1 y6).2.2.trans ((AX c2).trans (AX c9))).symm)
theorem O1 (X:AI)(b:Int)(hF:(AF.Fb X b).Fit):Fa Tryz.prog 97 #[.agg X.enc.toArray, .int .i64 b] [] (fun w=>(GV 0 AI.DP w∧0 ∉ Cj [])) (fun v B=>∃ h:Hd,v = .tuple #[.agg ((AF.H2 X b).w.enc).toArray,h.val]∧h.len=(AF.H2 X b).out.length∧B = [Ad.own h 56 16 ((AF.H2 X b).out.flatMap Ing.Event.enc)]):=by
 intro w hS0 hH
 obtain⟨gl0,gm0⟩:=hH
 have hb:0≤b∧b < 6:=hF.b
 refine Am _ _ Tryz.func97 rfl rfl rfl (hS0) ?_
 refine Gs ?_
 refine B0 rfl rfl rfl (fun b1=>?_)
 refine BG rfl NQ rfl (fun b2=>?_)
 refine Ga rfl (Gn (.t3 1 2 4) (Gs (Gt (AY rfl Ba .m1 (AS.id AI.fl.len AI.fl.one) rfl) (Gm rfl (Gt (BH UM US rfl (.cons Ae.l0 rfl rfl rfl (.cons Ae.l1 rfl rfl rfl .nil))) ?_)))))
 refine B0 rfl rfl rfl (fun b3=>?_)
 refine Ga rfl (Gn (.t3 1 4 6) (Gs (Gm rfl (Gm rfl (Gt (BV rfl) (Gt (Aj BC rfl) (Gt (Aj Br rfl) ?_)))))))
 refine Gt (AN C8 rfl rfl (by first | omega | exact hb.1 | exact hb.2 | (dsimp only;omega)) (by first | omega | exact hb.1 | exact hb.2 | (dsimp only;omega))) ?_
 refine Gt (Aj Js rfl) ?_
 refine AU (AK (((Ae.l0.comp AI.l2).comp (AS.ar (n:=6) An.fl (by first | omega | exact hb | (dsimp only;omega)))).comp An.l4) rfl rfl rfl DD rfl .h) ?_
 refine Gn (.t3 1 4 6) (Gs (Gm rfl ?_))
 refine Dg Ing.Event.enc 56 16 ?_
 refine Ah rfl Uk (.c rfl (.c rfl .n)) (.c (.t .h) (.c .h .n)) (Ge _ (AF.Fb X b) _ 15 rfl hb (Nat.zero_le _)) (fun v2 B hv=>?_)
 obtain⟨y3,rfl,y4,rfl⟩:=hv
 refine Gn (.t3 1 4 6) (Gs (Gm rfl ?_))
 refine Ah rfl Zg (.c rfl .n) (.c .h .n) (L9 _ ((AF.Fb X b).kind 15) _ (hF.Ep rfl rfl)) (fun v5 B hv=>?_)
 obtain⟨y6,y7,rfl,rfl⟩:=hv
 refine Gn (.t3 1 4 6) (CD (Gm rfl (Gt (BA rfl rfl) (Gn (.t4 1 4 6 24) ?_))))
 refine Gc (fun c1=>?_) (fun c1=>?_)
 ·
  have c1p:=kz c1
  refine Gs (Gm rfl (Gm rfl (Gt (BH W7 L5 rfl .nil) (Gt (BV rfl) (Gt (Aj BC rfl) (Gt (Aj Br rfl) ?_))))))
  refine Gt (AN C8 rfl rfl (by first | omega | exact hb.1 | exact hb.2 | (dsimp only;omega)) (by first | omega | exact hb.1 | exact hb.2 | (dsimp only;omega))) ?_
  refine AU (AK ((Ae.l0.comp AI.l2).comp (AS.ar (n:=6) An.fl (by first | omega | exact hb | (dsimp only;omega)))) rfl rfl rfl Ko rfl .h) ?_
  refine Gn (.t2 4 6) (Aq ?_)
  refine BE (N:=10) [0,1,3,7,0,16,48,112,15,511] mix (by kernel_rfl) rfl ?_
  refine Pf 0 rfl (AD rfl) (Pf 1 rfl (BV rfl) (Pf 2 rfl (Aj BC rfl) (Pf 3 rfl (AY rfl Ba .m0 Ae.l0 rfl) (Pf 4 rfl (AD rfl) (Pf 5 rfl (BV rfl) (Pf 6 rfl (Aj CO rfl) (Pf 7 rfl (AG rfl Dw .m0 Ae.l2 rfl rfl) ?_)))))))
  refine Af 8 rfl (by kernel_rfl) ?_
  refine AU (AK (AS.id AI.fl.len AI.fl.one) rfl rfl rfl EF rfl (.t (.t .h))) ?_
  refine BN rfl ⟨?_,?_⟩
  · exact(Po rfl (AG rfl Dw .m0 Ae.l2 rfl rfl) rfl rfl (Po rfl (Aj CO rfl) rfl rfl (Po rfl (BV rfl) rfl rfl (Po rfl (AD rfl) rfl rfl (Pk (Pk (Pk (Pk Ar))))))))
  refine Pf 9 rfl (A2 rfl) ?_
  refine A1 (by kernel_rfl) ?_
  refine AB (.t2 4 5) ?_
  refine AA (Ac (AE ?_))
  refine AZ rfl (.cell rfl .m2 (.inl ⟨(by rw [AI.fl.len];exact Ba),rfl⟩) (.tmp rfl .n)) ?_
  intro w1 hS
  have hS:=(hS.perm (Ay.perm (.c (.t .h) .n))).A4
  have hq:AF.H2 X b=_:=BF c1
  rw [AF.Un y7] at hq
  refine⟨_,⟨y3,?hv,?hl,?hB⟩,hS⟩
  case hv=>rw [hq];rfl
  case hl=>rw [hq];exact y4
  case hB=>rw [hq]
 have c1p:=kz c1
 refine Aa ?_
 refine AB (.t3 1 4 6) ?_
 refine AA (Gs (Gm rfl (Gm rfl (Gt (BV rfl) (Gt (Aj BC rfl) (Gt (Aj Br rfl) ?_))))))
 refine Gt (AN C8 rfl rfl (by first | omega | exact hb.1 | exact hb.2 | (dsimp only;omega)) (by first | omega | exact hb.1 | exact hb.2 | (dsimp only;omega))) ?_
 refine Ga rfl (Gn (.t3 4 6 7) (Gs (Gm rfl (Gm rfl (Gt (BV rfl) (Gt (Aj C6 rfl) ?_))))))
 refine AU (AK (((Ae.l0.comp AI.l2).comp (AS.ar (n:=6) An.fl (by first | omega | exact hb | (dsimp only;omega)))).comp An.l3) rfl rfl rfl DD rfl .h) ?_
 refine Gt (BV rfl) (Gt (Aj Js rfl) ?_)
 refine AU (AK (((Ae.l0.comp AI.l2).comp (AS.ar (n:=6) An.fl (by first | omega | exact hb | (dsimp only;omega)))).comp An.l4) rfl rfl rfl DD rfl .h) ?_
 refine Gn (.t2 4 6) (Aq ?_)
 refine GK (fun _=> .h) (congrArg (fun q=>Ae.enc ⟨q,b,y3⟩) (AF.Y4 y6 hb)) ?_
 have hT2:=AF.Ym y7
 have hf2:=AF.Rx hF
 rw [hT2] at hf2
 refine AJ (Gm rfl ?_)
 refine Ah rfl Uk (.c rfl (.c rfl .n)) (.c .h (.c .h .n)) (Ge _ (⟨y6.C4 b { y6.AO.at b with room:=0,BM:=10 },b,((AF.Fb X b).kind 15).out⟩:AF) _ 17 y4 hb (by decide:(0:Nat)+1≤100000)) (fun v8 B hv=>?_)
 obtain⟨y9,rfl,y10,rfl⟩:=hv
 refine Gn (.t2 4 6) (Gs (Gm rfl ?_))
 refine BJ rfl Ux (.c rfl .n) (.c .h (.c .h .n)) (HQ _ ((⟨y6.C4 b { y6.AO.at b with room:=0,BM:=10 },b,((AF.Fb X b).kind 15).out⟩:AF).kind 17) _ y10 hb hf2.br (by decide:(0:Nat)+1+1≤90000)) (fun w hS=>gl0.pull gm0 hS (.c .h (.c .h .n))) (fun v11 B hv=>?_)
 obtain⟨y12,rfl,y13,rfl⟩:=hv
 refine Gn (.t2 4 6) (Aq ?_)
 refine BE (N:=10) [0,1,3,7,0,16,48,112,15,511] mix (by kernel_rfl) rfl ?_
 refine Pf 0 rfl (AD rfl) (Pf 1 rfl (BV rfl) (Pf 2 rfl (Aj BC rfl) (Pf 3 rfl (AY rfl Ba .m0 Ae.l0 rfl) (Pf 4 rfl (AD rfl) (Pf 5 rfl (BV rfl) (Pf 6 rfl (Aj CO rfl) (Pf 7 rfl (AG rfl Dw .m0 Ae.l2 rfl rfl) ?_)))))))
 refine Af 8 rfl (by kernel_rfl) ?_
 refine AU (AK (AS.id AI.fl.len AI.fl.one) rfl rfl rfl EF rfl (.t (.t .h))) ?_
 refine BN rfl ⟨?_,?_⟩
 · exact(Po rfl (AG rfl Dw .m0 Ae.l2 rfl rfl) rfl rfl (Po rfl (Aj CO rfl) rfl rfl (Po rfl (BV rfl) rfl rfl (Po rfl (AD rfl) rfl rfl (Pk (Pk (Pk (Pk Ar))))))))
 refine Pf 9 rfl (A2 rfl) ?_
 refine A1 (by kernel_rfl) ?_
 refine AB (.t2 4 5) ?_
 refine AA (Ac ?_)
 refine AZ rfl (.cell rfl .m2 (.inl ⟨(by rw [AI.fl.len];exact Ba),rfl⟩) (.tmp rfl .n)) ?_
 intro w1 hS
 have hS:=(hS.perm (Ay.perm (.c (.t .h) .n))).A4
 have hq:AF.H2 X b=_:=AX c1
 rw [hT2] at hq
 refine⟨_,⟨y12,?hv,?hl,?hB⟩,hS⟩
 case hv=>rw [hq];rfl
 case hl=>rw [hq];exact y13
 case hB=>rw [hq]
end Go.Proofs.YtoidpggbbfncpaaGreatDoor

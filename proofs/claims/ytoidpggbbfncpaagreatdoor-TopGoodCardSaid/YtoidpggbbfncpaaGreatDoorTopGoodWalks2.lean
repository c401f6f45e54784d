/- What the functions that the law TopGood reaches compute: walks, part 2. No condition. -/
import Derived.Test.YtoidpggbbfncpaaGreatDoorCards
import Derived.Test.YtoidpggbbfncpaaGreatDoorTie
import Derived.Deep.DeepHandedRow
import Derived.Test.YtoidpggbbfncpaaGreatDoorRows
import Derived.Test.YtoidpggbbfncpaaGreatDoorTopGoodEc3
import Derived.Test.YtoidpggbbfncpaaGreatDoorTopGoodRa1
import Derived.Test.YtoidpggbbfncpaaGreatDoorTopGoodRb1
import Derived.Test.YtoidpggbbfncpaaGreatDoorTopGoodRc1
import Derived.Test.YtoidpggbbfncpaaGreatDoorTopGoodWalks
set_option linter.unusedSimpArgs false
set_option linter.unusedVariables false
set_option maxRecDepth 100000
set_option maxHeartbeats 1000000
namespace Go.Proofs.YtoidpggbbfncpaaGreatDoor
open Go Go.Ing Go.RowKit Go.ChangeShapes Go.WideShapes Go.ChangeAt
theorem CO (b:Nat)(T:AF)(g:Hd)(e:Ing.Event)(hg:g.len=T.out.length)(hb:0≤T.b∧T.b < 6)(ho:e.other < 6)(hn:T.out.length≤100000):JO Tryz.prog 96 #[.pointer (some ⟨b,0,none⟩), .agg e.enc.toArray] [Ac.box b 163 (Ad.enc ⟨T.w,T.b,g⟩),Ac.own g 56 16 (T.out.flatMap Ing.Event.enc)] (fun v B=>∃ g':Hd,v = .tuple #[]∧g'.len=(T.BP e).out.length∧B = [Ac.box b 163 (Ad.enc ⟨(T.BP e).w,(T.BP e).b,g'⟩),Ac.own g' 56 16 ((T.BP e).out.flatMap Ing.Event.enc)]):=by
 intro w hS0
 refine Ak _ _ Tryz.func96 rfl rfl rfl (hS0) ?_
 refine Gs ?_
 refine B5 rfl rfl rfl (fun b1=>?_)
 refine Gn (.t2 0 3) (Ap ?_)
 refine BE (N:=12) [0,0,2,6,14,1,33,97,255,511,0,2047] mix (by kernel_rfl) rfl ?_
 refine Pf 0 rfl (AE rfl) (Pf 1 rfl (AE rfl) (Pf 2 rfl (BV rfl) (Pf 3 rfl (Ah CR rfl) (Pf 4 rfl (AG rfl A5 .m1 Ad.l1 rfl rfl) (Pf 5 rfl (BV rfl) (Pf 6 rfl (Ah A9 rfl) (Pf 7 rfl (Ah Bi rfl) ?_)))))))
 refine Pf 8 rfl (AQ Cs rfl rfl (by(try dsimp only at *);omega) (by(try dsimp only at *);omega)) ?_
 refine Pf 9 rfl (AY rfl Fl .m1 ((Ad.l0.comp AH.l2).comp (AU.arr (n:=6) Ag.fl (by(try dsimp only at *);omega) (by(try dsimp only at *);omega))) rfl) ?_
 refine An 10 rfl (by kernel_rfl) ?_
 refine BD rfl Lx rfl (fun b2=>?_)
 refine Bp rfl ⟨?_,?_⟩
 · exact(Po rfl (AY rfl Fl .m2 ((Ad.l0.comp AH.l2).comp (AU.arr (n:=6) Ag.fl (by(try dsimp only at *);omega) (by(try dsimp only at *);omega))) rfl) rfl rfl (Po rfl (AQ Cs rfl rfl (by(try dsimp only at *);omega) (by(try dsimp only at *);omega)) rfl rfl (Po rfl (Ah Bi rfl) rfl rfl (Po rfl (Ah A9 rfl) rfl rfl (Po rfl (BV rfl) rfl rfl (Po rfl (AG rfl A5 .m2 Ad.l1 rfl rfl) rfl rfl (Po rfl (Ah CR rfl) rfl rfl (Po rfl (BV rfl) rfl rfl (Po rfl (AE rfl) rfl rfl (Po rfl (AE rfl) rfl rfl Ar))))))))))
 refine An 11 rfl (by kernel_rfl) ?_
 refine AS (AK (AU.id Ag.fl.len Ag.fl.one) rfl rfl rfl KX rfl .h) ?_
 refine BO rfl ⟨?_,?_⟩
 · exact(Pk (Pk (Pk (Pk (Pk (Pk (Pk (Pk (Pk (Pk Ar))))))))))
 refine A4 (by kernel_rfl) ?_
 refine AB (.t3 0 3 4) ?_
 refine AA (Ap ?_)
 refine BE (N:=14) [0,1,3,7,0,16,0,64,15,271,831,1855,4095,8191] mix (by kernel_rfl) rfl ?_
 refine Pf 0 rfl (AE rfl) (Pf 1 rfl (BV rfl) (Pf 2 rfl (Ah CR rfl) (Pf 3 rfl (AG rfl A5 .m2 Ad.l1 rfl rfl) (Pf 4 rfl (Ah IB rfl) (Pf 5 rfl (AG rfl CP .m0 Ag.l0 rfl rfl) (Pf 6 rfl (Ah C2 rfl) (Pf 7 rfl (AG rfl A5 .m0 Ag.l3 rfl rfl) ?_)))))))
 refine Pf 8 rfl (Ah Qg rfl) ?_
 refine An 9 rfl (by kernel_rfl) ?_
 refine AS (AK Ing.Event.l2 rfl rfl rfl DB rfl (.t .h)) ?_
 refine BO rfl ⟨?_,?_⟩
 · exact(Pk (Po rfl (AG rfl A5 .m0 Ag.l3 rfl rfl) rfl rfl (Po rfl (Ah C2 rfl) rfl rfl (Po rfl (AG rfl CP .m0 Ag.l0 rfl rfl) rfl rfl (Po rfl (Ah IB rfl) rfl rfl (Pk (Pk (Pk (Pk Ar)))))))))
 refine Pf 10 rfl (Ah XI rfl) ?_
 refine An 11 rfl (by kernel_rfl) ?_
 refine AS (AK Ing.Event.l6 rfl rfl rfl Em rfl (.t .h)) ?_
 refine BO rfl ⟨?_,?_⟩
 · exact(Pk (Pk (Po rfl (AG rfl A5 .m0 Ag.l3 rfl rfl) rfl rfl (Po rfl (Ah C2 rfl) rfl rfl (Pk (Pk (Pk (Pk (Pk (Pk Ar))))))))))
 refine Pf 12 rfl (Ah WL rfl) ?_
 refine An 13 rfl (by kernel_rfl) ?_
 refine AS (AK Ing.Event.l1 rfl rfl rfl DB rfl (.t .h)) ?_
 refine BO rfl ⟨?_,?_⟩
 · exact(Pk (Pk (Pk (Pk (Pk (Pk (Pk (Pk (Pk (Pk (Pk Ar)))))))))))
 refine A4 (by kernel_rfl) ?_
 refine AB (.t2 0 3) ?_
 refine AA (CB (Gt (Ah Gx rfl) (Gt (AG rfl A5 .m1 Ing.Event.l3 rfl rfl) (Gt (CI rfl rfl) (Gn (.t3 0 3 28) ?_)))))
 refine Gc (fun c1=>?_) (fun c1=>?_)
 ·
  have c1p:=kz c1
  refine BE (N:=11) [0,0,2,1,9,25,63,127,255,511,1023] mix (by kernel_rfl) rfl ?_
  refine Pf 0 rfl (AE rfl) (Pf 1 rfl (Ah Gx rfl) (Pf 2 rfl (AG rfl A5 .m1 Ing.Event.l3 rfl rfl) (Pf 3 rfl (BV rfl) (Pf 4 rfl (Ah A9 rfl) (Pf 5 rfl (Ah Bi rfl) ?_)))))
  refine Pf 6 rfl (AQ Cs rfl rfl (by(try dsimp only at *);omega) (by(try dsimp only at *);omega)) ?_
  refine Pf 7 rfl (Ah IB rfl) ?_
  refine Pf 8 rfl (AG rfl CP .m2 (((Ad.l0.comp AH.l2).comp (AU.arr (n:=6) Ag.fl (by(try dsimp only at *);omega) (by(try dsimp only at *);omega))).comp Ag.l0) rfl rfl) ?_
  refine Pf 9 rfl (Ah WB rfl) ?_
  refine An 10 rfl (by kernel_rfl) ?_
  refine AS (AK Ing.Event.l7 rfl rfl rfl Em rfl (.t .h)) ?_
  refine BO rfl ⟨?_,?_⟩
  · exact(Pk (Pk (Pk (Pk (Pk (Pk (Pk (Pk (Pk (Pk Ar))))))))))
  refine A4 (by kernel_rfl) ?_
  refine AB (.t2 0 3) ?_
  refine AA ?_
  refine BE (N:=16) [0,0,2,6,14,0,32,96,224,0,992,2016,4094,8191,16383,32767] mix (by kernel_rfl) rfl ?_
  refine Pf 0 rfl (AE rfl) (Pf 1 rfl (AE rfl) (Pf 2 rfl (BV rfl) (Pf 3 rfl (Ah CK rfl) (Pf 4 rfl (AG rfl Dl .m2 Ad.l2 rfl rfl) (Pf 5 rfl (AE rfl) (Pf 6 rfl (BV rfl) (Pf 7 rfl (Ah A9 rfl) ?_)))))))
  refine Pf 8 rfl (AY rfl BW .m2 Ad.l0 rfl) (Pf 9 rfl (AY rfl PA .m1 (AU.id Ing.Event.fl.len Ing.Event.fl.one) rfl) ?_)
  refine BN 10 rfl rfl (by kernel_rfl) (Lj (K4 (D7 ZC (.c rfl (.c rfl .n)) (fun w hS=>Jt _ _ w)))) ?_
  refine An 11 rfl (by kernel_rfl) ?_
  refine Fv Ing.Event.enc Ing.Event.fl rfl Tryz.underlying53 Nl IU rfl (by decide) (by decide) rfl rfl (fun b3=>?_)
  refine Bp rfl ⟨?_,?_⟩
  · exact(Pk (Pk (Pk (Pk (Pk (Pk (Po rfl (AG rfl Dl .m3 Ad.l2 rfl rfl) rfl rfl (Po rfl (Ah CK rfl) rfl rfl (Po rfl (BV rfl) rfl rfl (Po rfl (AE rfl) rfl rfl (Po rfl (AE rfl) rfl rfl Ar)))))))))))
  refine An 12 rfl (by kernel_rfl) ?_
  refine Cd Ing.Event.fl rfl Tryz.underlying53 Nl IU rfl WD (by decide) (by decide) rfl rfl (fun w hS=>Src.Dz Tryz.underlying53 ((Kn.own .m0) w hS)) (by(try dsimp only);omega) (fun _=>(.t (.t (.t (.t .h))))) (fun h1 h1l h1z=>?_)
  refine Bp rfl ⟨?_,?_⟩
  · exact(Pk (Pk (Pk (Pk (Pk (Pk (Pk (Pk (Pk (Pk (Po rfl (AE rfl) rfl rfl Ar)))))))))))
  refine Pf 13 rfl (BV rfl) (Pf 14 rfl (Ah CK rfl) ?_)
  refine An 15 rfl (by kernel_rfl) ?_
  refine AS (AK Ad.l2 rfl rfl rfl SX rfl (.t (.t (.t .h)))) ?_
  refine BO rfl ⟨?_,?_⟩
  · exact(Pk (Pk (Pk (Pk (Pk (Pk (Pk (Pk (Pk (Pk (Pk (Pk (Pk Ar)))))))))))))
  refine A4 (by kernel_rfl) ?_
  refine Bk rfl .n ?_
  intro w1 hS
  have hS:=(hS.perm (Ax.perm (.c (.t (.t (.t .h))) (.c (.t (.t (.t .h))) .n)))).A1
  refine⟨_,⟨?gqTrue,rfl,?hlTrue,?hBTrue⟩,hS⟩
  case hBTrue=>rw [AF.BP,show T.Dm e=_ from BB c1];rfl
  case hlTrue=>simp only [AF.Cb];(try dsimp only at *);omega
 have c1p:=kz c1
 refine Aa ?_
 refine AB (.t2 0 3) ?_
 refine AA ?_
 refine BE (N:=16) [0,0,2,6,14,0,32,96,224,0,992,2016,4094,8191,16383,32767] mix (by kernel_rfl) rfl ?_
 refine Pf 0 rfl (AE rfl) (Pf 1 rfl (AE rfl) (Pf 2 rfl (BV rfl) (Pf 3 rfl (Ah CK rfl) (Pf 4 rfl (AG rfl Dl .m2 Ad.l2 rfl rfl) (Pf 5 rfl (AE rfl) (Pf 6 rfl (BV rfl) (Pf 7 rfl (Ah A9 rfl) ?_)))))))
 refine Pf 8 rfl (AY rfl BW .m2 Ad.l0 rfl) (Pf 9 rfl (AY rfl PA .m1 (AU.id Ing.Event.fl.len Ing.Event.fl.one) rfl) ?_)
 refine BN 10 rfl rfl (by kernel_rfl) (Lj (K4 (D7 ZC (.c rfl (.c rfl .n)) (fun w hS=>Jt _ _ w)))) ?_
 refine An 11 rfl (by kernel_rfl) ?_
 refine Fv Ing.Event.enc Ing.Event.fl rfl Tryz.underlying53 Nl IU rfl (by decide) (by decide) rfl rfl (fun b4=>?_)
 refine Bp rfl ⟨?_,?_⟩
 · exact(Pk (Pk (Pk (Pk (Pk (Pk (Po rfl (AG rfl Dl .m3 Ad.l2 rfl rfl) rfl rfl (Po rfl (Ah CK rfl) rfl rfl (Po rfl (BV rfl) rfl rfl (Po rfl (AE rfl) rfl rfl (Po rfl (AE rfl) rfl rfl Ar)))))))))))
 refine An 12 rfl (by kernel_rfl) ?_
 refine Cd Ing.Event.fl rfl Tryz.underlying53 Nl IU rfl WD (by decide) (by decide) rfl rfl (fun w hS=>Src.Dz Tryz.underlying53 ((Kn.own .m0) w hS)) (by(try dsimp only);omega) (fun _=>(.t (.t (.t (.t .h))))) (fun h2 h2l h2z=>?_)
 refine Bp rfl ⟨?_,?_⟩
 · exact(Pk (Pk (Pk (Pk (Pk (Pk (Pk (Pk (Pk (Pk (Po rfl (AE rfl) rfl rfl Ar)))))))))))
 refine Pf 13 rfl (BV rfl) (Pf 14 rfl (Ah CK rfl) ?_)
 refine An 15 rfl (by kernel_rfl) ?_
 refine AS (AK Ad.l2 rfl rfl rfl SX rfl (.t (.t (.t .h)))) ?_
 refine BO rfl ⟨?_,?_⟩
 · exact(Pk (Pk (Pk (Pk (Pk (Pk (Pk (Pk (Pk (Pk (Pk (Pk (Pk Ar)))))))))))))
 refine A4 (by kernel_rfl) ?_
 refine Bk rfl .n ?_
 intro w1 hS
 have hS:=(hS.perm (Ax.perm (.c (.t (.t (.t .h))) (.c (.t (.t (.t .h))) .n)))).A1
 refine⟨_,⟨?gqFalse,rfl,?hlFalse,?hBFalse⟩,hS⟩
 case hBFalse=>rw [AF.BP,show T.Dm e=_ from AX c1];rfl
 case hlFalse=>simp only [AF.Cb];(try dsimp only at *);omega
theorem GJ (b:Nat)(T:AF)(g:Hd)(k:Int)(hg:g.len=T.out.length)(hb:0≤T.b∧T.b < 6)(hn:T.out.length≤100000):JO Tryz.prog 124 #[.pointer (some ⟨b,0,none⟩), .int .i64 k] [Ac.box b 163 (Ad.enc ⟨T.w,T.b,g⟩),Ac.own g 56 16 (T.out.flatMap Ing.Event.enc)] (fun v B=>∃ g':Hd,v = .tuple #[]∧g'.len=(T.kind k).out.length∧B = [Ac.box b 163 (Ad.enc ⟨(T.kind k).w,(T.kind k).b,g'⟩),Ac.own g' 56 16 ((T.kind k).out.flatMap Ing.Event.enc)]):=by
 intro w hS0
 refine Ak _ _ Tryz.func124 rfl rfl rfl (hS0) ?_
 refine AJ (Gm rfl (Gm rfl (Gt (BC O9 IU rfl (.cons Ing.Event.l0 rfl rfl rfl (.cons Ing.Event.l3 rfl rfl rfl .nil))) ?_)))
 refine Ai rfl Nx (.c rfl (.c rfl .n)) (.c .h (.c .h .n)) (CO _ _ _ (AF.Fy k) hg hb (show(-1:Int) < 6 by decide) hn) (fun v1 B hv=>?_)
 obtain⟨y2,rfl,y3,rfl⟩:=hv
 refine AR ?_
 refine Bk rfl .n ?_
 intro w1 hS
 have hS:=(hS.perm (Ax.perm (.c .h (.c .h .n)))).A1
 exact⟨_,⟨_,rfl,by assumption,rfl⟩,hS⟩
theorem Bc (b:Nat)(T:AF)(g:Hd)(u:Aq)(hg:g.len=T.out.length)(hb:0≤T.b∧T.b < 6)(hn:T.out.length≤100000):JO Tryz.prog 127 #[.pointer (some ⟨b,0,none⟩),BU u] [Ac.box b 163 (Ad.enc ⟨T.w,T.b,g⟩),Ac.own g 56 16 (T.out.flatMap Ing.Event.enc)] (fun v B=>∃ g':Hd,v = .tuple #[]∧g'.len=(T.tell u).out.length∧B = [Ac.box b 163 (Ad.enc ⟨(T.tell u).w,(T.tell u).b,g'⟩),Ac.own g' 56 16 ((T.tell u).out.flatMap Ing.Event.enc)]):=by
 intro w hS0
 refine Ak _ _ Tryz.func127 rfl rfl rfl (hS0) ?_
 refine AJ (Gm rfl (Gm rfl (Gt (BC O9 IU rfl (.cons Ing.Event.l0 rfl rfl rfl (.cons Ing.Event.l3 rfl rfl rfl (.cons Ing.Event.l9 rfl rfl rfl .nil)))) ?_)))
 refine Ai rfl Nx (.c rfl (.c rfl .n)) (.c .h (.c .h .n)) (CO _ _ _ { AF.Fy 16 with text:=u } hg hb (show(-1:Int) < 6 by decide) hn) (fun v1 B hv=>?_)
 obtain⟨y2,rfl,y3,rfl⟩:=hv
 refine AR ?_
 refine Bk rfl .n ?_
 intro w1 hS
 have hS:=(hS.perm (Ax.perm (.c .h (.c .h .n)))).A1
 exact⟨_,⟨_,rfl,by assumption,rfl⟩,hS⟩
theorem Hr (d:Int)(w:World)(gl0:GV 0 AH.DG w):Eh Tryz.prog 52 #[.int .i64 d] w fun v w'=>v=BU (AH.called d)∧CA w w':=by
 refine Ak [] [] Tryz.func52 rfl rfl rfl (St.start w []) ?_
 refine Gs (Ga rfl (Gn (.t1 0) (CB (Gm rfl (Gt (A8 rfl rfl) (Gm rfl (BZ 5 rfl rfl (fun q=>AE rfl) ?_)))))))
 refine BZ 5 rfl rfl (fun q=>CI (cF rfl q) rfl) ?_
 refine Gt (BS rfl rfl (fun h=>by rw [h];rfl)) ?_
 refine Gn (.t2 0 8) ?_
 refine Gc (fun c1=>?_) (fun c1=>?_)
 ·
  refine Gs (Ga rfl (Gn (.t1 2) (Ab (AD ?_))))
  refine AZ rfl (.tmp rfl .n) ?_
  intro w1 hS;refine⟨?_,hS.Am⟩;rw [show AH.called d=_ from BB c1];rfl
 have c1p:=kz c1
 have hr:0≤d∧d < 6:=by simp at c1;omega
 refine Aa ?_
 refine AB (.t1 0) ?_
 refine AA (Gs (Gm rfl ?_))
 refine Gt (AQ WX rfl rfl (by omega) (by omega)) ?_
 refine Gt (Qd gl0 rfl CP (AH.OC hr.1 hr.2)) (Ga rfl (Gn (.t1 2) (Ab ?_)))
 refine AZ rfl (.tmp rfl .n) ?_
 intro w1 hS;refine⟨?_,hS.Am⟩;rw [show AH.called d=_ from AX c1];rfl
theorem FD (X:AH)(CY at_:Int):JO Tryz.prog 102 #[.agg X.enc.toArray, .int .i64 CY, .int .i64 at_] [] (fun v B=>∃ h':Hd,v=h'.val∧h'.len=(X.has CY at_).length∧B = [Ac.own h' 3 1 ((X.has CY at_).flatMap Ay)]):=by
 intro w hS0
 refine Ak _ _ Tryz.func102 rfl rfl rfl (hS0) ?_
 refine Gs ?_
 refine B5 rfl rfl rfl (fun b1=>?_)
 refine Ga rfl (Gn (.t3 1 2 3) (Gs (Ga rfl (AR (AA (CB (Gt (Ah Cw rfl) ?_)))))))
 refine Gt (AY rfl Wr .m0 AH.l1 rfl) (Gm rfl (Gn (.t5 1 2 7 11 12) (Ae ?_)))
 refine Bo (.t5 7 12 1 2 11) ?_
 refine E0 Ay 3 1 ?_
 refine Dt (fun(k:Int) (xs:List Int) (g:Hd)=>0≤k∧k≤9∧xs=X.PQ CY at_ k.toNat∧g.len=xs.length) (fun(k:Int) (xs:List Int) (g:Hd)=>(9 - k).toNat) (fun(k:Int) (xs:List Int) (g:Hd)=> [(7,g.val),(12, .int .i64 k)]) (fun(k:Int) (xs:List Int) (g:Hd)=> [Ac.own g 3 1 (xs.flatMap Ay)]) (0) ([]) (_) ?_ rfl rfl (fun k xs g hI1=>?_)
 · exact⟨by omega,by omega,rfl,rfl⟩
 obtain⟨hI11,hI12,hI13,hI14⟩:=hI1
 refine Gs (Gt (A8 rfl rfl) (AR (AA (Ap ?_))))
 refine Gc (fun c1=>?_) (fun c1=>?_)
 ·
  have c1p:=kz c1
  have hxl:=AH.Rm X CY at_ k.toNat
  rw [← hI13] at hxl
  refine Aa ?_
  refine AB (.t5 1 2 7 11 12) ?_
  refine AA (Ap (Ae (Gs (Gm rfl ?_))))
  refine Gt (GB Al.fl Tryz.underlying30 Mp rfl rfl (by omega) (by omega)) ?_
  refine BD rfl KW rfl (fun b2=>?_)
  refine Ga rfl ?_
  refine AS (AK (AU.id Al.fl.len Al.fl.one) rfl rfl rfl My rfl .h) ?_
  refine Gn (.t7 1 2 7 8 9 11 12) (Gs (Gt (Ah FP rfl) (Gt (AG rfl A5 .m0 Al.l2 rfl rfl) (Gm rfl (Gt (Aj rfl rfl) (Gm rfl (Bl 20 rfl rfl (fun q=>Ah DF rfl) ?_)))))))
  refine Bl 20 rfl rfl (fun q=>AG (Bf rfl q) A5 .m0 Al.l3 rfl rfl) (Bl 20 rfl rfl (fun q=>AE rfl) (Bl 20 rfl rfl (fun q=>Aj (Bf rfl q) (Bf rfl q)) (Gt (BJ rfl rfl (fun h=>h)) (Gn (.t7 1 2 7 8 11 12 25) ?_))))
  refine Gc (fun c2=>?_) (fun c2=>?_)
  ·
   have c2p:=kz c2
   refine AJ (Gm rfl (Gm rfl ?_))
   refine Fv Ay B2 rfl Tryz.underlying169 DB aN rfl (by decide) (by decide) rfl rfl (fun b3=>?_)
   refine Cd B2 rfl Tryz.underlying169 DB aN rfl cT (by decide) (by decide) rfl rfl (fun w hS=>Src.Dz Tryz.underlying169 ((Kn.own .m0) w hS)) (by(try dsimp only);omega) (fun _=>(.t (.t .h))) (fun h1 h1l h1z=>?_)
   refine Ga rfl ?_
   refine AR (AB (.t5 1 2 7 11 12) ?_)
   refine AV (AA (AJ ?_))
   refine Gt (Aw rfl rfl (IntWalk.i64_in _ (by omega))) ?_
   refine Gm rfl ?_
   refine AR (AB (.t5 1 2 7 11 12) ?_)
   refine Bw (k+1) _ _ ?_ ?_ (.t5 7 12 1 2 11) (.cons _ (.cons _ (.refl _)))
   · exact⟨by omega,by omega,by rw [AH.aK hI11 c2,← hI13],(by(try dsimp only at *)<;>(try simp only [List.length_append,List.length_cons,List.length_nil])<;>omega)⟩
   · omega
  have c2p:=kz c2
  refine Aa ?_
  refine AB (.t5 1 2 7 11 12) ?_
  refine AV (AA (AJ ?_))
  refine Gt (Aw rfl rfl (IntWalk.i64_in _ (by omega))) ?_
  refine Gm rfl ?_
  refine AR (AB (.t5 1 2 7 11 12) ?_)
  refine Bw (k+1) _ _ ?_ ?_ (.t5 7 12 1 2 11) (.cons _ (.refl _))
  · exact⟨by omega,by omega,by rw [AH.Zf hI11 c2,← hI13],(by(try dsimp only at *)<;>(try simp only [List.length_append,List.length_cons,List.length_nil])<;>omega)⟩
  · omega
 have c1p:=kz c1
 obtain rfl:k=9:=by omega
 refine Ba (AW (AW (Af ?_)))
 refine AB (.t1 7) ?_
 refine AA (Gs (Gm rfl (Ga rfl (Gn (.t1 6) (Ab ?_)))))
 refine AZ rfl (.tmp rfl .n) ?_
 intro w1 hS
 have hS:=(hS.perm (Ax.perm (.c .h .n))).A1
 exact⟨_,⟨_,rfl,by rw [AH.TK,← hI13];assumption,by rw [AH.TK,← hI13]⟩,hS⟩
theorem Lu (b:Nat)(T:AF)(g:Hd)(u:Aq)(f:Hd)(l:List Int)(hg:g.len=T.out.length)(hb:0≤T.b∧T.b < 6)(hf:f.len=l.length)(hl:l.length≤9)(hi:∀ i∈l,0≤i∧i < 9)(hw:T.w.DH)(hu:u.length≤1000)(hn:T.out.length≤100000):JO Tryz.prog 101 #[.pointer (some ⟨b,0,none⟩),BU u,f.val] [Ac.box b 163 (Ad.enc ⟨T.w,T.b,g⟩),Ac.own g 56 16 (T.out.flatMap Ing.Event.enc),Ac.own f 3 1 (l.flatMap Ay)] (fun v B=>∃ g':Hd,v = .tuple #[]∧g'.len=(T.list u l).out.length∧B = [Ac.box b 163 (Ad.enc ⟨(T.list u l).w,(T.list u l).b,g'⟩),Ac.own g' 56 16 ((T.list u l).out.flatMap Ing.Event.enc),Ac.own f 3 1 (l.flatMap Ay)]):=by
 intro w hS0
 refine Ak _ _ Tryz.func101 rfl rfl rfl (hS0) ?_
 refine CB (Gm rfl (Gt (Av rfl Tryz.underlying169 rfl) (Gm rfl (AR (AA (Ae ?_))))))
 refine Bo (.t6 1 10 0 2 8 9) ?_
 refine HZ (fun(k:Int) (x:Aq)=>0≤k∧k≤(l.length:Int)∧AF.Hq T.w u l=AF.Hq T.w x (l.drop k.toNat)∧x.length≤1000+k.toNat * 140737488351300) (fun(k:Int) (x:Aq)=>((l.length:Int) - k).toNat) (fun(k:Int) (x:Aq)=> [(1,BU x),(10, .int .i64 k)]) (fun(k:Int) (x:Aq)=> []) (0) (u) ?_ rfl rfl (fun k x hI1=>?_)
 · exact⟨by omega,by omega,by simp,by simp;omega⟩
 obtain⟨hI11,hI12,hI13,hI14⟩:=hI1
 refine Gs (Gt (A8 rfl rfl) (AR (AA (Ap ?_))))
 refine Gc (fun c1=>?_) (fun c1=>?_)
 ·
  have c1p:=kz c1
  have hx:=hi _ (Bg.Eo (xs:=l) (i:=k.toNat) (by omega))
  have hnl:=hw.th (l.getD k.toNat 0)
  refine Aa ?_
  refine AB (.t6 0 1 2 8 9 10) ?_
  refine AA (Ap (Ae (Gs ?_)))
  refine Gt (Br GY (by decide) (Kn.own .m2) rfl rfl (by omega) (by omega)) ?_
  refine Gt (DJ rfl A5 (Kn.own .m2) (by omega)) ?_
  refine Ga rfl (Gn (.t7 0 1 2 7 8 9 10) (Gs (Gm rfl (Gm rfl (Gm rfl (Gt (BV rfl) (Gt (Ah A9 rfl) ?_)))))))
  refine Gt (Ah Cw rfl) ?_
  refine Gt (AQ F9 rfl rfl (by(try dsimp only at *);(try simp only [List.length_append,List.length_cons,List.length_nil]);omega) (by(try dsimp only at *);(try simp only [List.length_append,List.length_cons,List.length_nil]);omega)) ?_
  refine Gt (Ah Mb rfl) ?_
  refine Gt (AG rfl CP .m0 (((Ad.l0.comp AH.l1).comp (AU.arr (n:=9) Al.fl (by(try dsimp only at *);(try simp only [List.length_append,List.length_cons,List.length_nil]);omega) (by(try dsimp only at *);(try simp only [List.length_append,List.length_cons,List.length_nil]);omega))).comp Al.l0) rfl rfl) ?_
  refine Gt (CU rfl rfl (by(try dsimp only at *);(try simp only [List.length_append,List.length_cons,List.length_nil]);omega)) ?_
  refine Gt (CU rfl rfl (by(try dsimp only at *);(try simp only [List.length_append,List.length_cons,List.length_nil]);omega)) ?_
  refine Ga rfl (Gn (.t7 0 1 2 7 8 9 10) (Gs (Gm rfl (Gm rfl (Gt (BV rfl) (Gt (Ah A9 rfl) (Gt (Ah Cw rfl) ?_)))))))
  refine Gt (AQ F9 rfl rfl (by(try dsimp only at *);(try simp only [List.length_append,List.length_cons,List.length_nil]);omega) (by(try dsimp only at *);(try simp only [List.length_append,List.length_cons,List.length_nil]);omega)) ?_
  refine Gt (Ah GI rfl) ?_
  refine Gt (AG rfl DN .m0 (((Ad.l0.comp AH.l1).comp (AU.arr (n:=9) Al.fl (by(try dsimp only at *);(try simp only [List.length_append,List.length_cons,List.length_nil]);omega) (by(try dsimp only at *);(try simp only [List.length_append,List.length_cons,List.length_nil]);omega))).comp Al.l4) rfl rfl) ?_
  refine Gn (.t7 0 1 2 8 9 10 32) ?_
  refine Gc (fun c2=>?_) (fun c2=>?_)
  ·
   have c2p:=kz c2
   refine AJ (Gm rfl ?_)
   refine Gt (CU rfl rfl (by(try dsimp only at *);(try simp only [List.length_append,List.length_cons,List.length_nil]);omega)) ?_
   refine Ga rfl ?_
   refine AR (AB (.t6 0 1 2 8 9 10) ?_)
   refine AV (AA (AJ ?_))
   refine Gt (Aw rfl rfl (IntWalk.i64_in _ (by(try dsimp only at *);(try simp only [List.length_append,List.length_cons,List.length_nil]);omega))) ?_
   refine Gm rfl ?_
   refine AR (AB (.t6 0 1 2 8 9 10) ?_)
   refine Dh (k+1) _ ?_ ?_ (.t6 1 10 0 2 8 9) (.refl _)
   · exact⟨by omega,by omega,by rw [hI13,AF.YL hI11 (by omega) c2],by simp only [List.length_append,List.length_cons,List.length_nil];omega⟩
   · omega
  have c2p:=kz c2
  refine Aa ?_
  refine AB (.t6 0 1 2 8 9 10) ?_
  refine AV (AA (AJ ?_))
  refine Gt (Aw rfl rfl (IntWalk.i64_in _ (by(try dsimp only at *);(try simp only [List.length_append,List.length_cons,List.length_nil]);omega))) ?_
  refine Gm rfl ?_
  refine AR (AB (.t6 0 1 2 8 9 10) ?_)
  refine Dh (k+1) _ ?_ ?_ (.t6 1 10 0 2 8 9) (.refl _)
  · exact⟨by omega,by omega,by rw [hI13,AF.X8 hI11 (by omega) c2],by simp only [List.length_append,List.length_cons,List.length_nil];omega⟩
  · omega
 have c1p:=kz c1
 obtain rfl:k=(l.length:Int):=by omega
 rw [show(l.length:Int).toNat=l.length by omega,List.drop_length] at hI13
 refine Ba (AW (AW (Af ?_)))
 refine AB (.t3 0 1 2) ?_
 refine AA (CB (Gm rfl (Gt (Av rfl Tryz.underlying169 rfl) (Gt (Aj rfl rfl) (Gn (.t3 0 1 38) ?_)))))
 refine Gc (fun c3=>?_) (fun c3=>?_)
 ·
  have c3p:=kz c3
  rw [hf] at c3
  refine AJ (Gm rfl ?_)
  refine Gt (CU rfl rfl (by(try dsimp only at *);(try simp only [List.length_append,List.length_cons,List.length_nil]);omega)) ?_
  refine Ga rfl (Gn (.t2 0 1) (AJ (Gm rfl (Gm rfl ?_))))
  refine Gt (CU rfl rfl (by(try dsimp only at *);(try simp only [List.length_append,List.length_cons,List.length_nil]);omega)) ?_
  refine Ai rfl EC (.c rfl (.c rfl .n)) (.c .h (.c .h .n)) (Bc _ _ _ _ hg hb hn) (fun v1 B hv=>?_)
  obtain⟨y2,rfl,y3,rfl⟩:=hv
  refine AR ?_
  refine Bk rfl .n ?_
  intro w1 hS
  have hS:=(hS.perm (Ax.perm (.c .h (.c .h (.c .h .n))))).A1
  refine⟨_,⟨?gqTrue,rfl,?hlTrue,?hBTrue⟩,hS⟩
  case hBTrue=>rw [AF.list,show AF.Ru T.w u l=_ from BB c3,hI13];rfl
  case hlTrue=>(try simp only [AF.CE] at *);rw [(AF.HM T u l).2.2];assumption
 have c3p:=kz c3
 rw [hf] at c3
 refine Aa ?_
 refine AB (.t2 0 1) ?_
 refine AA (AJ (Gm rfl (Gm rfl ?_)))
 refine Gt (CU rfl rfl (by(try dsimp only at *);(try simp only [List.length_append,List.length_cons,List.length_nil]);omega)) ?_
 refine Ai rfl EC (.c rfl (.c rfl .n)) (.c .h (.c .h .n)) (Bc _ _ _ _ hg hb hn) (fun v4 B hv=>?_)
 obtain⟨y5,rfl,y6,rfl⟩:=hv
 refine AR ?_
 refine Bk rfl .n ?_
 intro w1 hS
 have hS:=(hS.perm (Ax.perm (.c .h (.c .h (.c .h .n))))).A1
 refine⟨_,⟨?gqFalse,rfl,?hlFalse,?hBFalse⟩,hS⟩
 case hBFalse=>rw [AF.list,show AF.Ru T.w u l=_ from AX c3,hI13];rfl
 case hlFalse=>(try simp only [AF.CE] at *);rw [(AF.HM T u l).2.2];assumption
theorem HE (b:Nat)(T:AF)(g:Hd)(hg:g.len=T.out.length)(hb:0≤T.b∧T.b < 6)(hw:T.w.DH)(hn:T.out.length≤90000):FK Tryz.prog 100 #[.pointer (some ⟨b,0,none⟩)] [Ac.box b 163 (Ad.enc ⟨T.w,T.b,g⟩),Ac.own g 56 16 (T.out.flatMap Ing.Event.enc)] (fun w=>(GV 0 AH.DG w∧0 ∉ Cf [Ac.box b 163 (Ad.enc ⟨T.w,T.b,g⟩),Ac.own g 56 16 (T.out.flatMap Ing.Event.enc)])) (fun v B=>∃ g':Hd,v = .tuple #[]∧g'.len=(T.look).out.length∧B = [Ac.box b 163 (Ad.enc ⟨(T.look).w,(T.look).b,g'⟩),Ac.own g' 56 16 ((T.look).out.flatMap Ing.Event.enc)]):=by
 intro w hS0 hH
 obtain⟨gl0,gm0⟩:=hH
 refine Ak _ _ Tryz.func100 rfl rfl rfl (hS0) ?_
 refine Ap ?_
 refine BE (N:=12) [0,0,2,6,14,1,33,97,255,511,0,2047] mix (by kernel_rfl) rfl ?_
 refine Pf 0 rfl (AE rfl) (Pf 1 rfl (AE rfl) (Pf 2 rfl (BV rfl) (Pf 3 rfl (Ah CR rfl) (Pf 4 rfl (AG rfl A5 .m0 Ad.l1 rfl rfl) (Pf 5 rfl (BV rfl) (Pf 6 rfl (Ah A9 rfl) (Pf 7 rfl (Ah Bi rfl) ?_)))))))
 refine Pf 8 rfl (AQ Cs rfl rfl (by(try dsimp only at *);(try simp only [List.length_append,List.length_cons,List.length_nil]);omega) (by(try dsimp only at *);(try simp only [List.length_append,List.length_cons,List.length_nil]);omega)) ?_
 refine Pf 9 rfl (AY rfl Fl .m0 ((Ad.l0.comp AH.l2).comp (AU.arr (n:=6) Ag.fl (by(try dsimp only at *);(try simp only [List.length_append,List.length_cons,List.length_nil]);omega) (by(try dsimp only at *);(try simp only [List.length_append,List.length_cons,List.length_nil]);omega))) rfl) ?_
 refine An 10 rfl (by kernel_rfl) ?_
 refine BD rfl Lx rfl (fun b1=>?_)
 refine Bp rfl ⟨?_,?_⟩
 · exact(Po rfl (AY rfl Fl .m1 ((Ad.l0.comp AH.l2).comp (AU.arr (n:=6) Ag.fl (by(try dsimp only at *);(try simp only [List.length_append,List.length_cons,List.length_nil]);omega) (by(try dsimp only at *);(try simp only [List.length_append,List.length_cons,List.length_nil]);omega))) rfl) rfl rfl (Po rfl (AQ Cs rfl rfl (by(try dsimp only at *);(try simp only [List.length_append,List.length_cons,List.length_nil]);omega) (by(try dsimp only at *);(try simp only [List.length_append,List.length_cons,List.length_nil]);omega)) rfl rfl (Po rfl (Ah Bi rfl) rfl rfl (Po rfl (Ah A9 rfl) rfl rfl (Po rfl (BV rfl) rfl rfl (Po rfl (AG rfl A5 .m1 Ad.l1 rfl rfl) rfl rfl (Po rfl (Ah CR rfl) rfl rfl (Po rfl (BV rfl) rfl rfl (Po rfl (AE rfl) rfl rfl (Po rfl (AE rfl) rfl rfl Ar))))))))))
 refine An 11 rfl (by kernel_rfl) ?_
 refine AS (AK (AU.id Ag.fl.len Ag.fl.one) rfl rfl rfl KX rfl .h) ?_
 refine BO rfl ⟨?_,?_⟩
 · exact(Pk (Pk (Pk (Pk (Pk (Pk (Pk (Pk (Pk (Pk Ar))))))))))
 refine A4 (by kernel_rfl) ?_
 refine AB (.t2 0 2) ?_
 refine AA (Ap (Ap ?_))
 refine BE (N:=8) [0,1,3,7,0,16,63,127] mix (by kernel_rfl) rfl ?_
 refine Pf 0 rfl (AE rfl) (Pf 1 rfl (BV rfl) (Pf 2 rfl (Ah A9 rfl) (Pf 3 rfl (AY rfl BW .m1 Ad.l0 rfl) (Pf 4 rfl (Ah C2 rfl) (Pf 5 rfl (AG rfl A5 .m0 Ag.l3 rfl rfl) ?_)))))
 refine BN 6 rfl rfl (by kernel_rfl) (Lj (K4 (D7 Uf (.c rfl (.c rfl .n)) (fun w hS=>EZ _ _ w)))) ?_
 refine Pf 7 rfl (BQ rfl) ?_
 refine A4 (by kernel_rfl) ?_
 refine AB (.t3 0 2 26) ?_
 refine AA ?_
 refine Gc (fun c1=>?_) (fun c1=>?_)
 ·
  have c1p:=kz c1
  refine Gs (Gm rfl ?_)
  refine Ai rfl EC (.c rfl (.c rfl .n)) (.c (.t .h) (.c (.t .h) .n)) (Bc _ _ _ _ (by assumption) (by first | exact hb | (rw [hXb];exact hb)) (by(try simp only [AF.CE,AF.Cb,(AF.HM _ _ _).2.2] at *);(try dsimp only at *);omega)) (fun v1 B hv=>?_)
  obtain⟨y2,rfl,y3,rfl⟩:=hv
  refine Gn (.nil _) (Ab (AD ?_))
  refine AZ rfl .n ?_
  intro w1 hS
  have hS:=(hS.perm (Ax.perm (.c .h (.c .h .n)))).A1
  refine⟨_,⟨?gq1,rfl,?hl1,?hB1⟩,hS⟩
  case hB1=>rw [show T.look=_ from BB c1];rfl
  case hl1=>rw [show T.look=_ from BB c1];assumption
 have c1p:=kz c1
 have hr:=AH.TP c1
 have hnr:=hw.ro (T.w.AM.at T.b).room
 refine Aa ?_
 refine AB (.t2 0 2) ?_
 refine AA (Ap ?_)
 refine BE (N:=10) [0,0,2,1,9,25,63,127,0,511] mix (by kernel_rfl) rfl ?_
 refine Pf 0 rfl (AE rfl) (Pf 1 rfl (Ah C2 rfl) (Pf 2 rfl (AG rfl A5 .m0 Ag.l3 rfl rfl) (Pf 3 rfl (BV rfl) (Pf 4 rfl (Ah A9 rfl) (Pf 5 rfl (Ah G2 rfl) ?_)))))
 refine Pf 6 rfl (AQ OO rfl rfl (by(try dsimp only at *);(try simp only [List.length_append,List.length_cons,List.length_nil]);omega) (by(try dsimp only at *);(try simp only [List.length_append,List.length_cons,List.length_nil]);omega)) ?_
 refine Pf 7 rfl (AY rfl Nu .m1 ((Ad.l0.comp AH.l0).comp (AU.arr (n:=6) Room.fl (by(try dsimp only at *);(try simp only [List.length_append,List.length_cons,List.length_nil]);omega) (by(try dsimp only at *);(try simp only [List.length_append,List.length_cons,List.length_nil]);omega))) rfl) ?_
 refine An 8 rfl (by kernel_rfl) ?_
 refine BD rfl Ns rfl (fun b2=>?_)
 refine Bp rfl ⟨?_,?_⟩
 · exact(Po rfl (AY rfl Nu .m2 ((Ad.l0.comp AH.l0).comp (AU.arr (n:=6) Room.fl (by(try dsimp only at *);(try simp only [List.length_append,List.length_cons,List.length_nil]);omega) (by(try dsimp only at *);(try simp only [List.length_append,List.length_cons,List.length_nil]);omega))) rfl) rfl rfl (Po rfl (AQ OO rfl rfl (by(try dsimp only at *);(try simp only [List.length_append,List.length_cons,List.length_nil]);omega) (by(try dsimp only at *);(try simp only [List.length_append,List.length_cons,List.length_nil]);omega)) rfl rfl (Po rfl (Ah G2 rfl) rfl rfl (Po rfl (Ah A9 rfl) rfl rfl (Po rfl (BV rfl) rfl rfl (Po rfl (AG rfl A5 .m1 Ag.l3 rfl rfl) rfl rfl (Po rfl (Ah C2 rfl) rfl rfl (Po rfl (AE rfl) rfl rfl Ar))))))))
 refine An 9 rfl (by kernel_rfl) ?_
 refine AS (AK (AU.id Room.fl.len Room.fl.one) rfl rfl rfl Q1 rfl .h) ?_
 refine BO rfl ⟨?_,?_⟩
 · exact(Pk (Pk (Pk (Pk (Pk (Pk (Pk (Pk Ar))))))))
 refine A4 (by kernel_rfl) ?_
 refine AB (.t3 0 2 3) ?_
 refine AA (Gs (Gm rfl (Gt (Ah ZX rfl) (Gt (AG rfl CP .m0 Room.l0 rfl rfl) ?_))))
 refine Gt (CU rfl rfl (by(try dsimp only at *);(try simp only [List.length_append,List.length_cons,List.length_nil]);omega)) ?_
 refine Gt (CU rfl rfl (by(try dsimp only at *);(try simp only [List.length_append,List.length_cons,List.length_nil]);omega)) ?_
 refine Ai rfl EC (.c rfl (.c rfl .n)) (.c (.t (.t .h)) (.c (.t (.t .h)) .n)) (Bc _ _ _ _ (by assumption) (by first | exact hb | (rw [hXb];exact hb)) (by(try simp only [AF.CE,AF.Cb,(AF.HM _ _ _).2.2] at *);(try dsimp only at *);omega)) (fun v4 B hv=>?_)
 obtain⟨y5,rfl,y6,rfl⟩:=hv
 refine Gn (.t3 0 2 3) (Gs (Ga rfl (AR (AA (CB (Gt (Ah MQ rfl) (Gt (AY rfl Y6 .m2 Room.l2 rfl) ?_)))))))
 refine Gm rfl (Gn (.t6 0 2 3 4 44 45) (Ae ?_))
 refine Bo (.t6 4 45 0 2 3 44) ?_
 refine HZ (fun(k:Int) (x:Aq)=>0≤k∧k≤6∧x=AF.Io (T.w.BT.at T.me.room) k.toNat) (fun(k:Int) (x:Aq)=>(6 - k).toNat) (fun(k:Int) (x:Aq)=> [(4,BU x),(45, .int .i64 k)]) (fun(k:Int) (x:Aq)=> []) (0) (_) ?_ rfl rfl (fun k x hI1=>?_)
 · exact⟨by omega,by omega,rfl⟩
 obtain⟨hI11,hI12,hI13⟩:=hI1
 refine Gs (Gt (A8 rfl rfl) (AR (AA (Ap ?_))))
 refine Gc (fun c2=>?_) (fun c2=>?_)
 ·
  have c2p:=kz c2
  have hcl:=AH.I2 k
  have hwl:=AF.L8 (T.w.BT.at T.me.room) k.toNat
  rw [← hI13] at hwl
  have hst:=AF.Sw (r:=T.w.BT.at T.me.room) hI11
  refine Aa ?_
  refine AB (.t6 0 2 3 4 44 45) ?_
  refine AA (Ap (Ae (Gs (Gm rfl ?_))))
  refine Gt (KN B2 Tryz.underlying23 DB A5 rfl rfl (by(try dsimp only at *);(try simp only [List.length_append,List.length_cons,List.length_nil]);omega) (by(try dsimp only at *);(try simp only [List.length_append,List.length_cons,List.length_nil]);omega) rfl) ?_
  refine Ga rfl (Ga rfl (Gn (.t8 0 2 3 4 5 6 44 45) (CB (Gm rfl (Gt (Aj rfl rfl) (Gn (.t8 0 2 3 4 5 44 45 50) ?_))))))
  refine Gc (fun c3=>?_) (fun c3=>?_)
  ·
   have c3p:=kz c3
   have cp3:decide ((T.w.BT.at T.me.room).CN.at k=0)=true:=c3
   rw [BB cp3] at hst
   refine Ba (AW (Af ?_))
   refine AB (.t6 0 2 3 4 44 45) ?_
   refine AA (AJ ?_)
   refine Gt (Aw rfl rfl (IntWalk.i64_in _ (by(try dsimp only at *);(try simp only [List.length_append,List.length_cons,List.length_nil]);omega))) ?_
   refine Gm rfl ?_
   refine AR (AB (.t6 0 2 3 4 44 45) ?_)
   refine Dh (k+1) _ ?_ ?_ (.t6 4 45 0 2 3 44) (.refl _)
   · exact⟨by omega,by omega,by rw [hst,← hI13]⟩
   · omega
  have c3p:=kz c3
  have cp3:decide ((T.w.BT.at T.me.room).CN.at k=0)=false:=c3
  rw [AX cp3] at hst
  refine Aa ?_
  refine AB (.t7 0 2 3 4 5 44 45) ?_
  refine AA (Gs (Gm rfl (Gm rfl ?_)))
  refine BA rfl aX (.c rfl .n) (fun w hS=>Hr _ w (gl0.stM gm0 hS)) ?_
  refine Gt (CU rfl rfl (by(try dsimp only at *);(try simp only [List.length_append,List.length_cons,List.length_nil]);omega)) ?_
  refine Gt (CU rfl rfl (by(try dsimp only at *);(try simp only [List.length_append,List.length_cons,List.length_nil]);omega)) ?_
  refine Ga rfl (Gn (.t7 0 2 3 4 5 44 45) (Gs (Gm rfl (Gt (Ah MJ rfl) ?_))))
  refine Gt (AQ QT rfl rfl (by(try dsimp only at *);(try simp only [List.length_append,List.length_cons,List.length_nil]);omega) (by(try dsimp only at *);(try simp only [List.length_append,List.length_cons,List.length_nil]);omega)) ?_
  refine Gt (AG rfl DN .m2 (Room.l3.comp (AU.arr (n:=6) Fx (by(try dsimp only at *);(try simp only [List.length_append,List.length_cons,List.length_nil]);omega) (by(try dsimp only at *);(try simp only [List.length_append,List.length_cons,List.length_nil]);omega))) rfl rfl) ?_
  refine Gn (.t7 0 2 3 4 44 45 59) ?_
  refine Gc (fun c4=>?_) (fun c4=>?_)
  ·
   have c4p:=kz c4
   have cp4:(T.w.BT.at T.me.room).shut.at k=true:=c4
   rw [BB cp4] at hst
   refine AJ (Gm rfl ?_)
   refine Gt (CU rfl rfl (by(try dsimp only at *);(try simp only [List.length_append,List.length_cons,List.length_nil]);omega)) ?_
   refine Ga rfl ?_
   refine AR (AB (.t6 0 2 3 4 44 45) ?_)
   refine AV (AA (AJ ?_))
   refine Gt (Aw rfl rfl (IntWalk.i64_in _ (by(try dsimp only at *);(try simp only [List.length_append,List.length_cons,List.length_nil]);omega))) ?_
   refine Gm rfl ?_
   refine AR (AB (.t6 0 2 3 4 44 45) ?_)
   refine Dh (k+1) _ ?_ ?_ (.t6 4 45 0 2 3 44) (.refl _)
   · exact⟨by omega,by omega,by rw [hst,← hI13]⟩
   · omega
  have c4p:=kz c4
  have cp4:(T.w.BT.at T.me.room).shut.at k=false:=c4
  rw [AX cp4] at hst
  refine Aa ?_
  refine AB (.t6 0 2 3 4 44 45) ?_
  refine AV (AA (AJ ?_))
  refine Gt (Aw rfl rfl (IntWalk.i64_in _ (by(try dsimp only at *);(try simp only [List.length_append,List.length_cons,List.length_nil]);omega))) ?_
  refine Gm rfl ?_
  refine AR (AB (.t6 0 2 3 4 44 45) ?_)
  refine Dh (k+1) _ ?_ ?_ (.t6 4 45 0 2 3 44) (.refl _)
  · exact⟨by omega,by omega,by rw [hst,← hI13]⟩
  · omega
 have c2p:=kz c2
 obtain rfl:k=6:=by omega
 subst hI13
 refine Ba (AW (AW (Af ?_)))
 refine AB (.t3 0 2 4) ?_
 refine AA (Gs (Gm rfl (Gm rfl ?_)))
 refine Ai rfl EC (.c rfl (.c rfl .n)) (.c .h (.c .h .n)) (Bc _ _ _ _ (by assumption) (by first | exact hb | (rw [hXb];exact hb)) (by(try simp only [AF.CE,AF.Cb,(AF.HM _ _ _).2.2] at *);(try dsimp only at *);omega)) (fun v7 B hv=>?_)
 obtain⟨y8,rfl,y9,rfl⟩:=hv
 refine Gn (.t2 0 2) (Ap (Ap ?_))
 refine BE (N:=8) [0,1,3,7,0,16,63,127] mix (by kernel_rfl) rfl ?_
 refine Pf 0 rfl (AE rfl) (Pf 1 rfl (BV rfl) (Pf 2 rfl (Ah A9 rfl) (Pf 3 rfl (AY rfl BW .m0 Ad.l0 rfl) (Pf 4 rfl (Ah C2 rfl) (Pf 5 rfl (AG rfl A5 .m3 Ag.l3 rfl rfl) ?_)))))
 refine An 6 rfl (by kernel_rfl) ?_
 refine Ai rfl SK (.c rfl (.c rfl (.c rfl .n))) .n (FD _ _ _) (fun v10 B hv=>?_)
 obtain⟨y11,rfl,y12,rfl⟩:=hv
 refine Bp rfl ⟨?_,?_⟩
 · exact(Pk (Pk (Pk (Pk (Pk (Pk Ar))))))
 refine Pf 7 rfl (A0 rfl) ?_
 refine A4 (by kernel_rfl) ?_
 refine AB (.t2 0 7) ?_
 refine AA (Gs (Gm rfl (Gt (Av rfl Tryz.underlying169 rfl) (Gt (Ck rfl rfl) (Gn (.t3 0 7 75) ?_)))))
 refine Gc (fun c5=>?_) (fun c5=>?_)
 ·
  have c5p:=kz c5
  rw [y12] at c5
  refine AJ (Gm rfl (Gm rfl ?_))
  refine Ai rfl ZJ (.c rfl (.c rfl (.c rfl .n))) (.c (.t .h) (.c (.t .h) (.c .h .n))) (Lu _ T.Je _ [72,101,114,101,32,105,115] _ (T.w.has 0 T.me.room) (by assumption) hb (by assumption) (AH.H7 _ _ _) (fun i hi=>AH.Fi hi) hw (by decide) (by rw [(AF.Tr T).2.2];omega)) (fun v14 B hv=>?_)
  obtain⟨y15,rfl,y16,rfl⟩:=hv
  refine Gn (.t1 0) (Gs (Gm rfl (AR (AA (Ae ?_)))))
  refine Bo (.t2 79 0) ?_
  refine Bh (.t .h) ?_
  refine Bh (.t .h) ?_
  refine Dt (fun(k:Int) (X:AF) (h:Hd)=>0≤k∧k≤6∧X=T.D9.Fa k.toNat∧h.len=X.out.length) (fun(k:Int) (X:AF) (h:Hd)=>(6 - k).toNat) (fun(k:Int) (X:AF) (h:Hd)=> [(79, .int .i64 k)]) (fun(k:Int) (X:AF) (h:Hd)=> [Ac.box b 163 (Ad.enc ⟨X.w,X.b,h⟩),Ac.own h 56 16 (X.out.flatMap Ing.Event.enc)]) (0) (_) (_) ?_ rfl rfl (fun k X h hI2=>?_)
  · exact⟨by omega,by omega,(show T.D9=_ from BB c5).symm,by assumption⟩
  obtain⟨hI21,hI22,hI23,hI24⟩:=hI2
  refine Gs (Gt (A8 rfl rfl) (AR (AA (Ap ?_))))
  refine Gc (fun c6=>?_) (fun c6=>?_)
  ·
   have c6p:=kz c6
   have hnb:=hw.be k
   have hXl:=AF.KD T.D9 k.toNat
   have hBl:=AF.Qj T
   rw [← hI23] at hXl
   have hXw:X.w=T.w:=hXl.1.trans hBl.1
   have hXb:X.b=T.b:=hXl.2.1.trans hBl.2.1
   rw [← hXw] at hnb
   refine Aa ?_
   refine AB (.t2 0 79) ?_
   refine AA (Ap (Ae (Gs (Gm rfl (Ga rfl (Gn (.t3 0 8 79) (Ap ?_)))))))
   refine BE (N:=18) [0,0,2,6,14,31,63,127,255,511,1023,127,2175,6271,14463,127,65535,131071] mix (by kernel_rfl) rfl ?_
   refine Pf 0 rfl (AE rfl) (Pf 1 rfl (AE rfl) (Pf 2 rfl (BV rfl) (Pf 3 rfl (Ah CR rfl) (Pf 4 rfl (AG rfl A5 .m0 Ad.l1 rfl rfl) (Pf 5 rfl (Ce rfl rfl) (Pf 6 rfl (AE rfl) (JT 7 88 rfl rfl rfl (fun q=>AE rfl) ?_)))))))
   refine JT 8 88 rfl rfl rfl (fun q=>BV (Bf rfl q)) (JT 9 88 rfl rfl rfl (fun q=>Ah A9 (Bf rfl q)) (JT 10 88 rfl rfl rfl (fun q=>AY (Bf rfl q) BW .m0 Ad.l0 rfl) (JT 11 88 rfl rfl rfl (fun q=>AE rfl) (JT 12 88 rfl rfl rfl (fun q=>BV (Bf rfl q)) (JT 13 88 rfl rfl rfl (fun q=>Ah CR (Bf rfl q)) (JT 14 88 rfl rfl rfl (fun q=>AG (Bf rfl q) A5 .m0 Ad.l1 rfl rfl) (JT 15 88 rfl rfl rfl (fun q=>AE rfl) ?_)))))))
   refine BN 16 rfl rfl (by kernel_rfl) (Jo (t:=88) rfl rfl (fun q=>K4 (D7 OD (.c (Bf rfl q) (.c (Bf rfl q) (.c (Bf rfl q) .n))) (fun w hS=>DO _ _ _ w)))) ?_
   refine Pf 17 rfl (BJ rfl rfl (fun h=>h)) ?_
   refine A4 (by kernel_rfl) ?_
   refine AB (.t4 0 8 79 99) ?_
   refine AA ?_
   refine Gc (fun c7=>?_) (fun c7=>?_)
   ·
    have c7p:=kz c7
    have cp7:(!decide (k=T.D9.b) && T.D9.w.Ij T.D9.b k)=true:=by rw [hBl.1,hBl.2.1,← hXw,← hXb];exact c7
    refine AJ (Gm rfl (Gm rfl (Gm rfl (Gt (BV rfl) (Gt (Ah A9 rfl) (Gt (Ah Bi rfl) ?_))))))
    refine Gt (AQ Cs rfl rfl (by(try dsimp only at *);(try simp only [List.length_append,List.length_cons,List.length_nil]);omega) (by(try dsimp only at *);(try simp only [List.length_append,List.length_cons,List.length_nil]);omega)) ?_
    refine Gt (Ah IB rfl) ?_
    refine Gt (AG rfl CP .m0 (((Ad.l0.comp AH.l2).comp (AU.arr (n:=6) Ag.fl (by(try dsimp only at *);(try simp only [List.length_append,List.length_cons,List.length_nil]);omega) (by(try dsimp only at *);(try simp only [List.length_append,List.length_cons,List.length_nil]);omega))).comp Ag.l0) rfl rfl) ?_
    refine Gt (CU rfl rfl (by(try dsimp only at *);(try simp only [List.length_append,List.length_cons,List.length_nil]);omega)) ?_
    refine Ai rfl EC (.c rfl (.c rfl .n)) (.c .h (.c .h .n)) (Bc _ _ _ _ (by assumption) (by first | exact hb | (rw [hXb];exact hb)) (by(try simp only [AF.CE,AF.Cb,(AF.HM _ _ _).2.2] at *);(try dsimp only at *);omega)) (fun v17 B hv=>?_)
    obtain⟨y18,rfl,y19,rfl⟩:=hv
    refine AR (AB (.t2 0 79) ?_)
    refine AV (AA (AJ ?_))
    refine Gt (Aw rfl rfl (IntWalk.i64_in _ (by(try dsimp only at *);(try simp only [List.length_append,List.length_cons,List.length_nil]);omega))) ?_
    refine Gm rfl ?_
    refine AR (AB (.t2 0 79) ?_)
    refine Bw (k+1) _ _ ?_ ?_ (.t2 79 0) (.refl _)
    · exact⟨by omega,by omega,by rw [AF.I4 hI21,BB cp7,← hI23,hBl.1,← hXw],by assumption⟩
    · omega
   have c7p:=kz c7
   have cp7:(!decide (k=T.D9.b) && T.D9.w.Ij T.D9.b k)=false:=by rw [hBl.1,hBl.2.1,← hXw,← hXb];exact c7
   refine Aa ?_
   refine AB (.t2 0 79) ?_
   refine AV (AA (AJ ?_))
   refine Gt (Aw rfl rfl (IntWalk.i64_in _ (by(try dsimp only at *);(try simp only [List.length_append,List.length_cons,List.length_nil]);omega))) ?_
   refine Gm rfl ?_
   refine AR (AB (.t2 0 79) ?_)
   refine Bw (k+1) _ _ ?_ ?_ (.t2 79 0) (.refl _)
   · exact⟨by omega,by omega,by rw [AF.I4 hI21,AX cp7,← hI23],by assumption⟩
   · omega
  have c6p:=kz c6
  obtain rfl:k=6:=by omega
  refine Ba (AW (AW (Af ?_)))
  refine Bk rfl .n ?_
  intro w1 hS
  have hS:=(hS.perm (Ax.perm (.c .h (.c .h .n)))).A1
  have hq:T.look=X:=(show T.look=_ from AX c1).trans hI23.symm
  refine⟨_,⟨?gqc6,rfl,?hlc6,?hBc6⟩,hS⟩
  case hBc6=>rw [hq]
  case hlc6=>rw [hq];assumption
 have c5p:=kz c5
 rw [y12] at c5
 refine Aa ?_
 refine AB (.t1 0) ?_
 refine AA (Gs (Gm rfl (AR (AA (Ae ?_)))))
 refine Bo (.t2 79 0) ?_
 refine Bh (.t (.t .h)) ?_
 refine Bh (.t (.t .h)) ?_
 refine Dt (fun(k:Int) (X:AF) (h:Hd)=>0≤k∧k≤6∧X=T.D9.Fa k.toNat∧h.len=X.out.length) (fun(k:Int) (X:AF) (h:Hd)=>(6 - k).toNat) (fun(k:Int) (X:AF) (h:Hd)=> [(79, .int .i64 k)]) (fun(k:Int) (X:AF) (h:Hd)=> [Ac.box b 163 (Ad.enc ⟨X.w,X.b,h⟩),Ac.own h 56 16 (X.out.flatMap Ing.Event.enc)]) (0) (_) (_) ?_ rfl rfl (fun k X h hI2=>?_)
 · exact⟨by omega,by omega,(show T.D9=_ from AX c5).symm,by assumption⟩
 obtain⟨hI21,hI22,hI23,hI24⟩:=hI2
 refine Gs (Gt (A8 rfl rfl) (AR (AA (Ap ?_))))
 refine Gc (fun c8=>?_) (fun c8=>?_)
 ·
  have c8p:=kz c8
  have hnb:=hw.be k
  have hXl:=AF.KD T.D9 k.toNat
  have hBl:=AF.Qj T
  rw [← hI23] at hXl
  have hXw:X.w=T.w:=hXl.1.trans hBl.1
  have hXb:X.b=T.b:=hXl.2.1.trans hBl.2.1
  rw [← hXw] at hnb
  refine Aa ?_
  refine AB (.t2 0 79) ?_
  refine AA (Ap (Ae (Gs (Gm rfl (Ga rfl (Gn (.t3 0 8 79) (Ap ?_)))))))
  refine BE (N:=18) [0,0,2,6,14,31,63,127,255,511,1023,127,2175,6271,14463,127,65535,131071] mix (by kernel_rfl) rfl ?_
  refine Pf 0 rfl (AE rfl) (Pf 1 rfl (AE rfl) (Pf 2 rfl (BV rfl) (Pf 3 rfl (Ah CR rfl) (Pf 4 rfl (AG rfl A5 .m0 Ad.l1 rfl rfl) (Pf 5 rfl (Ce rfl rfl) (Pf 6 rfl (AE rfl) (JT 7 88 rfl rfl rfl (fun q=>AE rfl) ?_)))))))
  refine JT 8 88 rfl rfl rfl (fun q=>BV (Bf rfl q)) (JT 9 88 rfl rfl rfl (fun q=>Ah A9 (Bf rfl q)) (JT 10 88 rfl rfl rfl (fun q=>AY (Bf rfl q) BW .m0 Ad.l0 rfl) (JT 11 88 rfl rfl rfl (fun q=>AE rfl) (JT 12 88 rfl rfl rfl (fun q=>BV (Bf rfl q)) (JT 13 88 rfl rfl rfl (fun q=>Ah CR (Bf rfl q)) (JT 14 88 rfl rfl rfl (fun q=>AG (Bf rfl q) A5 .m0 Ad.l1 rfl rfl) (JT 15 88 rfl rfl rfl (fun q=>AE rfl) ?_)))))))
  refine BN 16 rfl rfl (by kernel_rfl) (Jo (t:=88) rfl rfl (fun q=>K4 (D7 OD (.c (Bf rfl q) (.c (Bf rfl q) (.c (Bf rfl q) .n))) (fun w hS=>DO _ _ _ w)))) ?_
  refine Pf 17 rfl (BJ rfl rfl (fun h=>h)) ?_
  refine A4 (by kernel_rfl) ?_
  refine AB (.t4 0 8 79 99) ?_
  refine AA ?_
  refine Gc (fun c9=>?_) (fun c9=>?_)
  ·
   have c9p:=kz c9
   have cp7:(!decide (k=T.D9.b) && T.D9.w.Ij T.D9.b k)=true:=by rw [hBl.1,hBl.2.1,← hXw,← hXb];exact c9
   refine AJ (Gm rfl (Gm rfl (Gm rfl (Gt (BV rfl) (Gt (Ah A9 rfl) (Gt (Ah Bi rfl) ?_))))))
   refine Gt (AQ Cs rfl rfl (by(try dsimp only at *);(try simp only [List.length_append,List.length_cons,List.length_nil]);omega) (by(try dsimp only at *);(try simp only [List.length_append,List.length_cons,List.length_nil]);omega)) ?_
   refine Gt (Ah IB rfl) ?_
   refine Gt (AG rfl CP .m0 (((Ad.l0.comp AH.l2).comp (AU.arr (n:=6) Ag.fl (by(try dsimp only at *);(try simp only [List.length_append,List.length_cons,List.length_nil]);omega) (by(try dsimp only at *);(try simp only [List.length_append,List.length_cons,List.length_nil]);omega))).comp Ag.l0) rfl rfl) ?_
   refine Gt (CU rfl rfl (by(try dsimp only at *);(try simp only [List.length_append,List.length_cons,List.length_nil]);omega)) ?_
   refine Ai rfl EC (.c rfl (.c rfl .n)) (.c .h (.c .h .n)) (Bc _ _ _ _ (by assumption) (by first | exact hb | (rw [hXb];exact hb)) (by(try simp only [AF.CE,AF.Cb,(AF.HM _ _ _).2.2] at *);(try dsimp only at *);omega)) (fun v20 B hv=>?_)
   obtain⟨y21,rfl,y22,rfl⟩:=hv
   refine AR (AB (.t2 0 79) ?_)
   refine AV (AA (AJ ?_))
   refine Gt (Aw rfl rfl (IntWalk.i64_in _ (by(try dsimp only at *);(try simp only [List.length_append,List.length_cons,List.length_nil]);omega))) ?_
   refine Gm rfl ?_
   refine AR (AB (.t2 0 79) ?_)
   refine Bw (k+1) _ _ ?_ ?_ (.t2 79 0) (.refl _)
   · exact⟨by omega,by omega,by rw [AF.I4 hI21,BB cp7,← hI23,hBl.1,← hXw],by assumption⟩
   · omega
  have c9p:=kz c9
  have cp7:(!decide (k=T.D9.b) && T.D9.w.Ij T.D9.b k)=false:=by rw [hBl.1,hBl.2.1,← hXw,← hXb];exact c9
  refine Aa ?_
  refine AB (.t2 0 79) ?_
  refine AV (AA (AJ ?_))
  refine Gt (Aw rfl rfl (IntWalk.i64_in _ (by(try dsimp only at *);(try simp only [List.length_append,List.length_cons,List.length_nil]);omega))) ?_
  refine Gm rfl ?_
  refine AR (AB (.t2 0 79) ?_)
  refine Bw (k+1) _ _ ?_ ?_ (.t2 79 0) (.refl _)
  · exact⟨by omega,by omega,by rw [AF.I4 hI21,AX cp7,← hI23],by assumption⟩
  · omega
 have c8p:=kz c8
 obtain rfl:k=6:=by omega
 refine Ba (AW (AW (Af ?_)))
 refine Bk rfl .n ?_
 intro w1 hS
 have hS:=(hS.perm (Ax.perm (.c .h (.c .h .n)))).A1
 have hq:T.look=X:=(show T.look=_ from AX c1).trans hI23.symm
 refine⟨_,⟨?gqc8,rfl,?hlc8,?hBc8⟩,hS⟩
 case hBc8=>rw [hq]
 case hlc8=>rw [hq];assumption
theorem ME (X:AH)(s:Aq)(hw:X.DH)(hs:s.length≤100000000):FK Tryz.prog 114 #[.agg X.enc.toArray,BU s] [] (fun w=>(GV 0 AH.DG w∧0 ∉ Cf [])) (fun v B=>∃ h:Hd,v = .tuple #[.agg ((AF.BX X s).1.enc).toArray, .int .i64 (AF.BX X s).2.1,h.val, .int .i64 (AF.BX X s).2.2.2]∧h.len=(AF.BX X s).2.2.1.length∧B = [Ac.own h 56 16 ((AF.BX X s).2.2.1.flatMap Ing.Event.enc)]):=by
 intro w hS0 hH
 obtain⟨gl0,gm0⟩:=hH
 refine Ak _ _ Tryz.func114 rfl rfl rfl (hS0) ?_
 refine Gs ?_
 refine B5 rfl rfl rfl (fun b1=>?_)
 refine BD rfl L6 rfl (fun b2=>?_)
 refine Ga rfl (Ga rfl (Ga rfl (Gn (.t3 1 2 4) (CB (Gt (AY rfl BW .m1 (AU.id AH.fl.len AH.fl.one) rfl) ?_)))))
 refine BA rfl Yc (.c rfl .n) (fun w hS=>Fk _ w) ?_
 refine Gt (BQ rfl) (Gn (.t4 1 2 4 14) ?_)
 refine Gc (fun c1=>?_) (fun c1=>?_)
 ·
  refine Gs (Gt (AY rfl BW .m1 (AU.id AH.fl.len AH.fl.one) rfl) ?_)
  refine AS (AK (AU.id AH.fl.len AH.fl.one) rfl rfl rfl D3 rfl .h) ?_
  refine Ga rfl (Ga rfl (Ga rfl (Gn (.t4 4 5 6 7) (Ab (AD ?_)))))
  refine AZ rfl (.cell rfl .m0 (.inl ⟨(by rw [AH.fl.len];exact BW),rfl⟩) (.tmp rfl (.tmp rfl (.tmp rfl .n)))) ?_
  intro w1 hS
  have hS:=hS.Co 56 16
  have hS:=(hS.perm (Ax.perm (.c .h .n))).A1
  have hq:AF.BX X s=_:=BB c1
  refine⟨_,⟨⟨none,0,0⟩,?hv,?hl,?hB⟩,hS⟩
  case hv=>rw [hq];rfl
  case hl=>rw [hq];rfl
  case hB=>rw [hq];rfl
 have c1p:=kz c1
 refine Aa ?_
 refine AB (.t3 1 2 4) ?_
 refine AA (CB (Gm rfl ?_))
 refine BA rfl bU (.c rfl .n) (fun w hS=>Ic _ (by first | assumption | omega) w) ?_
 refine Gt (BQ rfl) (Gn (.t4 1 2 4 18) ?_)
 refine Gc (fun c2=>?_) (fun c2=>?_)
 ·
  refine Gs (Gt (AY rfl BW .m1 (AU.id AH.fl.len AH.fl.one) rfl) ?_)
  refine AS (AK (AU.id AH.fl.len AH.fl.one) rfl rfl rfl D3 rfl .h) ?_
  refine Ga rfl (Ga rfl (Ga rfl (Gn (.t4 4 5 6 7) (Ab (AD ?_)))))
  refine AZ rfl (.cell rfl .m0 (.inl ⟨(by rw [AH.fl.len];exact BW),rfl⟩) (.tmp rfl (.tmp rfl (.tmp rfl .n)))) ?_
  intro w1 hS
  have hS:=hS.Co 56 16
  have hS:=(hS.perm (Ax.perm (.c .h .n))).A1
  have hq:AF.BX X s=_:=(AX c1).trans (BB c2)
  refine⟨_,⟨⟨none,0,0⟩,?hv,?hl,?hB⟩,hS⟩
  case hv=>rw [hq];rfl
  case hl=>rw [hq];rfl
  case hB=>rw [hq];rfl
 have c2p:=kz c2
 refine Aa ?_
 refine AB (.t3 1 2 4) ?_
 refine AA (CB (Gt (Ah Bi rfl) (Gt (AY rfl Y0 .m1 AH.l2 rfl) (Gm rfl (Gn (.t5 1 2 4 21 22) (Ae ?_))))))
 refine Bo (.t5 22 1 2 4 21) ?_
 refine CQ (fun(k:Int)=>0≤k∧k≤6∧B7 6 (fun k=>!AF.It X s k) 6=B7 6 (fun k=>!AF.It X s k) (6 - k).toNat) (fun(k:Int)=>(6 - k).toNat) (fun(k:Int)=> [(22, .int .i64 k)]) (fun(k:Int)=> []) (0) ?_ rfl rfl (fun k hI1=>?_)
 · exact⟨by omega,by omega,rfl⟩
 obtain⟨hI11,hI12,hI13⟩:=hI1
 refine Gs (Gt (A8 rfl rfl) (AR (AA (Ap ?_))))
 refine Gc (fun c3=>?_) (fun c3=>?_)
 ·
  have c3p:=kz c3
  refine Aa ?_
  refine AB (.t5 1 2 4 21 22) ?_
  refine AA (Ap (Ae (Gs ?_)))
  refine Gt (GB Ag.fl Tryz.underlying33 Fl rfl rfl (by first | omega | exact hb.1 | exact hb.2 | (dsimp only;omega)) (by first | omega | exact hb.1 | exact hb.2 | (dsimp only;omega))) ?_
  refine BD rfl Lx rfl (fun b3=>?_)
  refine AS (AK (AU.id Ag.fl.len Ag.fl.one) rfl rfl rfl KX rfl .h) ?_
  refine Gn (.t6 1 2 4 9 21 22) (Gs (Gt (Ah F8 rfl) (Gt (AG rfl DN .m0 Ag.l1 rfl rfl) (Gm rfl (Bl 27 rfl rfl (fun q=>Ah IB rfl) (Bl 27 rfl rfl (fun q=>AG (Bf rfl q) CP .m0 Ag.l0 rfl rfl) (Bl 27 rfl rfl (fun q=>AE rfl) ?_)))))))
  refine Bl 27 rfl rfl (fun q=>Bt (Bf rfl q) (Bf rfl q)) (Gt (BJ rfl rfl (fun h=>h)) (Gn (.t6 1 2 4 21 22 32) ?_))
  refine Gc (fun c4=>?_) (fun c4=>?_)
  ·
   have c4p:=kz c4
   refine Gs (Gt (AY rfl BW .m2 (AU.id AH.fl.len AH.fl.one) rfl) ?_)
   refine AS (AK (AU.id AH.fl.len AH.fl.one) rfl rfl rfl D3 rfl (.t .h)) ?_
   refine Ga rfl (Ga rfl (Ga rfl (Gn (.t4 4 5 6 7) (Ab (AT (AD (AD ?_)))))))
   refine AT (AD ?_)
   refine AZ rfl (.cell rfl .m1 (.inl ⟨(by rw [AH.fl.len];exact BW),rfl⟩) (.tmp rfl (.tmp rfl (.tmp rfl .n)))) ?_
   intro w1 hS
   have hS:=hS.Co 56 16
   have hS:=(hS.perm (Ax.perm (.c .h .n))).A1
   have ha:(!B7 6 (fun k=>!AF.It X s k) 6)=true:=by rw [hI13,DY (fun k=>!AF.It X s k) (show k < 6 by omega),show AF.It X s k=true from c4];rfl
   have hq:AF.BX X s=_:=(AX c1).trans ((AX c2).trans (BB ha))
   refine⟨_,⟨⟨none,0,0⟩,?hv,?hl,?hB⟩,hS⟩
   case hv=>rw [hq];rfl
   case hl=>rw [hq];rfl
   case hB=>rw [hq];rfl
  have c4p:=kz c4
  refine Aa ?_
  refine AB (.t5 1 2 4 21 22) ?_
  refine AV (AA (AJ ?_))
  refine Gt (Aw rfl rfl (IntWalk.i64_in _ (by first | omega | exact hb.1 | exact hb.2 | (dsimp only;omega)))) ?_
  refine Gm rfl ?_
  refine AR (AB (.t5 1 2 4 21 22) ?_)
  refine Bx (k+1) ?_ ?_ (.t5 22 1 2 4 21) (.cons _ (.refl _))
  · exact⟨by omega,by omega,by rw [hI13,DY (fun k=>!AF.It X s k) (show k < 6 by omega),show AF.It X s k=false from c4];rfl⟩
  · omega
 have c3p:=kz c3
 have hno:(!B7 6 (fun k=>!AF.It X s k) 6)=false:=by rw [hI13,show(6 - k).toNat=0 by omega];rfl
 refine Ba (AW (AW (Af ?_)))
 refine AB (.t3 1 2 4) ?_
 refine AA (CB (Ga rfl (AR (AA (Ae ?_)))))
 refine Bo (.t4 10 1 2 4) ?_
 refine CQ (fun(k:Int)=>2≤k∧k≤6∧AF.CM X 6=AF.CM X (5 - (k - 1)).toNat) (fun(k:Int)=>(6 - k).toNat) (fun(k:Int)=> [(10, .int .i64 k)]) (fun(k:Int)=> []) (2) ?_ rfl rfl (fun k hI2=>?_)
 · exact⟨by omega,by omega,AF.VN X⟩
 obtain⟨hI21,hI22,hI23⟩:=hI2
 refine CB (Gm rfl (Gt (A8 rfl rfl) (Gn (.t5 1 2 4 10 36) ?_)))
 refine Gc (fun c5=>?_) (fun c5=>?_)
 ·
  have c5p:=kz c5
  refine Aa ?_
  refine AB (.t4 1 2 4 10) ?_
  refine AA (Ap (Ae (Gs (Gm rfl (Gt (Ah Bi rfl) ?_)))))
  refine Gt (AQ Cs rfl rfl (by first | omega | exact hb.1 | exact hb.2 | (dsimp only;omega)) (by first | omega | exact hb.1 | exact hb.2 | (dsimp only;omega))) ?_
  refine Gt (Ah F8 rfl) ?_
  refine Gt (AG rfl DN .m1 ((AH.l2.comp (AU.ar (n:=6) Ag.fl (by first | omega | exact hb | (dsimp only;omega)))).comp Ag.l1) rfl rfl) ?_
  refine Gt (BQ rfl) (Gn (.t5 1 2 4 10 44) ?_)
  refine Gc (fun c6=>?_) (fun c6=>?_)
  ·
   have c6p:=kz c6
   have hF:=AF.P6 (s:=s) (by simpa using c1) hw (by omega) (show 0≤k by omega) (show k < 6 by omega)
   have hb:=hF.b
   refine Gs (Gt (AY rfl BW .m1 (AU.id AH.fl.len AH.fl.one) rfl) (Gm rfl (Gt (BC UT Tz rfl (.cons Ad.l0 rfl rfl rfl (.cons Ad.l1 rfl rfl rfl .nil))) ?_)))
   refine B5 rfl rfl rfl (fun b4=>?_)
   refine Ga rfl (Gn (.t4 1 4 10 11) (Gs (Gm rfl (Gm rfl (Gm rfl (Gt (BC Wc Lx rfl (.cons Ag.l0 rfl rfl rfl (.cons Ag.l1 rfl rfl rfl (.cons Ag.l4 rfl rfl rfl .nil)))) (Gt (BV rfl) ?_)))))))
   refine Gt (Ah A9 rfl) (Gt (Ah Bi rfl) ?_)
   refine Gt (AQ Cs rfl rfl (by first | omega | exact hb.1 | exact hb.2 | (dsimp only;omega)) (by first | omega | exact hb.1 | exact hb.2 | (dsimp only;omega))) ?_
   refine AS (AK ((Ad.l0.comp AH.l2).comp (AU.ar (n:=6) Ag.fl (by first | omega | exact hb | (dsimp only;omega)))) rfl rfl rfl KX rfl .h) ?_
   refine Gn (.t3 4 10 11) (Gs (Gm rfl ?_))
   refine DU Ing.Event.enc 56 16 ?_
   refine Ai rfl Ty (.c rfl (.c rfl .n)) (.c (.t .h) (.c .h .n)) (GJ _ (⟨X.C4 k (AF.JW s),k,[]⟩:AF) _ 17 rfl hb (Nat.zero_le _)) (fun v5 B hv=>?_)
   obtain⟨y6,rfl,y7,rfl⟩:=hv
   refine Gn (.t3 4 10 11) (Gs (Gm rfl ?_))
   refine BF rfl Ub (.c rfl .n) (.c .h (.c .h .n)) (HE _ (AF.kind (⟨X.C4 k (AF.JW s),k,[]⟩:AF) 17) _ y7 hb hF.br (by decide:(0:Nat)+1≤90000)) (fun w hS=>gl0.pull gm0 hS (.c .h (.c .h .n))) (fun v8 B hv=>?_)
   obtain⟨y9,rfl,y10,rfl⟩:=hv
   refine Gn (.t3 4 10 11) (Ap ?_)
   refine BE (N:=13) [0,1,3,7,0,0,32,96,224,15,543,2047,4095] mix (by kernel_rfl) rfl ?_
   refine Pf 0 rfl (AE rfl) (Pf 1 rfl (BV rfl) (Pf 2 rfl (Ah A9 rfl) (Pf 3 rfl (AY rfl BW .m0 Ad.l0 rfl) (Pf 4 rfl (AE rfl) (Pf 5 rfl (AE rfl) (Pf 6 rfl (BV rfl) (Pf 7 rfl (Ah CK rfl) ?_)))))))
   refine Pf 8 rfl (AG rfl Dl .m0 Ad.l2 rfl rfl) ?_
   refine An 9 rfl (by kernel_rfl) ?_
   refine AS (AK (AU.id AH.fl.len AH.fl.one) rfl rfl rfl D3 rfl (.t (.t .h))) ?_
   refine BO rfl ⟨?_,?_⟩
   · exact(Po rfl (AG rfl Dl .m0 Ad.l2 rfl rfl) rfl rfl (Po rfl (Ah CK rfl) rfl rfl (Po rfl (BV rfl) rfl rfl (Po rfl (AE rfl) rfl rfl (Po rfl (AE rfl) rfl rfl (Pk (Pk (Pk (Pk Ar)))))))))
   refine Pf 10 rfl (A0 rfl) (Pf 11 rfl (A0 rfl) (Pf 12 rfl (A0 rfl) ?_))
   refine A4 (by kernel_rfl) ?_
   refine AB (.t4 4 5 6 7) ?_
   refine AA (Ab (AT (AD (AD (AT (AD ?_))))))
   refine AZ rfl (.cell rfl .m2 (.inl ⟨(by rw [AH.fl.len];exact BW),rfl⟩) (.tmp rfl (.tmp rfl (.tmp rfl .n)))) ?_
   intro w1 hS
   have hS:=(hS.perm (Ax.perm (.c (.t .h) .n))).A1
   have hfr:AF.CM X 6=k:=hI23.trans (AF.VJ hI21 (by omega) c6)
   have hf0:decide (AF.CM X 6 < 0)=false:=decide_eq_false (by omega)
   have hq:AF.BX X s=_:=(AX c1).trans ((AX c2).trans ((AX hno).trans (AX hf0)))
   rw [hfr] at hq
   refine⟨_,⟨y9,?hv,?hl,?hB⟩,hS⟩
   case hv=>rw [hq];(try rfl)
   case hl=>rw [hq];exact y10
   case hB=>rw [hq];(try rfl)
  have c6p:=kz c6
  refine Aa ?_
  refine AB (.t4 1 2 4 10) ?_
  refine AV (AA (AJ (Gm rfl ?_)))
  refine Gt (Aw rfl rfl (IntWalk.i64_in _ (by first | omega | exact hb.1 | exact hb.2 | (dsimp only;omega)))) ?_
  refine Ga rfl ?_
  refine AR (AB (.t4 1 2 4 10) ?_)
  refine Bx (k+1) ?_ ?_ (.t4 10 1 2 4) (.refl _)
  · exact⟨by omega,by omega,by rw [hI23,AF.Wt hI21 (by omega) c6,show(5 - (k+1 - 1))=5 - k by omega]⟩
  · omega
 have c5p:=kz c5
 obtain rfl:k=6:=by omega
 refine Ba (AW (AW (Af ?_)))
 refine AB (.t2 2 4) ?_
 refine AA (Gs (Gt (AY rfl BW .m1 (AU.id AH.fl.len AH.fl.one) rfl) ?_))
 refine AS (AK (AU.id AH.fl.len AH.fl.one) rfl rfl rfl D3 rfl .h) ?_
 refine Ga rfl (Ga rfl (Ga rfl (Gn (.t4 4 5 6 7) (Ab ?_))))
 refine AZ rfl (.cell rfl .m0 (.inl ⟨(by rw [AH.fl.len];exact BW),rfl⟩) (.tmp rfl (.tmp rfl (.tmp rfl .n)))) ?_
 intro w1 hS
 have hS:=hS.Co 56 16
 have hS:=(hS.perm (Ax.perm (.c .h .n))).A1
 have hf0:decide (AF.CM X 6 < 0)=true:=by rw [hI23];rfl
 have hq:AF.BX X s=_:=(AX c1).trans ((AX c2).trans ((AX hno).trans (BB hf0)))
 refine⟨_,⟨⟨none,0,0⟩,?hv,?hl,?hB⟩,hS⟩
 case hv=>rw [hq];rfl
 case hl=>rw [hq];rfl
 case hB=>rw [hq];rfl
theorem Mv (z:Int)(w:World):Eh Tryz.prog 49 #[.int .i64 z] w fun v w'=>v = .tuple #[BU (AH.form z).1,BU (AH.form z).2]∧CA w w':=by
 refine Ak [] [] Tryz.func49 rfl rfl rfl (St.start w []) ?_
 refine Gs (Ga rfl (Ga rfl (Gn (.t1 0) (CB (Gm rfl (Gn (.t1 4) (Ae ?_)))))))
 refine Gs (Gt (Aj rfl rfl) (Ga rfl (Gn (.t2 4 5) ?_)))
 refine Gc (fun c1=>?_) (fun c1=>?_)
 ·
  refine Gs (Ga rfl (Ga rfl (Gn (.t2 2 3) (Ab (AT (AD ?_))))))
  refine AZ rfl (.tmp rfl (.tmp rfl .n)) ?_
  intro w1 hS;refine⟨?_,hS.Am⟩;rw [show AH.form z=_ from(BB c1)];rfl
 refine Gs (Gt (Aj rfl rfl) (Ga rfl (Gn (.t2 4 7) ?_)))
 refine Gc (fun c2=>?_) (fun c2=>?_)
 ·
  refine Gs (Ga rfl (Ga rfl (Gn (.t2 2 3) (Ab (AT (AD ?_))))))
  refine AZ rfl (.tmp rfl (.tmp rfl .n)) ?_
  intro w1 hS;refine⟨?_,hS.Am⟩;rw [show AH.form z=_ from((AX c1).trans (BB c2))];rfl
 refine Gs (Gt (Aj rfl rfl) (Ga rfl (Gn (.t2 4 9) ?_)))
 refine Gc (fun c3=>?_) (fun c3=>?_)
 ·
  refine Gs (Ga rfl (Ga rfl (Gn (.t2 2 3) (Ab (AT (AD ?_))))))
  refine AZ rfl (.tmp rfl (.tmp rfl .n)) ?_
  intro w1 hS;refine⟨?_,hS.Am⟩;rw [show AH.form z=_ from((AX c1).trans ((AX c2).trans (BB c3)))];rfl
 refine Gs (Gt (Aj rfl rfl) (Ga rfl (Gn (.t2 4 11) ?_)))
 refine Gc (fun c4=>?_) (fun c4=>?_)
 ·
  refine Gs (Ga rfl (Ga rfl (Gn (.t2 2 3) (Ab (AT (AD ?_))))))
  refine AZ rfl (.tmp rfl (.tmp rfl .n)) ?_
  intro w1 hS;refine⟨?_,hS.Am⟩;rw [show AH.form z=_ from((AX c1).trans ((AX c2).trans ((AX c3).trans (BB c4))))];rfl
 refine Gs (Gt (Aj rfl rfl) (Ga rfl (Gn (.t2 4 13) ?_)))
 refine Gc (fun c5=>?_) (fun c5=>?_)
 ·
  refine Gs (Ga rfl (Ga rfl (Gn (.t2 2 3) (Ab (AT (AD ?_))))))
  refine AZ rfl (.tmp rfl (.tmp rfl .n)) ?_
  intro w1 hS;refine⟨?_,hS.Am⟩;rw [show AH.form z=_ from((AX c1).trans ((AX c2).trans ((AX c3).trans ((AX c4).trans (BB c5)))))];rfl
 refine Gs (Gt (Aj rfl rfl) (Ga rfl (Gn (.t2 4 15) ?_)))
 refine Gc (fun c6=>?_) (fun c6=>?_)
 ·
  refine Gs (Ga rfl (Ga rfl (Gn (.t2 2 3) (Ab (AT (AD ?_))))))
  refine AZ rfl (.tmp rfl (.tmp rfl .n)) ?_
  intro w1 hS;refine⟨?_,hS.Am⟩;rw [show AH.form z=_ from((AX c1).trans ((AX c2).trans ((AX c3).trans ((AX c4).trans ((AX c5).trans (BB c6))))))];rfl
 refine Gs (Gt (Aj rfl rfl) (Ga rfl (Gn (.t2 4 17) ?_)))
 refine Gc (fun c7=>?_) (fun c7=>?_)
 ·
  refine Gs (Ga rfl (Ga rfl (Gn (.t2 2 3) (Ab (AT (AD ?_))))))
  refine AZ rfl (.tmp rfl (.tmp rfl .n)) ?_
  intro w1 hS;refine⟨?_,hS.Am⟩;rw [show AH.form z=_ from((AX c1).trans ((AX c2).trans ((AX c3).trans ((AX c4).trans ((AX c5).trans ((AX c6).trans (BB c7)))))))];rfl
 refine Gs (Gt (Aj rfl rfl) (Ga rfl (Gn (.t2 4 19) ?_)))
 refine Gc (fun c8=>?_) (fun c8=>?_)
 ·
  refine Gs (Ga rfl (Ga rfl (Gn (.t2 2 3) (Ab (AT (AD ?_))))))
  refine AZ rfl (.tmp rfl (.tmp rfl .n)) ?_
  intro w1 hS;refine⟨?_,hS.Am⟩;rw [show AH.form z=_ from((AX c1).trans ((AX c2).trans ((AX c3).trans ((AX c4).trans ((AX c5).trans ((AX c6).trans ((AX c7).trans (BB c8))))))))];rfl
 refine Gs (Gt (Aj rfl rfl) (Ga rfl (Gn (.t2 4 21) ?_)))
 refine Gc (fun c9=>?_) (fun c9=>?_)
 ·
  refine Gs (Ga rfl (Ga rfl (Gn (.t2 2 3) (Ab (AT (AD ?_))))))
  refine AZ rfl (.tmp rfl (.tmp rfl .n)) ?_
  intro w1 hS;refine⟨?_,hS.Am⟩;rw [show AH.form z=_ from((AX c1).trans ((AX c2).trans ((AX c3).trans ((AX c4).trans ((AX c5).trans ((AX c6).trans ((AX c7).trans ((AX c8).trans (BB c9)))))))))];rfl
 refine Gs (Gt (Aj rfl rfl) (Ga rfl (Gn (.t2 4 23) ?_)))
 refine Gc (fun c10=>?_) (fun c10=>?_)
 ·
  refine Gs (Ga rfl (Ga rfl (Gn (.t2 2 3) (Ab (AT (AD ?_))))))
  refine AZ rfl (.tmp rfl (.tmp rfl .n)) ?_
  intro w1 hS;refine⟨?_,hS.Am⟩;rw [show AH.form z=_ from((AX c1).trans ((AX c2).trans ((AX c3).trans ((AX c4).trans ((AX c5).trans ((AX c6).trans ((AX c7).trans ((AX c8).trans ((AX c9).trans (BB c10))))))))))];rfl
 refine Gs (Gt (Aj rfl rfl) (Ga rfl (Gn (.t2 4 25) ?_)))
 refine Gc (fun c11=>?_) (fun c11=>?_)
 ·
  refine Gs (Ga rfl (Ga rfl (Gn (.t2 2 3) (Ab (AT (AD ?_))))))
  refine AZ rfl (.tmp rfl (.tmp rfl .n)) ?_
  intro w1 hS;refine⟨?_,hS.Am⟩;rw [show AH.form z=_ from((AX c1).trans ((AX c2).trans ((AX c3).trans ((AX c4).trans ((AX c5).trans ((AX c6).trans ((AX c7).trans ((AX c8).trans ((AX c9).trans ((AX c10).trans (BB c11)))))))))))];rfl
 refine Gs (Gt (Aj rfl rfl) (Ga rfl (Gn (.t2 4 27) ?_)))
 refine Gc (fun c12=>?_) (fun c12=>?_)
 ·
  refine Gs (Ga rfl (Ga rfl (Gn (.t2 2 3) (Ab (AT (AD ?_))))))
  refine AZ rfl (.tmp rfl (.tmp rfl .n)) ?_
  intro w1 hS;refine⟨?_,hS.Am⟩;rw [show AH.form z=_ from((AX c1).trans ((AX c2).trans ((AX c3).trans ((AX c4).trans ((AX c5).trans ((AX c6).trans ((AX c7).trans ((AX c8).trans ((AX c9).trans ((AX c10).trans ((AX c11).trans (BB c12))))))))))))];rfl
 refine Gs (Gt (Aj rfl rfl) (Ga rfl (Gn (.t2 4 29) ?_)))
 refine Gc (fun c13=>?_) (fun c13=>?_)
 ·
  refine Gs (Ga rfl (Ga rfl (Gn (.t2 2 3) (Ab (AT (AD ?_))))))
  refine AZ rfl (.tmp rfl (.tmp rfl .n)) ?_
  intro w1 hS;refine⟨?_,hS.Am⟩;rw [show AH.form z=_ from((AX c1).trans ((AX c2).trans ((AX c3).trans ((AX c4).trans ((AX c5).trans ((AX c6).trans ((AX c7).trans ((AX c8).trans ((AX c9).trans ((AX c10).trans ((AX c11).trans ((AX c12).trans (BB c13)))))))))))))];rfl
 refine Gs (Gt (Aj rfl rfl) (Ga rfl (Gn (.t2 4 31) ?_)))
 refine Gc (fun c14=>?_) (fun c14=>?_)
 ·
  refine Gs (Ga rfl (Ga rfl (Gn (.t2 2 3) (Ab (AT (AD ?_))))))
  refine AZ rfl (.tmp rfl (.tmp rfl .n)) ?_
  intro w1 hS;refine⟨?_,hS.Am⟩;rw [show AH.form z=_ from((AX c1).trans ((AX c2).trans ((AX c3).trans ((AX c4).trans ((AX c5).trans ((AX c6).trans ((AX c7).trans ((AX c8).trans ((AX c9).trans ((AX c10).trans ((AX c11).trans ((AX c12).trans ((AX c13).trans (BB c14))))))))))))))];rfl
 refine Gs (Gt (Aj rfl rfl) (Ga rfl (Gn (.t2 4 33) ?_)))
 refine Gc (fun c15=>?_) (fun c15=>?_)
 ·
  refine Gs (Ga rfl (Ga rfl (Gn (.t2 2 3) (Ab (AT (AD ?_))))))
  refine AZ rfl (.tmp rfl (.tmp rfl .n)) ?_
  intro w1 hS;refine⟨?_,hS.Am⟩;rw [show AH.form z=_ from((AX c1).trans ((AX c2).trans ((AX c3).trans ((AX c4).trans ((AX c5).trans ((AX c6).trans ((AX c7).trans ((AX c8).trans ((AX c9).trans ((AX c10).trans ((AX c11).trans ((AX c12).trans ((AX c13).trans ((AX c14).trans (BB c15)))))))))))))))];rfl
 refine Gs (Gt (Aj rfl rfl) (Ga rfl (Gn (.t2 4 35) ?_)))
 refine Gc (fun c16=>?_) (fun c16=>?_)
 ·
  refine Gs (Ga rfl (Ga rfl (Gn (.t2 2 3) (Ab (AT (AD ?_))))))
  refine AZ rfl (.tmp rfl (.tmp rfl .n)) ?_
  intro w1 hS;refine⟨?_,hS.Am⟩;rw [show AH.form z=_ from((AX c1).trans ((AX c2).trans ((AX c3).trans ((AX c4).trans ((AX c5).trans ((AX c6).trans ((AX c7).trans ((AX c8).trans ((AX c9).trans ((AX c10).trans ((AX c11).trans ((AX c12).trans ((AX c13).trans ((AX c14).trans ((AX c15).trans (BB c16))))))))))))))))];rfl
 refine Gs (Gt (Aj rfl rfl) (Ga rfl (Gn (.t2 4 37) ?_)))
 refine Gc (fun c17=>?_) (fun c17=>?_)
 ·
  refine Gs (Ga rfl (Ga rfl (Gn (.t2 2 3) (Ab (AT (AD ?_))))))
  refine AZ rfl (.tmp rfl (.tmp rfl .n)) ?_
  intro w1 hS;refine⟨?_,hS.Am⟩;rw [show AH.form z=_ from((AX c1).trans ((AX c2).trans ((AX c3).trans ((AX c4).trans ((AX c5).trans ((AX c6).trans ((AX c7).trans ((AX c8).trans ((AX c9).trans ((AX c10).trans ((AX c11).trans ((AX c12).trans ((AX c13).trans ((AX c14).trans ((AX c15).trans ((AX c16).trans (BB c17)))))))))))))))))];rfl
 refine Gs (Gt (Aj rfl rfl) (Ga rfl (Gn (.t1 39) ?_)))
 refine Gc (fun c18=>?_) (fun c18=>?_)
 ·
  refine Gs (Ga rfl (Ga rfl (Gn (.t2 2 3) (Ab (AT (AD ?_))))))
  refine AZ rfl (.tmp rfl (.tmp rfl .n)) ?_
  intro w1 hS;refine⟨?_,hS.Am⟩;rw [show AH.form z=_ from((AX c1).trans ((AX c2).trans ((AX c3).trans ((AX c4).trans ((AX c5).trans ((AX c6).trans ((AX c7).trans ((AX c8).trans ((AX c9).trans ((AX c10).trans ((AX c11).trans ((AX c12).trans ((AX c13).trans ((AX c14).trans ((AX c15).trans ((AX c16).trans ((AX c17).trans (BB c18))))))))))))))))))];rfl
 refine Aa ?_
 refine AB (.nil _) ?_
 refine AV (AA (Gs (Ga rfl (Ga rfl (AR (AA (Ab ?_)))))))
 refine AZ rfl (.tmp rfl (.tmp rfl .n)) ?_
 intro w1 hS;refine⟨?_,hS.Am⟩;rw [show AH.form z=_ from((AX c1).trans ((AX c2).trans ((AX c3).trans ((AX c4).trans ((AX c5).trans ((AX c6).trans ((AX c7).trans ((AX c8).trans ((AX c9).trans ((AX c10).trans ((AX c11).trans ((AX c12).trans ((AX c13).trans ((AX c14).trans ((AX c15).trans ((AX c16).trans ((AX c17).trans (AX c18))))))))))))))))))];rfl
theorem C9 (b:Nat)(p:Option Addr)(h:Hd)(hp:p=none∨p=some ⟨b,0,none⟩):JO Tryz.prog 71 #[.pointer (some ⟨b,0,none⟩)] [Ac.box b 107 (DX.enc ⟨p,h⟩)] (fun v B=>v = .tuple #[]∧B = [Ac.box b 107 (DX.enc ⟨some ⟨b,0,none⟩,h⟩)]):=by
 intro w hS0
 refine Ak _ _ Tryz.func71 rfl rfl rfl (hS0) ?_
 refine Gs (Gm rfl (Gt (BV rfl) (Gt (Ah Q4 rfl) (Gt (AG rfl W5 .m0 DX.l0 rfl rfl) (Gt (EM Tryz.underlying104 rfl) (Gn (.t2 0 6) ?_))))))
 refine Gc (fun c1=>?_) (fun c1=>?_)
 ·
  obtain rfl:p=none:=by simpa using c1
  refine AJ (Gm rfl (Gm rfl ?_))
  refine Gt ((let ⟨_,h,h2⟩:=TO;Sd Tryz.underlying104 Tryz.underlying152 h h2 rfl .m0 (by rw [DX.fl.len];decide))) ?_
  refine Gt (SC Tryz.func85 (by kernel_rfl) (by kernel_rfl) (by kernel_rfl) (by kernel_rfl) rfl) ?_
  refine Gt ((let ⟨_,h,_⟩:=TO;PJ Tryz.underlying152 Tryz.underlying104 h rfl .m0 (by rw [DX.fl.len];kernel_rfl))) ?_
  refine Gt (BV rfl) (Gt (Ah Q4 rfl) ?_)
  refine AS (AK DX.l0 rfl rfl rfl ZG rfl .h) ?_
  refine AR ?_
  refine Bk rfl .n ?_
  intro w1 hS
  have hS:=(hS.perm (Ax.perm (.c .h .n))).A1
  exact⟨_,⟨rfl,rfl⟩,hS⟩
 obtain rfl:p=some ⟨b,0,none⟩:=by rcases hp with h | h;(subst h;simp at c1);exact h
 refine Gs (Gm rfl (Gt (BV rfl) (Gt (Ah Q4 rfl) (Gt (AG rfl W5 .m0 DX.l0 rfl rfl) (Gm rfl (Gt ((let ⟨_,h,_⟩:=TO;Qk Tryz.underlying104 h rfl rfl)) (Gn (.t1 19) ?_)))))))
 refine DD rfl rfl ?_
 refine Aa ?_
 refine Bk rfl .n ?_
 intro w1 hS
 have hS:=(hS.perm (Ax.perm (.c .h .n))).A1
 exact⟨_,⟨rfl,rfl⟩,hS⟩
theorem Cj (b:Nat)(p:Option Addr)(h:Hd)(s:Aq)(hp:p=none∨p=some ⟨b,0,none⟩)(hz:h.Z)(hl:h.len=s.length)(c:UInt8)(hb:s.length < 140737488355000):JO Tryz.prog 50 #[.pointer (some ⟨b,0,none⟩), .int .u8 (c.toNat:Int)] [Ac.box b 107 (DX.enc ⟨p,h⟩),Ac.own h 5 1 (s.flatMap DR)] (fun v B=>∃ p' h',v = .nilIface∧(p'=none∨p'=some ⟨b,0,none⟩)∧h'.Z∧h'.len=(s ++ [c]).length∧B = [Ac.box b 107 (DX.enc ⟨p',h'⟩),Ac.own h' 5 1 ((s ++ [c]).flatMap DR)]):=by
 intro w hS0
 refine Ak _ _ Tryz.func50 rfl rfl rfl (hS0) ?_
 refine Gs (Ga rfl (Gn (.t2 0 1) (Gs (Gm rfl ?_))))
 refine Ai rfl Z7 (.c rfl .n) (.c .h .n) (C9 _ _ _ (by first | assumption | omega)) (fun v1 B hv=>?_)
 obtain⟨rfl,rfl⟩:=hv
 refine Gn (.t2 0 1) (Gs (Gm rfl (Gm rfl (Gt (BV rfl) (Gt (Ah Eu rfl) (Gt (AG rfl IJ .m0 DX.l1 rfl rfl) (Gm rfl ?_)))))))
 refine TZ rfl Tryz.underlying105 Vt Z2 rfl (by decide) (by decide) rfl rfl rfl (fun b1=>?_)
 refine N8 rfl Tryz.underlying105 Vt Z2 rfl dZ (by decide) (by decide) rfl rfl (fun w hS=>Src.Dz Tryz.underlying105 ((Kn.own .m0) w hS)) (by intro v hv;simp at hv;subst hv;rfl) (by dsimp only;omega) (fun _=>(.t (.t .h))) (fun h2 h2l h2z=>?_)
 have h2z:=h2z hz;dsimp only at h2l
 refine Gt (BV rfl) (Gt (Ah Eu rfl) ?_)
 refine AS (AK DX.l1 rfl rfl rfl UY rfl (.t .h)) ?_
 refine Gn (.nil _) (Gs (Ga rfl (AR (AA (Ab ?_)))))
 refine AZ rfl (.tmp rfl .n) ?_
 intro w1 hS
 have hS:=(hS.perm (Ax.perm (.c (.t .h) (.c (.t .h) .n)))).A1
 exact⟨_,⟨_,_,rfl, .inr rfl,by assumption,by simp;omega,by rw [List.flatMap_append];rfl⟩,hS⟩
theorem BM (b:Nat)(p:Option Addr)(h:Hd)(s:Aq)(hp:p=none∨p=some ⟨b,0,none⟩)(hz:h.Z)(hl:h.len=s.length)(t:Aq)(hb:s.length+t.length < 140737488355000):JO Tryz.prog 51 #[.pointer (some ⟨b,0,none⟩),BU t] [Ac.box b 107 (DX.enc ⟨p,h⟩),Ac.own h 5 1 (s.flatMap DR)] (fun v B=>∃ p' h',v = .tuple #[.int .i64 t.length, .nilIface]∧(p'=none∨p'=some ⟨b,0,none⟩)∧h'.Z∧h'.len=(s++t).length∧B = [Ac.box b 107 (DX.enc ⟨p',h'⟩),Ac.own h' 5 1 ((s++t).flatMap DR)]):=by
 intro w hS0
 refine Ak _ _ Tryz.func51 rfl rfl rfl (hS0) ?_
 refine Gs (Ga rfl (Ga rfl (Gn (.t2 0 1) (Gs (Gm rfl ?_)))))
 refine Ai rfl Z7 (.c rfl .n) (.c .h .n) (C9 _ _ _ (by first | assumption | omega)) (fun v1 B hv=>?_)
 obtain⟨rfl,rfl⟩:=hv
 refine Gn (.t2 0 1) (Gs (Gm rfl (Gm rfl (Gt (BV rfl) (Gt (Ah Eu rfl) (Gt (AG rfl IJ .m0 DX.l1 rfl rfl) (Gm rfl ?_)))))))
 refine Cd WA rfl Tryz.underlying105 Vt Z2 rfl dZ (by decide) (by decide) rfl rfl (fun _ _=>Src.str Tryz.underlying9) (by dsimp only;omega) (fun _=>(.t .h)) (fun h2 h2l h2z=>?_)
 have h2z:=h2z hz;dsimp only at h2l
 refine Gt (BV rfl) (Gt (Ah Eu rfl) ?_)
 refine AS (AK DX.l1 rfl rfl rfl UY rfl .h) ?_
 refine Gn (.t1 1) (Gs (Gm rfl (Gt (BH rfl Tryz.underlying9 rfl) (Ga rfl (Ga rfl (Gn (.t2 4 5) (Ab ?_)))))))
 refine AZ rfl (.tmp rfl (.tmp rfl .n)) ?_
 intro w1 hS
 have hS:=(hS.perm (Ax.perm (.c .h (.c .h .n)))).A1
 exact⟨_,⟨_,_,rfl, .inr rfl,by assumption,by simp;omega,by rw [List.flatMap_append]⟩,hS⟩
def Q3:Go.Shelf.Ren:=⟨fun | 171=>53 | 243=>72 | 246=>86 | 283=>108 | 284=>109 | 285=>110 | 286=>111 | 129=>142 | 317=>141 | 318=>143 | 319=>144 | 320=>145 | 337=>162 | 338=>163 | n=>n,fun | 3=>3 | 9=>9 | 2=>2 | 4=>4 | 171=>172 | 0=>0 | 53=>173 | 37=>105 | 5=>5 | 173=>176 | 212=>205 | 51=>178 | 20=>20 | 213=>206 | 46=>140 | 232=>226 | 233=>227 | n=>n,fun | 17=>2 | 18=>3 | 19=>4 | n=>n⟩
theorem W9:LaysM.n171 Tryz.prog Q3 where
  mixed:=by kernel_rfl
  f129:=Tryz.func142.trans (congrArg some (by kernel_rfl))
  f171:=Tryz.func53.trans (congrArg some (by kernel_rfl))
  f243:=Tryz.func72.trans (congrArg some (by kernel_rfl))
  f246:=Tryz.func86.trans (congrArg some (by kernel_rfl))
  f283:=Tryz.func108.trans (congrArg some (by kernel_rfl))
  f284:=Tryz.func109.trans (congrArg some (by kernel_rfl))
  f285:=Tryz.func110.trans (congrArg some (by kernel_rfl))
  f286:=Tryz.func111.trans (congrArg some (by kernel_rfl))
  f317:=Tryz.func141.trans (congrArg some (by kernel_rfl))
  f318:=Tryz.func143.trans (congrArg some (by kernel_rfl))
  f319:=Tryz.func144.trans (congrArg some (by kernel_rfl))
  f320:=Tryz.func145.trans (congrArg some (by kernel_rfl))
  f337:=Tryz.func162.trans (congrArg some (by kernel_rfl))
  f338:=Tryz.func163.trans (congrArg some (by kernel_rfl))
  t0:=Tryz.underlying0
  a0:=Tryz.isAgg0
  z0:=Tryz.sizeOf0
  v0:=Tryz.zeroValue0
  t2:=Tryz.underlying2
  a2:=Tryz.isAgg2
  z2:=Tryz.sizeOf2
  v2:=Tryz.zeroValue2
  t3:=Tryz.underlying3
  a3:=Tryz.isAgg3
  z3:=Tryz.sizeOf3
  v3:=Tryz.zeroValue3
  t4:=Tryz.underlying4
  a4:=Tryz.isAgg4
  z4:=Tryz.sizeOf4
  v4:=Tryz.zeroValue4
  t5:=Tryz.underlying5
  a5:=Tryz.isAgg5
  z5:=Tryz.sizeOf5
  v5:=Tryz.zeroValue5
  t9:=Tryz.underlying9
  a9:=Tryz.isAgg9
  z9:=Tryz.sizeOf9
  v9:=Tryz.zeroValue9
  t20:=Tryz.underlying20
  a20:=Tryz.isAgg20
  z20:=Tryz.sizeOf20
  v20:=Tryz.zeroValue20
  t37:=Tryz.underlying105
  a37:=Tryz.isAgg105
  z37:=Tryz.sizeOf105
  v37:=Tryz.zeroValue105
  t46:=Tryz.underlying140
  a46:=Tryz.isAgg140
  z46:=Tryz.sizeOf140
  v46:=Tryz.zeroValue140
  t51:=Tryz.underlying178
  a51:=Tryz.isAgg178
  z51:=Tryz.sizeOf178
  v51:=Tryz.zeroValue178
  t53:=Tryz.underlying173
  a53:=Tryz.isAgg173
  z53:=Tryz.sizeOf173
  v53:=Tryz.zeroValue173
  t171:=Tryz.underlying172
  a171:=Tryz.isAgg172
  z171:=Tryz.sizeOf172
  v171:=Tryz.zeroValue172
  t173:=Tryz.underlying176
  a173:=Tryz.isAgg176
  z173:=Tryz.sizeOf176
  v173:=Tryz.zeroValue176
  t212:=Tryz.underlying205
  a212:=Tryz.isAgg205
  z212:=Tryz.sizeOf205
  v212:=Tryz.zeroValue205
  t213:=Tryz.underlying206
  a213:=Tryz.isAgg206
  z213:=Tryz.sizeOf206
  t232:=Tryz.underlying226
  a232:=Tryz.isAgg226
  z232:=Tryz.sizeOf226
  v232:=Tryz.zeroValue226
  t233:=Tryz.underlying227
  a233:=Tryz.isAgg227
  z233:=Tryz.sizeOf227
  v233:=Tryz.zeroValue227
  g17:=by kernel_rfl
  g18:=by kernel_rfl
  g19:=by kernel_rfl
  i0:=by kernel_rfl
  i2:=by kernel_rfl
  i3:=by kernel_rfl
  i4:=by kernel_rfl
  i5:=by kernel_rfl
  i9:=by kernel_rfl
  i20:=by kernel_rfl
  i37:=by kernel_rfl
  i46:=by kernel_rfl
  i51:=by kernel_rfl
  i53:=by kernel_rfl
  i171:=by kernel_rfl
  i173:=by kernel_rfl
  i212:=by kernel_rfl
  i232:=by kernel_rfl
  i233:=by kernel_rfl
  m17:=by kernel_rfl
  m18:=by kernel_rfl
  m19:=by kernel_rfl
theorem L3 (n:Int)(h0:-9223372036854775808≤n)(hy:n≤9223372036854775807)(w:World)(gl0:GV 2 Fo w):Eh Tryz.prog 53 #[.int .i64 n] w fun v w'=>v=BU (Lib.itoa n)∧CA w w':=
  Eh.Yu (Any.strconv_Itoa W9 n h0 hy w (TU (by kernel_rfl) gl0))
theorem Cv (b:Nat)(p:Option Addr)(h:Hd)(s:Aq)(hz:h.Z)(hl:h.len=s.length)(hb:s.length < 140737488355000):JO Tryz.prog 54 #[.pointer (some ⟨b,0,none⟩)] [Ac.box b 107 (DX.enc ⟨p,h⟩),Ac.own h 5 1 (s.flatMap DR)] (fun v B=>v=BU s∧B = [Ac.box b 107 (DX.enc ⟨p,h⟩)]):=by
 intro w hS0
 refine Ak _ _ Tryz.func54 rfl rfl rfl (hS0) ?_
 refine Gs (Ga rfl (Gn (.t1 0) (Ap ?_)))
 refine BE (N:=12) [0,1,3,7,15,0,32,96,224,480,1023,2047] mix (by kernel_rfl) rfl ?_
 refine Pf 0 rfl (AE rfl) (Pf 1 rfl (BV rfl) (Pf 2 rfl (Ah Eu rfl) (Pf 3 rfl (AG rfl IJ .m0 DX.l1 rfl rfl) ?_)))
 refine Pf 4 rfl (QV rfl (by assumption)) ?_
 refine Pf 5 rfl (AE rfl) (Pf 6 rfl (BV rfl) (Pf 7 rfl (Ah Eu rfl) (Pf 8 rfl (AG rfl IJ .m0 DX.l1 rfl rfl) (Pf 9 rfl (Av rfl Tryz.underlying105 rfl) ?_))))
 refine An 10 rfl (by kernel_rfl) ?_
 refine M9 rfl Tryz.underlying134 eB rfl rfl (by assumption) (by omega) (.t .h) ?_
 refine Bp rfl ⟨?_,?_⟩
 · exact(Pk (Pk (Pk (Pk (Pk (Pk (Pk (Pk (Pk (Pk Ar))))))))))
 refine Pf 11 rfl (A0 rfl) ?_
 refine A4 (by kernel_rfl) ?_
 refine AB (.t1 2) ?_
 refine AA (Ab ?_)
 refine AZ rfl (.tmp rfl .n) ?_
 intro w1 hS
 have hS:=(hS.perm (Ax.perm (.c .h .n))).A1
 exact⟨_,⟨rfl,rfl⟩,hS⟩
theorem M3 (e:Ing.Event)(b:Int)(hs:(decide (b < 0) || decide (6≤b) || decide (AH.SM (e.He.at b) 1=0))=false→AH.Small e)(w:World)(gl0:GV 2 Fo w)(gl1:GV 0 AH.DG w):Eh Tryz.prog 23 #[.agg e.enc.toArray, .int .i64 b] w fun v w'=>v = .tuple #[BU (AH.tell e b).1, .bool (AH.tell e b).2]∧CA w w':=by
 refine Ak [] [] Tryz.func23 rfl rfl rfl (St.start w []) ?_
 refine Gs ?_
 refine B5 rfl rfl rfl (fun b1=>?_)
 refine Ga rfl (Ga rfl (Gn (.t2 1 2) (CB (Gm rfl (Gt (A8 rfl rfl) (Gm rfl (BZ 17 rfl rfl (fun q=>AE rfl) ?_)))))))
 refine BZ 17 rfl rfl (fun q=>CI (cF rfl q) rfl) ?_
 refine Gt (BS rfl rfl (fun h=>by rw [h];rfl)) ?_
 refine Gm rfl (BZ 21 rfl rfl (fun q=>AE rfl) (BZ 21 rfl rfl (fun q=>Ah NK rfl) ?_))
 refine BZ 21 rfl rfl (fun q=>by have q1:=q;(try simp at q1);exact AQ R4 (cF rfl q) (cF rfl q) (by first | omega | (simp only [List.length_cons,List.length_nil];omega)) (by first | omega | (simp only [List.length_cons,List.length_nil];omega))) ?_
 refine BZ 21 rfl rfl (fun q=>by have q1:=q;(try simp at q1);exact AG (cF rfl q) A5 .m0 (Ing.Event.l10.comp (AU.arr (n:=6) B2 (by first | omega | (simp only [List.length_cons,List.length_nil];omega)) (by first | omega | (simp only [List.length_cons,List.length_nil];omega)))) rfl rfl) ?_
 refine BZ 21 rfl rfl (fun q=>Qt (cF rfl q) rfl (show _=AH.SM _ _ from rfl)) (BZ 21 rfl rfl (fun q=>Aj (cF rfl q) rfl) ?_)
 refine Gt (BS rfl rfl (fun h=>by rw [h];rfl)) ?_
 refine Gn (.t3 1 2 28) ?_
 refine Gc (fun c1=>?_) (fun c1=>?_)
 ·
  refine Gs (Ga rfl (Ga rfl (Gn (.t2 4 5) (Ab (AD ?_)))))
  refine AZ rfl (.tmp rfl (.tmp rfl .n)) ?_
  intro w1 hS;refine⟨?_,hS.Am⟩;rw [show AH.tell e b=_ from BB c1];rfl
 have c1p:=kz c1
 have hs:=hs c1
 have hr:0≤b∧b < 6:=by simp at c1;omega
 have htl:=AH.Oo e b
 have h1l:=AH.P8 hs b
 have h2l:=AH.N1 hs b
 have h3l:=hs.Bs
 have h4l:=hs.text
 have h5l:=AH.I2 e.dir
 have h6l:=Lib.itoa_length_le e.n hs.n0 hs.n1
 refine Aa ?_
 refine AB (.t2 1 2) ?_
 refine AA (Gs (Gt (Ah Si rfl) (Gt (AG rfl A5 .m0 Ing.Event.l0 rfl rfl) ?_)))
 refine BA rfl cm (.c rfl .n) (fun w hS=>Mv _ w) ?_
 refine Gm rfl (Gt (AN rfl rfl) (Gt (AN rfl rfl) (Ga rfl (Ga rfl (Gn (.t4 1 2 6 7) (Gs (Gm rfl ?_)))))))
 refine Ga rfl (Gn (.t4 1 2 6 8) (CB (Gm rfl (Gt (Ah Qg rfl) (Gt (AG rfl A5 .m0 Ing.Event.l2 rfl rfl) (Gt (Aj rfl rfl) (Gn (.t5 1 2 6 8 39) ?_)))))))
 refine Zh (BU) (s:=(AH.EK e b)) rfl rfl rfl rfl rfl rfl rfl ?_
 refine AB (.t3 1 2 8) ?_
 refine AA (CB (Gm rfl (Gt (Bt rfl rfl) (Gn (.t4 1 2 8 42) ?_))))
 refine Gc (fun c2=>?_) (fun c2=>?_)
 ·
  refine Gs (Ga rfl (Ga rfl (Gn (.t2 4 5) (Ab (AD ?_)))))
  refine AZ rfl (.tmp rfl (.tmp rfl .n)) ?_
  intro w1 hS;refine⟨?_,hS.Am⟩;rw [show AH.tell e b=_ from(AX c1).trans (BB c2)];rfl
 have c2p:=kz c2
 refine Aa ?_
 refine AB (.t3 1 2 8) ?_
 refine AA (Ap ?_)
 refine BE (N:=6) [0,1,0,4,3,31] mix (by kernel_rfl) rfl ?_
 refine Pf 0 rfl (Ah XI rfl) (Pf 1 rfl (AG rfl CP .m0 Ing.Event.l6 rfl rfl) (Pf 2 rfl (Ah WB rfl) (Pf 3 rfl (AG rfl CP .m0 Ing.Event.l7 rfl rfl) (Pf 4 rfl (A0 rfl) (Pf 5 rfl (A0 rfl) ?_)))))
 refine A4 (by kernel_rfl) ?_
 refine AB (.t5 1 2 8 9 10) ?_
 refine AA (CB (Gm rfl (Gt (Ah NK rfl) ?_)))
 refine Gt (AQ R4 rfl rfl (by first | omega | (simp only [List.length_cons,List.length_nil];omega)) (by first | omega | (simp only [List.length_cons,List.length_nil];omega))) ?_
 refine Gt (AG rfl A5 .m0 (Ing.Event.l10.comp (AU.arr (n:=6) B2 (by first | omega | (simp only [List.length_cons,List.length_nil];omega)) (by first | omega | (simp only [List.length_cons,List.length_nil];omega)))) rfl rfl) ?_
 refine Gt (Qt rfl rfl (show _=AH.SM _ _ from rfl)) (Gt (Ce rfl rfl) (Gn (.t6 1 2 8 9 10 52) ?_))
 refine QO (BU) (s:=(AH.IQ e b)) rfl rfl rfl rfl rfl ?_
 refine AB (.t5 1 2 8 9 10) ?_
 refine AA (CB (Gm rfl (Gt (Ah NK rfl) ?_)))
 refine Gt (AQ R4 rfl rfl (by first | omega | (simp only [List.length_cons,List.length_nil];omega)) (by first | omega | (simp only [List.length_cons,List.length_nil];omega))) ?_
 refine Gt (AG rfl A5 .m0 (Ing.Event.l10.comp (AU.arr (n:=6) B2 (by first | omega | (simp only [List.length_cons,List.length_nil];omega)) (by first | omega | (simp only [List.length_cons,List.length_nil];omega)))) rfl rfl) ?_
 refine Gt (Qt rfl rfl (show _=AH.SM _ _ from rfl)) (Gt (Ce rfl rfl) (Gn (.t6 1 2 8 9 10 58) ?_))
 refine QO (BU) (s:=AH.Xw e b) rfl rfl rfl rfl rfl ?_
 refine AB (.t5 1 2 8 9 10) ?_
 refine AA (CB (Gm rfl (Gt (Ah Gx rfl) (Gt (AG rfl A5 .m0 Ing.Event.l3 rfl rfl) (Gt (Aj rfl rfl) (Gn (.t5 2 8 9 10 62) ?_))))))
 refine QO (BU) (s:=(AH.GH e b)) rfl rfl rfl rfl rfl ?_
 refine AB (.t4 2 8 9 10) ?_
 refine AA (Gs ?_)
 refine BD rfl UQ rfl (fun b2=>?_)
 refine DU DR 5 1 ?_
 refine AR (AA (CB (Gm rfl (Gt (BH rfl Tryz.underlying9 rfl) (Gm rfl (Gn (.t7 2 8 9 10 11 64 65) (Ae ?_)))))))
 refine Bo (.t7 65 2 8 9 10 11 64) ?_
 refine Bh (.t .h) ?_
 refine Bh (.t .h) ?_
 refine HS (fun(k:Int) (x:Aq) (p:Option Addr) (h:Hd)=>0≤k∧k≤((AH.EK e b).length:Int)∧x=AH.told e (AH.IQ e b) (AH.GH e b) (AH.EK e b) k.toNat∧(p=none∨p=some ⟨b2,0,none⟩)∧h.Z∧h.len=x.length) (fun(k:Int) (x:Aq) (p:Option Addr) (h:Hd)=>(((AH.EK e b).length:Int) - k).toNat) (fun(k:Int) (x:Aq) (p:Option Addr) (h:Hd)=> [(65, .int .i64 k)]) (fun(k:Int) (x:Aq) (p:Option Addr) (h:Hd)=> [Ac.own h 5 1 (x.flatMap DR),Ac.box b2 107 (DX.enc ⟨p,h⟩)]) (0) ([]) (none) (⟨none,0,0⟩) ?_ rfl rfl (fun k x p h hI1=>?_)
 · exact⟨by omega,by omega,rfl, .inl rfl,Hd.Ue,rfl⟩
 obtain⟨hI11,hI12,hI13,hp,hz,hl⟩:=hI1;have hxl:=AH.Of hs h1l h2l (AH.EK e b) k.toNat;rw [← hI13] at hxl;have hxm:k.toNat * 2000000≤60000000:=by omega
 refine Gs (Gt (A8 rfl rfl) (AR (AA (Ap ?_))))
 refine Gc (fun c3=>?_) (fun c3=>?_)
 ·
  have c3p:=kz c3
  refine Aa ?_
  refine AB (.t7 2 8 9 10 11 64 65) ?_
  refine AA (Ap (Ae (Gs (Gm rfl (Ga rfl (Gn (.t8 2 8 9 10 11 12 64 65) (Gs ?_)))))))
  refine Gm rfl (Gm rfl ?_)
  refine Gt (Bm Tryz.underlying9 rfl rfl (by first | omega | (simp only [List.length_cons,List.length_nil];omega)) (by first | omega | (simp only [List.length_cons,List.length_nil];omega))) ?_
  refine Ga rfl (Gn (.t9 2 8 9 10 11 12 13 64 65) (Gs (Gm rfl (Gt (Aj rfl rfl) (Gm rfl (BZ 73 rfl rfl (fun q=>AE rfl) (BZ 73 rfl rfl (fun q=>AE rfl) ?_)))))))
  refine BZ 73 rfl rfl (fun q=>by have q1:=q;(try simp at q1);exact FR (cF rfl q) rfl (IntWalk.i64_in _ (by first | omega | (simp only [List.length_cons,List.length_nil];omega)))) ?_
  refine BZ 73 rfl rfl (fun q=>by have q1:=q;(try simp at q1);exact Bm Tryz.underlying9 (cF rfl q) (cF rfl q) (by first | omega | (simp only [List.length_cons,List.length_nil];omega)) (by first | omega | (simp only [List.length_cons,List.length_nil];omega))) ?_
  refine BZ 73 rfl rfl (fun q=>Aj (cF rfl q) rfl) ?_
  refine Gt (BS rfl rfl (fun h=>by rw [h];rfl)) ?_
  refine Gm rfl (Bl 80 rfl rfl (fun q=>AE rfl) ?_)
  refine Bl 80 rfl rfl (fun q=>by have q1:=q;(try simp at q1);exact Aw (Bf rfl q) rfl (IntWalk.i64_in _ (by first | omega | (simp only [List.length_cons,List.length_nil];omega)))) ?_
  refine Bl 80 rfl rfl (fun q=>AE rfl) (Bl 80 rfl rfl (fun q=>BH rfl Tryz.underlying9 (Bf rfl q)) (Bl 80 rfl rfl (fun q=>Aj (Bf rfl q) (Bf rfl q)) (Bl 80 rfl rfl (fun q=>AE (Bf rfl q)) ?_)))
  refine C3 (t:=86) rfl rfl rfl (fun qc q=>AE rfl) ?_
  refine C3 (t:=86) rfl rfl rfl (fun qc q=>AE rfl) ?_
  refine C3 (t:=86) rfl rfl rfl (fun qc q=>by have q1:=q;have qc1:=qc;(try simp at q1 qc1);exact Aw (Bf rfl (by rw [qc,q];rfl)) rfl (IntWalk.i64_in _ (by first | omega | (simp only [List.length_cons,List.length_nil];omega)))) ?_
  refine C3 (t:=86) rfl rfl rfl (fun qc q=>by have q1:=q;have qc1:=qc;(try simp at q1 qc1);exact Bm Tryz.underlying9 (Bf rfl (by rw [qc,q];rfl)) (Bf rfl (by rw [qc,q];rfl)) (by first | omega | (simp only [List.length_cons,List.length_nil];omega)) (by first | omega | (simp only [List.length_cons,List.length_nil];omega))) ?_
  refine C3 (t:=86) rfl rfl rfl (fun qc q=>Aj (Bf rfl (by rw [qc,q];rfl)) rfl) ?_
  refine Bl 80 rfl rfl (fun q=>BS (Bf rfl q) rfl (fun h=>by rw [q,h];rfl)) ?_
  refine Bl 80 rfl rfl (fun q=>AE (Bf rfl q)) ?_
  refine C3 (t:=93) rfl rfl rfl (fun qc q=>AE rfl) ?_
  refine C3 (t:=93) rfl rfl rfl (fun qc q=>AE rfl) ?_
  refine C3 (t:=93) rfl rfl rfl (fun qc q=>by have q1:=q;have qc1:=qc;(try simp at q1 qc1);exact Aw (Bf rfl (by rw [qc,q];rfl)) rfl (IntWalk.i64_in _ (by first | omega | (simp only [List.length_cons,List.length_nil];omega)))) ?_
  refine C3 (t:=93) rfl rfl rfl (fun qc q=>by have q1:=q;have qc1:=qc;(try simp at q1 qc1);exact Bm Tryz.underlying9 (Bf rfl (by rw [qc,q];rfl)) (Bf rfl (by rw [qc,q];rfl)) (by first | omega | (simp only [List.length_cons,List.length_nil];omega)) (by first | omega | (simp only [List.length_cons,List.length_nil];omega))) ?_
  refine C3 (t:=93) rfl rfl rfl (fun qc q=>Aj (Bf rfl (by rw [qc,q];rfl)) rfl) ?_
  refine Bl 80 rfl rfl (fun q=>BS (Bf rfl q) rfl (fun h=>by rw [q,h];rfl)) ?_
  refine Gt (BJ rfl rfl (fun h=>h)) (Ga rfl (Gn (.t9 2 8 9 10 11 13 14 64 65) (Ae (Gs (Gm rfl (Gt (BQ rfl) (Ga rfl ?_)))))))
  refine Gn (.t9 2 8 9 10 11 13 64 65 103) ?_
  refine Gc (fun c4=>?_) (fun c4=>?_)
  ·
   have c4p:=kz c4
   refine AJ (Gm rfl ?_)
   refine Ai rfl YU (.c rfl (.c rfl .n)) (.c (.t .h) (.c .h .n)) (Cj _ _ _ _ (by assumption) (by assumption) (by assumption) _ (by omega)) (fun v1 B hv=>?_)
   obtain⟨y2,y3,rfl,y4,y5,y6,rfl⟩:=hv
   refine AR (AB (.t7 2 8 9 10 11 64 65) ?_)
   refine AV (AV (AA (AJ ?_)))
   refine Gt (Aw rfl rfl (IntWalk.i64_in _ (by first | omega | (simp only [List.length_cons,List.length_nil];omega)))) ?_
   refine Gm rfl ?_
   refine AR (AB (.t7 2 8 9 10 11 64 65) ?_)
   refine CJ (.c (.t .h) (.c .h (.c .h .n))) ?_
   refine Cc ?_
   refine Cy (k+1) _ _ _ ?_ ?_ (.t7 65 2 8 9 10 11 64) (.refl _)
   · exact⟨by omega,by omega,by rw [AH.Fb hI11,← hI13,show AH.piece e (AH.IQ e b) (AH.GH e b) (AH.EK e b) k=_ from(BB c4)],by assumption,by assumption,by assumption⟩
   · omega
  have c4p:=kz c4
  refine Gs (Gm rfl (Gt (Aj rfl rfl) (Ga rfl (Gn (.t9 2 8 9 10 11 13 64 65 108) ?_))))
  refine Gc (fun c5=>?_) (fun c5=>?_)
  ·
   have c5p:=kz c5
   refine AJ (Gm rfl ?_)
   refine Ai rfl PO (.c rfl (.c rfl .n)) (.c (.t .h) (.c .h .n)) (BM _ _ _ _ (by assumption) (by assumption) (by assumption) _ (by omega)) (fun v7 B hv=>?_)
   obtain⟨y8,y9,rfl,y10,y11,y12,rfl⟩:=hv
   refine AR (AB (.t7 2 8 9 10 11 64 65) ?_)
   refine AV (AV (AA (AJ ?_)))
   refine Gt (Aw rfl rfl (IntWalk.i64_in _ (by first | omega | (simp only [List.length_cons,List.length_nil];omega)))) ?_
   refine Gm rfl ?_
   refine AR (AB (.t7 2 8 9 10 11 64 65) ?_)
   refine CJ (.c (.t .h) (.c .h (.c .h .n))) ?_
   refine Cc ?_
   refine Cy (k+1) _ _ _ ?_ ?_ (.t7 65 2 8 9 10 11 64) (.refl _)
   · exact⟨by omega,by omega,by rw [AH.Fb hI11,← hI13,show AH.piece e (AH.IQ e b) (AH.GH e b) (AH.EK e b) k=_ from((AX c4).trans (BB c5))],by assumption,by assumption,by assumption⟩
   · omega
  have c5p:=kz c5
  refine Gs (Gm rfl (Gt (Aj rfl rfl) (Ga rfl (Gn (.t9 2 8 9 10 11 13 64 65 113) ?_))))
  refine Gc (fun c6=>?_) (fun c6=>?_)
  ·
   have c6p:=kz c6
   refine AJ (Gm rfl ?_)
   refine Ai rfl PO (.c rfl (.c rfl .n)) (.c (.t .h) (.c .h .n)) (BM _ _ _ _ (by assumption) (by assumption) (by assumption) _ (by omega)) (fun v13 B hv=>?_)
   obtain⟨y14,y15,rfl,y16,y17,y18,rfl⟩:=hv
   refine AR (AB (.t7 2 8 9 10 11 64 65) ?_)
   refine AV (AV (AA (AJ ?_)))
   refine Gt (Aw rfl rfl (IntWalk.i64_in _ (by first | omega | (simp only [List.length_cons,List.length_nil];omega)))) ?_
   refine Gm rfl ?_
   refine AR (AB (.t7 2 8 9 10 11 64 65) ?_)
   refine CJ (.c (.t .h) (.c .h (.c .h .n))) ?_
   refine Cc ?_
   refine Cy (k+1) _ _ _ ?_ ?_ (.t7 65 2 8 9 10 11 64) (.refl _)
   · exact⟨by omega,by omega,by rw [AH.Fb hI11,← hI13,show AH.piece e (AH.IQ e b) (AH.GH e b) (AH.EK e b) k=_ from((AX c4).trans ((AX c5).trans (BB c6)))],by assumption,by assumption,by assumption⟩
   · omega
  have c6p:=kz c6
  refine Gs (Gm rfl (Gt (Aj rfl rfl) (Ga rfl (Gn (.t9 2 8 9 10 11 13 64 65 118) ?_))))
  refine Gc (fun c7=>?_) (fun c7=>?_)
  ·
   have c7p:=kz c7
   refine AJ (Gt (Ah aL rfl) (Gt (AG rfl CP .m2 Ing.Event.l8 rfl rfl) ?_))
   refine Ai rfl PO (.c rfl (.c rfl .n)) (.c (.t .h) (.c .h .n)) (BM _ _ _ _ (by assumption) (by assumption) (by assumption) _ (by omega)) (fun v19 B hv=>?_)
   obtain⟨y20,y21,rfl,y22,y23,y24,rfl⟩:=hv
   refine AR (AB (.t7 2 8 9 10 11 64 65) ?_)
   refine AV (AV (AA (AJ ?_)))
   refine Gt (Aw rfl rfl (IntWalk.i64_in _ (by first | omega | (simp only [List.length_cons,List.length_nil];omega)))) ?_
   refine Gm rfl ?_
   refine AR (AB (.t7 2 8 9 10 11 64 65) ?_)
   refine CJ (.c (.t .h) (.c .h (.c .h .n))) ?_
   refine Cc ?_
   refine Cy (k+1) _ _ _ ?_ ?_ (.t7 65 2 8 9 10 11 64) (.refl _)
   · exact⟨by omega,by omega,by rw [AH.Fb hI11,← hI13,show AH.piece e (AH.IQ e b) (AH.GH e b) (AH.EK e b) k=_ from((AX c4).trans ((AX c5).trans ((AX c6).trans (BB c7))))],by assumption,by assumption,by assumption⟩
   · omega
  have c7p:=kz c7
  refine Gs (Gm rfl (Gt (Aj rfl rfl) (Ga rfl (Gn (.t9 2 8 9 10 11 13 64 65 124) ?_))))
  refine Gc (fun c8=>?_) (fun c8=>?_)
  ·
   have c8p:=kz c8
   refine AJ (Gt (Ah Z5 rfl) (Gt (AG rfl A5 .m2 Ing.Event.l4 rfl rfl) ?_))
   refine BA rfl aX (.c rfl .n) (fun w hS=>Hr _ w (gl1.st hS)) ?_
   refine Ai rfl PO (.c rfl (.c rfl .n)) (.c (.t .h) (.c .h .n)) (BM _ _ _ _ (by assumption) (by assumption) (by assumption) _ (by omega)) (fun v25 B hv=>?_)
   obtain⟨y26,y27,rfl,y28,y29,y30,rfl⟩:=hv
   refine AR (AB (.t7 2 8 9 10 11 64 65) ?_)
   refine AV (AV (AA (AJ ?_)))
   refine Gt (Aw rfl rfl (IntWalk.i64_in _ (by first | omega | (simp only [List.length_cons,List.length_nil];omega)))) ?_
   refine Gm rfl ?_
   refine AR (AB (.t7 2 8 9 10 11 64 65) ?_)
   refine CJ (.c (.t .h) (.c .h (.c .h .n))) ?_
   refine Cc ?_
   refine Cy (k+1) _ _ _ ?_ ?_ (.t7 65 2 8 9 10 11 64) (.refl _)
   · exact⟨by omega,by omega,by rw [AH.Fb hI11,← hI13,show AH.piece e (AH.IQ e b) (AH.GH e b) (AH.EK e b) k=_ from((AX c4).trans ((AX c5).trans ((AX c6).trans ((AX c7).trans (BB c8)))))],by assumption,by assumption,by assumption⟩
   · omega
  have c8p:=kz c8
  refine Gs (Gm rfl (Gt (Aj rfl rfl) (Ga rfl (Gn (.t9 2 8 9 10 11 13 64 65 131) ?_))))
  refine Gc (fun c9=>?_) (fun c9=>?_)
  ·
   have c9p:=kz c9
   refine AJ (Gt (Ah ZZ rfl) (Gt (AG rfl CP .m2 Ing.Event.l9 rfl rfl) ?_))
   refine Ai rfl PO (.c rfl (.c rfl .n)) (.c (.t .h) (.c .h .n)) (BM _ _ _ _ (by assumption) (by assumption) (by assumption) _ (by omega)) (fun v31 B hv=>?_)
   obtain⟨y32,y33,rfl,y34,y35,y36,rfl⟩:=hv
   refine AR (AB (.t7 2 8 9 10 11 64 65) ?_)
   refine AV (AV (AA (AJ ?_)))
   refine Gt (Aw rfl rfl (IntWalk.i64_in _ (by first | omega | (simp only [List.length_cons,List.length_nil];omega)))) ?_
   refine Gm rfl ?_
   refine AR (AB (.t7 2 8 9 10 11 64 65) ?_)
   refine CJ (.c (.t .h) (.c .h (.c .h .n))) ?_
   refine Cc ?_
   refine Cy (k+1) _ _ _ ?_ ?_ (.t7 65 2 8 9 10 11 64) (.refl _)
   · exact⟨by omega,by omega,by rw [AH.Fb hI11,← hI13,show AH.piece e (AH.IQ e b) (AH.GH e b) (AH.EK e b) k=_ from((AX c4).trans ((AX c5).trans ((AX c6).trans ((AX c7).trans ((AX c8).trans (BB c9))))))],by assumption,by assumption,by assumption⟩
   · omega
  have c9p:=kz c9
  refine Gs (Gm rfl (Gt (Aj rfl rfl) (Ga rfl (Gn (.t9 2 8 9 10 11 13 64 65 137) ?_))))
  refine Gc (fun c10=>?_) (fun c10=>?_)
  ·
   have c10p:=kz c10
   refine AJ (Gt (Ah Ze rfl) (Gt (AG rfl A5 .m2 Ing.Event.l5 rfl rfl) ?_))
   refine BA rfl dk (.c rfl .n) (fun w hS=>L3 _ hs.n0 hs.n1 w (gl0.st hS)) ?_
   refine Ai rfl PO (.c rfl (.c rfl .n)) (.c (.t .h) (.c .h .n)) (BM _ _ _ _ (by assumption) (by assumption) (by assumption) _ (by omega)) (fun v37 B hv=>?_)
   obtain⟨y38,y39,rfl,y40,y41,y42,rfl⟩:=hv
   refine AR (AB (.t7 2 8 9 10 11 64 65) ?_)
   refine AV (AV (AA (AJ ?_)))
   refine Gt (Aw rfl rfl (IntWalk.i64_in _ (by first | omega | (simp only [List.length_cons,List.length_nil];omega)))) ?_
   refine Gm rfl ?_
   refine AR (AB (.t7 2 8 9 10 11 64 65) ?_)
   refine CJ (.c (.t .h) (.c .h (.c .h .n))) ?_
   refine Cc ?_
   refine Cy (k+1) _ _ _ ?_ ?_ (.t7 65 2 8 9 10 11 64) (.refl _)
   · exact⟨by omega,by omega,by rw [AH.Fb hI11,← hI13,show AH.piece e (AH.IQ e b) (AH.GH e b) (AH.EK e b) k=_ from((AX c4).trans ((AX c5).trans ((AX c6).trans ((AX c7).trans ((AX c8).trans ((AX c9).trans (BB c10)))))))],by assumption,by assumption,by assumption⟩
   · omega
  have c10p:=kz c10
  refine AJ (Gm rfl ?_)
  refine Ai rfl YU (.c rfl (.c rfl .n)) (.c (.t .h) (.c .h .n)) (Cj _ _ _ _ (by assumption) (by assumption) (by assumption) _ (by omega)) (fun v43 B hv=>?_)
  obtain⟨y44,y45,rfl,y46,y47,y48,rfl⟩:=hv
  refine AR (AB (.t7 2 8 9 10 11 64 65) ?_)
  refine AV (AV (AA (AJ ?_)))
  refine Gt (Aw rfl rfl (IntWalk.i64_in _ (by first | omega | (simp only [List.length_cons,List.length_nil];omega)))) ?_
  refine Gm rfl ?_
  refine AR (AB (.t7 2 8 9 10 11 64 65) ?_)
  refine CJ (.c (.t .h) (.c .h (.c .h .n))) ?_
  refine Cc ?_
  refine Cy (k+1) _ _ _ ?_ ?_ (.t7 65 2 8 9 10 11 64) (.refl _)
  · exact⟨by omega,by omega,by rw [AH.Fb hI11,← hI13,show AH.piece e (AH.IQ e b) (AH.GH e b) (AH.EK e b) k=_ from((AX c4).trans ((AX c5).trans ((AX c6).trans ((AX c7).trans ((AX c8).trans ((AX c9).trans (AX c10)))))))],by assumption,by assumption,by assumption⟩
  · omega
 have c3p:=kz c3
 obtain rfl:k=((AH.EK e b).length:Int):=by omega
 refine Ba (AW (AW (Af ?_)))
 refine AB (.t1 11) ?_
 refine AA (Gs ?_)
 refine Ai rfl YF (.c rfl .n) (.c (.t .h) (.c .h .n)) (Cv _ _ _ _ (by assumption) (by assumption) (by omega)) (fun v49 B hv=>?_)
 obtain⟨rfl,rfl⟩:=hv
 refine Ga rfl (Ga rfl (Gn (.t2 4 5) (Ab ?_)))
 refine AZ rfl (.tmp rfl (.tmp rfl .n)) ?_
 intro w1 hS;refine⟨?_,hS.Am⟩;rw [show AH.tell e b=_ from(AX c1).trans (AX c2),hI13];rfl
theorem M1 {t0:Nat}(p:As)(qs:List Aq)(s:Aq):FK Tryz.prog 82 #[.agg p.enc.toArray,BU s] [] (fun w=>Rd w p.wait t0 1 (qs.flatMap A7)) (fun v B=>(Page.Bb p=false∧v = .tuple #[.agg p.enc.toArray, .int .i64 2]∧B = [])∨(Page.Bb p=true∧p.cut=true∧v = .tuple #[.agg p.enc.toArray, .int .i64 6]∧B = [])∨(Page.Bb p=true∧p.cut=false∧60≤qs.length∧v = .tuple #[.agg (As.enc ⟨p.wait,p.shown,p.B6,p.ring,true⟩).toArray, .int .i64 0]∧B = [])∨(Page.Bb p=true∧p.cut=false∧qs.length < 60∧∃ h':Hd,v = .tuple #[.agg (As.enc ⟨h',p.shown,p.B6,p.ring,p.cut⟩).toArray, .int .i64 0]∧h'.len=qs.length+1∧B = [Ac.own h' 9 1 ((qs ++ [s]).flatMap A7)])):=by
 intro w hS0 hH
 have r0:=hH
 have hl:=r0.Mw DZ (by decide)
 refine Ak _ _ Tryz.func82 rfl rfl rfl (hS0) ?_
 refine Gs ?_
 refine B5 rfl rfl rfl (fun b1=>?_)
 refine BD rfl Tl rfl (fun b2=>?_)
 refine Ga rfl (Gn (.t3 1 2 4) (Ap (Ae (Gs (Gt (AY rfl Cr .m1 (AU.id As.fl.len As.fl.one) rfl) ?_)))))
 refine BA rfl Yw (.c rfl .n) (fun w hS=>FF _ w) ?_
 refine Gt (BQ rfl) (Ga rfl (Gn (.t4 1 2 4 6) ?_))
 refine Gc (fun c1=>?_) (fun c1=>?_)
 ·
  refine Gs (Gt (AY rfl Cr .m1 (AU.id As.fl.len As.fl.one) rfl) ?_)
  refine AS (AK (AU.id As.fl.len As.fl.one) rfl rfl rfl FO rfl .h) ?_
  refine Ga rfl (Gn (.t2 4 5) (Ab (AT (AD ?_))))
  refine AZ rfl (.cell rfl .m0 (.inl ⟨(by rw [As.fl.len];exact Cr),rfl⟩) (.tmp rfl .n)) ?_
  intro w1 hS
  have hS:=(hS.perm (Ax.perm .n)).A1
  exact⟨_, .inl ⟨by simpa using c1,rfl,rfl⟩,hS⟩
 have c1p:=kz c1
 have hgd:Page.Bb p=true:=by simpa using c1
 have hg:=(Page.GX p).1 hgd
 refine Gs (Gt (Ah Kr rfl) (Gt (AG rfl DN .m1 As.l4 rfl rfl) (Ga rfl (Gn (.t4 1 2 4 11) ?_))))
 refine Gc (fun c2=>?_) (fun c2=>?_)
 ·
  refine Gs (Gt (AY rfl Cr .m1 (AU.id As.fl.len As.fl.one) rfl) ?_)
  refine AS (AK (AU.id As.fl.len As.fl.one) rfl rfl rfl FO rfl .h) ?_
  refine Ga rfl (Gn (.t2 4 5) (Ab (AT (AD ?_))))
  refine AZ rfl (.cell rfl .m0 (.inl ⟨(by rw [As.fl.len];exact Cr),rfl⟩) (.tmp rfl .n)) ?_
  intro w1 hS
  have hS:=(hS.perm (Ax.perm .n)).A1
  exact⟨_, .inr (.inl ⟨hgd,c2,rfl,rfl⟩),hS⟩
 have c2p:=kz c2
 refine Gs (Gt (Ah H8 rfl) (Gt (AG rfl FW .m1 As.l0 rfl rfl) (Gt (Av rfl Tryz.underlying52 rfl) (Gt (CI rfl rfl) (Ga rfl (Gn (.t4 1 2 4 15) ?_))))))
 refine Gc (fun c3=>?_) (fun c3=>?_)
 ·
  have c3p:=kz c3
  refine Gs (Gt (Ah Kr rfl) ?_)
  refine AS (AK As.l4 rfl rfl rfl J8 rfl (.t .h)) ?_
  refine Gn (.t2 2 4) (Gs (Gt (AY rfl Cr .m1 (AU.id As.fl.len As.fl.one) rfl) ?_))
  refine AS (AK (AU.id As.fl.len As.fl.one) rfl rfl rfl FO rfl .h) ?_
  refine Ga rfl (Gn (.t2 4 5) (Ab (AT (AD ?_))))
  refine AZ rfl (.cell rfl .m0 (.inl ⟨(by rw [As.fl.len];exact Cr),rfl⟩) (.tmp rfl .n)) ?_
  intro w1 hS
  have hS:=(hS.perm (Ax.perm .n)).A1
  exact⟨_, .inr (.inr (.inl ⟨hgd,by simpa using c2,by simp at c3;omega,rfl,rfl⟩)),hS⟩
 have c3p:=kz c3
 refine Aa ?_
 refine AB (.t3 1 2 4) ?_
 refine AV (AA (Gs (Gt (Ah H8 rfl) (Gt (AG rfl FW .m1 As.l0 rfl rfl) ?_))))
 refine BF rfl Ut (.c rfl .n) .n (Bv _ _ (by first | assumption | omega)) (fun w hS=>(Kn.I0 r0) w hS) (fun v1 B hv=>?_)
 obtain⟨y2,rfl,y3,rfl⟩:=hv
 refine Gm rfl ?_
 refine Fv A7 DZ rfl Tryz.underlying52 Em RX rfl (by decide) (by decide) rfl rfl (fun b3=>?_)
 refine Cd DZ rfl Tryz.underlying52 Em RX rfl Ws (by decide) (by decide) rfl rfl (fun w hS=>Src.Dz Tryz.underlying52 ((Kn.own .m0) w hS)) (by(try dsimp only);omega) (fun _=>(.t .h)) (fun h5 h5l h5z=>?_)
 refine Gt (Ah H8 rfl) ?_
 refine AS (AK As.l0 rfl rfl rfl MO rfl (.t (.t (.t .h)))) ?_
 refine Gn (.t2 2 4) (Gs (Gt (AY rfl Cr .m3 (AU.id As.fl.len As.fl.one) rfl) ?_))
 refine AS (AK (AU.id As.fl.len As.fl.one) rfl rfl rfl FO rfl (.t (.t .h))) ?_
 refine Ga rfl (Gn (.t2 4 5) (Ab ?_))
 refine AZ rfl (.cell rfl .m2 (.inl ⟨(by rw [As.fl.len];exact Cr),rfl⟩) (.tmp rfl .n)) ?_
 intro w1 hS
 have hS:=(hS.perm (Ax.perm (.c (.t .h) .n))).A1
 exact⟨_, .inr (.inr (.inr ⟨hgd,by simpa using c2,by simp at c3;omega,_,rfl,by(try dsimp only at *);(try simp only [List.length_cons,List.length_nil] at *);omega,rfl⟩)),hS⟩
theorem EI (b:Nat)(V:AL)(ls:Vector BI 4)(ev:List Ing.Event)(k:Int)(u:Aq)(hk:0≤k∧k < 4)(ht:(ls.at k).told.length≤1000000):JO Tryz.prog 64 #[.pointer (some ⟨b,0,none⟩), .pointer (some ⟨b,165+k.toNat * 22,none⟩),BU u] [Ac.box b 101 (AL.enc V),Ac.Dv (CG 9 (AL.Ao V) ls),Ac.own (AL.last V) 56 16 ((ev).flatMap Ing.Event.enc)] (fun v B=>∃ V' ls' ev',v = .tuple #[]∧A3 V' ls' ev'=AI.tell (A3 V ls ev) k u∧B = [Ac.box b 101 (AL.enc V'),Ac.Dv (CG 9 (AL.Ao V') ls'),Ac.own (AL.last V') 56 16 ((ev').flatMap Ing.Event.enc)]):=by
 intro w hS0
 refine Ak _ _ Tryz.func64 rfl rfl rfl (hS0) ?_
 refine E4 (k:=k) hk.1 hk.2 (fun sv sl hsv hlv hln=>?_)
 refine Bh (.t (.t (.t .h))) ?_
 refine Bh (.t (.t .h)) ?_
 refine X3 (Lm:= [_,_]) (fun(o:As) (w0:Hd) (ws:List Aq)=>Cl { sv with out:=o } ⟨sl.queue,ws,sl.told⟩=(Cl sv sl).line u∧o.wait=w0) (fun(o:As) (w0:Hd) (ws:List Aq)=> []) (fun(o:As) (w0:Hd) (ws:List Aq)=> [Ac.own w0 9 1 (ws.flatMap A7),Ac.box b 101 (Jq V k { sv with out:=o })]) (.t2 1 2) rfl ?_ (fun o w0 ws hC=>?_)
 ·
  refine AJ (Gm rfl (Gm rfl (Gt (BV rfl) (Gt (Ah Dn rfl) (Gt (AY rfl Cr .m1 ((AU.BL V hk.1 hk.2).comp A2.l4) rfl) (Gm rfl ?_))))))
  refine BF rfl cq (.c rfl (.c rfl .n)) .n (M1 _ _ _) (fun w hS=>(Kn.own .m0) w hS) (fun v1 B hv=>?_)
  rcases hv with ⟨y2,rfl,rfl⟩ | ⟨y3,y4,rfl,rfl⟩ | ⟨y5,y6,y7,rfl,rfl⟩ | ⟨y8,y9,y10,y11,rfl,y12,rfl⟩
  ·
   refine Gm rfl (Gt (AN rfl rfl) (Gt (AN rfl rfl) (Gt (BV rfl) (Gt (Ah Dn rfl) ?_))))
   refine AS (AK ((AU.BL V hk.1 hk.2).comp A2.l4) rfl rfl rfl FO rfl (.t .h)) ?_
   refine AR (AB (.t2 1 2) ?_)
   refine NF _ _ _ ?_ (.t2 1 2) (.refl _)
   · exact⟨(Wi hln.2.1 y2).symm,rfl⟩
  ·
   refine Gm rfl (Gt (AN rfl rfl) (Gt (AN rfl rfl) (Gt (BV rfl) (Gt (Ah Dn rfl) ?_))))
   refine AS (AK ((AU.BL V hk.1 hk.2).comp A2.l4) rfl rfl rfl FO rfl (.t .h)) ?_
   refine AR (AB (.t2 1 2) ?_)
   refine NF _ _ _ ?_ (.t2 1 2) (.refl _)
   · exact⟨(Wd hln.2.1 y3 y4).symm,rfl⟩
  ·
   refine Gm rfl (Gt (AN rfl rfl) (Gt (AN rfl rfl) (Gt (BV rfl) (Gt (Ah Dn rfl) ?_))))
   refine AS (AK ((AU.BL V hk.1 hk.2).comp A2.l4) rfl rfl rfl FO rfl (.t .h)) ?_
   refine AR (AB (.t2 1 2) ?_)
   refine NF _ _ _ ?_ (.t2 1 2) (.refl _)
   · exact⟨(VP hln.2.1 y5 y6 y7).symm,rfl⟩
  refine Gm rfl (Gt (AN rfl rfl) (Gt (AN rfl rfl) (Gt (BV rfl) (Gt (Ah Dn rfl) ?_))))
  refine AS (AK ((AU.BL V hk.1 hk.2).comp A2.l4) rfl rfl rfl FO rfl (.t (.t .h))) ?_
  refine AR (AB (.t2 1 2) ?_)
  refine CJ (.c .h (.c (.t .h) (.c (.t .h) (.c (.t .h) (.c (.t .h) (.c (.t .h) .n)))))) ?_
  refine Cc ?_
  refine NF _ _ _ ?_ (.t2 1 2) (.refl _)
  · exact⟨(V7 hln.2.1 y8 y9 y10 _).symm,rfl⟩
 obtain⟨hE1,hE2⟩:=hC
 have ht2:sl.told.length≤1000000:=by rw [← hlv];exact ht
 refine Gs (Gm rfl (Gt (BV rfl) (Gt (Ah Dn rfl) (Gt (Ah Kr rfl) (Gt (AG rfl DN .m1 (((AU.BL V hk.1 hk.2).comp A2.l4).comp As.l4) rfl rfl) (Gt (BQ rfl) (Gn (.t3 1 2 23) ?_)))))))
 refine Gc (fun c1=>?_) (fun c1=>?_)
 ·
  have c1p:=kz c1
  refine AJ (Gm rfl (Gm rfl (Gt (BV rfl) (Gt (Ah Qf rfl) (Gt (AG rfl FW .m1 ((AU.BL V hk.1 hk.2).comp A2.l5) rfl rfl) (Gm rfl ?_))))))
  refine Fv A7 DZ rfl Tryz.underlying52 Em RX rfl (by decide) (by decide) rfl rfl (fun b1=>?_)
  refine Cd DZ rfl Tryz.underlying52 Em RX rfl Ws (by decide) (by decide) rfl rfl (fun w hS=>Src.Dz Tryz.underlying52 ((Kn.own .m0) w hS)) (by(try dsimp only);omega) (fun _=>(.t (.t (.t (.t .h))))) (fun h14 h14l h14z=>?_)
  refine Gt (BV rfl) (Gt (Ah Qf rfl) ?_)
  refine AS (AK ((AU.BL V hk.1 hk.2).comp A2.l5) rfl rfl rfl MO rfl (.t (.t .h))) ?_
  refine AR ?_
  refine Bk rfl .n ?_
  intro w1 hS
  have hS:=(hS.perm (Ax.perm (.c (.t (.t (.t .h))) (.c (.t .h) (.c (.t (.t .h)) (.c (.t .h) (.c (.t .h) (.c (.t .h) .n)))))))).A1
  have hS:=hS.close' hk.1 hk.2 (by rfl) (by exact hE2) (by rfl)
  refine⟨_,⟨V.BL k _,ls.put k ⟨_,_,_⟩,ev,rfl,?ga1,rfl⟩,hS⟩
  case ga1=>exact Ek hk.1 hk.2 hsv hlv (f:=fun x=>x.tell u) (by show _=((Cl sv sl).line u).note u;rw [← hE1];exact(Zr (l:=⟨sl.queue,ws,sl.told⟩) c1 _).symm)
 refine Aa ?_
 refine Bk rfl .n ?_
 intro w1 hS
 have hS:=(hS.perm (Ax.perm (.c (.t (.t .h)) (.c .h (.c (.t .h) (.c .h (.c .h (.c .h .n)))))))).A1
 have hS:=hS.close' hk.1 hk.2 (by rfl) (by exact hE2) (by rfl)
 refine⟨_,⟨V.BL k _,ls.put k ⟨_,_,_⟩,ev,rfl,?ga2,rfl⟩,hS⟩
 case ga2=>exact Ek hk.1 hk.2 hsv hlv (f:=fun x=>x.tell u) (by show _=((Cl sv sl).line u).note u;rw [← hE1];exact(ZS (l:=⟨sl.queue,ws,sl.told⟩) c1).symm)
theorem Ew (b:Nat)(V:AL)(ls:Vector BI 4)(ev:List Ing.Event)(f:Hd)(es:List Ing.Event)(n:Nat)(hf:f.len=es.length)(hn:WC ls n)(hm:n+es.length≤1000000)(hl:ev.length≤1000000)(he:(∀ e∈es,∀ c:Int,(decide (c < 0) || decide (6≤c) || decide (AH.SM (e.He.at c) 1=0))=false→AH.Small e)):FK Tryz.prog 79 #[.pointer (some ⟨b,0,none⟩),f.val] [Ac.box b 101 (AL.enc V),Ac.Dv (CG 9 (AL.Ao V) ls),Ac.own (AL.last V) 56 16 ((ev).flatMap Ing.Event.enc),Ac.own f 56 16 (es.flatMap Ing.Event.enc)] (fun w=>(GV 2 Fo w∧2 ∉ Cf [Ac.box b 101 (AL.enc V),Ac.Dv (CG 9 (AL.Ao V) ls),Ac.own (AL.last V) 56 16 ((ev).flatMap Ing.Event.enc),Ac.own f 56 16 (es.flatMap Ing.Event.enc)])∧(GV 0 AH.DG w∧0 ∉ Cf [Ac.box b 101 (AL.enc V),Ac.Dv (CG 9 (AL.Ao V) ls),Ac.own (AL.last V) 56 16 ((ev).flatMap Ing.Event.enc),Ac.own f 56 16 (es.flatMap Ing.Event.enc)])) (fun v B=>∃ V' ls' ev',v = .tuple #[]∧A3 V' ls' ev'=AI.Gy (A3 V ls ev) es∧B = [Ac.box b 101 (AL.enc V'),Ac.Dv (CG 9 (AL.Ao V') ls'),Ac.own (AL.last V') 56 16 ((ev').flatMap Ing.Event.enc),Ac.own f 56 16 (es.flatMap Ing.Event.enc)]):=by
 intro w hS0 hH
 obtain⟨⟨gl0,gm0⟩,⟨gl1,gm1⟩⟩:=hH
 refine Ak _ _ Tryz.func79 rfl rfl rfl (hS0) ?_
 refine Ap ?_
 refine Z1 (fun w hS=>(Kn.own .m2 w hS).Mw Ing.Event.fl (by decide)) (fun hLl=>?_)
 refine AJ (Gm rfl (Gm rfl (Gt (BV rfl) (Gt (Ah Qq rfl) (Gt (AG rfl Dl .m0 AL.l3 rfl rfl) (Gm rfl ?_))))))
 refine Cd Ing.Event.fl rfl Tryz.underlying53 Nl IU rfl WD (by decide) (by decide) rfl rfl (fun w hS=>Src.Dz Tryz.underlying53 ((Kn.own .m3) w hS)) (by(try dsimp only);omega) (fun _=>(.t (.t .h))) (fun h1 h1l h1z=>?_)
 refine Gt (BV rfl) (Gt (Ah Qq rfl) ?_)
 refine AS (AK AL.l3 rfl rfl rfl SX rfl .h) ?_
 refine Gn (.t2 0 1) (Gs (Gm rfl (Gt (Av rfl Tryz.underlying53 rfl) (Gm rfl (Gn (.t4 0 19 20 21) (Ae ?_))))))
 refine Bo (.t4 21 0 19 20) ?_
 refine Bh (.t (.t .h)) ?_
 refine Bh (.t (.t .h)) ?_
 refine Bh (.t (.t .h)) ?_
 refine HS (fun(k:Int) (V1:AL) (ls1:Vector BI 4) (ev1:List Ing.Event)=>0≤k∧k≤(es.length:Int)∧A3 V1 ls1 ev1=({ (A3 V ls ev) with last:=ev++es }:AI).HW (es.take k.toNat)∧WC ls1 (n+k.toNat)) (fun(k:Int) (V1:AL) (ls1:Vector BI 4) (ev1:List Ing.Event)=>((es.length:Int) - k).toNat) (fun(k:Int) (V1:AL) (ls1:Vector BI 4) (ev1:List Ing.Event)=> [(21, .int .i64 k)]) (fun(k:Int) (V1:AL) (ls1:Vector BI 4) (ev1:List Ing.Event)=> [Ac.box b 101 (AL.enc V1),Ac.Dv (CG 9 (AL.Ao V1) ls1),Ac.own (AL.last V1) 56 16 (ev1.flatMap Ing.Event.enc)]) (0) (_) (_) (_) ?_ rfl rfl (fun k V1 ls1 ev1 hI1=>?_)
 · exact⟨by omega,by omega,rfl,hn⟩
 obtain⟨hI11,hI12,hI13,hI14⟩:=hI1
 refine Gs (Gt (A8 rfl rfl) (AR (AA (Ap ?_))))
 refine Gc (fun c1=>?_) (fun c1=>?_)
 ·
  have c1p:=kz c1
  refine Aa ?_
  refine AB (.t4 0 19 20 21) ?_
  refine AA (Ap (Ae (Gs ?_)))
  refine Gt (Br dD (by decide) (Kn.own .m3) rfl rfl (by omega) (by omega)) ?_
  refine Gt (OG rfl PA (by decide) Ing.Event.fl (Kn.own .m3) (by omega)) ?_
  refine BD rfl IU rfl (fun b1=>?_)
  refine AS (AK (AU.id Ing.Event.fl.len Ing.Event.fl.one) rfl rfl rfl Nl rfl .h) ?_
  refine Gn (.t5 0 5 19 20 21) (Gs (Gm rfl (AR (AA (Ae ?_)))))
  refine Bo (.t6 25 0 5 19 20 21) ?_
  refine Bh (.t (.t (.t .h))) ?_
  refine Bh (.t (.t (.t .h))) ?_
  refine Bh (.t (.t (.t .h))) ?_
  refine HS (fun(i:Int) (V2:AL) (ls2:Vector BI 4) (ev2:List Ing.Event)=>0≤i∧i≤4∧A3 V2 ls2 ev2=AI.CZ (es.getD k.toNat default) (A3 V1 ls1 ev1) i.toNat∧(∀ j:Int,i≤j→j < 4→(ls2.at j).told.length≤n+k.toNat)∧(∀ j:Int,0≤j→j < 4→(ls2.at j).told.length≤n+k.toNat+1)) (fun(i:Int) (V2:AL) (ls2:Vector BI 4) (ev2:List Ing.Event)=>(4 - i).toNat) (fun(i:Int) (V2:AL) (ls2:Vector BI 4) (ev2:List Ing.Event)=> [(25, .int .i64 i)]) (fun(i:Int) (V2:AL) (ls2:Vector BI 4) (ev2:List Ing.Event)=> [Ac.box b 101 (AL.enc V2),Ac.Dv (CG 9 (AL.Ao V2) ls2),Ac.own (AL.last V2) 56 16 (ev2.flatMap Ing.Event.enc)]) (0) (V1) (ls1) (ev1) ?_ rfl rfl (fun i V2 ls2 ev2 hI2=>?_)
  · exact⟨by omega,by omega,rfl,(fun j j0 j1=>hI14 j j0 j1),(fun j j0 j1=>Nat.le_succ_of_le (hI14 j j0 j1))⟩
  obtain⟨hI21,hI22,hI23,hI24,hI25⟩:=hI2
  refine Gs (Gt (A8 rfl rfl) (AR (AA (Ap ?_))))
  refine Gc (fun c2=>?_) (fun c2=>?_)
  ·
   have c2p:=kz c2
   refine Aa ?_
   refine AB (.t6 0 5 19 20 21 25) ?_
   refine AA (Ap (Ae (Gs (Gm rfl (Ga rfl (Gn (.t7 0 5 6 19 20 21 25) (Gs ?_)))))))
   refine Gm rfl (Gm rfl (Gt (BV rfl) (Gt (Ah Ft rfl) ?_)))
   refine Gt (AQ NX rfl rfl (by omega) (by omega)) ?_
   refine Ga rfl (Gn (.t7 0 5 7 19 20 21 25) (CB (Gm rfl (Gt (BV rfl) (Gt (Ah JK rfl) ?_)))))
   refine Gt (AG rfl A5 .m0 ((AL.l1.comp (AU.ar (n:=4) A2.fl (by omega))).comp A2.l0) rfl rfl) ?_
   refine Gt (Ce rfl rfl) (Gn (.t8 0 5 7 19 20 21 25 37) ?_)
   refine Gc (fun c3=>?_) (fun c3=>?_)
   ·
    have c3p:=kz c3
    refine Ba (AW (Af ?_))
    refine AB (.t6 0 5 19 20 21 25) ?_
    refine AA (AJ ?_)
    refine Gt (Aw rfl rfl (IntWalk.i64_in _ (by omega))) ?_
    refine Gm rfl ?_
    refine AR (AB (.t6 0 5 19 20 21 25) ?_)
    refine Cy (i+1) _ _ _ ?_ ?_ (.t6 25 0 5 19 20 21) (.refl _)
    · exact⟨by omega,by omega,((Kp hI21 (by omega) hI23).trans (BB c3)).symm,(fun j j0 j1=>hI24 j (by omega) j1),hI25⟩
    · omega
   have c3p:=kz c3
   refine Aa ?_
   refine AB (.t7 0 5 7 19 20 21 25) ?_
   refine AA (Ap ?_)
   refine BE (N:=11) [0,0,2,6,14,31,63,127,127,255,1023] mix (by kernel_rfl) rfl ?_
   refine Pf 0 rfl (AY rfl PA .m3 (AU.id Ing.Event.fl.len Ing.Event.fl.one) rfl) (Pf 1 rfl (AE rfl) (Pf 2 rfl (BV rfl) (Pf 3 rfl (Ah IC rfl) ?_)))
   refine Pf 4 rfl (AG rfl A5 .m0 ((AL.l1.comp (AU.ar (n:=4) A2.fl (by omega))).comp A2.l1) rfl rfl) ?_
   refine BN 5 rfl rfl (by kernel_rfl) (Lj (K4 (D7 cu (.c rfl (.c rfl .n)) (fun w hS=>M3 (es.getD k.toNat default) _ (he _ (P3 (d:=default) (xs:=es) (i:=k.toNat) (by omega)) _) w (gl0.stM gm0 hS) (gl1.stM gm1 hS))))) ?_
   refine Pf 6 rfl (AE rfl) (Pf 7 rfl (AN rfl rfl) (Pf 8 rfl (AN rfl rfl) (Pf 9 rfl (A0 rfl) (Pf 10 rfl (A0 rfl) ?_))))
   refine A4 (by kernel_rfl) ?_
   refine AB (.t9 0 5 7 8 9 19 20 21 25) ?_
   refine AA (Gs (Gm rfl (Gn (.t9 0 5 7 8 19 20 21 25 47) ?_)))
   refine Gc (fun c4=>?_) (fun c4=>?_)
   ·
    have c4p:=kz c4
    refine AJ (Gm rfl (Gm rfl (Gm rfl ?_)))
    refine Ai rfl Sl (.c rfl (.c rfl (.c rfl .n))) (.c .h (.c .h (.c .h .n))) (EI _ V2 ls2 _ i _ (by omega) (Nat.le_trans (hI24 i (by omega) (by omega)) (by omega))) (fun v2 B hv=>?_)
    obtain⟨y3,y4,y5,rfl,y6,rfl⟩:=hv
    refine AR (AB (.t6 0 5 19 20 21 25) ?_)
    refine AV (AA (AJ ?_))
    refine Gt (Aw rfl rfl (IntWalk.i64_in _ (by omega))) ?_
    refine Gm rfl ?_
    refine AR (AB (.t6 0 5 19 20 21 25) ?_)
    refine Cy (i+1) _ _ _ ?_ ?_ (.t6 25 0 5 19 20 21) (.refl _)
    · exact⟨by omega,by omega,y6.trans ((Kp hI21 (by omega) hI23).trans ((AX c3).trans (BB c4))).symm,(fun j j0 j1=>by have h:=hI24 j (by omega) j1;rw [(Kw hI21 (by omega) y6 (by omega) j1).2 (by omega)];exact h),(fun j j0 j1=>if c:j=i then(by subst c;have h:=hI24 j (by omega) j1;have h2:=(Kw hI21 (by omega) y6 j0 j1).1;omega) else(by rw [(Kw hI21 (by omega) y6 j0 j1).2 c];exact hI25 j j0 j1))⟩
    · omega
   have c4p:=kz c4
   refine Aa ?_
   refine AB (.t6 0 5 19 20 21 25) ?_
   refine AV (AA (AJ ?_))
   refine Gt (Aw rfl rfl (IntWalk.i64_in _ (by omega))) ?_
   refine Gm rfl ?_
   refine AR (AB (.t6 0 5 19 20 21 25) ?_)
   refine Cy (i+1) _ _ _ ?_ ?_ (.t6 25 0 5 19 20 21) (.refl _)
   · exact⟨by omega,by omega,((Kp hI21 (by omega) hI23).trans ((AX c3).trans (AX c4))).symm,(fun j j0 j1=>hI24 j (by omega) j1),hI25⟩
   · omega
  have c2p:=kz c2
  obtain rfl:i=4:=by omega
  refine Ba (AW (AW (Af ?_)))
  refine AB (.t4 0 19 20 21) ?_
  refine AV (AA (AJ ?_))
  refine Gt (Aw rfl rfl (IntWalk.i64_in _ (by omega))) ?_
  refine Gm rfl ?_
  refine AR (AB (.t4 0 19 20 21) ?_)
  refine CJ (.c .h (.c .h (.c .h (.c (.t .h) .n)))) ?_
  refine Cc ?_
  refine Cy (k+1) _ _ _ ?_ ?_ (.t4 21 0 19 20) (.refl _)
  · exact⟨by omega,by omega,by rw [S0 hI11 (by omega),← hI13];exact hI23,fun j j0 j1=>by have h:=hI25 j j0 j1;rw [show(k+1).toNat=k.toNat+1 by omega];omega⟩
  · omega
 have c1p:=kz c1
 obtain rfl:k=(es.length:Int):=by omega
 refine Ba (AW (AW (Af ?_)))
 refine Bk rfl .n ?_
 intro w1 hS
 have hS:=(hS.perm (Ax.perm (.c .h (.c .h (.c .h (.c .h .n)))))).A1
 refine⟨_,⟨V1,ls1,ev1,rfl,?ga,rfl⟩,hS⟩
 case ga=>rw [hI13,show(es.length:Int).toNat=es.length by omega,List.take_length];exact(Xu rfl).symm
theorem Qo (b:Nat)(V:AL)(ls:Vector BI 4)(ev:List Ing.Event)(k:Int)(u:Aq)(n m:Nat)(hk:0≤k∧k < 4)(hF:AI.Fit (A3 V ls ev) n m)(hn:n≤900000)(hm:m≤900000)(hu:u.length≤1000):FK Tryz.prog 93 #[.pointer (some ⟨b,0,none⟩), .pointer (some ⟨b,165+k.toNat * 22,none⟩),BU u] [Ac.box b 101 (AL.enc V),Ac.Dv (CG 9 (AL.Ao V) ls),Ac.own (AL.last V) 56 16 ((ev).flatMap Ing.Event.enc)] (fun w=>(GV 2 Fo w∧2 ∉ Cf [Ac.box b 101 (AL.enc V),Ac.Dv (CG 9 (AL.Ao V) ls),Ac.own (AL.last V) 56 16 ((ev).flatMap Ing.Event.enc)])∧(GV 0 AH.DG w∧0 ∉ Cf [Ac.box b 101 (AL.enc V),Ac.Dv (CG 9 (AL.Ao V) ls),Ac.own (AL.last V) 56 16 ((ev).flatMap Ing.Event.enc)])) (fun v B=>∃ V' ls' ev',v = .tuple #[]∧A3 V' ls' ev'=AI.named (A3 V ls ev) k u∧B = [Ac.box b 101 (AL.enc V'),Ac.Dv (CG 9 (AL.Ao V') ls'),Ac.own (AL.last V') 56 16 ((ev').flatMap Ing.Event.enc)]):=by
 intro w hS0 hH
 obtain⟨⟨gl0,gm0⟩,⟨gl1,gm1⟩⟩:=hH
 have hel:=AF.Pa V.w u
 have hes:=AF.I1 (s:=u) hF.Fe
 have htn:=Gj hF
 refine Ak _ _ Tryz.func93 rfl rfl rfl (hS0) ?_
 refine Gs (Gm rfl (Gt (BV rfl) (Gt (Ah D8 rfl) (Gt (AY rfl BW .m0 AL.l0 rfl) (Gm rfl ?_)))))
 refine BF rfl cP (.c rfl (.c rfl .n)) .n (ME V.w u hF.Fe.H3 (by omega)) (fun w hS=>gl1.pull gm1 hS .n) (fun v1 B hv=>?_)
 obtain⟨y2,rfl,y3,rfl⟩:=hv
 refine Gm rfl (Gt (AN rfl rfl) (Gt (AN rfl rfl) (Gt (AN rfl rfl) (Gt (AN rfl rfl) ?_))))
 refine BD rfl L6 rfl (fun b1=>?_)
 refine AS (AK (AU.id AH.fl.len AH.fl.one) rfl rfl rfl D3 rfl .h) ?_
 refine Ga rfl (Ga rfl (Ga rfl (Gn (.t6 0 1 6 7 8 9) (Gs (Gm rfl (Gn (.t6 0 1 6 7 8 21) (Ae ?_)))))))
 refine Gs (Gt (Aj rfl rfl) (Ga rfl (Gn (.t7 0 1 6 7 8 21 25) ?_)))
 refine Gc (fun c1=>?_) (fun c1=>?_)
 ·
  have c1p:=kz c1
  refine Gs (Gm rfl (Gt (AY rfl BW .m0 (AU.id AH.fl.len AH.fl.one) rfl) (Gt (BV rfl) (Gt (Ah D8 rfl) ?_))))
  refine AS (AK AL.l0 rfl rfl rfl D3 rfl (.t (.t .h))) ?_
  refine Gn (.t4 0 1 7 8) (Ap ?_)
  refine EJ (.c (.t (.t .h)) (.c (.t (.t .h)) .n)) ?_
  refine E4 (k:=k) hk.1 hk.2 (fun sv sl hsv hlv hln=>?_)
  refine AJ (Gm rfl (Gm rfl (Gm rfl (Gt (BV rfl) (Gt (Ah JK rfl) ?_)))))
  refine AS (AK ((AU.BL { V with w:=(AF.BX V.w u).1 } hk.1 hk.2).comp A2.l0) rfl rfl rfl DB rfl (.t (.t (.t .h)))) ?_
  refine Gt (BV rfl) (Gt (Ah IC rfl) ?_)
  refine AS (AK ((AU.BL { V with w:=(AF.BX V.w u).1 } hk.1 hk.2).comp A2.l1) rfl rfl rfl DB rfl (.t (.t (.t .h)))) ?_
  refine Gn (.t2 0 8) ?_
  refine EJ (.c .h (.c .h (.c .h (.c .h (.c .h .n))))) ?_
  refine HA hk.1 hk.2 (by rfl) (by rfl) (by rfl) ?_
  refine AJ (Gm rfl (Gm rfl ?_))
  refine BF rfl VY (.c rfl (.c rfl .n)) (.c .h (.c .h (.c (.t (.t .h)) (.c (.t .h) .n)))) (Ew _ (AL.BL { V with w:=(AF.BX V.w u).1 } k { sv with state:=2,Au:=(AF.BX V.w u).2.1 }) (ls.put k ⟨sl.queue,sl.wait,sl.told⟩) ev _ (AF.BX V.w u).2.2.1 n (by assumption) (Gj (by rw [(show A3 (AL.BL { V with w:=(AF.BX V.w u).1 } k { sv with state:=2,Au:=(AF.BX V.w u).2.1 }) (ls.put k ⟨sl.queue,sl.wait,sl.told⟩) ev=({ (A3 V ls ev) with w:=(AF.BX V.w u).1 }:AI).set k { AI.at_ (A3 V ls ev) k with state:=2,Au:=(AF.BX V.w u).2.1 } from Ek (V:={ V with w:=(AF.BX V.w u).1 }) hk.1 hk.2 hsv hlv (f:=fun x=>{ x with state:=2,Au:=(AF.BX V.w u).2.1 }) rfl)];exact hF.enters hk.1 hk.2 (of_decide_eq_true c1))) (by omega) (Nat.le_trans hF.last (by omega)) (fun e he c _=>hes.2 e he)) (fun w hS=>⟨gl0.pull gm0 hS (.c .h (.c .h (.c (.t (.t .h)) (.c (.t .h) .n)))),gl1.pull gm1 hS (.c .h (.c .h (.c (.t (.t .h)) (.c (.t .h) .n))))⟩) (fun v5 B hv=>?_)
  obtain⟨y6,y7,y8,rfl,y9,rfl⟩:=hv
  refine AR (AB (.nil _) ?_)
  refine AV ?_
  refine Bk rfl .n ?_
  intro w1 hS
  have hS:=(hS.perm (Ax.perm (.c .h (.c .h (.c .h .n))))).A1
  refine⟨_,⟨y6,y7,y8,rfl,?ga1,rfl⟩,hS⟩
  case ga1=>exact YQ c1 (show A3 (AL.BL { V with w:=(AF.BX V.w u).1 } k { sv with state:=2,Au:=(AF.BX V.w u).2.1 }) (ls.put k ⟨sl.queue,sl.wait,sl.told⟩) ev=({ (A3 V ls ev) with w:=(AF.BX V.w u).1 }:AI).set k { AI.at_ (A3 V ls ev) k with state:=2,Au:=(AF.BX V.w u).2.1 } from Ek (V:={ V with w:=(AF.BX V.w u).1 }) hk.1 hk.2 hsv hlv (f:=fun x=>{ x with state:=2,Au:=(AF.BX V.w u).2.1 }) rfl) y9
 have c1p:=kz c1
 refine Gs (Gt (Aj rfl rfl) (Ga rfl (Gn (.t3 0 1 41) ?_)))
 refine Gc (fun c2=>?_) (fun c2=>?_)
 ·
  have c2p:=kz c2
  refine AJ (Gm rfl (Gm rfl ?_))
  refine Ai rfl Sl (.c rfl (.c rfl (.c rfl .n))) (.c (.t (.t .h)) (.c (.t (.t .h)) (.c (.t (.t .h)) .n))) (EI _ V ls ev k _ hk (Nat.le_trans (htn k hk.1 hk.2) (by omega))) (fun v10 B hv=>?_)
  obtain⟨y11,y12,y13,rfl,y14,rfl⟩:=hv
  refine AR (AB (.nil _) ?_)
  refine AV ?_
  refine Bk rfl .n ?_
  intro w1 hS
  have hS:=(hS.perm (Ax.perm (.c .h (.c .h (.c .h .n))))).A1
  refine⟨_,⟨y11,y12,y13,rfl,?ga2,rfl⟩,hS⟩
  case ga2=>exact YJ c1 c2 y14
 have c2p:=kz c2
 refine AJ (Gm rfl (Gm rfl ?_))
 refine Ai rfl Sl (.c rfl (.c rfl (.c rfl .n))) (.c (.t (.t .h)) (.c (.t (.t .h)) (.c (.t (.t .h)) .n))) (EI _ V ls ev k _ hk (Nat.le_trans (htn k hk.1 hk.2) (by omega))) (fun v15 B hv=>?_)
 obtain⟨y16,y17,y18,rfl,y19,rfl⟩:=hv
 refine AR (AB (.nil _) ?_)
 refine AV ?_
 refine Bk rfl .n ?_
 intro w1 hS
 have hS:=(hS.perm (Ax.perm (.c .h (.c .h (.c .h .n))))).A1
 refine⟨_,⟨y16,y17,y18,rfl,?ga3,rfl⟩,hS⟩
 case ga3=>exact Ye c1 c2 y19
theorem Bq (z:Int):JO Tryz.prog 150 #[.int .i64 z] [] (fun v B=>v = .tuple #[.agg (Order.enc default).toArray, .int .i64 z]∧B = []):=by
 intro w hS0
 refine Ak _ _ Tryz.func150 rfl rfl rfl (hS0) ?_
 refine Gs ?_
 refine BD rfl LP rfl (fun b1=>?_)
 refine Ga rfl (Gn (.t2 0 2) (Gs (Gt (BC Ro LP rfl .nil) (Gm rfl ?_))))
 refine AS (AK (AU.id Order.fl.len Order.fl.one) rfl rfl rfl D6 rfl .h) ?_
 refine Ga rfl (Gn (.t2 2 3) (Ab ?_))
 refine AZ rfl (.cell rfl .m0 (.inl ⟨(by rw [Order.fl.len];exact B8),rfl⟩) (.tmp rfl .n)) ?_
 intro w1 hS
 have hS:=(hS.perm (Ax.perm .n)).A1
 exact⟨_,⟨rfl,rfl⟩,hS⟩
theorem E6 (s:Aq)(c:UInt8)(w:World):Eh Tryz.prog 87 #[BU s, .int .u8 (c.toNat:Int)] w fun v w'=>v = .int .i64 (Lib.indexByte s c)∧CA w w':=by
 refine Ak [] [] Tryz.func87 rfl rfl rfl (St.start w []) ?_
 refine Gs (Ga rfl (Gn (.t2 0 1) (Gs (Gm rfl (Gm rfl ?_)))))
 refine Gt (LC Tryz.func112 (by kernel_rfl) (by kernel_rfl) (by kernel_rfl) (by kernel_rfl) rfl rfl) ?_
 refine Ga rfl (Gn (.t1 4) (Ab ?_))
 refine AZ rfl (.tmp rfl .n) ?_
 intro w1 hS;refine⟨?_,hS.Am⟩;rfl
theorem D4 (s:Aq)(c:UInt8)(w:World):Eh Tryz.prog 76 #[BU s,BU [c]] w fun v w'=>v = .int .i64 (Lib.indexByte s c)∧CA w w':=by
 refine Ak [] [] Tryz.func76 rfl rfl rfl (St.start w []) ?_
 refine Gs (Ga rfl (Gn (.t2 0 1) (Gs (Gm rfl (Gt (BH rfl Tryz.underlying9 rfl) (Ga rfl (Gn (.t3 0 1 5) ?_)))))))
 refine Ap (Ae (Gs (Gm rfl (Gt (Aj rfl rfl) (Gm rfl (BZ 19 rfl rfl (fun q=>AE rfl) (BZ 19 rfl rfl (fun q=>AE rfl) ?_)))))))
 refine BZ 19 rfl rfl (fun q=>Bt (cF rfl q) (cF rfl q)) ?_
 refine Gt (BS rfl rfl (fun h=>by rw [h];rfl)) ?_
 refine Ga rfl (Gn (.t4 0 1 5 16) ?_)
 refine Gc (fun c1=>?_) (fun c1=>?_)
 ·
  refine Gs (Ga rfl (Gn (.t1 4) (Ab (AT (AD ?_)))))
  refine AZ rfl (.tmp rfl .n) ?_
  intro w1 hS;refine⟨?_,hS.Am⟩;have e : [c]=s:=by simpa using c1
  rw [← e,Page.U9];rfl
 have c1p:=kz c1
 refine Gs (Gm rfl (Gt (Aj rfl rfl) (Ga rfl (Gn (.t4 0 1 5 24) ?_))))
 refine G4 rfl (by simp) ?_
 refine Gs (Gm rfl (Gm rfl ?_))
 refine Gt (Bm Tryz.underlying9 rfl rfl (by decide) (by first | omega | simp)) ?_
 refine BA rfl dQ (.c rfl (.c rfl .n)) (fun w hS=>E6 _ _ w) ?_
 refine Ga rfl (Gn (.t1 4) (Ab (AT (AD ?_))))
 refine AZ rfl (.tmp rfl .n) ?_
 intro w1 hS;refine⟨?_,hS.Am⟩;rfl
theorem FH (s:Aq)(c:UInt8)(w:World):Eh Tryz.prog 176 #[BU s,BU [c]] w fun v w'=>v = .int .i64 (Lib.indexByte s c)∧CA w w':=by
 refine Ak [] [] Tryz.func176 rfl rfl rfl (St.start w []) ?_
 refine Gs (Ga rfl (Gn (.t2 0 1) (Gs (Gm rfl (Gm rfl ?_)))))
 refine BA rfl bC (.c rfl (.c rfl .n)) (fun w hS=>D4 _ _ w) ?_
 refine Ga rfl (Gn (.t1 4) (Ab ?_))
 refine AZ rfl (.tmp rfl .n) ?_
 intro w1 hS;refine⟨?_,hS.Am⟩;rfl
theorem HP (s:Aq)(c:UInt8)(w:World):Eh Tryz.prog 174 #[BU s,BU [c]] w fun v w'=>v = .int .i64 ((s.count c:Nat):Int)∧CA w w':=by
 refine Ak [] [] Tryz.func174 rfl rfl rfl (St.start w []) ?_
 refine Gs (Ga rfl (Gn (.t2 0 1) (CB (Gm rfl (Gt (BH rfl Tryz.underlying9 rfl) (Gt (Aj rfl rfl) (Gn (.t3 0 1 9) ?_)))))))
 refine DD rfl (by simp) ?_
 refine Aa ?_
 refine AB (.t2 0 1) ?_
 refine AA (CB (Gm rfl (Gt (BH rfl Tryz.underlying9 rfl) (Gt (Aj rfl rfl) (Gn (.t3 0 1 15) ?_)))))
 refine G4 rfl (by simp) ?_
 refine Gs (Gm rfl (Gm rfl ?_))
 refine Gt (Bm Tryz.underlying9 rfl rfl (by decide) (by first | omega | simp)) ?_
 refine Gt (NT Tryz.func185 (by kernel_rfl) (by kernel_rfl) (by kernel_rfl) (by kernel_rfl) rfl rfl) ?_
 refine Ga rfl (Gn (.t1 4) (Ab (AD ?_)))
 refine AZ rfl (.tmp rfl .n) ?_
 intro w1 hS;refine⟨?_,hS.Am⟩;rfl
theorem JR (s:Aq)(c:UInt8)(hs:s.length≤10000000):JO Tryz.prog 179 #[BU s,BU [c], .int .i64 0, .int .i64 (-1)] [] (fun v B=>∃ h':Hd,v=h'.val∧h'.len=(Words.pieces c s).length∧B = [Ac.own h' 9 1 ((Words.pieces c s).flatMap A7)]):=by
 intro w hS0
 have hcl:=List.count_le_length (a:=c) (l:=s)
 have hpl:=Words.FQ c s
 refine Ak _ _ Tryz.func179 rfl rfl rfl (hS0) ?_
 refine Gs (Ga rfl (Gn (.t4 0 1 2 3) (CB (Gm rfl (Gt (Aj rfl rfl) (Gn (.t5 0 1 2 3 13) ?_))))))
 refine DD rfl (by simp) ?_
 refine Aa ?_
 refine AB (.t4 0 1 2 3) ?_
 refine AA (CB (Gm rfl (Gt (Bt rfl rfl) (Gn (.t5 0 1 2 3 15) ?_))))
 refine DD rfl (by simp) ?_
 refine Aa ?_
 refine AB (.t4 0 1 2 3) ?_
 refine AA (CB (Gm rfl (Gt (A8 rfl rfl) (Gn (.t5 0 1 2 3 20) ?_))))
 refine G4 rfl (by simp) ?_
 refine AJ (Gm rfl (Gm rfl ?_))
 refine BA rfl ZL (.c rfl (.c rfl .n)) (fun w hS=>HP _ c w) ?_
 refine Gt (Aw rfl rfl (IntWalk.i64_in _ (by(try simp only [List.length_cons,List.length_nil]);omega))) ?_
 refine Ga rfl (Gn (.t4 0 1 2 3) (Gs (Gm rfl (Gm rfl (Gt (BH rfl Tryz.underlying9 rfl) ?_)))))
 refine Gt (Aw rfl rfl (IntWalk.i64_in _ (by(try simp only [List.length_cons,List.length_nil]);omega))) ?_
 refine Gt (L5 rfl rfl) (Ga rfl (Gn (.t4 0 1 2 3) (Gs (Gm rfl ?_))))
 refine U0 rfl Tryz.underlying52 Em RX Ws rfl rfl (by(try simp only [List.length_cons,List.length_nil]);omega) (by(try simp only [List.length_cons,List.length_nil]);omega) (fun b1=>?_)
 refine Ga rfl (Gn (.t5 0 1 2 3 9) (Gs (Gm rfl ?_)))
 refine Gt (FR rfl rfl (IntWalk.i64_in _ (by(try simp only [List.length_cons,List.length_nil]);omega))) ?_
 refine Ga rfl (Gn (.t5 0 1 2 3 9) (Gs (Ga rfl (AR (AA (Ap (Ae ?_)))))))
 refine Bo (.t6 0 10 1 2 3 9) ?_
 refine Dt (fun(i:Int) (r:Aq) (xs:List Aq)=>Words.Oe c s i r xs) (fun(i:Int) (r:Aq) (xs:List Aq)=>((s.count c:Int) - i).toNat) (fun(i:Int) (r:Aq) (xs:List Aq)=> [(0,BU r),(10, .int .i64 i)]) (fun(i:Int) (r:Aq) (xs:List Aq)=> [Ac.own ⟨some ⟨b1,0,none⟩,(min (((s.count c:Nat):Int)+1) ((s.length:Int)+1)).toNat,(min (((s.count c:Nat):Int)+1) ((s.length:Int)+1)).toNat⟩ 9 1 (xs.flatMap A7)]) (0) (s) (_) ?_ rfl rfl (fun i r xs hI1=>?_)
 · exact Words.Oe.start c s _ (by omega)
 have hI11:=hI1;have hi0:=hI1.i0;have hi1:=hI1.i1;have hrl:=hI1.rl;have hxl:=hI1.len
 refine CB (Gm rfl (Gm rfl (Gt (A8 rfl rfl) (Gn (.t7 0 1 2 3 9 10 36) ?_))))
 refine Gc (fun c1=>?_) (fun c1=>?_)
 ·
  have c1p:=kz c1
  refine Aa ?_
  refine AB (.t6 0 1 2 3 9 10) ?_
  refine AA (Ae (Gs (Gm rfl (Gm rfl ?_))))
  refine BA rfl W4 (.c rfl (.c rfl .n)) (fun w hS=>FH _ c w) ?_
  refine Ga rfl (Gn (.t7 0 1 2 3 9 10 11) (CB (Gm rfl (Gt (A8 rfl rfl) (Gn (.t8 0 1 2 3 9 10 11 41) ?_)))))
  refine Gc (fun c2=>?_) (fun c2=>?_)
  ·
   have c2p:=kz c2
   refine Ba (AW ?_)
   refine Jd rfl ?_
   refine AW (Af ?_)
   refine AB (.t3 0 9 10) ?_
   refine AA (Gs (Gm rfl (Gm rfl (Gm rfl ?_))))
   refine Gt (Br JU (by decide) (Kn.own .m0) rfl rfl (by omega) (by(try dsimp only);omega)) ?_
   refine AS (Og rfl rfl Em (by have:=hI11.len;omega) .h) ?_
   refine Gn (.t2 9 10) (Gs (Gm rfl (Gm rfl ?_)))
   refine Gt (Aw rfl rfl (IntWalk.i64_in _ (by(try simp only [List.length_cons,List.length_nil]);omega))) ?_
   refine KQ DZ rfl Tryz.underlying52 Em rfl rfl (by(try simp only [List.length_cons,List.length_nil]);omega) (by(try simp only [List.length_cons,List.length_nil]);omega) (fun _=> .h) ?_
   refine Ga rfl (Gn (.t1 8) (Ab ?_))
   refine AZ rfl (.tmp rfl .n) ?_
   intro w1 hS
   have hS:=(hS.perm (Ax.perm (.c .h .n))).A1
   have hd:=hI11.done (by first | (right;simpa using c2) | (left;omega))
   exact⟨_,⟨_,rfl,by rw [hd.2] at *;(try simp only [Hd.cut] at *);omega,by rw [hd.2]⟩,hS⟩
  have c2p:=kz c2
  obtain⟨hm0,hm1,hnx⟩:=hI11.next rfl (by simpa using c2)
  refine Aa ?_
  refine AB (.t7 0 1 2 3 9 10 11) ?_
  refine AA (Gs (Gm rfl (Gm rfl (Gm rfl (Gm rfl (Gm rfl ?_))))))
  refine Gt (Aw rfl rfl (IntWalk.i64_in _ (by(try simp only [List.length_cons,List.length_nil]);omega))) ?_
  refine Gt (IW Tryz.underlying9 rfl rfl (by(try simp only [List.length_cons,List.length_nil]);omega) (by(try simp only [List.length_cons,List.length_nil]);omega)) ?_
  refine Gt (Br JU (by decide) (Kn.own .m0) rfl rfl (by omega) (by(try dsimp only);omega)) ?_
  refine AS (Og rfl rfl Em (by have:=hI11.len;omega) .h) ?_
  refine Gn (.t7 0 1 2 3 9 10 11) (Gs (Gm rfl (Gm rfl (Gm rfl (Gt (BH rfl Tryz.underlying9 rfl) ?_)))))
  refine Gt (Aw rfl rfl (IntWalk.i64_in _ (by(try simp only [List.length_cons,List.length_nil]);omega))) ?_
  refine Gt (Gg Tryz.underlying9 rfl rfl (by(try simp only [List.length_cons,List.length_nil]);omega) (by(try simp only [List.length_cons,List.length_nil]);omega)) ?_
  refine Ga rfl (Gn (.t6 0 1 2 3 9 10) (AJ (Gm rfl ?_)))
  refine Gt (Aw rfl rfl (IntWalk.i64_in _ (by(try simp only [List.length_cons,List.length_nil]);omega))) ?_
  refine Ga rfl ?_
  refine AR (AB (.t6 0 1 2 3 9 10) ?_)
  refine AV ?_
  refine Bw (i+1) _ _ ?_ ?_ (.t6 0 10 1 2 3 9) (.refl _)
  · rw [Int.add_zero]
    exact hnx
  · omega
 have c1p:=kz c1
 refine Ba (AW (AW (Af ?_)))
 refine AB (.t3 0 9 10) ?_
 refine AA (Gs (Gm rfl (Gm rfl (Gm rfl ?_))))
 refine Gt (Br JU (by decide) (Kn.own .m0) rfl rfl (by omega) (by(try dsimp only);omega)) ?_
 refine AS (Og rfl rfl Em (by have:=hI11.len;omega) .h) ?_
 refine Gn (.t2 9 10) (Gs (Gm rfl (Gm rfl ?_)))
 refine Gt (Aw rfl rfl (IntWalk.i64_in _ (by(try simp only [List.length_cons,List.length_nil]);omega))) ?_
 refine KQ DZ rfl Tryz.underlying52 Em rfl rfl (by(try simp only [List.length_cons,List.length_nil]);omega) (by(try simp only [List.length_cons,List.length_nil]);omega) (fun _=> .h) ?_
 refine Ga rfl (Gn (.t1 8) (Ab ?_))
 refine AZ rfl (.tmp rfl .n) ?_
 intro w1 hS
 have hS:=(hS.perm (Ax.perm (.c .h .n))).A1
 have hd:=hI11.done (by first | (right;simpa using c1) | (left;omega))
 exact⟨_,⟨_,rfl,by rw [hd.2] at *;(try simp only [Hd.cut] at *);omega,by rw [hd.2]⟩,hS⟩
theorem Ks (s:Aq)(c:UInt8)(hs:s.length≤10000000):JO Tryz.prog 167 #[BU s,BU [c]] [] (fun v B=>∃ h':Hd,v=h'.val∧h'.len=(Words.pieces c s).length∧B = [Ac.own h' 9 1 ((Words.pieces c s).flatMap A7)]):=by
 intro w hS0
 refine Ak _ _ Tryz.func167 rfl rfl rfl (hS0) ?_
 refine Gs (Ga rfl (Gn (.t2 0 1) (Gs (Gm rfl (Gm rfl ?_)))))
 refine Ai rfl bZ (.c rfl (.c rfl (.c rfl (.c rfl .n)))) .n (JR _ c hs) (fun v1 B hv=>?_)
 obtain⟨y2,rfl,y3,rfl⟩:=hv
 refine Ga rfl (Gn (.t1 4) (Ab ?_))
 refine AZ rfl (.tmp rfl .n) ?_
 intro w1 hS
 have hS:=(hS.perm (Ax.perm (.c .h .n))).A1
 exact⟨_,⟨_,rfl,by assumption,rfl⟩,hS⟩
theorem OZ (u:Aq)(hu:u.length≤10000000)(w:World):Eh Tryz.prog 168 #[BU u] w fun v w'=>v=BU (Words.low u)∧CA w w':=by
 refine Ak [] [] Tryz.func168 rfl rfl rfl (St.start w []) ?_
 refine Gs (Ga rfl (Gn (.t1 0) (Gs (Gm rfl ?_))))
 refine O2 rfl Tryz.underlying9 Tryz.underlying105 Tryz.underlying5 rfl (fun h1 h1l=>?_)
 refine Ga rfl (Gn (.t1 3) (CB (Gm rfl (Gt (Av rfl Tryz.underlying105 rfl) (Gm rfl (AR (AA ?_)))))))
 refine Ae ?_
 refine Bo (.t4 10 3 8 9) ?_
 refine CQ (fun(k:Int)=>0≤k∧k≤u.length) (fun(k:Int)=>((u.length:Int) - k).toNat) (fun(k:Int)=> [(10, .int .i64 k)]) (fun(k:Int)=> [Ac.own h1 5 1 ((Words.Hg u k.toNat).flatMap DR)]) (0) ?_ rfl rfl (fun k hI1=>?_)
 · exact⟨by omega,by omega⟩
 obtain⟨hI11,hI12⟩:=hI1
 refine Gs (Gt (A8 rfl rfl) (AR (AA (Ap ?_))))
 refine Gc (fun c1=>?_) (fun c1=>?_)
 ·
  have c1p:=kz c1
  have hat:=Words.UK (w:=u) hI11 (by omega)
  have hc8:=(u.getD k.toNat 0).toNat_lt
  refine Aa ?_
  refine AB (.t4 3 8 9 10) ?_
  refine AA (Ap (Ae (Gs (Gm rfl ?_))))
  refine Gt (Br Xj (by decide) (Kn.own .m0) rfl rfl (by omega) (by omega)) ?_
  refine Gt (WQ rfl cB (Kn.own .m0) (by rw [Words.Nq];omega)) ?_
  refine Ga rfl (Ga rfl (Gn (.t6 3 4 5 8 9 10) (Gs (Gm rfl (Gt (CI rfl rfl) (Gm rfl (Bl 17 rfl rfl (fun q=>AE rfl) ?_)))))))
  refine Bl 17 rfl rfl (fun q=>IK (Bf rfl q) rfl) (Gt (BJ rfl rfl (fun h=>h)) (Gn (.t7 3 4 5 8 9 10 20) ?_))
  refine Gc (fun c2=>?_) (fun c2=>?_)
  ·
   have c2p:=kz c2
   rw [hat] at c2
   have hset:=Words.Rn (w:=u) hI11 (by omega)
   rw [← Words.Ys c2] at hset
   refine AJ (Gm rfl (Gm rfl (Gm rfl ?_)))
   refine Gt (Aw rfl rfl (IntWalk.u8_in _ (by(try simp only [hat] at c2p ⊢);omega))) ?_
   refine Gt (FR rfl rfl (IntWalk.u8_in _ (by(try simp only [hat] at c2p ⊢);omega))) ?_
   refine Gt (Br Xj (by decide) (Kn.own .m0) rfl rfl (by omega) (by omega)) ?_
   refine AS (aG rfl rfl (by simp only [hat] at c2p ⊢;omega) Vt (by rw [Words.Nq];omega) .h) ?_
   refine AR (AB (.t4 3 8 9 10) ?_)
   refine AV (AA (AJ ?_))
   refine Gt (Aw rfl rfl (IntWalk.i64_in _ (by(try simp only [hat] at c2p ⊢);omega))) ?_
   refine Gm rfl ?_
   refine AR (AB (.t4 3 8 9 10) ?_)
   refine Bx (k+1) ?_ ?_ (.t4 10 3 8 9) (by rw [← hset];first | exact(.refl _) | (rw [← hat];exact(.refl _)))
   · exact⟨by omega,by omega⟩
   · omega
  have c2p:=kz c2
  rw [hat] at c2
  have hset:=Words.VI (w:=u) hI11 (by omega) (Words.Yd c2)
  refine Aa ?_
  refine AB (.t4 3 8 9 10) ?_
  refine AV (AA (AJ ?_))
  refine Gt (Aw rfl rfl (IntWalk.i64_in _ (by(try simp only [hat] at c2p ⊢);omega))) ?_
  refine Gm rfl ?_
  refine AR (AB (.t4 3 8 9 10) ?_)
  refine Bx (k+1) ?_ ?_ (.t4 10 3 8 9) (by rw [← hset];first | exact(.refl _) | (rw [← hat];exact(.refl _)))
  · exact⟨by omega,by omega⟩
  · omega
 have c1p:=kz c1
 refine Ba (AW (AW (Af ?_)))
 refine AB (.t1 3) ?_
 refine AA (Gs (Gm rfl (Gt (KH Tryz.underlying105 Tryz.underlying9 Tryz.underlying5 rfl (Kn.own .m0)) (Ga rfl (Gn (.t1 2) (Ab ?_))))))
 refine AZ rfl (.tmp rfl .n) ?_
 intro w1 hS;refine⟨?_,hS.Am⟩;obtain rfl:k=u.length:=by omega
 rw [show(u.length:Int).toNat=u.length by omega,Words.Xc];rfl
end Go.Proofs.YtoidpggbbfncpaaGreatDoor

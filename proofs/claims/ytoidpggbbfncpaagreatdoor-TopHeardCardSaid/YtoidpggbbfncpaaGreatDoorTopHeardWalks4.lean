/- What the functions that the law TopHeard reaches compute: walks, part 4. No condition. -/
import Derived.Test.YtoidpggbbfncpaaGreatDoorCards
import Derived.Test.YtoidpggbbfncpaaGreatDoorTie
import Derived.Deep.DeepHandedRow
import Derived.Test.YtoidpggbbfncpaaGreatDoorRows
import Derived.Test.YtoidpggbbfncpaaGreatDoorTopHeardEc3
import Derived.Test.YtoidpggbbfncpaaGreatDoorTopHeardRa1
import Derived.Test.YtoidpggbbfncpaaGreatDoorTopHeardRb1
import Derived.Test.YtoidpggbbfncpaaGreatDoorTopHeardRc1
import Derived.Test.YtoidpggbbfncpaaGreatDoorTopHeardWalks
import Derived.Test.YtoidpggbbfncpaaGreatDoorTopHeardWalks2
import Derived.Test.YtoidpggbbfncpaaGreatDoorTopHeardWalks3
set_option linter.unusedSimpArgs false
set_option linter.unusedVariables false
set_option maxRecDepth 100000
set_option maxHeartbeats 1000000
namespace Go.Proofs.YtoidpggbbfncpaaGreatDoor
open Go Go.Ing Go.RowKit Go.ChangeShapes Go.WideShapes Go.ChangeAt
theorem Sr (b:Nat)(T:AE)(g:Hd)(o:Order)(hg:g.len=T.out.length)(hF:T.Fit)(hu:o.second.length≤5000000)(hn:T.out.length≤90000):FC Tryz.prog 105 #[.pointer (some ⟨b,0,none⟩), .agg o.enc.toArray] [Ac.box b 163 (Ad.enc ⟨T.w,T.b,g⟩),Ac.own g 56 16 (T.out.flatMap Ing.Event.enc)] (fun w=>(G0 7 w∧7 ∉ Cc [Ac.box b 163 (Ad.enc ⟨T.w,T.b,g⟩),Ac.own g 56 16 (T.out.flatMap Ing.Event.enc)])∧(G0 8 w∧8 ∉ Cc [Ac.box b 163 (Ad.enc ⟨T.w,T.b,g⟩),Ac.own g 56 16 (T.out.flatMap Ing.Event.enc)])) (fun v B=>∃ g':Hd,v = .tuple #[]∧g'.len=(T.get o).out.length∧B = [Ac.box b 163 (Ad.enc ⟨(T.get o).w,(T.get o).b,g'⟩),Ac.own g' 56 16 ((T.get o).out.flatMap Ing.Event.enc)]):=by
 intro w hS0 hH
 obtain⟨⟨gl0,gm0⟩,⟨gl1,gm1⟩⟩:=hH
 have hb:=hF.b
 have hr:=hF.room
 refine Al _ _ Tryz.func105 rfl rfl rfl (hS0) ?_
 refine Gs ?_
 refine B5 rfl rfl rfl (fun b1=>?_)
 refine Gn (.t2 0 3) (Gs (Gm rfl ?_))
 refine Ah rfl Yl (.c rfl .n) (.c (.t .h) .n) (JO _ _ _ (by first | assumption | omega)) (fun v1 B hv=>?_)
 obtain⟨y2,rfl,y3,rfl⟩:=hv
 refine Ga rfl (Gn (.t3 0 3 4) (CD (Gt (Ai II rfl) (Gt (AH rfl CO .m2 Order.l4 rfl rfl) (Gt (Dl rfl rfl) (Gn (.t4 0 3 4 14) ?_))))))
 refine Gc (fun c1=>?_) (fun c1=>?_)
 ·
  have c1p:=kz c1
  refine Gs (Gm rfl (Gt (Ai II rfl) (Gt (AH rfl CO .m2 Order.l4 rfl rfl) ?_)))
  refine BE rfl aj (.c rfl (.c rfl .n)) (.c .h (.c (.t (.t .h)) .n)) (M9 _ T _ _ hg hF hu (by omega)) (fun w hS=>⟨gl0.pull gm0 hS (.c .h (.c (.t (.t .h)) .n)),gl1.pull gm1 hS (.c .h (.c (.t (.t .h)) .n))⟩) (fun v5 B hv=>?_)
  obtain⟨y6,rfl,y7,rfl⟩:=hv
  refine Gm rfl (Gt (AM rfl rfl) (Gt (AM rfl rfl) (Ga rfl (Ga rfl (Gn (.t4 0 3 5 6) (CD (Gm rfl ?_)))))))
  refine Gt (BT rfl) (Gn (.t4 0 3 5 23) ?_)
  refine Gc (fun c2=>?_) (fun c2=>?_)
  ·
   have c2p:=kz c2
   refine Ab (AD (AD ?_))
   refine AY rfl .n ?_
   intro w1 hS
   have hS:=(hS.perm (Ay.perm (.c .h (.c .h .n)))).A1
   have hq:T.get o=_:=((BB c1).trans (BB c2))
   refine⟨_,⟨?gq1,rfl,?hl1,?hB1⟩,hS⟩
   case hB1=>rw [hq];(try rfl)
   case hl1=>rw [hq];assumption
  have c2p:=kz c2
  refine Aa ?_
  refine AB (.t3 0 3 5) ?_
  refine AA (AJ (Gm rfl (Gt (BV rfl) (Gt (Ai A9 rfl) (Gt (AZ rfl BZ .m0 Ad.l0 rfl) (Gm rfl ?_))))))
  refine Ah rfl SA (.c rfl (.c rfl (.c rfl .n))) .n (FF _ _ _) (fun v8 B hv=>?_)
  obtain⟨y9,rfl,y10,rfl⟩:=hv
  refine Ga rfl (Gn (.t3 0 3 4) (Gs (Gm rfl (Gm rfl (Gt (Ai GU rfl) (Gt (AH rfl A4 .m4 Order.l1 rfl rfl) (Gt (Ai Fy rfl) ?_)))))))
  refine Gt (AH rfl CO .m4 Order.l3 rfl rfl) (Gt (Ai HN rfl) (Gt (AH rfl Dr .m4 Order.l2 rfl rfl) ?_))
  refine Ah rfl QA (.c rfl (.c rfl (.c rfl (.c rfl (.c rfl .n))))) (.c (.t .h) (.c .h .n)) (Ey _ (T.box o.second).1 _ _ ((T.box o.second).1.w.has 2 (T.box o.second).2.1) _ _ _ (hF.Ei (T.KC _).1 (T.KC _).2) (by assumption) (Nat.le_trans (AG.IN _ _ _) (by decide)) (fun i hi=>AG.Fp hi)) (fun v12 B hv=>?_)
  obtain⟨y13,rfl,y14,rfl⟩:=hv
  refine Ga rfl (Gn (.t2 0 4) (CD (Gm rfl (Gt (Ar rfl Tryz.underlying169 rfl) (Gt (Ag rfl rfl) (Gn (.t3 0 4 41) ?_))))))
  refine Gc (fun c3=>?_) (fun c3=>?_)
  ·
   have c3p:=kz c3
   rw [y14] at c3
   refine AJ (Gm rfl ?_)
   refine Ah rfl EI (.c rfl (.c rfl .n)) (.c .h (.c (.t (.t .h)) .n)) (Be _ (T.box o.second).1 _ _ (by assumption) (by rw [(T.KC _).2];exact hb) (by have:=T.IE o.second;omega)) (fun v16 B hv=>?_)
   obtain⟨y17,rfl,y18,rfl⟩:=hv
   refine Gn (.t2 0 4) (Gs (Gm rfl (Gt (Ar rfl Tryz.underlying169 rfl) (Gm rfl (Gn (.t4 0 44 45 46) (Ae ?_))))))
   refine Bl (.t4 46 0 44 45) ?_
   refine Bf (.t .h) ?_
   refine Bf (.t .h) ?_
   refine DX (fun(k:Int) (X:AE) (h:Hd)=>0≤k∧k≤((AE.BQ (T.box o.second).1.w ((T.box o.second).1.w.has 2 (T.box o.second).2.1) o.nth o.name o.Bm).length:Int)∧T.get o=X.DG ((AE.BQ (T.box o.second).1.w ((T.box o.second).1.w.has 2 (T.box o.second).2.1) o.nth o.name o.Bm).drop k.toNat)∧X.b=T.b∧(X.out.length:Int)≤T.out.length+2+k∧h.len=X.out.length∧((AE.BQ (T.box o.second).1.w ((T.box o.second).1.w.has 2 (T.box o.second).2.1) o.nth o.name o.Bm).length:Int)≤9) (fun(k:Int) (X:AE) (h:Hd)=>(((AE.BQ (T.box o.second).1.w ((T.box o.second).1.w.has 2 (T.box o.second).2.1) o.nth o.name o.Bm).length:Int) - k).toNat) (fun(k:Int) (X:AE) (h:Hd)=> [(46, .int .i64 k)]) (fun(k:Int) (X:AE) (h:Hd)=> [Ac.box b 163 (Ad.enc ⟨X.w,X.b,h⟩),Ac.own h 56 16 (X.out.flatMap Ing.Event.enc)]) (0) (_) (_) ?_ rfl rfl (fun k X h hI1=>?_)
   · exact⟨by omega,by omega,((BB c1).trans (AX c2)).trans (congrArg (fun q=>AE.DG q _) (BB c3)),(T.KC _).2,by have:=T.IE o.second;(try simp only [AE.CG]);omega,by assumption,by have:=(AE.Ea (T.box o.second).1.w ((T.box o.second).1.w.has 2 (T.box o.second).2.1) o.nth o.name o.Bm).length_le;have:=AG.IN (T.box o.second).1.w 2 (T.box o.second).2.1;omega⟩
   obtain⟨hI11,hI12,hI13,hI14,hI15,hI16,hI17⟩:=hI1
   refine Gs (Gt (A8 rfl rfl) (AQ (AA (Ap ?_))))
   refine Gc (fun c4=>?_) (fun c4=>?_)
   ·
    have c4p:=kz c4
    have hx:0≤(AE.BQ (T.box o.second).1.w ((T.box o.second).1.w.has 2 (T.box o.second).2.1) o.nth o.name o.Bm).getD k.toNat 0∧(AE.BQ (T.box o.second).1.w ((T.box o.second).1.w.has 2 (T.box o.second).2.1) o.nth o.name o.Bm).getD k.toNat 0 < 9:=(fun i hi=>AG.Fp (AE.Dt hi)) _ (Bg.Ez (xs:=(AE.BQ (T.box o.second).1.w ((T.box o.second).1.w.has 2 (T.box o.second).2.1) o.nth o.name o.Bm)) (i:=k.toNat) (by omega))
    refine Aa ?_
    refine AB (.t4 0 44 45 46) ?_
    refine AA (Ap (Ae (Gs ?_)))
    refine Gt (Bp Gg (by decide) (Kn.own .m3) rfl rfl (by omega) (by omega)) ?_
    refine Gt (DN rfl A4 (Kn.own .m3) (by omega)) ?_
    refine Ga rfl (Gn (.t5 0 8 44 45 46) (Gs (Gm rfl (Gm rfl (Gt (BV rfl) (Gt (Ai A9 rfl) (Gt (Ai Cx rfl) ?_)))))))
    refine Gt (AS GO rfl rfl (by first | omega | exact hb.1 | exact hb.2 | (dsimp only;omega)) (by first | omega | exact hb.1 | exact hb.2 | (dsimp only;omega))) ?_
    refine Ga rfl (Gn (.t6 0 8 9 44 45 46) (Gs (Gm rfl (Gm rfl (Gm rfl (Gt (BV rfl) (Gt (Ai CR rfl) ?_)))))))
    refine Gt (AH rfl A4 .m0 Ad.l1 rfl rfl) (Gt (BV rfl) (Gt (Ai FY rfl) ?_))
    refine AT (AK (((Ad.l0.comp AG.l1).comp (AU.ar (n:=9) Am.fl (by first | omega | exact hb | (dsimp only;omega)))).comp Am.l2) rfl rfl rfl DB rfl .h) ?_
    refine Gt (BV rfl) (Gt (Ai DM rfl) ?_)
    refine AT (AK (((Ad.l0.comp AG.l1).comp (AU.ar (n:=9) Am.fl (by first | omega | exact hb | (dsimp only;omega)))).comp Am.l3) rfl rfl rfl DB rfl .h) ?_
    refine Gn (.t5 0 8 44 45 46) ?_
    refine GF (fun _=> .h) (congrArg (fun q=>Ad.enc ⟨q,_,_⟩) (AE.He X hx.1 hx.2 1 X.b)) ?_
    refine AJ (Gm rfl (Gm rfl ?_))
    refine Ah rfl Ow (.c rfl (.c rfl (.c rfl .n))) (.c .h (.c .h .n)) (D1 _ (X.place ((AE.BQ (T.box o.second).1.w ((T.box o.second).1.w.has 2 (T.box o.second).2.1) o.nth o.name o.Bm).getD k.toNat 0) 1 X.b) _ 3 ((AE.BQ (T.box o.second).1.w ((T.box o.second).1.w.has 2 (T.box o.second).2.1) o.nth o.name o.Bm).getD k.toNat 0) (by assumption) (show 0≤X.b∧X.b < 6 by rw [hI14];exact hb) hx (show X.out.length≤100000 by omega)) (fun v19 B hv=>?_)
    obtain⟨y20,rfl,y21,rfl⟩:=hv
    refine AQ (AB (.t4 0 44 45 46) ?_)
    refine AW (AA (AJ ?_))
    refine Gt (Av rfl rfl (IntWalk.i64_in _ (by first | omega | exact hb.1 | exact hb.2 | (dsimp only;omega)))) ?_
    refine Gm rfl ?_
    refine AQ (AB (.t4 0 44 45 46) ?_)
    refine Bt (k+1) _ _ ?_ ?_ (.t4 46 0 44 45) (.refl _)
    · exact⟨by omega,by omega,by rw [hI13,AE.HK hI11 (by omega)],hI14,(by rw [AE.Fg];show((X.out.length+1:Nat):Int)≤_;omega),by assumption,hI17⟩
    · omega
   have c4p:=kz c4
   obtain rfl:k=((AE.BQ (T.box o.second).1.w ((T.box o.second).1.w.has 2 (T.box o.second).2.1) o.nth o.name o.Bm).length:Int):=by omega
   rw [AE.J0] at hI13
   refine Ba (AV (AV (Af ?_)))
   refine Bk rfl .n ?_
   intro w1 hS
   have hS:=(hS.perm (Ay.perm (.c .h (.c .h .n)))).A1
   refine⟨_,⟨?gq2,rfl,?hl2,?hB2⟩,hS⟩
   case hB2=>rw [hI13];rfl
   case hl2=>rw [hI13];exact hI16
  have c3p:=kz c3
  rw [y14] at c3
  refine Aa ?_
  refine AB (.t2 0 4) ?_
  refine AA (Gs (Gm rfl (Gt (Ar rfl Tryz.underlying169 rfl) (Gm rfl (Gn (.t4 0 44 45 46) (Ae ?_))))))
  refine Bl (.t4 46 0 44 45) ?_
  refine Bf (.t (.t (.t .h))) ?_
  refine Bf (.t .h) ?_
  refine DX (fun(k:Int) (X:AE) (h:Hd)=>0≤k∧k≤((AE.BQ (T.box o.second).1.w ((T.box o.second).1.w.has 2 (T.box o.second).2.1) o.nth o.name o.Bm).length:Int)∧T.get o=X.DG ((AE.BQ (T.box o.second).1.w ((T.box o.second).1.w.has 2 (T.box o.second).2.1) o.nth o.name o.Bm).drop k.toNat)∧X.b=T.b∧(X.out.length:Int)≤T.out.length+2+k∧h.len=X.out.length∧((AE.BQ (T.box o.second).1.w ((T.box o.second).1.w.has 2 (T.box o.second).2.1) o.nth o.name o.Bm).length:Int)≤9) (fun(k:Int) (X:AE) (h:Hd)=>(((AE.BQ (T.box o.second).1.w ((T.box o.second).1.w.has 2 (T.box o.second).2.1) o.nth o.name o.Bm).length:Int) - k).toNat) (fun(k:Int) (X:AE) (h:Hd)=> [(46, .int .i64 k)]) (fun(k:Int) (X:AE) (h:Hd)=> [Ac.box b 163 (Ad.enc ⟨X.w,X.b,h⟩),Ac.own h 56 16 (X.out.flatMap Ing.Event.enc)]) (0) (_) (_) ?_ rfl rfl (fun k X h hI1=>?_)
  · exact⟨by omega,by omega,((BB c1).trans (AX c2)).trans (congrArg (fun q=>AE.DG q _) (AX c3)),(T.KC _).2,by have:=T.IE o.second;(try simp only [AE.CG]);omega,by assumption,by have:=(AE.Ea (T.box o.second).1.w ((T.box o.second).1.w.has 2 (T.box o.second).2.1) o.nth o.name o.Bm).length_le;have:=AG.IN (T.box o.second).1.w 2 (T.box o.second).2.1;omega⟩
  obtain⟨hI11,hI12,hI13,hI14,hI15,hI16,hI17⟩:=hI1
  refine Gs (Gt (A8 rfl rfl) (AQ (AA (Ap ?_))))
  refine Gc (fun c5=>?_) (fun c5=>?_)
  ·
   have c5p:=kz c5
   have hx:0≤(AE.BQ (T.box o.second).1.w ((T.box o.second).1.w.has 2 (T.box o.second).2.1) o.nth o.name o.Bm).getD k.toNat 0∧(AE.BQ (T.box o.second).1.w ((T.box o.second).1.w.has 2 (T.box o.second).2.1) o.nth o.name o.Bm).getD k.toNat 0 < 9:=(fun i hi=>AG.Fp (AE.Dt hi)) _ (Bg.Ez (xs:=(AE.BQ (T.box o.second).1.w ((T.box o.second).1.w.has 2 (T.box o.second).2.1) o.nth o.name o.Bm)) (i:=k.toNat) (by omega))
   refine Aa ?_
   refine AB (.t4 0 44 45 46) ?_
   refine AA (Ap (Ae (Gs ?_)))
   refine Gt (Bp Gg (by decide) (Kn.own .m3) rfl rfl (by omega) (by omega)) ?_
   refine Gt (DN rfl A4 (Kn.own .m3) (by omega)) ?_
   refine Ga rfl (Gn (.t5 0 8 44 45 46) (Gs (Gm rfl (Gm rfl (Gt (BV rfl) (Gt (Ai A9 rfl) (Gt (Ai Cx rfl) ?_)))))))
   refine Gt (AS GO rfl rfl (by first | omega | exact hb.1 | exact hb.2 | (dsimp only;omega)) (by first | omega | exact hb.1 | exact hb.2 | (dsimp only;omega))) ?_
   refine Ga rfl (Gn (.t6 0 8 9 44 45 46) (Gs (Gm rfl (Gm rfl (Gm rfl (Gt (BV rfl) (Gt (Ai CR rfl) ?_)))))))
   refine Gt (AH rfl A4 .m0 Ad.l1 rfl rfl) (Gt (BV rfl) (Gt (Ai FY rfl) ?_))
   refine AT (AK (((Ad.l0.comp AG.l1).comp (AU.ar (n:=9) Am.fl (by first | omega | exact hb | (dsimp only;omega)))).comp Am.l2) rfl rfl rfl DB rfl .h) ?_
   refine Gt (BV rfl) (Gt (Ai DM rfl) ?_)
   refine AT (AK (((Ad.l0.comp AG.l1).comp (AU.ar (n:=9) Am.fl (by first | omega | exact hb | (dsimp only;omega)))).comp Am.l3) rfl rfl rfl DB rfl .h) ?_
   refine Gn (.t5 0 8 44 45 46) ?_
   refine GF (fun _=> .h) (congrArg (fun q=>Ad.enc ⟨q,_,_⟩) (AE.He X hx.1 hx.2 1 X.b)) ?_
   refine AJ (Gm rfl (Gm rfl ?_))
   refine Ah rfl Ow (.c rfl (.c rfl (.c rfl .n))) (.c .h (.c .h .n)) (D1 _ (X.place ((AE.BQ (T.box o.second).1.w ((T.box o.second).1.w.has 2 (T.box o.second).2.1) o.nth o.name o.Bm).getD k.toNat 0) 1 X.b) _ 3 ((AE.BQ (T.box o.second).1.w ((T.box o.second).1.w.has 2 (T.box o.second).2.1) o.nth o.name o.Bm).getD k.toNat 0) (by assumption) (show 0≤X.b∧X.b < 6 by rw [hI14];exact hb) hx (show X.out.length≤100000 by omega)) (fun v22 B hv=>?_)
   obtain⟨y23,rfl,y24,rfl⟩:=hv
   refine AQ (AB (.t4 0 44 45 46) ?_)
   refine AW (AA (AJ ?_))
   refine Gt (Av rfl rfl (IntWalk.i64_in _ (by first | omega | exact hb.1 | exact hb.2 | (dsimp only;omega)))) ?_
   refine Gm rfl ?_
   refine AQ (AB (.t4 0 44 45 46) ?_)
   refine Bt (k+1) _ _ ?_ ?_ (.t4 46 0 44 45) (.refl _)
   · exact⟨by omega,by omega,by rw [hI13,AE.HK hI11 (by omega)],hI14,(by rw [AE.Fg];show((X.out.length+1:Nat):Int)≤_;omega),by assumption,hI17⟩
   · omega
  have c5p:=kz c5
  obtain rfl:k=((AE.BQ (T.box o.second).1.w ((T.box o.second).1.w.has 2 (T.box o.second).2.1) o.nth o.name o.Bm).length:Int):=by omega
  rw [AE.J0] at hI13
  refine Ba (AV (AV (Af ?_)))
  refine Bk rfl .n ?_
  intro w1 hS
  have hS:=(hS.perm (Ay.perm (.c .h (.c .h .n)))).A1
  refine⟨_,⟨?gq3,rfl,?hl3,?hB3⟩,hS⟩
  case hB3=>rw [hI13];rfl
  case hl3=>rw [hI13];exact hI16
 have c1p:=kz c1
 refine Aa ?_
 refine AB (.t3 0 3 4) ?_
 refine AA (Gs (Gm rfl (Gm rfl (Gt (Ai GU rfl) (Gt (AH rfl A4 .m2 Order.l1 rfl rfl) (Gt (Ai Fy rfl) (Gt (AH rfl CO .m2 Order.l3 rfl rfl) ?_)))))))
 refine Gt (Ai HN rfl) (Gt (AH rfl Dr .m2 Order.l2 rfl rfl) ?_)
 refine Ah rfl QA (.c rfl (.c rfl (.c rfl (.c rfl (.c rfl .n))))) (.c .h (.c .h .n)) (Ey _ T _ _ T.seen _ _ _ hF (by assumption) (Nat.le_trans T.Im (by decide)) (fun i hi=>AE.OH hi)) (fun v25 B hv=>?_)
 obtain⟨y26,rfl,y27,rfl⟩:=hv
 refine Ga rfl (Gn (.t2 0 4) (CD (Gm rfl (Gt (Ar rfl Tryz.underlying169 rfl) (Gt (Ag rfl rfl) (Gn (.t3 0 4 41) ?_))))))
 refine Gc (fun c6=>?_) (fun c6=>?_)
 ·
  have c6p:=kz c6
  rw [y27] at c6
  refine AJ (Gm rfl ?_)
  refine Ah rfl EI (.c rfl (.c rfl .n)) (.c .h (.c (.t (.t (.t .h))) .n)) (Be _ T _ _ (by assumption) (by exact hb) (by have:=T.IE o.second;omega)) (fun v29 B hv=>?_)
  obtain⟨y30,rfl,y31,rfl⟩:=hv
  refine Gn (.t2 0 4) (Gs (Gm rfl (Gt (Ar rfl Tryz.underlying169 rfl) (Gm rfl (Gn (.t4 0 44 45 46) (Ae ?_))))))
  refine Bl (.t4 46 0 44 45) ?_
  refine Bf (.t .h) ?_
  refine Bf (.t .h) ?_
  refine DX (fun(k:Int) (X:AE) (h:Hd)=>0≤k∧k≤((AE.BQ T.w T.seen o.nth o.name o.Bm).length:Int)∧T.get o=X.DG ((AE.BQ T.w T.seen o.nth o.name o.Bm).drop k.toNat)∧X.b=T.b∧(X.out.length:Int)≤T.out.length+2+k∧h.len=X.out.length∧((AE.BQ T.w T.seen o.nth o.name o.Bm).length:Int)≤9) (fun(k:Int) (X:AE) (h:Hd)=>(((AE.BQ T.w T.seen o.nth o.name o.Bm).length:Int) - k).toNat) (fun(k:Int) (X:AE) (h:Hd)=> [(46, .int .i64 k)]) (fun(k:Int) (X:AE) (h:Hd)=> [Ac.box b 163 (Ad.enc ⟨X.w,X.b,h⟩),Ac.own h 56 16 (X.out.flatMap Ing.Event.enc)]) (0) (_) (_) ?_ rfl rfl (fun k X h hI1=>?_)
  · exact⟨by omega,by omega,(AX c1).trans (congrArg (fun q=>AE.DG q _) (BB c6)),rfl,by have:=T.IE o.second;(try simp only [AE.CG]);omega,by assumption,by have:=(AE.Ea T.w T.seen o.nth o.name o.Bm).length_le;have:=T.Im;omega⟩
  obtain⟨hI11,hI12,hI13,hI14,hI15,hI16,hI17⟩:=hI1
  refine Gs (Gt (A8 rfl rfl) (AQ (AA (Ap ?_))))
  refine Gc (fun c7=>?_) (fun c7=>?_)
  ·
   have c7p:=kz c7
   have hx:0≤(AE.BQ T.w T.seen o.nth o.name o.Bm).getD k.toNat 0∧(AE.BQ T.w T.seen o.nth o.name o.Bm).getD k.toNat 0 < 9:=(fun i hi=>AE.OH (AE.Dt hi)) _ (Bg.Ez (xs:=(AE.BQ T.w T.seen o.nth o.name o.Bm)) (i:=k.toNat) (by omega))
   refine Aa ?_
   refine AB (.t4 0 44 45 46) ?_
   refine AA (Ap (Ae (Gs ?_)))
   refine Gt (Bp Gg (by decide) (Kn.own .m3) rfl rfl (by omega) (by omega)) ?_
   refine Gt (DN rfl A4 (Kn.own .m3) (by omega)) ?_
   refine Ga rfl (Gn (.t5 0 8 44 45 46) (Gs (Gm rfl (Gm rfl (Gt (BV rfl) (Gt (Ai A9 rfl) (Gt (Ai Cx rfl) ?_)))))))
   refine Gt (AS GO rfl rfl (by first | omega | exact hb.1 | exact hb.2 | (dsimp only;omega)) (by first | omega | exact hb.1 | exact hb.2 | (dsimp only;omega))) ?_
   refine Ga rfl (Gn (.t6 0 8 9 44 45 46) (Gs (Gm rfl (Gm rfl (Gm rfl (Gt (BV rfl) (Gt (Ai CR rfl) ?_)))))))
   refine Gt (AH rfl A4 .m0 Ad.l1 rfl rfl) (Gt (BV rfl) (Gt (Ai FY rfl) ?_))
   refine AT (AK (((Ad.l0.comp AG.l1).comp (AU.ar (n:=9) Am.fl (by first | omega | exact hb | (dsimp only;omega)))).comp Am.l2) rfl rfl rfl DB rfl .h) ?_
   refine Gt (BV rfl) (Gt (Ai DM rfl) ?_)
   refine AT (AK (((Ad.l0.comp AG.l1).comp (AU.ar (n:=9) Am.fl (by first | omega | exact hb | (dsimp only;omega)))).comp Am.l3) rfl rfl rfl DB rfl .h) ?_
   refine Gn (.t5 0 8 44 45 46) ?_
   refine GF (fun _=> .h) (congrArg (fun q=>Ad.enc ⟨q,_,_⟩) (AE.He X hx.1 hx.2 1 X.b)) ?_
   refine AJ (Gm rfl (Gm rfl ?_))
   refine Ah rfl Ow (.c rfl (.c rfl (.c rfl .n))) (.c .h (.c .h .n)) (D1 _ (X.place ((AE.BQ T.w T.seen o.nth o.name o.Bm).getD k.toNat 0) 1 X.b) _ 3 ((AE.BQ T.w T.seen o.nth o.name o.Bm).getD k.toNat 0) (by assumption) (show 0≤X.b∧X.b < 6 by rw [hI14];exact hb) hx (show X.out.length≤100000 by omega)) (fun v32 B hv=>?_)
   obtain⟨y33,rfl,y34,rfl⟩:=hv
   refine AQ (AB (.t4 0 44 45 46) ?_)
   refine AW (AA (AJ ?_))
   refine Gt (Av rfl rfl (IntWalk.i64_in _ (by first | omega | exact hb.1 | exact hb.2 | (dsimp only;omega)))) ?_
   refine Gm rfl ?_
   refine AQ (AB (.t4 0 44 45 46) ?_)
   refine Bt (k+1) _ _ ?_ ?_ (.t4 46 0 44 45) (.refl _)
   · exact⟨by omega,by omega,by rw [hI13,AE.HK hI11 (by omega)],hI14,(by rw [AE.Fg];show((X.out.length+1:Nat):Int)≤_;omega),by assumption,hI17⟩
   · omega
  have c7p:=kz c7
  obtain rfl:k=((AE.BQ T.w T.seen o.nth o.name o.Bm).length:Int):=by omega
  rw [AE.J0] at hI13
  refine Ba (AV (AV (Af ?_)))
  refine Bk rfl .n ?_
  intro w1 hS
  have hS:=(hS.perm (Ay.perm (.c .h (.c .h .n)))).A1
  refine⟨_,⟨?gq4,rfl,?hl4,?hB4⟩,hS⟩
  case hB4=>rw [hI13];rfl
  case hl4=>rw [hI13];exact hI16
 have c6p:=kz c6
 rw [y27] at c6
 refine Aa ?_
 refine AB (.t2 0 4) ?_
 refine AA (Gs (Gm rfl (Gt (Ar rfl Tryz.underlying169 rfl) (Gm rfl (Gn (.t4 0 44 45 46) (Ae ?_))))))
 refine Bl (.t4 46 0 44 45) ?_
 refine Bf (.t (.t (.t (.t .h)))) ?_
 refine Bf (.t .h) ?_
 refine DX (fun(k:Int) (X:AE) (h:Hd)=>0≤k∧k≤((AE.BQ T.w T.seen o.nth o.name o.Bm).length:Int)∧T.get o=X.DG ((AE.BQ T.w T.seen o.nth o.name o.Bm).drop k.toNat)∧X.b=T.b∧(X.out.length:Int)≤T.out.length+2+k∧h.len=X.out.length∧((AE.BQ T.w T.seen o.nth o.name o.Bm).length:Int)≤9) (fun(k:Int) (X:AE) (h:Hd)=>(((AE.BQ T.w T.seen o.nth o.name o.Bm).length:Int) - k).toNat) (fun(k:Int) (X:AE) (h:Hd)=> [(46, .int .i64 k)]) (fun(k:Int) (X:AE) (h:Hd)=> [Ac.box b 163 (Ad.enc ⟨X.w,X.b,h⟩),Ac.own h 56 16 (X.out.flatMap Ing.Event.enc)]) (0) (_) (_) ?_ rfl rfl (fun k X h hI1=>?_)
 · exact⟨by omega,by omega,(AX c1).trans (congrArg (fun q=>AE.DG q _) (AX c6)),rfl,by have:=T.IE o.second;(try simp only [AE.CG]);omega,by assumption,by have:=(AE.Ea T.w T.seen o.nth o.name o.Bm).length_le;have:=T.Im;omega⟩
 obtain⟨hI11,hI12,hI13,hI14,hI15,hI16,hI17⟩:=hI1
 refine Gs (Gt (A8 rfl rfl) (AQ (AA (Ap ?_))))
 refine Gc (fun c8=>?_) (fun c8=>?_)
 ·
  have c8p:=kz c8
  have hx:0≤(AE.BQ T.w T.seen o.nth o.name o.Bm).getD k.toNat 0∧(AE.BQ T.w T.seen o.nth o.name o.Bm).getD k.toNat 0 < 9:=(fun i hi=>AE.OH (AE.Dt hi)) _ (Bg.Ez (xs:=(AE.BQ T.w T.seen o.nth o.name o.Bm)) (i:=k.toNat) (by omega))
  refine Aa ?_
  refine AB (.t4 0 44 45 46) ?_
  refine AA (Ap (Ae (Gs ?_)))
  refine Gt (Bp Gg (by decide) (Kn.own .m3) rfl rfl (by omega) (by omega)) ?_
  refine Gt (DN rfl A4 (Kn.own .m3) (by omega)) ?_
  refine Ga rfl (Gn (.t5 0 8 44 45 46) (Gs (Gm rfl (Gm rfl (Gt (BV rfl) (Gt (Ai A9 rfl) (Gt (Ai Cx rfl) ?_)))))))
  refine Gt (AS GO rfl rfl (by first | omega | exact hb.1 | exact hb.2 | (dsimp only;omega)) (by first | omega | exact hb.1 | exact hb.2 | (dsimp only;omega))) ?_
  refine Ga rfl (Gn (.t6 0 8 9 44 45 46) (Gs (Gm rfl (Gm rfl (Gm rfl (Gt (BV rfl) (Gt (Ai CR rfl) ?_)))))))
  refine Gt (AH rfl A4 .m0 Ad.l1 rfl rfl) (Gt (BV rfl) (Gt (Ai FY rfl) ?_))
  refine AT (AK (((Ad.l0.comp AG.l1).comp (AU.ar (n:=9) Am.fl (by first | omega | exact hb | (dsimp only;omega)))).comp Am.l2) rfl rfl rfl DB rfl .h) ?_
  refine Gt (BV rfl) (Gt (Ai DM rfl) ?_)
  refine AT (AK (((Ad.l0.comp AG.l1).comp (AU.ar (n:=9) Am.fl (by first | omega | exact hb | (dsimp only;omega)))).comp Am.l3) rfl rfl rfl DB rfl .h) ?_
  refine Gn (.t5 0 8 44 45 46) ?_
  refine GF (fun _=> .h) (congrArg (fun q=>Ad.enc ⟨q,_,_⟩) (AE.He X hx.1 hx.2 1 X.b)) ?_
  refine AJ (Gm rfl (Gm rfl ?_))
  refine Ah rfl Ow (.c rfl (.c rfl (.c rfl .n))) (.c .h (.c .h .n)) (D1 _ (X.place ((AE.BQ T.w T.seen o.nth o.name o.Bm).getD k.toNat 0) 1 X.b) _ 3 ((AE.BQ T.w T.seen o.nth o.name o.Bm).getD k.toNat 0) (by assumption) (show 0≤X.b∧X.b < 6 by rw [hI14];exact hb) hx (show X.out.length≤100000 by omega)) (fun v35 B hv=>?_)
  obtain⟨y36,rfl,y37,rfl⟩:=hv
  refine AQ (AB (.t4 0 44 45 46) ?_)
  refine AW (AA (AJ ?_))
  refine Gt (Av rfl rfl (IntWalk.i64_in _ (by first | omega | exact hb.1 | exact hb.2 | (dsimp only;omega)))) ?_
  refine Gm rfl ?_
  refine AQ (AB (.t4 0 44 45 46) ?_)
  refine Bt (k+1) _ _ ?_ ?_ (.t4 46 0 44 45) (.refl _)
  · exact⟨by omega,by omega,by rw [hI13,AE.HK hI11 (by omega)],hI14,(by rw [AE.Fg];show((X.out.length+1:Nat):Int)≤_;omega),by assumption,hI17⟩
  · omega
 have c8p:=kz c8
 obtain rfl:k=((AE.BQ T.w T.seen o.nth o.name o.Bm).length:Int):=by omega
 rw [AE.J0] at hI13
 refine Ba (AV (AV (Af ?_)))
 refine Bk rfl .n ?_
 intro w1 hS
 have hS:=(hS.perm (Ay.perm (.c .h (.c .h .n)))).A1
 refine⟨_,⟨?gq5,rfl,?hl5,?hB5⟩,hS⟩
 case hB5=>rw [hI13];rfl
 case hl5=>rw [hI13];exact hI16
theorem MZ (X:AG)(i box:Int)(w:World):Ej Tryz.prog 137 #[.agg X.enc.toArray, .int .i64 i, .int .i64 box] w fun v w'=>v = .bool (X.TQ i box)∧CB w w':=by
 refine Al [] [] Tryz.func137 rfl rfl rfl (St.start w []) ?_
 refine Gs ?_
 refine B5 rfl rfl rfl (fun b1=>?_)
 refine Ga rfl (Gn (.t3 1 2 3) (CD (Gm rfl (AQ (AA (Ae ?_))))))
 refine Bl (.t4 1 7 2 3) ?_
 refine Fq (fun(k:Int) (j:Int)=>0≤k∧k≤10∧X.TQ i box=X.inside box (10 - k).toNat j) (fun(k:Int) (j:Int)=>(10 - k).toNat) (fun(k:Int) (j:Int)=> [(1, .int .i64 j),(7, .int .i64 k)]) (fun(k:Int) (j:Int)=> []) (0) (i) ?_ rfl rfl (fun k j hI1=>?_)
 · exact⟨Int.le_refl _,by omega,rfl⟩
 obtain⟨hI11,hI12,hI13⟩:=hI1
 refine Gs (Gt (A8 rfl rfl) (AQ (AA (Ap ?_))))
 refine Gc (fun c1=>?_) (fun c1=>?_)
 ·
  have c1p:=kz c1
  rw [show(10 - k).toNat=(10 - (k+1)).toNat+1 from by omega,AG.inside] at hI13
  refine Aa ?_
  refine AB (.t4 1 2 3 7) ?_
  refine AA (Ap (Ae (CD (Gm rfl (Gm rfl (Gt (Ag rfl rfl) (Gn (.t5 1 2 3 7 11) ?_)))))))
  refine Gc (fun c2=>?_) (fun c2=>?_)
  ·
   refine Gs (Ga rfl (Gn (.t1 6) (Ab (AD (AR (AD (AD ?_)))))))
   refine AR (AD ?_)
   refine AY rfl (.tmp rfl .n) ?_
   intro w1 hS;refine⟨congrArg Value.bool ?_,hS.Ak⟩;rw [hI13];simp only [c1,c2,↓reduceIte,Bool.false_eq_true]
  have c2p:=kz c2
  refine Aa ?_
  refine AB (.t4 1 2 3 7) ?_
  refine AA (CD (Gm rfl (Gt (A8 rfl rfl) (Gm rfl (Bc 14 rfl rfl (fun q=>AF rfl) (Bc 14 rfl rfl (fun q=>CV (cF rfl q) rfl) ?_))))))
  refine Gt (BR rfl rfl (fun h=>by rw [h];rfl)) ?_
  refine Gm rfl (Bc 18 rfl rfl (fun q=>AF rfl) (Bc 18 rfl rfl (fun q=>Ai Cx rfl) ?_))
  refine Bc 18 rfl rfl (fun q=>by have q1:=q;(try simp at q1);exact AS GO (cF rfl q) (cF rfl q) (by omega) (by omega)) ?_
  refine Bc 18 rfl rfl (fun q=>Ai FY (cF rfl q)) ?_
  refine Bc 18 rfl rfl (fun q=>by have q1:=q;(try simp at q1);exact AH (cF rfl q) A4 .m0 ((AG.l1.comp (AU.ar (n:=9) Am.fl (by omega))).comp Am.l2) rfl rfl) ?_
  refine Bc 18 rfl rfl (fun q=>Ca (cF rfl q) rfl) ?_
  refine Gt (BR rfl rfl (fun h=>by rw [h];rfl)) ?_
  refine Gn (.t5 1 2 3 7 25) ?_
  refine Gc (fun c3=>?_) (fun c3=>?_)
  ·
   refine Gs (Ga rfl (Gn (.t1 6) (Ab (AD (AR (AD (AD ?_)))))))
   refine AR (AD ?_)
   refine AY rfl (.tmp rfl .n) ?_
   intro w1 hS;refine⟨congrArg Value.bool ?_,hS.Ak⟩;rw [hI13];simp only [c1,c2,c3,↓reduceIte,Bool.false_eq_true]
  have c3p:=kz c3
  have h9:0≤j∧j < 9:=by simp at c3;omega
  refine Aa ?_
  refine AB (.t4 1 2 3 7) ?_
  refine AA (AJ (Gm rfl (Gt (Ai Cx rfl) ?_)))
  refine Gt (AS GO rfl rfl (by omega) (by omega)) ?_
  refine Gt (Ai DM rfl) ?_
  refine Gt (AH rfl A4 .m0 ((AG.l1.comp (AU.ar (n:=9) Am.fl (by omega))).comp Am.l3) rfl rfl) ?_
  refine Ga rfl ?_
  refine AQ (AB (.t4 1 2 3 7) ?_)
  refine AW (AA (AJ ?_))
  refine Gt (Av rfl rfl (IntWalk.i64_in _ (by omega))) ?_
  refine Gm rfl ?_
  refine AQ (AB (.t4 1 2 3 7) ?_)
  refine C0 (k+1) ((X.AO.at j).at_) ?_ ?_ (.t4 1 7 2 3) (.refl _)
  · exact⟨by omega,by omega,by rw [hI13];simp only [c1,c2,c3,↓reduceIte,Bool.false_eq_true]⟩
  · omega
 have c1p:=kz c1
 obtain rfl:k=10:=by omega
 refine Ba (AV (AV (Af ?_)))
 refine AB (.nil _) ?_
 refine AA (Gs (Ga rfl (AQ (AA (Ab ?_)))))
 refine AY rfl (.tmp rfl .n) ?_
 intro w1 hS;refine⟨congrArg Value.bool ?_,hS.Ak⟩;rw [hI13];rfl
theorem Rw (b:Nat)(T:AE)(g:Hd)(o:Order)(hg:g.len=T.out.length)(hF:T.Fit)(hv:o.verb=8∨o.verb=9∨o.verb=10)(hu:o.second.length≤5000000)(hn:T.out.length≤90000):FC Tryz.prog 106 #[.pointer (some ⟨b,0,none⟩), .agg o.enc.toArray] [Ac.box b 163 (Ad.enc ⟨T.w,T.b,g⟩),Ac.own g 56 16 (T.out.flatMap Ing.Event.enc)] (fun w=>(G0 7 w∧7 ∉ Cc [Ac.box b 163 (Ad.enc ⟨T.w,T.b,g⟩),Ac.own g 56 16 (T.out.flatMap Ing.Event.enc)])∧(G0 8 w∧8 ∉ Cc [Ac.box b 163 (Ad.enc ⟨T.w,T.b,g⟩),Ac.own g 56 16 (T.out.flatMap Ing.Event.enc)])) (fun v B=>∃ g':Hd,v = .tuple #[]∧g'.len=(T.FH o).out.length∧B = [Ac.box b 163 (Ad.enc ⟨(T.FH o).w,(T.FH o).b,g'⟩),Ac.own g' 56 16 ((T.FH o).out.flatMap Ing.Event.enc)]):=by
 intro w hS0 hH
 obtain⟨⟨gl0,gm0⟩,⟨gl1,gm1⟩⟩:=hH
 have hb:=hF.b
 have hr:=hF.room
 refine Al _ _ Tryz.func106 rfl rfl rfl (hS0) ?_
 refine Gs ?_
 refine B5 rfl rfl rfl (fun b1=>?_)
 refine Gn (.t2 0 3) (Gs (Ga rfl (Ga rfl (AQ (AA ?_)))))
 refine Bf (.t (.t .h)) ?_
 refine Bf (.t (.t .h)) ?_
 refine aM (Lm:= [_,_]) (fun(X:AE) (to:Int) (p:Bool) (j:Hd)=>X=(T.Cu o).1∧to=(T.Cu o).2.1∧p=(T.Cu o).2.2∧j.len=X.out.length) (fun(X:AE) (to:Int) (p:Bool) (j:Hd)=> [(4, .int .i64 to),(5, .bool p)]) (fun(X:AE) (to:Int) (p:Bool) (j:Hd)=> [Ac.box b 163 (Ad.enc ⟨X.w,X.b,j⟩),Ac.own j 56 16 (X.out.flatMap Ing.Event.enc)]) (.t2 0 3) rfl ?_ (fun X to p j hC=>?_)
 ·
  refine Gs (Gt (Ai DI rfl) (Gt (AH rfl A4 .m2 Order.l0 rfl rfl) (Gn (.t5 0 3 4 5 11) (Ae (Gs (Gt (Ag rfl rfl) (Ga rfl ?_)))))))
  refine Gn (.t6 0 3 4 5 11 12) ?_
  refine Gc (fun c1=>?_) (fun c1=>?_)
  ·
   have c1p:=kz c1
   refine AJ (Gm rfl (Gt (Ai II rfl) (Gt (AH rfl CO .m2 Order.l4 rfl rfl) ?_)))
   refine BE rfl aj (.c rfl (.c rfl .n)) (.c .h (.c .h .n)) (M9 _ T _ _ hg hF hu (by omega)) (fun w hS=>⟨gl0.pull gm0 hS (.c .h (.c .h .n)),gl1.pull gm1 hS (.c .h (.c .h .n))⟩) (fun v1 B hv=>?_)
   obtain⟨y2,rfl,y3,rfl⟩:=hv
   refine Gm rfl (Gt (AM rfl rfl) (Gt (AM rfl rfl) (Ga rfl (Ga rfl ?_))))
   refine AQ (AB (.t4 0 3 4 5) ?_)
   refine AW ?_
   refine RA _ _ _ _ ?_ (.t4 4 5 0 3) (.refl _)
   · have ht:T.Cu o=_:=BB c1
     exact⟨by rw [ht],by rw [ht],by rw [ht],by assumption⟩
  have c1p:=kz c1
  refine Gs (Gt (Ag rfl rfl) (Ga rfl (Gn (.t5 0 3 4 5 21) ?_)))
  refine Gc (fun c2=>?_) (fun c2=>?_)
  ·
   have c2p:=kz c2
   refine AJ (Gm rfl (Gt (Ai II rfl) (Gt (AH rfl CO .m2 Order.l4 rfl rfl) ?_)))
   refine BE rfl an (.c rfl (.c rfl .n)) (.c .h (.c .h .n)) (Io _ T _ _ hg hF hu (by omega)) (fun w hS=>⟨gl0.pull gm0 hS (.c .h (.c .h .n)),gl1.pull gm1 hS (.c .h (.c .h .n))⟩) (fun v4 B hv=>?_)
   obtain⟨y5,rfl,y6,rfl⟩:=hv
   refine Gm rfl (Gt (AM rfl rfl) (Gt (AM rfl rfl) (Ga rfl (Ga rfl ?_))))
   refine AQ (AB (.t4 0 3 4 5) ?_)
   refine AW ?_
   refine RA _ _ _ _ ?_ (.t4 4 5 0 3) (.refl _)
   · have ht:T.Cu o=_:=(AX c1).trans (BB c2)
     exact⟨by rw [ht],by rw [ht],by rw [ht],by assumption⟩
  have c2p:=kz c2
  refine Aa ?_
  refine AB (.t4 0 3 4 5) ?_
  refine AW ?_
  refine RA _ _ _ _ ?_ (.t4 4 5 0 3) (.refl _)
  · have ht:T.Cu o=_:=(AX c1).trans (AX c2)
    exact⟨by rw [ht],by rw [ht],by rw [ht],by assumption⟩
 obtain⟨hD1,hD2,hD3,hD4⟩:=hC
 have hXw:=T.Uk o
 have hXo:X.out.length≤T.out.length+1:=by rw [hD1];exact T.P2 o
 rw [← hD1] at hXw
 have hXF:X.Fit:=hF.Ei hXw.1 hXw.2
 have hPl:((AE.BQ X.w X.own o.nth o.name o.Bm)).length≤9:=AE.Sv.2.2
 refine CD (Gm rfl (Gt (BT rfl) (Gn (.t4 0 3 4 31) ?_)))
 refine Gc (fun c3=>?_) (fun c3=>?_)
 ·
  refine Ab (AD ?_)
  refine AY rfl .n ?_
  intro w1 hS
  have hS:=(hS.perm (Ay.perm (.c .h (.c .h .n)))).A1
  have hq:T.FH o=X:=AE.Wp hD1 hD3 c3
  refine⟨_,⟨?gq1,rfl,?hl1,?hB1⟩,hS⟩
  case hB1=>rw [hq];(try rfl)
  case hl1=>rw [hq];exact hD4
 have c3p:=kz c3
 obtain⟨hgo,hn0,hn9,hok⟩:=AE.TE hD1 hD2 hD3 c3
 refine Aa ?_
 refine AB (.t3 0 3 4) ?_
 refine AA (Ap ?_)
 refine BD (N:=11) [0,0,2,0,8,0,32,0,128,511,1023] mix (by kernel_rfl) rfl ?_
 refine Pf 0 rfl (AF rfl) (Pf 1 rfl (AF rfl) (Pf 3 rfl (Ai GU rfl) (Pf 4 rfl (AH rfl A4 .m2 Order.l1 rfl rfl) (Pf 5 rfl (Ai Fy rfl) (Pf 6 rfl (AH rfl CO .m2 Order.l3 rfl rfl) (Pf 7 rfl (Ai HN rfl) (Pf 8 rfl (AH rfl Dr .m2 Order.l2 rfl rfl) ?_)))))))
 refine An 2 rfl (by kernel_rfl) ?_
 refine Ah rfl Uf (.c rfl .n) (.c .h .n) (H5 _ X _ hXF) (fun v7 B hv=>?_)
 obtain⟨y8,rfl,y9,rfl⟩:=hv
 refine Bu rfl ⟨?_,?_⟩
 · exact(Po rfl (AH rfl Dr .m3 Order.l2 rfl rfl) rfl rfl (Po rfl (Ai HN rfl) rfl rfl (Po rfl (AH rfl CO .m3 Order.l3 rfl rfl) rfl rfl (Po rfl (Ai Fy rfl) rfl rfl (Po rfl (AH rfl A4 .m3 Order.l1 rfl rfl) rfl rfl (Po rfl (Ai GU rfl) rfl rfl (Pk (Po rfl (AF rfl) rfl rfl As))))))))
 refine An 9 rfl (by kernel_rfl) ?_
 refine Ah rfl QA (.c rfl (.c rfl (.c rfl (.c rfl (.c rfl .n))))) (.c .h (.c .h .n)) (Ey _ X _ _ X.own _ _ _ hXF (by assumption) (Nat.le_trans X.KR (by decide)) (fun i hi=>AE.Lj hi)) (fun v11 B hv=>?_)
 obtain⟨y12,rfl,y13,rfl⟩:=hv
 refine Bu rfl ⟨?_,?_⟩
 · exact(Pk (Pk (Pk (Pk (Pk (Pk (Pk (Pk As))))))))
 refine Pf 10 rfl (A0 rfl) ?_
 refine A3 (by kernel_rfl) ?_
 refine AB (.t4 0 3 4 6) ?_
 refine AA ?_
 refine Bf (.t (.t (.t .h))) ?_
 refine Bf (.t .h) ?_
 refine Rl (Lm:= [_,_]) (fun(Z:AE) (m:Hd)=>Z=X.RM o∧m.len=Z.out.length) (fun(Z:AE) (m:Hd)=> []) (fun(Z:AE) (m:Hd)=> [Ac.box b 163 (Ad.enc ⟨Z.w,Z.b,m⟩),Ac.own m 56 16 (Z.out.flatMap Ing.Event.enc)]) (.t4 0 3 4 6) rfl ?_ (fun Z m hC=>?_)
 ·
  refine Gs (Gm rfl (Gt (Ar rfl Tryz.underlying169 rfl) (Gt (Ag rfl rfl) (Gn (.t5 0 3 4 6 44) ?_))))
  refine Gc (fun c4=>?_) (fun c4=>?_)
  ·
   have c4p:=kz c4
   rw [y13] at c4
   refine AJ (Gm rfl ?_)
   refine Ah rfl EI (.c rfl (.c rfl .n)) (.c .h (.c .h .n)) (Be _ X _ _ (by assumption) (by rw [hXw.2];exact hb) (by omega)) (fun v15 B hv=>?_)
   obtain⟨y16,rfl,y17,rfl⟩:=hv
   refine AQ (AB (.t4 0 3 4 6) ?_)
   refine Ed _ _ ?_ (.t4 0 3 4 6) (.refl _)
   · exact⟨(AE.bW (T:=X) (o:=o) c4).symm,by assumption⟩
  rw [y13] at c4
  refine Aa ?_
  refine AB (.t4 0 3 4 6) ?_
  refine Ed _ _ ?_ (.t4 0 3 4 6) (.refl _)
  · exact⟨(AE.cD (T:=X) (o:=o) c4).symm,by exact hD4⟩
 obtain⟨hE1,hE2⟩:=hC
 refine Gs (Gm rfl (Gt (Ar rfl Tryz.underlying169 rfl) (Gm rfl (Gn (.t6 0 3 4 47 48 49) (Ae ?_)))))
 refine Bl (.t6 49 0 3 4 47 48) ?_
 refine Bf (.t .h) ?_
 refine Bf (.t .h) ?_
 refine DX (fun(k:Int) (V:AE) (f:Hd)=>0≤k∧V=X.Q7 to o k.toNat∧k≤((AE.BQ X.w X.own o.nth o.name o.Bm).length:Int)∧f.len=V.out.length) (fun(k:Int) (V:AE) (f:Hd)=>(((AE.BQ X.w X.own o.nth o.name o.Bm).length:Int) - k).toNat) (fun(k:Int) (V:AE) (f:Hd)=> [(49, .int .i64 k)]) (fun(k:Int) (V:AE) (f:Hd)=> [Ac.box b 163 (Ad.enc ⟨V.w,V.b,f⟩),Ac.own f 56 16 (V.out.flatMap Ing.Event.enc)]) (0) (_) (_) ?_ rfl rfl (fun k V f hI1=>?_)
 · exact⟨by omega,hE1,by omega,hE2⟩
 obtain⟨hI11,hI12,hI13,hI14⟩:=hI1
 refine Gs (Gt (A8 rfl rfl) (AQ (AA (Ap ?_))))
 refine Gc (fun c5=>?_) (fun c5=>?_)
 ·
  have c5p:=kz c5
  have hx:0≤((AE.BQ X.w X.own o.nth o.name o.Bm).getD k.toNat 0)∧((AE.BQ X.w X.own o.nth o.name o.Bm).getD k.toNat 0) < 9:=AE.Lj (AE.Dt (Bg.Ez (xs:=(AE.BQ X.w X.own o.nth o.name o.Bm)) (i:=k.toNat) (by omega)))
  have hVK:=AE.ZC X to o k.toNat
  rw [← hI12] at hVK
  have hVb:=hVK.2
  have hVo:=hVK.1
  have hbV:0≤V.b∧V.b < 6:=by rw [hVb,hXw.2];exact hb
  refine Aa ?_
  refine AB (.t6 0 3 4 47 48 49) ?_
  refine AA (Ap (Ae (Gs ?_)))
  refine Gt (Bp Gg (by decide) (Kn.own .m3) rfl rfl (by omega) (by omega)) ?_
  refine Gt (DN rfl A4 (Kn.own .m3) (by omega)) ?_
  refine Ga rfl (Gn (.t7 0 3 4 8 47 48 49) (Gs (Gm rfl (Gm rfl (Gt (BV rfl) (Gt (Ai A9 rfl) (Gt (Ai Cx rfl) ?_)))))))
  refine Gt (AS GO rfl rfl (by first | omega | exact hbV.1 | exact hbV.2 | (dsimp only;omega)) (by first | omega | exact hbV.1 | exact hbV.2 | (dsimp only;omega))) ?_
  refine Ga rfl (Gn (.t8 0 3 4 8 9 47 48 49) (Ae (Gs (Gm rfl (Gt (BV rfl) (Gt (Ai G1 rfl) ?_))))))
  refine Gt (AH rfl A4 .m0 (((Ad.l0.comp AG.l1).comp (AU.ar (n:=9) Am.fl (by first | omega | exact hbV | (dsimp only;omega)))).comp Am.l1) rfl rfl) ?_
  refine Gt (Ag rfl rfl) (Gm rfl (Bo 87 rfl rfl (fun q=>AF rfl) (Bo 87 rfl rfl (fun q=>BV (Bj rfl q)) (Bo 87 rfl rfl (fun q=>Ai GN (Bj rfl q)) ?_))))
  refine Bo 87 rfl rfl (fun q=>by have q1:=q;(try simp at q1);exact AH (Bj rfl q) Dr .m0 (((Ad.l0.comp AG.l1).comp (AU.ar (n:=9) Am.fl (by first | omega | exact hbV | (dsimp only;omega)))).comp Am.l4) rfl rfl) ?_
  refine Gt (BK rfl rfl (fun h=>h)) (Ga rfl (Gn (.t9 0 3 4 8 9 47 48 49 81) ?_))
  refine Gc (fun c6=>?_) (fun c6=>?_)
  ·
   have c6p:=kz c6
   refine AJ (Gm rfl ?_)
   refine Ah rfl EI (.c rfl (.c rfl .n)) (.c .h (.c .h .n)) (Be _ V _ _ (by assumption) hbV (by omega)) (fun v18 B hv=>?_)
   obtain⟨y19,rfl,y20,rfl⟩:=hv
   refine AQ (AB (.t6 0 3 4 47 48 49) ?_)
   refine AW (AW (AA (AJ ?_)))
   refine Gt (Av rfl rfl (IntWalk.i64_in _ (by first | omega | exact hbV.1 | exact hbV.2 | (dsimp only;omega)))) ?_
   refine Gm rfl ?_
   refine AQ (AB (.t6 0 3 4 47 48 49) ?_)
   refine Bt (k+1) _ _ ?_ ?_ (.t6 49 0 3 4 47 48) (.refl _)
   · have hq:V.Cs o.verb to ((AE.BQ X.w X.own o.nth o.name o.Bm).getD k.toNat 0)=_:=(BB c6)
     (try rw [AE.D5 hx.1 hx.2] at *)
     (try rw [AE.Dh hx.1 hx.2 hn0] at *)
     exact⟨by omega,(by(try rw [AE.D5 hx.1 hx.2]);(try rw [AE.Dh hx.1 hx.2 hn0]);exact hq.symm.trans ((congrArg (fun q=>AE.Cs q o.verb to ((AE.BQ X.w X.own o.nth o.name o.Bm).getD k.toNat 0)) hI12).trans (AE.I1 hI11 (by show k < (((AE.BQ X.w X.own o.nth o.name o.Bm)).length:Int);omega)).symm)),by omega,by assumption⟩
   · omega
  have c6p:=kz c6
  refine Gs (Gt (Ai DI rfl) (Gt (AH rfl A4 .m4 Order.l0 rfl rfl) (Gt (Ag rfl rfl) (Ga rfl (Gn (.t9 0 3 4 8 9 47 48 49 95) ?_)))))
  refine Gc (fun c7=>?_) (fun c7=>?_)
  ·
   have c7p:=kz c7
   refine Ap ?_
   refine BD (N:=19) [0,0,0,0,8,24,56,4,132,388,1020,2044,4092,8189,16381,32765,65535,131071,262143] mix (by kernel_rfl) rfl ?_
   refine Pf 0 rfl (AF rfl) (Pf 1 rfl (AF rfl) (Pf 2 rfl (AF rfl) (Pf 3 rfl (AF rfl) (Pf 4 rfl (BV rfl) (Pf 5 rfl (Ai CR rfl) (Pf 6 rfl (AH rfl A4 .m0 Ad.l1 rfl rfl) (Pf 7 rfl (BV rfl) ?_)))))))
   refine Pf 8 rfl (Ai A9 rfl) (Pf 9 rfl (Ai Bs rfl) ?_)
   refine Pf 10 rfl (AS C8 rfl rfl (by first | omega | exact hbV.1 | exact hbV.2 | (dsimp only;omega)) (by first | omega | exact hbV.1 | exact hbV.2 | (dsimp only;omega))) ?_
   refine Pf 11 rfl (Ai C4 rfl) ?_
   refine Pf 12 rfl (AH rfl A4 .m0 (((Ad.l0.comp AG.l2).comp (AU.ar (n:=6) Aj.fl (by first | omega | exact hbV | (dsimp only;omega)))).comp Aj.l3) rfl rfl) ?_
   refine Pf 13 rfl (BV rfl) (Pf 14 rfl (Ai FY rfl) ?_)
   refine An 15 rfl (by kernel_rfl) ?_
   refine AT (AK (((Ad.l0.comp AG.l1).comp (AU.ar (n:=9) Am.fl (by first | omega | exact hbV | (dsimp only;omega)))).comp Am.l2) rfl rfl rfl DB rfl .h) ?_
   refine BO rfl ⟨?_,?_⟩
   · exact(Pk (Pk (Pk (Pk (Pk (Pk (Pk (Pk (Pk (Pk (Pk (Pk (Pk (Po rfl (AF rfl) rfl rfl (Pk As)))))))))))))))
   refine Pf 16 rfl (BV rfl) (Pf 17 rfl (Ai DM rfl) ?_)
   refine An 18 rfl (by kernel_rfl) ?_
   refine AT (AK (((Ad.l0.comp AG.l1).comp (AU.ar (n:=9) Am.fl (by first | omega | exact hbV | (dsimp only;omega)))).comp Am.l3) rfl rfl rfl DB rfl .h) ?_
   refine BO rfl ⟨?_,?_⟩
   · exact(Pk (Pk (Pk (Pk (Pk (Pk (Pk (Pk (Pk (Pk (Pk (Pk (Pk (Pk (Pk (Pk (Pk As)))))))))))))))))
   refine A3 (by kernel_rfl) ?_
   refine AB (.t7 0 3 4 8 47 48 49) ?_
   refine AA ?_
   refine GF (fun _=> .h) (congrArg (fun q=>Ad.enc ⟨q,_,_⟩) (AE.He V hx.1 hx.2 0 (V.w.AN.at V.b).room)) ?_
   refine AJ (Gm rfl (Gm rfl ?_))
   refine Ah rfl Ow (.c rfl (.c rfl (.c rfl .n))) (.c .h (.c .h .n)) (D1 _ (V.place ((AE.BQ X.w X.own o.nth o.name o.Bm).getD k.toNat 0) 0 (V.w.AN.at V.b).room) _ 4 ((AE.BQ X.w X.own o.nth o.name o.Bm).getD k.toNat 0) (by assumption) hbV hx (show V.out.length≤100000 by omega)) (fun v21 B hv=>?_)
   obtain⟨y22,rfl,y23,rfl⟩:=hv
   refine AQ (AB (.t6 0 3 4 47 48 49) ?_)
   refine AW (AW (AA (AJ ?_)))
   refine Gt (Av rfl rfl (IntWalk.i64_in _ (by first | omega | exact hbV.1 | exact hbV.2 | (dsimp only;omega)))) ?_
   refine Gm rfl ?_
   refine AQ (AB (.t6 0 3 4 47 48 49) ?_)
   refine Bt (k+1) _ _ ?_ ?_ (.t6 49 0 3 4 47 48) (.refl _)
   · have hq:V.Cs o.verb to ((AE.BQ X.w X.own o.nth o.name o.Bm).getD k.toNat 0)=_:=((AX c6).trans (BB c7))
     (try rw [AE.D5 hx.1 hx.2] at *)
     (try rw [AE.Dh hx.1 hx.2 hn0] at *)
     exact⟨by omega,(by(try rw [AE.D5 hx.1 hx.2]);(try rw [AE.Dh hx.1 hx.2 hn0]);exact hq.symm.trans ((congrArg (fun q=>AE.Cs q o.verb to ((AE.BQ X.w X.own o.nth o.name o.Bm).getD k.toNat 0)) hI12).trans (AE.I1 hI11 (by show k < (((AE.BQ X.w X.own o.nth o.name o.Bm)).length:Int);omega)).symm)),by omega,by assumption⟩
   · omega
  have c7p:=kz c7
  refine Gs (Gt (Ai DI rfl) (Gt (AH rfl A4 .m4 Order.l0 rfl rfl) (Gt (Ag rfl rfl) (Ga rfl (Gn (.t9 0 3 4 8 9 47 48 49 119) ?_)))))
  refine Gc (fun c8=>?_) (fun c8=>?_)
  ·
   have c8p:=kz c8
   refine Gs (Gm rfl (Gm rfl (Gm rfl (Gt (BV rfl) (Gt (Ai FY rfl) ?_)))))
   refine AT (AK (((Ad.l0.comp AG.l1).comp (AU.ar (n:=9) Am.fl (by first | omega | exact hbV | (dsimp only;omega)))).comp Am.l2) rfl rfl rfl DB rfl .h) ?_
   refine Gt (BV rfl) (Gt (Ai DM rfl) ?_)
   refine AT (AK (((Ad.l0.comp AG.l1).comp (AU.ar (n:=9) Am.fl (by first | omega | exact hbV | (dsimp only;omega)))).comp Am.l3) rfl rfl rfl DB rfl .h) ?_
   refine Gn (.t7 0 3 4 9 47 48 49) ?_
   refine GF (fun _=> .h) (congrArg (fun q=>Ad.enc ⟨q,_,_⟩) (AE.He V hx.1 hx.2 1 to)) ?_
   refine AJ (Gm rfl (Gm rfl (Gm rfl (Gt (BV rfl) (Gt (Ai Mv rfl) ?_)))))
   refine Gt (AH rfl CO .m0 (((Ad.l0.comp AG.l1).comp (AU.ar (n:=9) Am.fl (by first | omega | exact hbV | (dsimp only;omega)))).comp Am.l0) rfl rfl) ?_
   refine Gt (BC OY Hx rfl (.cons Ing.Event.l0 rfl rfl rfl (.cons Ing.Event.l3 rfl rfl rfl (.cons Ing.Event.l8 rfl rfl rfl .nil)))) ?_
   refine Ah rfl ON (.c rfl (.c rfl .n)) (.c .h (.c .h .n)) (CQ _ (V.place ((AE.BQ X.w X.own o.nth o.name o.Bm).getD k.toNat 0) 1 to) _ { AE.F2 6 with other:=to,BJ:=((V.place ((AE.BQ X.w X.own o.nth o.name o.Bm).getD k.toNat 0) 1 to).w.AO.at ((AE.BQ X.w X.own o.nth o.name o.Bm).getD k.toNat 0)).name } (by assumption) hbV (show to < 6 from(hok hv).gS (by omega)) (show V.out.length≤100000 by omega)) (fun v24 B hv=>?_)
   obtain⟨y25,rfl,y26,rfl⟩:=hv
   refine AQ (AB (.t6 0 3 4 47 48 49) ?_)
   refine AW (AW (AA (AJ ?_)))
   refine Gt (Av rfl rfl (IntWalk.i64_in _ (by first | omega | exact hbV.1 | exact hbV.2 | (dsimp only;omega)))) ?_
   refine Gm rfl ?_
   refine AQ (AB (.t6 0 3 4 47 48 49) ?_)
   refine Bt (k+1) _ _ ?_ ?_ (.t6 49 0 3 4 47 48) (.refl _)
   · have hq:V.Cs o.verb to ((AE.BQ X.w X.own o.nth o.name o.Bm).getD k.toNat 0)=_:=((AX c6).trans ((AX c7).trans (BB c8)))
     (try rw [AE.D5 hx.1 hx.2] at *)
     (try rw [AE.Dh hx.1 hx.2 hn0] at *)
     exact⟨by omega,(by(try rw [AE.D5 hx.1 hx.2]);(try rw [AE.Dh hx.1 hx.2 hn0]);exact hq.symm.trans ((congrArg (fun q=>AE.Cs q o.verb to ((AE.BQ X.w X.own o.nth o.name o.Bm).getD k.toNat 0)) hI12).trans (AE.I1 hI11 (by show k < (((AE.BQ X.w X.own o.nth o.name o.Bm)).length:Int);omega)).symm)),by omega,by assumption⟩
   · omega
  have c8p:=kz c8
  refine Gs (Gm rfl (Gt (BV rfl) (Gt (Ai A9 rfl) (Gt (AZ rfl BZ .m0 Ad.l0 rfl) (Gm rfl (Gm rfl ?_))))))
  refine BA rfl dE (.c rfl (.c rfl (.c rfl .n))) (fun w hS=>MZ _ _ _ w) ?_
  refine Ga rfl (Gn (.t8 0 3 4 9 47 48 49 138) ?_)
  refine Gc (fun c9=>?_) (fun c9=>?_)
  ·
   have c9p:=kz c9
   refine AJ (Gm rfl ?_)
   refine Ah rfl EI (.c rfl (.c rfl .n)) (.c .h (.c .h .n)) (Be _ V _ _ (by assumption) hbV (by omega)) (fun v27 B hv=>?_)
   obtain⟨y28,rfl,y29,rfl⟩:=hv
   refine AQ (AB (.t6 0 3 4 47 48 49) ?_)
   refine AW (AW (AA (AJ ?_)))
   refine Gt (Av rfl rfl (IntWalk.i64_in _ (by first | omega | exact hbV.1 | exact hbV.2 | (dsimp only;omega)))) ?_
   refine Gm rfl ?_
   refine AQ (AB (.t6 0 3 4 47 48 49) ?_)
   refine Bt (k+1) _ _ ?_ ?_ (.t6 49 0 3 4 47 48) (.refl _)
   · have hq:V.Cs o.verb to ((AE.BQ X.w X.own o.nth o.name o.Bm).getD k.toNat 0)=_:=((AX c6).trans ((AX c7).trans ((AX c8).trans (BB c9))))
     (try rw [AE.D5 hx.1 hx.2] at *)
     (try rw [AE.Dh hx.1 hx.2 hn0] at *)
     exact⟨by omega,(by(try rw [AE.D5 hx.1 hx.2]);(try rw [AE.Dh hx.1 hx.2 hn0]);exact hq.symm.trans ((congrArg (fun q=>AE.Cs q o.verb to ((AE.BQ X.w X.own o.nth o.name o.Bm).getD k.toNat 0)) hI12).trans (AE.I1 hI11 (by show k < (((AE.BQ X.w X.own o.nth o.name o.Bm)).length:Int);omega)).symm)),by omega,by assumption⟩
   · omega
  have c9p:=kz c9
  refine Gs (Gm rfl (Gm rfl (Gm rfl (Gt (BV rfl) (Gt (Ai FY rfl) ?_)))))
  refine AT (AK (((Ad.l0.comp AG.l1).comp (AU.ar (n:=9) Am.fl (by first | omega | exact hbV | (dsimp only;omega)))).comp Am.l2) rfl rfl rfl DB rfl .h) ?_
  refine Gt (BV rfl) (Gt (Ai DM rfl) ?_)
  refine AT (AK (((Ad.l0.comp AG.l1).comp (AU.ar (n:=9) Am.fl (by first | omega | exact hbV | (dsimp only;omega)))).comp Am.l3) rfl rfl rfl DB rfl .h) ?_
  refine Gn (.t7 0 3 4 9 47 48 49) ?_
  refine GF (fun _=> .h) (congrArg (fun q=>Ad.enc ⟨q,_,_⟩) (AE.He V hx.1 hx.2 2 to)) ?_
  refine BD (N:=15) [0,0,2,6,14,0,0,32,160,416,992,2016,4064,8190,16383] mix (by kernel_rfl) rfl ?_
  refine Pf 0 rfl (AF rfl) (Pf 1 rfl (AF rfl) (Pf 2 rfl (BV rfl) (Pf 3 rfl (Ai Mv rfl) ?_)))
  refine Pf 4 rfl (AH rfl CO .m0 (((Ad.l0.comp AG.l1).comp (AU.ar (n:=9) Am.fl (by first | omega | exact hbV | (dsimp only;omega)))).comp Am.l0) rfl rfl) ?_
  refine Pf 5 rfl (AF rfl) (Pf 6 rfl (AF rfl) (Pf 7 rfl (BV rfl) (Pf 8 rfl (Ai A9 rfl) (Pf 9 rfl (Ai Cx rfl) ?_))))
  refine Pf 10 rfl (AS GO rfl rfl (by first | omega | exact hbV.1 | exact hbV.2 | (dsimp only;omega)) (by first | omega | exact hbV.1 | exact hbV.2 | (dsimp only;omega))) ?_
  refine Pf 11 rfl (Ai Mv rfl) ?_
  refine Pf 12 rfl (AH rfl CO .m0 (((Ad.l0.comp AG.l1).comp (AU.ar (n:=9) Am.fl (by first | omega | exact hbV | (dsimp only;omega)))).comp Am.l0) rfl rfl) ?_
  refine Pf 13 rfl (BC OY Hx rfl (.cons Ing.Event.l0 rfl rfl rfl (.cons Ing.Event.l3 rfl rfl rfl (.cons Ing.Event.l8 rfl rfl rfl (.cons Ing.Event.l9 rfl rfl rfl .nil))))) ?_
  refine An 14 rfl (by kernel_rfl) ?_
  refine Ah rfl ON (.c rfl (.c rfl .n)) (.c .h (.c .h .n)) (CQ _ (V.place ((AE.BQ X.w X.own o.nth o.name o.Bm).getD k.toNat 0) 2 to) _ { AE.F2 5 with BJ:=((V.place ((AE.BQ X.w X.own o.nth o.name o.Bm).getD k.toNat 0) 2 to).w.AO.at ((AE.BQ X.w X.own o.nth o.name o.Bm).getD k.toNat 0)).name,text:=((V.place ((AE.BQ X.w X.own o.nth o.name o.Bm).getD k.toNat 0) 2 to).w.AO.at to).name } (by assumption) hbV (show(-1:Int) < 6 by decide) (show V.out.length≤100000 by omega)) (fun v30 B hv=>?_)
  obtain⟨y31,rfl,y32,rfl⟩:=hv
  refine Bu rfl ⟨?_,?_⟩
  · exact(Pk (Pk (Pk (Pk (Pk (Pk (Pk (Pk (Pk (Pk (Pk (Pk (Pk (Pk As))))))))))))))
  refine A3 (by kernel_rfl) ?_
  refine AB (.t6 0 3 4 47 48 49) ?_
  refine AW (AW (AA (AJ ?_)))
  refine Gt (Av rfl rfl (IntWalk.i64_in _ (by first | omega | exact hbV.1 | exact hbV.2 | (dsimp only;omega)))) ?_
  refine Gm rfl ?_
  refine AQ (AB (.t6 0 3 4 47 48 49) ?_)
  refine Bt (k+1) _ _ ?_ ?_ (.t6 49 0 3 4 47 48) (.refl _)
  · have hq:V.Cs o.verb to ((AE.BQ X.w X.own o.nth o.name o.Bm).getD k.toNat 0)=_:=((AX c6).trans ((AX c7).trans ((AX c8).trans (AX c9))))
    (try rw [AE.D5 hx.1 hx.2] at *)
    (try rw [AE.Dh hx.1 hx.2 hn0] at *)
    exact⟨by omega,(by(try rw [AE.D5 hx.1 hx.2]);(try rw [AE.Dh hx.1 hx.2 hn0]);exact hq.symm.trans ((congrArg (fun q=>AE.Cs q o.verb to ((AE.BQ X.w X.own o.nth o.name o.Bm).getD k.toNat 0)) hI12).trans (AE.I1 hI11 (by show k < (((AE.BQ X.w X.own o.nth o.name o.Bm)).length:Int);omega)).symm)),by omega,by assumption⟩
  · omega
 have c5p:=kz c5
 obtain rfl:k=((AE.BQ X.w X.own o.nth o.name o.Bm).length:Int):=by omega
 refine Ba (AV (AV (Af ?_)))
 refine Bk rfl .n ?_
 intro w1 hS
 have hS:=(hS.perm (Ay.perm (.c .h (.c .h .n)))).A1
 have hq:T.FH o=V:=hgo.trans (hI12.trans AE.Xd).symm
 refine⟨_,⟨?gq2,rfl,?hl2,?hB2⟩,hS⟩
 case hB2=>rw [hq];(try rfl)
 case hl2=>rw [hq];exact hI14
theorem KE (s:Ao)(w:World)(gl0:GV 0 AG.DE w):Ej Tryz.prog 138 #[BU s] w fun v w'=>v = .tuple #[.int .i64 (Words.dir s).1, .bool (Words.dir s).2]∧CB w w':=by
 refine Al [] [] Tryz.func138 rfl rfl rfl (St.start w []) ?_
 refine Gs (Ga rfl (Ga rfl (Gn (.t1 0) (CD (Gm rfl (AQ (AA ?_)))))))
 refine Ae ?_
 refine Bl (.t2 5 0) ?_
 refine Ce (fun(k:Int)=>0≤k∧k≤6∧Words.N3 s 6=Words.N3 s (6 - k).toNat) (fun(k:Int)=>(6 - k).toNat) (fun(k:Int)=> [(5, .int .i64 k)]) (fun(k:Int)=> []) (0) ?_ rfl rfl (fun k hI1=>?_)
 · exact⟨by omega,by omega,rfl⟩
 obtain⟨hI11,hI12,hI13⟩:=hI1
 refine Gs (Gt (A8 rfl rfl) (AQ (AA (Ap ?_))))
 refine Gc (fun c1=>?_) (fun c1=>?_)
 ·
  have c1p:=kz c1
  rw [Words.Ws hI11 (by omega)] at hI13
  refine Aa ?_
  refine AB (.t2 0 5) ?_
  refine AA (Ap (Ae (Gs (Gm rfl (Ga rfl (Gn (.t3 0 4 5) (Gs ?_)))))))
  refine Gm rfl ?_
  refine Gt (AS Y7 rfl rfl (by omega) (by omega)) ?_
  refine Gt (Rn gl0 rfl CO (AG.PN (by omega) (by omega))) ?_
  refine Gm rfl (Gt (Bi rfl rfl) (Gn (.t4 0 4 5 12) ?_))
  refine Gc (fun c2=>?_) (fun c2=>?_)
  ·
   refine Gs (Gm rfl (Ga rfl (Ga rfl (Gn (.t2 2 3) (Ab (AR (AD ?_)))))))
   refine AD (AR (AD ?_))
   refine AY rfl (.tmp rfl (.tmp rfl .n)) ?_
   intro w1 hS;refine⟨?_,hS.Ak⟩;rw [Words.dir,hI13,BB c2];rfl
  have c2p:=kz c2
  refine Aa ?_
  refine AB (.t2 0 5) ?_
  refine AW (AA (AJ ?_))
  refine Gt (Av rfl rfl (IntWalk.i64_in _ (by omega))) ?_
  refine Gm rfl ?_
  refine AQ (AB (.t2 0 5) ?_)
  refine B6 (k+1) ?_ ?_ (.t2 5 0) (.refl _)
  · exact⟨by omega,by omega,by rw [hI13,AX c2]⟩
  · omega
 have c1p:=kz c1
 obtain rfl:k=6:=by omega
 refine Ba (AV (AV (Af ?_)))
 refine AB (.nil _) ?_
 refine AA (Gs (Ga rfl (Ga rfl (AQ (AA (Ab ?_))))))
 refine AY rfl (.tmp rfl (.tmp rfl .n)) ?_
 intro w1 hS;refine⟨?_,hS.Ak⟩;rw [Words.dir,hI13];rfl
theorem RH (b:Nat)(T:AE)(g:Hd)(d:Int)(p:Bool)(k:Int)(hg:g.len=T.out.length)(hF:T.Fit)(hd:0≤d∧d < 6)(hn:T.out.length≤90000):Jg Tryz.prog 139 #[.pointer (some ⟨b,0,none⟩), .int .i64 d, .bool p, .int .i64 k] [Ac.box b 163 (Ad.enc ⟨T.w,T.b,g⟩),Ac.own g 56 16 (T.out.flatMap Ing.Event.enc)] (fun v B=>∃ g':Hd,v = .tuple #[]∧g'.len=(T.Gi d p k).out.length∧B = [Ac.box b 163 (Ad.enc ⟨(T.Gi d p k).w,(T.Gi d p k).b,g'⟩),Ac.own g' 56 16 ((T.Gi d p k).out.flatMap Ing.Event.enc)]):=by
 intro w hS0
 have hb:=hF.b
 have hr:=hF.room
 have hx:=hF.exit hd.1 hd.2
 have hop:=AG.Ly d
 refine Al _ _ Tryz.func139 rfl rfl rfl (hS0) ?_
 refine Ap ?_
 refine BD (N:=12) [0,0,2,6,14,1,33,97,255,511,1023,2047] mix (by kernel_rfl) rfl ?_
 refine Pf 0 rfl (AF rfl) (Pf 1 rfl (AF rfl) (Pf 2 rfl (BV rfl) (Pf 3 rfl (Ai CR rfl) (Pf 4 rfl (AH rfl A4 .m0 Ad.l1 rfl rfl) (Pf 5 rfl (BV rfl) (Pf 6 rfl (Ai A9 rfl) (Pf 7 rfl (Ai Bs rfl) ?_)))))))
 refine Pf 8 rfl (AS C8 rfl rfl (by first | omega | exact hb.1 | exact hb.2 | exact hr.1 | exact hr.2 | (dsimp only;omega)) (by first | omega | exact hb.1 | exact hb.2 | exact hr.1 | exact hr.2 | (dsimp only;omega))) ?_
 refine Pf 9 rfl (Ai C4 rfl) ?_
 refine Pf 10 rfl (AH rfl A4 .m0 (((Ad.l0.comp AG.l2).comp (AU.ar (n:=6) Aj.fl (by first | omega | exact hb | exact hr | (dsimp only;omega)))).comp Aj.l3) rfl rfl) ?_
 refine Pf 11 rfl (A0 rfl) ?_
 refine A3 (by kernel_rfl) ?_
 refine AB (.t5 0 1 2 3 8) ?_
 refine AA (Gs (Gm rfl (Gm rfl (Gm rfl (Gt (BV rfl) (Gt (Ai A9 rfl) (Gt (Ai G4 rfl) ?_)))))))
 refine Gt (AS O6 rfl rfl (by first | omega | exact hb.1 | exact hb.2 | exact hr.1 | exact hr.2 | (dsimp only;omega)) (by first | omega | exact hb.1 | exact hb.2 | exact hr.1 | exact hr.2 | (dsimp only;omega))) ?_
 refine Gt (Ai Mq rfl) ?_
 refine Gt (AS SP rfl rfl (by first | omega | exact hb.1 | exact hb.2 | exact hr.1 | exact hr.2 | (dsimp only;omega)) (by first | omega | exact hb.1 | exact hb.2 | exact hr.1 | exact hr.2 | (dsimp only;omega))) ?_
 refine Gt (AH rfl A4 .m0 ((((Ad.l0.comp AG.l0).comp (AU.ar (n:=6) Room.fl (by first | omega | exact hb | exact hr | (dsimp only;omega)))).comp Room.l2).comp (AU.ar (n:=6) B1 (by first | omega | exact hb | exact hr | (dsimp only;omega)))) rfl rfl) ?_
 refine Gt (FX rfl rfl (IntWalk.i64_in _ (by first | omega | exact hb.1 | exact hb.2 | exact hr.1 | exact hr.2 | (dsimp only;omega)))) ?_
 refine Ga rfl (Gn (.t6 0 1 2 3 8 9) (Ae (Gs (Gm rfl (Gt (A8 rfl rfl) (Ga rfl (Gn (.t7 0 1 2 3 8 9 74) ?_)))))))
 refine Gc (fun c1=>?_) (fun c1=>?_)
 ·
  have c1p:=kz c1
  try dsimp only at c1p
  refine AJ (Gm rfl ?_)
  refine Ah rfl EI (.c rfl (.c rfl .n)) (.c .h (.c .h .n)) (Be _ _ _ _ hg hb (by omega)) (fun v1 B hv=>?_)
  obtain⟨y2,rfl,y3,rfl⟩:=hv
  refine AQ (AB (.nil _) ?_)
  refine AW ?_
  refine Bk rfl .n ?_
  intro w1 hS
  have hS:=(hS.perm (Ay.perm (.c .h (.c .h .n)))).A1
  have hq:T.Gi d p k=_:=(BB c1)
  refine⟨_,⟨?gq1,rfl,?hl1,?hB1⟩,hS⟩
  case hB1=>rw [hq];(try rfl)
  case hl1=>rw [hq];assumption
 have c1p:=kz c1
 try dsimp only at c1p
 refine Gs (Gm rfl (Gm rfl (Gm rfl (Gt (BV rfl) (Gt (Ai A9 rfl) (Gt (Ai G4 rfl) ?_))))))
 refine Gt (AS O6 rfl rfl (by first | omega | exact hb.1 | exact hb.2 | exact hr.1 | exact hr.2 | (dsimp only;omega)) (by first | omega | exact hb.1 | exact hb.2 | exact hr.1 | exact hr.2 | (dsimp only;omega))) ?_
 refine Gt (Ai Ma rfl) ?_
 refine Gt (AS V9 rfl rfl (by first | omega | exact hb.1 | exact hb.2 | exact hr.1 | exact hr.2 | (dsimp only;omega)) (by first | omega | exact hb.1 | exact hb.2 | exact hr.1 | exact hr.2 | (dsimp only;omega))) ?_
 refine Gt (AH rfl Dr .m0 ((((Ad.l0.comp AG.l0).comp (AU.ar (n:=6) Room.fl (by first | omega | exact hb | exact hr | (dsimp only;omega)))).comp Room.l3).comp (AU.ar (n:=6) HQ (by first | omega | exact hb | exact hr | (dsimp only;omega)))) rfl rfl) ?_
 refine Gm rfl (Gt (J1 Tryz.underlying4 rfl rfl) (Ga rfl (Gn (.t7 0 1 2 3 8 9 79) ?_)))
 refine Gc (fun c2=>?_) (fun c2=>?_)
 ·
  have c2p:=kz c2
  try dsimp only at c2p
  refine AJ (Gm rfl ?_)
  refine Ah rfl EI (.c rfl (.c rfl .n)) (.c .h (.c .h .n)) (Be _ _ _ _ hg hb (by omega)) (fun v4 B hv=>?_)
  obtain⟨y5,rfl,y6,rfl⟩:=hv
  refine AQ (AB (.nil _) ?_)
  refine AW ?_
  refine Bk rfl .n ?_
  intro w1 hS
  have hS:=(hS.perm (Ay.perm (.c .h (.c .h .n)))).A1
  have hq:T.Gi d p k=_:=((AX c1).trans (BB c2))
  refine⟨_,⟨?gq2,rfl,?hl2,?hB2⟩,hS⟩
  case hB2=>rw [hq];(try rfl)
  case hl2=>rw [hq];assumption
 have c2p:=kz c2
 try dsimp only at c2p
 refine Gs (Gm rfl (Gm rfl (Gm rfl (Gm rfl (Gt (BT rfl) (Gt (BV rfl) (Gt (Ai A9 rfl) ?_)))))))
 refine Gt (Ai G4 rfl) ?_
 refine Gt (AS O6 rfl rfl (by first | omega | exact hb.1 | exact hb.2 | exact hr.1 | exact hr.2 | (dsimp only;omega)) (by first | omega | exact hb.1 | exact hb.2 | exact hr.1 | exact hr.2 | (dsimp only;omega))) ?_
 refine Gt (Ai Ma rfl) ?_
 refine Gt (AS V9 rfl rfl (by first | omega | exact hb.1 | exact hb.2 | exact hr.1 | exact hr.2 | (dsimp only;omega)) (by first | omega | exact hb.1 | exact hb.2 | exact hr.1 | exact hr.2 | (dsimp only;omega))) ?_
 refine AT (AK ((((Ad.l0.comp AG.l0).comp (AU.ar (n:=6) Room.fl (by first | omega | exact hb | exact hr | (dsimp only;omega)))).comp Room.l3).comp (AU.ar (n:=6) HQ (by first | omega | exact hb | exact hr | (dsimp only;omega)))) rfl rfl rfl Kd rfl .h) ?_
 refine Gn (.t6 0 1 2 3 8 9) (CD (Gm rfl ?_))
 refine BA rfl ae (.c rfl .n) (fun w hS=>Hc _ w) ?_
 refine Ga rfl (Gn (.t6 0 2 3 8 9 10) (Gs (Gm rfl (Gm rfl (Gm rfl (Gt (BV rfl) (Gt (Ai A9 rfl) ?_)))))))
 refine Gt (Ai G4 rfl) ?_
 refine Gt (AS O6 rfl rfl (by first | omega | exact hb.1 | exact hb.2 | exact hr.1 | exact hr.2 | (dsimp only;omega)) (by first | omega | exact hb.1 | exact hb.2 | exact hr.1 | exact hr.2 | (dsimp only;omega))) ?_
 refine Gt (Ai Mq rfl) ?_
 refine Gt (AS SP rfl rfl (by first | omega | exact hb.1 | exact hb.2 | exact hr.1 | exact hr.2 | (dsimp only;omega)) (by first | omega | exact hb.1 | exact hb.2 | exact hr.1 | exact hr.2 | (dsimp only;omega))) ?_
 refine Gt (AH rfl A4 .m0 ((((Ad.l0.comp AG.l0).comp (AU.ar (n:=6) Room.fl (by first | omega | exact hb | exact hr | (dsimp only;omega)))).comp Room.l2).comp (AU.ar (n:=6) B1 (by first | omega | exact hb | exact hr | (dsimp only;omega)))) rfl rfl) ?_
 refine Gm rfl ?_
 refine Gt (Av rfl rfl (IntWalk.i64_in _ (by first | omega | exact hb.1 | exact hb.2 | exact hr.1 | exact hr.2 | (dsimp only;omega)))) ?_
 refine Gt (Ag rfl rfl) (Gn (.t6 0 2 3 9 10 58) ?_)
 refine Gc (fun c3=>?_) (fun c3=>?_)
 ·
  have c3p:=kz c3
  try dsimp only at c3p
  refine AJ (Gm rfl (Gm rfl (Gm rfl (Gm rfl (Gt (BT rfl) (Gt (BV rfl) (Gt (Ai A9 rfl) ?_)))))))
  refine Gt (Ai G4 rfl) ?_
  refine Gt (AS O6 rfl rfl (by first | omega | exact hb.1 | exact hb.2 | exact hr.1 | exact hr.2 | (dsimp only;omega)) (by first | omega | exact hb.1 | exact hb.2 | exact hr.1 | exact hr.2 | (dsimp only;omega))) ?_
  refine Gt (Ai Ma rfl) ?_
  refine Gt (AS V9 rfl rfl (by first | omega | exact hb.1 | exact hb.2 | exact hr.1 | exact hr.2 | (dsimp only;omega)) (by first | omega | exact hb.1 | exact hb.2 | exact hr.1 | exact hr.2 | (dsimp only;omega))) ?_
  refine AT (AK ((((Ad.l0.comp AG.l0).comp (AU.ar (n:=6) Room.fl (by first | omega | exact hb | exact hr | (dsimp only;omega)))).comp Room.l3).comp (AU.ar (n:=6) HQ (by first | omega | exact hb | exact hr | (dsimp only;omega)))) rfl rfl rfl Kd rfl .h) ?_
  refine Gn (.t2 0 3) (AJ (Gm rfl (Gm rfl (Gt (BC OY Hx rfl (.cons Ing.Event.l0 rfl rfl rfl (.cons Ing.Event.l3 rfl rfl rfl (.cons Ing.Event.l8 rfl rfl rfl .nil)))) ?_))))
  refine Ah rfl ON (.c rfl (.c rfl .n)) (.c .h (.c .h .n)) (CQ _ (AE.C7 (T.C7 T.me.room d (!p)) ((T.w.BS.at (T.w.AN.at T.b).room).CP.at d - 1) (AG.opposite d) (!p)) _ { AE.F2 k with BJ:=AE.QS } hg hb (show(-1:Int) < 6 by decide) (show T.out.length≤100000 by omega)) (fun v7 B hv=>?_)
  obtain⟨y8,rfl,y9,rfl⟩:=hv
  refine AQ (AB (.nil _) ?_)
  refine AW ?_
  refine Bk rfl .n ?_
  intro w1 hS
  have hS:=(hS.perm (Ay.perm (.c .h (.c .h .n)))).A1
  have hq:T.Gi d p k=_:=(show T.Gi d p k=_ from(AX c1).trans (AX c2)).trans (congrArg (fun q=>AE.BP q { AE.F2 k with BJ:=AE.QS }) (BB c3))
  refine⟨_,⟨?gq3,rfl,?hl3,?hB3⟩,hS⟩
  case hB3=>rw [hq];(try rfl)
  case hl3=>rw [hq];assumption
 have c3p:=kz c3
 try dsimp only at c3p
 refine Aa ?_
 refine AB (.t2 0 3) ?_
 refine AA (AJ (Gm rfl (Gm rfl (Gt (BC OY Hx rfl (.cons Ing.Event.l0 rfl rfl rfl (.cons Ing.Event.l3 rfl rfl rfl (.cons Ing.Event.l8 rfl rfl rfl .nil)))) ?_))))
 refine Ah rfl ON (.c rfl (.c rfl .n)) (.c .h (.c .h .n)) (CQ _ (T.C7 T.me.room d (!p)) _ { AE.F2 k with BJ:=AE.QS } hg hb (show(-1:Int) < 6 by decide) (show T.out.length≤100000 by omega)) (fun v10 B hv=>?_)
 obtain⟨y11,rfl,y12,rfl⟩:=hv
 refine AQ (AB (.nil _) ?_)
 refine AW ?_
 refine Bk rfl .n ?_
 intro w1 hS
 have hS:=(hS.perm (Ay.perm (.c .h (.c .h .n)))).A1
 have hq:T.Gi d p k=_:=(show T.Gi d p k=_ from(AX c1).trans (AX c2)).trans (congrArg (fun q=>AE.BP q { AE.F2 k with BJ:=AE.QS }) (AX c3))
 refine⟨_,⟨?gq4,rfl,?hl4,?hB4⟩,hS⟩
 case hB4=>rw [hq];(try rfl)
 case hl4=>rw [hq];assumption
theorem F5 (b:Nat)(T:AE)(g:Hd)(a:Bool)(i:Int)(p:Bool)(k:Int)(hg:g.len=T.out.length)(hb:0≤T.b∧T.b < 6)(hi:0≤i∧i < 9)(hn:T.out.length≤90000):Jg Tryz.prog 140 #[.pointer (some ⟨b,0,none⟩), .bool a, .int .i64 i, .bool p, .int .i64 k] [Ac.box b 163 (Ad.enc ⟨T.w,T.b,g⟩),Ac.own g 56 16 (T.out.flatMap Ing.Event.enc)] (fun v B=>∃ g':Hd,v = .tuple #[]∧g'.len=(T.before a i p k).out.length∧B = [Ac.box b 163 (Ad.enc ⟨(T.before a i p k).w,(T.before a i p k).b,g'⟩),Ac.own g' 56 16 ((T.before a i p k).out.flatMap Ing.Event.enc)]):=by
 intro w hS0
 refine Al _ _ Tryz.func140 rfl rfl rfl (hS0) ?_
 refine CD (Gm rfl (Gn (.t5 0 2 3 4 10) ?_))
 refine Gc (fun c1=>?_) (fun c1=>?_)
 ·
  have c1p:=kz c1
  refine Gs (Gm rfl (Gm rfl (Gm rfl (Gt (BV rfl) (Gt (Ai A9 rfl) (Gt (Ai Cx rfl) ?_))))))
  refine Gt (AS GO rfl rfl (by first | omega | exact hb.1 | exact hb.2 | (dsimp only;omega)) (by first | omega | exact hb.1 | exact hb.2 | (dsimp only;omega))) ?_
  refine Gt (Ai GN rfl) ?_
  refine AT (AK (((Ad.l0.comp AG.l1).comp (AU.ar (n:=9) Am.fl (by first | omega | exact hb | (dsimp only;omega)))).comp Am.l4) rfl rfl rfl Kd rfl .h) ?_
  refine Gn (.t3 0 2 4) (Gs (Gm rfl (Gm rfl (Gm rfl ?_))))
  refine Ah rfl Ow (.c rfl (.c rfl (.c rfl .n))) (.c .h (.c .h .n)) (D1 _ (T.DA i { T.w.AO.at i with on:=p }) _ k i hg hb hi (show T.out.length≤100000 by omega)) (fun v1 B hv=>?_)
  obtain⟨y2,rfl,y3,rfl⟩:=hv
  refine Gn (.nil _) (Ab (AD ?_))
  refine AY rfl .n ?_
  intro w1 hS
  have hS:=(hS.perm (Ay.perm (.c .h (.c .h .n)))).A1
  have hq:T.before a i p k=_:=(BB c1)
  refine⟨_,⟨?gq1,rfl,?hl1,?hB1⟩,hS⟩
  case hB1=>rw [hq];(try rfl)
  case hl1=>rw [hq];assumption
 have c1p:=kz c1
 refine Aa ?_
 refine AB (.t4 0 2 3 4) ?_
 refine AA (Gs (Gm rfl (Gm rfl (Gm rfl ?_))))
 refine Ah rfl Ow (.c rfl (.c rfl (.c rfl .n))) (.c .h (.c .h .n)) (D1 _ T _ k i hg hb hi (show T.out.length≤100000 by omega)) (fun v4 B hv=>?_)
 obtain⟨y5,rfl,y6,rfl⟩:=hv
 refine Gn (.t3 0 2 3) (AJ (Gm rfl (Gm rfl (Gm rfl (Gt (BV rfl) (Gt (Ai A9 rfl) (Gt (Ai Cx rfl) ?_)))))))
 refine Gt (AS GO rfl rfl (by first | omega | exact hb.1 | exact hb.2 | (dsimp only;omega)) (by first | omega | exact hb.1 | exact hb.2 | (dsimp only;omega))) ?_
 refine Gt (Ai GN rfl) ?_
 refine AT (AK (((Ad.l0.comp AG.l1).comp (AU.ar (n:=9) Am.fl (by first | omega | exact hb | (dsimp only;omega)))).comp Am.l4) rfl rfl rfl Kd rfl .h) ?_
 refine AQ ?_
 refine Bk rfl .n ?_
 intro w1 hS
 have hS:=(hS.perm (Ay.perm (.c .h (.c .h .n)))).A1
 have hq:T.before a i p k=_:=(AX c1)
 refine⟨_,⟨?gq2,rfl,?hl2,?hB2⟩,hS⟩
 case hB2=>rw [hq];(try rfl)
 case hl2=>rw [hq];assumption
theorem SN (b:Nat)(T:AE)(g:Hd)(o:Order)(hg:g.len=T.out.length)(hF:T.Fit)(hv:12≤o.verb∧o.verb≤17)(hn:T.out.length≤80000):FC Tryz.prog 107 #[.pointer (some ⟨b,0,none⟩), .agg o.enc.toArray] [Ac.box b 163 (Ad.enc ⟨T.w,T.b,g⟩),Ac.own g 56 16 (T.out.flatMap Ing.Event.enc)] (fun w=>(GV 0 AG.DE w∧0 ∉ Cc [Ac.box b 163 (Ad.enc ⟨T.w,T.b,g⟩),Ac.own g 56 16 (T.out.flatMap Ing.Event.enc)])) (fun v B=>∃ g':Hd,v = .tuple #[]∧g'.len=(T.set o).out.length∧B = [Ac.box b 163 (Ad.enc ⟨(T.set o).w,(T.set o).b,g'⟩),Ac.own g' 56 16 ((T.set o).out.flatMap Ing.Event.enc)]):=by
 intro w hS0 hH
 obtain⟨gl0,gm0⟩:=hH
 have hb:=hF.b
 have hr:=hF.room
 have ho9:=T.KR
 have hs9:=T.Im
 refine Al _ _ Tryz.func107 rfl rfl rfl (hS0) ?_
 refine Gs ?_
 refine B5 rfl rfl rfl (fun b1=>?_)
 refine Gn (.t2 0 3) (Gs (Gt (Ai DI rfl) (Gt (AH rfl A4 .m0 Order.l0 rfl rfl) (Gt (Ag rfl rfl) (Gm rfl (Bc 13 rfl rfl (fun q=>Ai DI rfl) (Bc 13 rfl rfl (fun q=>AH (cF rfl q) A4 .m0 Order.l0 rfl rfl) ?_)))))))
 refine Bc 13 rfl rfl (fun q=>Ag (cF rfl q) rfl) ?_
 refine Gt (BR rfl rfl (fun h=>by rw [h];rfl)) ?_
 refine Gm rfl (Bc 18 rfl rfl (fun q=>Ai DI rfl) (Bc 18 rfl rfl (fun q=>AH (cF rfl q) A4 .m0 Order.l0 rfl rfl) (Bc 18 rfl rfl (fun q=>Ag (cF rfl q) rfl) ?_)))
 refine Gt (BR rfl rfl (fun h=>by rw [h];rfl)) ?_
 refine Ga rfl (Gn (.t3 0 3 4) (Gs (Ga rfl (Ga rfl (AQ (AA ?_))))))
 refine Rl (Lm:= []) (fun(kd:Int) (ev:Int)=>kd=AE.setKind o.verb∧ev=AE.Og o.verb) (fun(kd:Int) (ev:Int)=> [(5, .int .i64 kd),(6, .int .i64 ev)]) (fun(kd:Int) (ev:Int)=> []) (.t3 0 3 4) rfl ?_ (fun kd ev hC=>?_)
 ·
  refine Gs (Gt (Ai DI rfl) (Gt (AH rfl A4 .m0 Order.l0 rfl rfl) (Gn (.t6 0 3 4 5 6 24) (Ae (Gs (Gt (Ag rfl rfl) (Ga rfl ?_)))))))
  refine Gn (.t7 0 3 4 5 6 24 25) ?_
  refine Gc (fun c1=>?_) (fun c1=>?_)
  ·
   have c1p:=kz c1
   refine AJ (Ga rfl ?_)
   refine AQ (AB (.t5 0 3 4 5 6) ?_)
   refine AW ?_
   refine Ed _ _ ?_ (.t5 5 6 0 3 4) (.refl _)
   · have hv6:o.verb=12∨o.verb=13∨o.verb=14∨o.verb=15∨o.verb=16∨o.verb=17:=by omega
     rcases hv6 with e | e | e | e | e | e<;>(try rw [e] at c1)<;>first | exact⟨by rw [e];rfl,by rw [e];rfl⟩ | exact absurd c1 (by decide)
  have c1p:=kz c1
  refine CD (Gt (Ag rfl rfl) (Ga rfl (Gn (.t7 0 3 4 5 6 24 27) ?_)))
  refine Gc (fun c2=>?_) (fun c2=>?_)
  ·
   have c2p:=kz c2
   refine Aa (AA ?_)
   refine HA rfl c2 ?_
   refine Gs (Ga rfl (Ga rfl (Gn (.t5 0 3 4 5 6) (Gs (Gm rfl (Gt (BT rfl) (Gn (.t6 0 3 4 5 6 31) ?_)))))))
   refine Gc (fun c3=>?_) (fun c3=>?_)
   ·
    have c3p:=kz c3
    refine AJ (Ga rfl ?_)
    refine AQ (AB (.t5 0 3 4 5 6) ?_)
    refine AW ?_
    refine Ed _ _ ?_ (.t5 5 6 0 3 4) (.refl _)
    · have hv6:o.verb=12∨o.verb=13∨o.verb=14∨o.verb=15∨o.verb=16∨o.verb=17:=by omega
      rcases hv6 with e | e | e | e | e | e<;>(try rw [e] at c1)<;>(try rw [e] at c2)<;>(try rw [e] at c3)<;>first | exact⟨by rw [e];rfl,by rw [e];rfl⟩ | exact absurd c1 (by decide) | exact absurd c2 (by decide) | exact absurd c3 (by decide)
   have c3p:=kz c3
   refine Aa ?_
   refine AB (.t5 0 3 4 5 6) ?_
   refine AW ?_
   refine Ed _ _ ?_ (.t5 5 6 0 3 4) (.refl _)
   · have hv6:o.verb=12∨o.verb=13∨o.verb=14∨o.verb=15∨o.verb=16∨o.verb=17:=by omega
     rcases hv6 with e | e | e | e | e | e<;>(try rw [e] at c1)<;>(try rw [e] at c2)<;>(try rw [e] at c3)<;>first | exact⟨by rw [e];rfl,by rw [e];rfl⟩ | exact absurd c1 (by decide) | exact absurd c2 (by decide) | exact absurd c3 (by decide)
  have c2p:=kz c2
  refine AJ (Gt (Ag rfl rfl) (Ga rfl (Gn (.t7 0 3 4 5 6 24 27) ?_)))
  refine Gc (fun c4=>?_) (fun c4=>?_)
  ·
   have c4p:=kz c4
   refine Gs (Ga rfl (Ga rfl (Gn (.t5 0 3 4 5 6) (Gs (Gm rfl (Gt (BT rfl) (Gn (.t6 0 3 4 5 6 31) ?_)))))))
   refine Gc (fun c5=>?_) (fun c5=>?_)
   ·
    have c5p:=kz c5
    refine AJ (Ga rfl ?_)
    refine AQ (AB (.t5 0 3 4 5 6) ?_)
    refine AW ?_
    refine Ed _ _ ?_ (.t5 5 6 0 3 4) (.refl _)
    · have hv6:o.verb=12∨o.verb=13∨o.verb=14∨o.verb=15∨o.verb=16∨o.verb=17:=by omega
      rcases hv6 with e | e | e | e | e | e<;>(try rw [e] at c1)<;>(try rw [e] at c2)<;>(try rw [e] at c4)<;>(try rw [e] at c5)<;>first | exact⟨by rw [e];rfl,by rw [e];rfl⟩ | exact absurd c1 (by decide) | exact absurd c2 (by decide) | exact absurd c4 (by decide) | exact absurd c5 (by decide)
   have c5p:=kz c5
   refine Aa ?_
   refine AB (.t5 0 3 4 5 6) ?_
   refine AW ?_
   refine Ed _ _ ?_ (.t5 5 6 0 3 4) (.refl _)
   · have hv6:o.verb=12∨o.verb=13∨o.verb=14∨o.verb=15∨o.verb=16∨o.verb=17:=by omega
     rcases hv6 with e | e | e | e | e | e<;>(try rw [e] at c1)<;>(try rw [e] at c2)<;>(try rw [e] at c4)<;>(try rw [e] at c5)<;>first | exact⟨by rw [e];rfl,by rw [e];rfl⟩ | exact absurd c1 (by decide) | exact absurd c2 (by decide) | exact absurd c4 (by decide) | exact absurd c5 (by decide)
  have c4p:=kz c4
  refine CD (Gt (Ag rfl rfl) (Ga rfl (Gn (.t7 0 3 4 5 6 24 32) ?_)))
  refine Gc (fun c6=>?_) (fun c6=>?_)
  ·
   have c6p:=kz c6
   refine Aa ?_
   refine AB (.t6 0 3 4 5 6 32) ?_
   refine AA ?_
   refine HA rfl c6 ?_
   refine Gs (Ga rfl (Ga rfl (Gn (.t5 0 3 4 5 6) (Gs (Gm rfl (Gt (BT rfl) (Gn (.t6 0 3 4 5 6 36) ?_)))))))
   refine Gc (fun c7=>?_) (fun c7=>?_)
   ·
    have c7p:=kz c7
    refine AJ (Ga rfl ?_)
    refine AQ (AB (.t5 0 3 4 5 6) ?_)
    refine AW ?_
    refine Ed _ _ ?_ (.t5 5 6 0 3 4) (.refl _)
    · have hv6:o.verb=12∨o.verb=13∨o.verb=14∨o.verb=15∨o.verb=16∨o.verb=17:=by omega
      rcases hv6 with e | e | e | e | e | e<;>(try rw [e] at c1)<;>(try rw [e] at c2)<;>(try rw [e] at c4)<;>(try rw [e] at c6)<;>(try rw [e] at c7)<;>first | exact⟨by rw [e];rfl,by rw [e];rfl⟩ | exact absurd c1 (by decide) | exact absurd c2 (by decide) | exact absurd c4 (by decide) | exact absurd c6 (by decide) | exact absurd c7 (by decide)
   have c7p:=kz c7
   refine Aa ?_
   refine AB (.t5 0 3 4 5 6) ?_
   refine AW ?_
   refine Ed _ _ ?_ (.t5 5 6 0 3 4) (.refl _)
   · have hv6:o.verb=12∨o.verb=13∨o.verb=14∨o.verb=15∨o.verb=16∨o.verb=17:=by omega
     rcases hv6 with e | e | e | e | e | e<;>(try rw [e] at c1)<;>(try rw [e] at c2)<;>(try rw [e] at c4)<;>(try rw [e] at c6)<;>(try rw [e] at c7)<;>first | exact⟨by rw [e];rfl,by rw [e];rfl⟩ | exact absurd c1 (by decide) | exact absurd c2 (by decide) | exact absurd c4 (by decide) | exact absurd c6 (by decide) | exact absurd c7 (by decide)
  have c6p:=kz c6
  refine AJ (Gt (Ag rfl rfl) (Ga rfl (Gn (.t6 0 3 4 5 6 32) ?_)))
  refine Gc (fun c8=>?_) (fun c8=>?_)
  ·
   have c8p:=kz c8
   refine Gs (Ga rfl (Ga rfl (Gn (.t5 0 3 4 5 6) (Gs (Gm rfl (Gt (BT rfl) (Gn (.t6 0 3 4 5 6 36) ?_)))))))
   refine Gc (fun c9=>?_) (fun c9=>?_)
   ·
    have c9p:=kz c9
    refine AJ (Ga rfl ?_)
    refine AQ (AB (.t5 0 3 4 5 6) ?_)
    refine AW ?_
    refine Ed _ _ ?_ (.t5 5 6 0 3 4) (.refl _)
    · have hv6:o.verb=12∨o.verb=13∨o.verb=14∨o.verb=15∨o.verb=16∨o.verb=17:=by omega
      rcases hv6 with e | e | e | e | e | e<;>(try rw [e] at c1)<;>(try rw [e] at c2)<;>(try rw [e] at c4)<;>(try rw [e] at c6)<;>(try rw [e] at c8)<;>(try rw [e] at c9)<;>first | exact⟨by rw [e];rfl,by rw [e];rfl⟩ | exact absurd c1 (by decide) | exact absurd c2 (by decide) | exact absurd c4 (by decide) | exact absurd c6 (by decide) | exact absurd c8 (by decide) | exact absurd c9 (by decide)
   have c9p:=kz c9
   refine Aa ?_
   refine AB (.t5 0 3 4 5 6) ?_
   refine AW ?_
   refine Ed _ _ ?_ (.t5 5 6 0 3 4) (.refl _)
   · have hv6:o.verb=12∨o.verb=13∨o.verb=14∨o.verb=15∨o.verb=16∨o.verb=17:=by omega
     rcases hv6 with e | e | e | e | e | e<;>(try rw [e] at c1)<;>(try rw [e] at c2)<;>(try rw [e] at c4)<;>(try rw [e] at c6)<;>(try rw [e] at c8)<;>(try rw [e] at c9)<;>first | exact⟨by rw [e];rfl,by rw [e];rfl⟩ | exact absurd c1 (by decide) | exact absurd c2 (by decide) | exact absurd c4 (by decide) | exact absurd c6 (by decide) | exact absurd c8 (by decide) | exact absurd c9 (by decide)
  have c8p:=kz c8
  refine Aa ?_
  refine AB (.t5 0 3 4 5 6) ?_
  refine AW ?_
  refine Ed _ _ ?_ (.t5 5 6 0 3 4) (.refl _)
  · have hv6:o.verb=12∨o.verb=13∨o.verb=14∨o.verb=15∨o.verb=16∨o.verb=17:=by omega
    rcases hv6 with e | e | e | e | e | e<;>(try rw [e] at c1)<;>(try rw [e] at c2)<;>(try rw [e] at c4)<;>(try rw [e] at c6)<;>(try rw [e] at c8)<;>first | exact⟨by rw [e];rfl,by rw [e];rfl⟩ | exact absurd c1 (by decide) | exact absurd c2 (by decide) | exact absurd c4 (by decide) | exact absurd c6 (by decide) | exact absurd c8 (by decide)
 obtain⟨rfl,rfl⟩:=hC
 refine CD (Gt (Ai Fy rfl) (Gt (AH rfl CO .m0 Order.l3 rfl rfl) ?_))
 refine BA rfl eC (.c rfl .n) (fun w hS=>KE _ w (gl0.stM gm0 hS)) ?_
 refine Gm rfl (Gt (AM rfl rfl) (Gt (AM rfl rfl) (Ga rfl (Ga rfl (Gn (.t7 0 3 4 5 6 7 8) (Gs (Gm rfl ?_)))))))
 refine Gm rfl (Bo 44 rfl rfl (fun q=>AF rfl) (Bo 44 rfl rfl (fun q=>Ag (Bj rfl q) rfl) (Gt (BK rfl rfl (fun h=>h)) (Gn (.t7 0 3 4 5 6 7 47) ?_))))
 refine Gc (fun c10=>?_) (fun c10=>?_)
 ·
  have c10p:=kz c10
  refine Gs (Gm rfl (Gm rfl (Gm rfl (Gm rfl ?_))))
  refine Ah rfl cx (.c rfl (.c rfl (.c rfl (.c rfl .n)))) (.c (.t .h) (.c (.t .h) .n)) (RH _ T _ _ _ _ hg hF (Words.Uz (Bool.and_eq_true_iff.1 c10).1) (by omega)) (fun v1 B hv=>?_)
  obtain⟨y2,rfl,y3,rfl⟩:=hv
  refine Gn (.nil _) (Ab (AD ?_))
  refine AY rfl .n ?_
  intro w1 hS
  have hS:=(hS.perm (Ay.perm (.c .h (.c .h .n)))).A1
  have hq:T.set o=_:=(BB c10)
  refine⟨_,⟨?gq1,rfl,?hl1,?hB1⟩,hS⟩
  case hB1=>rw [hq];(try rfl)
  case hl1=>rw [hq];assumption
 have c10p:=kz c10
 refine Aa ?_
 refine AB (.t5 0 3 4 5 6) ?_
 refine AA (Gs (Gm rfl ?_))
 refine Ah rfl Uf (.c rfl .n) (.c (.t .h) .n) (H5 _ T _ hF) (fun v4 B hv=>?_)
 obtain⟨y5,rfl,y6,rfl⟩:=hv
 refine Ga rfl (Gn (.t6 0 3 4 5 6 9) (CD (Gm rfl (Gt (Ag rfl rfl) (Gn (.t7 0 3 4 5 6 9 56) ?_)))))
 refine Gc (fun c11=>?_) (fun c11=>?_)
 ·
  have c11p:=kz c11
  refine AJ (Gm rfl (Gm rfl ?_))
  refine Ah rfl Yl (.c rfl .n) (.c .h .n) (JO _ T _ hF) (fun v8 B hv=>?_)
  obtain⟨y9,rfl,y10,rfl⟩:=hv
  refine CM B1 rfl Tryz.underlying169 DB cT rfl eh (by decide) (by decide) rfl rfl (fun w hS=>Src.Dq Tryz.underlying169 ((Kn.own .m1) w hS)) (by(try dsimp only);omega) (fun _=>(.t (.t .h))) (fun h12 h12l h12z=>?_)
  refine Ga rfl (Gn (.t6 0 3 4 5 6 9) (Gs (Gm rfl (Gm rfl (Gt (Ai GU rfl) (Gt (AH rfl A4 .m3 Order.l1 rfl rfl) (Gt (L8 rfl rfl) ?_)))))))
  refine Gt (Ai Fy rfl) (Gt (AH rfl CO .m3 Order.l3 rfl rfl) ?_)
  refine Ah rfl QA (.c rfl (.c rfl (.c rfl (.c rfl (.c rfl .n))))) (.c .h (.c (.t .h) .n)) (Ey _ T _ _ (T.own++T.seen) _ _ _ hF (by rw [List.length_append];omega) (by rw [List.length_append];omega) (fun i hi=>AE.RL hi)) (fun v13 B hv=>?_)
  obtain⟨y14,rfl,y15,rfl⟩:=hv
  refine Ga rfl (Gn (.t5 0 4 5 6 9) (Ae (Ap ?_)))
  have hx0:=AE.Sl (l:=(AE.BQ T.w (T.own++T.seen) (max o.nth 1) o.name false)) (fun i hi=>AE.RL (AE.Dt hi))
  refine BD (N:=18) [0,1,3,7,15,15,47,111,31,287,799,2047,4095,8191,15,32767,65535,131071] mix (by kernel_rfl) rfl ?_
  refine Pf 0 rfl (AF rfl) (Pf 1 rfl (Ar rfl Tryz.underlying169 rfl) (Pf 2 rfl (Ag rfl rfl) (Pf 3 rfl (AF rfl) (Ht 4 82 rfl rfl rfl (fun q=>AF rfl) (Ht 5 82 rfl rfl rfl (fun q=>AF rfl) ?_)))))
  refine Bb 6 rfl rfl (by kernel_rfl) (HE (t:=82) rfl rfl (fun q=>by have q1:=q;(try simp at q1);exact Is (Bp Gg (by decide) (Kn.own .m2) (cF rfl q) rfl (by omega) (by first | omega | (simp at q ⊢;omega))))) ?_
  refine Bb 7 rfl rfl (by kernel_rfl) (HE (t:=82) rfl rfl (fun q=>by have q1:=q;(try simp at q1);exact Is (DN (cF rfl q) A4 (Kn.own .m2) (by first | omega | (simp at q ⊢;omega))))) ?_
  refine Ht 8 82 rfl rfl rfl (fun q=>BV (cF rfl q)) (Ht 9 82 rfl rfl rfl (fun q=>Ai A9 (cF rfl q)) (Ht 10 82 rfl rfl rfl (fun q=>Ai Cx (cF rfl q)) ?_))
  refine Bb 11 rfl rfl (by kernel_rfl) (HE (t:=82) rfl rfl (fun q=>by have q1:=q;(try simp at q1);exact Is (AS GO (cF rfl q) (cF rfl q) (by first | omega | exact hb.1 | exact hb.2 | exact hx0.1 | exact hx0.2 | (dsimp only;omega)) (by first | omega | exact hb.1 | exact hb.2 | exact hx0.1 | exact hx0.2 | (dsimp only;omega))))) ?_
  refine Ht 12 82 rfl rfl rfl (fun q=>Ai G1 (cF rfl q)) ?_
  refine Bb 13 rfl rfl (by kernel_rfl) (HE (t:=82) rfl rfl (fun q=>by have q1:=q;(try simp at q1);exact Is (AH (cF rfl q) A4 .m0 (((Ad.l0.comp AG.l1).comp (AU.ar (n:=9) Am.fl (by first | omega | exact hb | exact hx0 | (dsimp only;omega)))).comp Am.l1) rfl rfl))) ?_
  refine Ht 14 82 rfl rfl rfl (fun q=>AF rfl) (Ht 15 82 rfl rfl rfl (fun q=>Ca (cF rfl q) (cF rfl q)) ?_)
  refine Pf 16 rfl (BR rfl rfl (fun h=>by rw [h];rfl)) ?_
  refine Pf 17 rfl (A0 rfl) ?_
  refine A3 (by kernel_rfl) ?_
  refine AB (.t6 0 4 5 6 9 78) ?_
  refine AA ?_
  refine Gc (fun c12=>?_) (fun c12=>?_)
  ·
   have c12p:=kz c12
   rw [y15] at c12 c12p
   have hsl:T.ET o=(AE.BQ T.w (T.own++T.seen) (max o.nth 1) o.name false):=congrArg (fun q=>AE.BQ T.w q _ _ _) (BB c11)
   refine AJ (Gm rfl ?_)
   refine Ah rfl EI (.c rfl (.c rfl .n)) (.c .h (.c (.t (.t (.t (.t .h)))) .n)) (Be _ _ _ _ hg hb (by omega)) (fun v17 B hv=>?_)
   obtain⟨y18,rfl,y19,rfl⟩:=hv
   refine AQ (AB (.nil _) ?_)
   refine AW ?_
   refine Bk rfl .n ?_
   intro w1 hS
   have hS:=(hS.perm (Ay.perm (.c .h (.c .h .n)))).A1
   have d0:(decide (((T.ET o).length:Int)=0) || !decide ((T.w.AO.at ((T.ET o).getD 0 0)).kind=AE.setKind o.verb))=true:=by rw [hsl];exact c12
   have hq:T.set o=_:=(AX c10).trans (BB d0)
   (try rw [hsl] at hq)
   refine⟨_,⟨?gq2,rfl,?hl2,?hB2⟩,hS⟩
   case hB2=>rw [hq];(try rfl)
   case hl2=>rw [hq];assumption
  have c12p:=kz c12
  rw [y15] at c12 c12p
  have hsl:T.ET o=(AE.BQ T.w (T.own++T.seen) (max o.nth 1) o.name false):=congrArg (fun q=>AE.BQ T.w q _ _ _) (BB c11)
  refine Ap ?_
  refine BD (N:=13) [0,0,2,6,1,17,49,127,255,511,0,2047,4095] mix (by kernel_rfl) rfl ?_
  refine Pf 0 rfl (AF rfl) (Pf 1 rfl (AF rfl) ?_)
  refine Pf 2 rfl (Bp Gg (by decide) (Kn.own .m2) rfl rfl (by omega) (by first | omega | (simp at q ⊢;omega))) ?_
  refine Pf 3 rfl (DN rfl A4 (Kn.own .m2) (by first | omega | (simp at q ⊢;omega))) ?_
  refine Pf 4 rfl (BV rfl) (Pf 5 rfl (Ai A9 rfl) (Pf 6 rfl (Ai Cx rfl) ?_))
  refine Pf 7 rfl (AS GO rfl rfl (by first | omega | exact hb.1 | exact hb.2 | exact hx0.1 | exact hx0.2 | (dsimp only;omega)) (by first | omega | exact hb.1 | exact hb.2 | exact hx0.1 | exact hx0.2 | (dsimp only;omega))) ?_
  refine Pf 8 rfl (Ai GN rfl) ?_
  refine Pf 9 rfl (AH rfl Dr .m0 (((Ad.l0.comp AG.l1).comp (AU.ar (n:=9) Am.fl (by first | omega | exact hb | exact hx0 | (dsimp only;omega)))).comp Am.l4) rfl rfl) ?_
  refine Pf 10 rfl (AF rfl) (Pf 11 rfl (Jf Tryz.underlying4 rfl rfl) (Pf 12 rfl (A0 rfl) ?_))
  refine A3 (by kernel_rfl) ?_
  refine AB (.t6 0 4 5 6 9 98) ?_
  refine AA ?_
  refine Gc (fun c13=>?_) (fun c13=>?_)
  ·
   have c13p:=kz c13
   refine AJ (Gm rfl ?_)
   refine Ah rfl EI (.c rfl (.c rfl .n)) (.c .h (.c (.t (.t (.t (.t .h)))) .n)) (Be _ _ _ _ hg hb (by omega)) (fun v20 B hv=>?_)
   obtain⟨y21,rfl,y22,rfl⟩:=hv
   refine AQ (AB (.nil _) ?_)
   refine AW ?_
   refine Bk rfl .n ?_
   intro w1 hS
   have hS:=(hS.perm (Ay.perm (.c .h (.c .h .n)))).A1
   have d0:(decide (((T.ET o).length:Int)=0) || !decide ((T.w.AO.at ((T.ET o).getD 0 0)).kind=AE.setKind o.verb))=false:=by rw [hsl];exact c12
   have d1:((T.w.AO.at ((T.ET o).getD 0 0)).on == AE.Ho o.verb)=true:=by rw [hsl];exact c13
   have hq:T.set o=_:=(AX c10).trans ((AX d0).trans (BB d1))
   (try rw [hsl] at hq)
   refine⟨_,⟨?gq3,rfl,?hl3,?hB3⟩,hS⟩
   case hB3=>rw [hq];(try rfl)
   case hl3=>rw [hq];assumption
  have c13p:=kz c13
  refine Gs (Gm rfl (Ga rfl (Gn (.t6 0 4 5 6 9 113) ?_)))
  refine Gc (fun c14=>?_) (fun c14=>?_)
  ·
   have c14p:=kz c14
   refine AJ (Gm rfl (Gm rfl (Gt (Ca rfl rfl) (Gm rfl ?_))))
   refine Gt (Bp Gg (by decide) (Kn.own .m2) rfl rfl (by omega) (by first | omega | (simp at q ⊢;omega))) ?_
   refine Gt (DN rfl A4 (Kn.own .m2) (by first | omega | (simp at q ⊢;omega))) ?_
   refine Gm rfl (Gm rfl ?_)
   refine Ah rfl Uq (.c rfl (.c rfl (.c rfl (.c rfl (.c rfl .n))))) (.c .h (.c (.t (.t (.t (.t .h)))) .n)) (F5 _ T _ (!decide (AE.setKind o.verb=2)) ((AE.BQ T.w (T.own++T.seen) (max o.nth 1) o.name false).getD (0:Int).toNat 0) _ _ hg hb hx0 (by omega)) (fun v23 B hv=>?_)
   obtain⟨y24,rfl,y25,rfl⟩:=hv
   refine AQ (AB (.nil _) ?_)
   refine AW ?_
   refine Bk rfl .n ?_
   intro w1 hS
   have hS:=(hS.perm (Ay.perm (.c .h (.c .h .n)))).A1
   have d0:(decide (((T.ET o).length:Int)=0) || !decide ((T.w.AO.at ((T.ET o).getD 0 0)).kind=AE.setKind o.verb))=false:=by rw [hsl];exact c12
   have d1:((T.w.AO.at ((T.ET o).getD 0 0)).on == AE.Ho o.verb)=false:=by rw [hsl];exact c13
   have d2:AE.Ho o.verb=true:=c14
   have hq:T.set o=_:=(AX c10).trans ((AX d0).trans ((AX d1).trans (BB d2)))
   (try rw [hsl] at hq)
   refine⟨_,⟨?gq4,rfl,?hl4,?hB4⟩,hS⟩
   case hB4=>rw [hq];(try rfl)
   case hl4=>rw [hq];assumption
  have c14p:=kz c14
  refine AJ (Gm rfl (Gm rfl (Gt (Ag rfl rfl) (Gm rfl ?_))))
  refine Gt (Bp Gg (by decide) (Kn.own .m2) rfl rfl (by omega) (by first | omega | (simp at q ⊢;omega))) ?_
  refine Gt (DN rfl A4 (Kn.own .m2) (by first | omega | (simp at q ⊢;omega))) ?_
  refine Gm rfl (Gm rfl ?_)
  refine Ah rfl Uq (.c rfl (.c rfl (.c rfl (.c rfl (.c rfl .n))))) (.c .h (.c (.t (.t (.t (.t .h)))) .n)) (F5 _ T _ (decide (AE.setKind o.verb=2)) ((AE.BQ T.w (T.own++T.seen) (max o.nth 1) o.name false).getD (0:Int).toNat 0) _ _ hg hb hx0 (by omega)) (fun v26 B hv=>?_)
  obtain⟨y27,rfl,y28,rfl⟩:=hv
  refine AQ (AB (.nil _) ?_)
  refine AW ?_
  refine Bk rfl .n ?_
  intro w1 hS
  have hS:=(hS.perm (Ay.perm (.c .h (.c .h .n)))).A1
  have d0:(decide (((T.ET o).length:Int)=0) || !decide ((T.w.AO.at ((T.ET o).getD 0 0)).kind=AE.setKind o.verb))=false:=by rw [hsl];exact c12
  have d1:((T.w.AO.at ((T.ET o).getD 0 0)).on == AE.Ho o.verb)=false:=by rw [hsl];exact c13
  have d2:AE.Ho o.verb=false:=c14
  have hq:T.set o=_:=(AX c10).trans ((AX d0).trans ((AX d1).trans (AX d2)))
  (try rw [hsl] at hq)
  refine⟨_,⟨?gq5,rfl,?hl5,?hB5⟩,hS⟩
  case hB5=>rw [hq];(try rfl)
  case hl5=>rw [hq];assumption
 have c11p:=kz c11
 refine Aa ?_
 refine AB (.t6 0 3 4 5 6 9) ?_
 refine AA (Gs (Gm rfl (Gm rfl (Gt (Ai GU rfl) (Gt (AH rfl A4 .m2 Order.l1 rfl rfl) (Gt (L8 rfl rfl) (Gt (Ai Fy rfl) ?_)))))))
 refine Gt (AH rfl CO .m2 Order.l3 rfl rfl) ?_
 refine Ah rfl QA (.c rfl (.c rfl (.c rfl (.c rfl (.c rfl .n))))) (.c .h (.c .h .n)) (Ey _ T _ _ T.own _ _ _ hF (by assumption) (by omega) (fun i hi=>AE.Lj hi)) (fun v29 B hv=>?_)
 obtain⟨y30,rfl,y31,rfl⟩:=hv
 refine Ga rfl (Gn (.t5 0 4 5 6 9) (Ae (Ap ?_)))
 have hx0:=AE.Sl (l:=(AE.BQ T.w T.own (max o.nth 1) o.name false)) (fun i hi=>AE.Lj (AE.Dt hi))
 refine BD (N:=18) [0,1,3,7,15,15,47,111,31,287,799,2047,4095,8191,15,32767,65535,131071] mix (by kernel_rfl) rfl ?_
 refine Pf 0 rfl (AF rfl) (Pf 1 rfl (Ar rfl Tryz.underlying169 rfl) (Pf 2 rfl (Ag rfl rfl) (Pf 3 rfl (AF rfl) (Ht 4 82 rfl rfl rfl (fun q=>AF rfl) (Ht 5 82 rfl rfl rfl (fun q=>AF rfl) ?_)))))
 refine Bb 6 rfl rfl (by kernel_rfl) (HE (t:=82) rfl rfl (fun q=>by have q1:=q;(try simp at q1);exact Is (Bp Gg (by decide) (Kn.own .m2) (cF rfl q) rfl (by omega) (by first | omega | (simp at q ⊢;omega))))) ?_
 refine Bb 7 rfl rfl (by kernel_rfl) (HE (t:=82) rfl rfl (fun q=>by have q1:=q;(try simp at q1);exact Is (DN (cF rfl q) A4 (Kn.own .m2) (by first | omega | (simp at q ⊢;omega))))) ?_
 refine Ht 8 82 rfl rfl rfl (fun q=>BV (cF rfl q)) (Ht 9 82 rfl rfl rfl (fun q=>Ai A9 (cF rfl q)) (Ht 10 82 rfl rfl rfl (fun q=>Ai Cx (cF rfl q)) ?_))
 refine Bb 11 rfl rfl (by kernel_rfl) (HE (t:=82) rfl rfl (fun q=>by have q1:=q;(try simp at q1);exact Is (AS GO (cF rfl q) (cF rfl q) (by first | omega | exact hb.1 | exact hb.2 | exact hx0.1 | exact hx0.2 | (dsimp only;omega)) (by first | omega | exact hb.1 | exact hb.2 | exact hx0.1 | exact hx0.2 | (dsimp only;omega))))) ?_
 refine Ht 12 82 rfl rfl rfl (fun q=>Ai G1 (cF rfl q)) ?_
 refine Bb 13 rfl rfl (by kernel_rfl) (HE (t:=82) rfl rfl (fun q=>by have q1:=q;(try simp at q1);exact Is (AH (cF rfl q) A4 .m0 (((Ad.l0.comp AG.l1).comp (AU.ar (n:=9) Am.fl (by first | omega | exact hb | exact hx0 | (dsimp only;omega)))).comp Am.l1) rfl rfl))) ?_
 refine Ht 14 82 rfl rfl rfl (fun q=>AF rfl) (Ht 15 82 rfl rfl rfl (fun q=>Ca (cF rfl q) (cF rfl q)) ?_)
 refine Pf 16 rfl (BR rfl rfl (fun h=>by rw [h];rfl)) ?_
 refine Pf 17 rfl (A0 rfl) ?_
 refine A3 (by kernel_rfl) ?_
 refine AB (.t6 0 4 5 6 9 78) ?_
 refine AA ?_
 refine Gc (fun c15=>?_) (fun c15=>?_)
 ·
  have c15p:=kz c15
  rw [y31] at c15 c15p
  have hsl:T.ET o=(AE.BQ T.w T.own (max o.nth 1) o.name false):=congrArg (fun q=>AE.BQ T.w q _ _ _) (AX c11)
  refine AJ (Gm rfl ?_)
  refine Ah rfl EI (.c rfl (.c rfl .n)) (.c .h (.c (.t (.t (.t .h))) .n)) (Be _ _ _ _ hg hb (by omega)) (fun v33 B hv=>?_)
  obtain⟨y34,rfl,y35,rfl⟩:=hv
  refine AQ (AB (.nil _) ?_)
  refine AW ?_
  refine Bk rfl .n ?_
  intro w1 hS
  have hS:=(hS.perm (Ay.perm (.c .h (.c .h .n)))).A1
  have d0:(decide (((T.ET o).length:Int)=0) || !decide ((T.w.AO.at ((T.ET o).getD 0 0)).kind=AE.setKind o.verb))=true:=by rw [hsl];exact c15
  have hq:T.set o=_:=(AX c10).trans (BB d0)
  (try rw [hsl] at hq)
  refine⟨_,⟨?gq6,rfl,?hl6,?hB6⟩,hS⟩
  case hB6=>rw [hq];(try rfl)
  case hl6=>rw [hq];assumption
 have c15p:=kz c15
 rw [y31] at c15 c15p
 have hsl:T.ET o=(AE.BQ T.w T.own (max o.nth 1) o.name false):=congrArg (fun q=>AE.BQ T.w q _ _ _) (AX c11)
 refine Ap ?_
 refine BD (N:=13) [0,0,2,6,1,17,49,127,255,511,0,2047,4095] mix (by kernel_rfl) rfl ?_
 refine Pf 0 rfl (AF rfl) (Pf 1 rfl (AF rfl) ?_)
 refine Pf 2 rfl (Bp Gg (by decide) (Kn.own .m2) rfl rfl (by omega) (by first | omega | (simp at q ⊢;omega))) ?_
 refine Pf 3 rfl (DN rfl A4 (Kn.own .m2) (by first | omega | (simp at q ⊢;omega))) ?_
 refine Pf 4 rfl (BV rfl) (Pf 5 rfl (Ai A9 rfl) (Pf 6 rfl (Ai Cx rfl) ?_))
 refine Pf 7 rfl (AS GO rfl rfl (by first | omega | exact hb.1 | exact hb.2 | exact hx0.1 | exact hx0.2 | (dsimp only;omega)) (by first | omega | exact hb.1 | exact hb.2 | exact hx0.1 | exact hx0.2 | (dsimp only;omega))) ?_
 refine Pf 8 rfl (Ai GN rfl) ?_
 refine Pf 9 rfl (AH rfl Dr .m0 (((Ad.l0.comp AG.l1).comp (AU.ar (n:=9) Am.fl (by first | omega | exact hb | exact hx0 | (dsimp only;omega)))).comp Am.l4) rfl rfl) ?_
 refine Pf 10 rfl (AF rfl) (Pf 11 rfl (Jf Tryz.underlying4 rfl rfl) (Pf 12 rfl (A0 rfl) ?_))
 refine A3 (by kernel_rfl) ?_
 refine AB (.t6 0 4 5 6 9 98) ?_
 refine AA ?_
 refine Gc (fun c16=>?_) (fun c16=>?_)
 ·
  have c16p:=kz c16
  refine AJ (Gm rfl ?_)
  refine Ah rfl EI (.c rfl (.c rfl .n)) (.c .h (.c (.t (.t (.t .h))) .n)) (Be _ _ _ _ hg hb (by omega)) (fun v36 B hv=>?_)
  obtain⟨y37,rfl,y38,rfl⟩:=hv
  refine AQ (AB (.nil _) ?_)
  refine AW ?_
  refine Bk rfl .n ?_
  intro w1 hS
  have hS:=(hS.perm (Ay.perm (.c .h (.c .h .n)))).A1
  have d0:(decide (((T.ET o).length:Int)=0) || !decide ((T.w.AO.at ((T.ET o).getD 0 0)).kind=AE.setKind o.verb))=false:=by rw [hsl];exact c15
  have d1:((T.w.AO.at ((T.ET o).getD 0 0)).on == AE.Ho o.verb)=true:=by rw [hsl];exact c16
  have hq:T.set o=_:=(AX c10).trans ((AX d0).trans (BB d1))
  (try rw [hsl] at hq)
  refine⟨_,⟨?gq7,rfl,?hl7,?hB7⟩,hS⟩
  case hB7=>rw [hq];(try rfl)
  case hl7=>rw [hq];assumption
 have c16p:=kz c16
 refine Gs (Gm rfl (Ga rfl (Gn (.t6 0 4 5 6 9 113) ?_)))
 refine Gc (fun c17=>?_) (fun c17=>?_)
 ·
  have c17p:=kz c17
  refine AJ (Gm rfl (Gm rfl (Gt (Ca rfl rfl) (Gm rfl ?_))))
  refine Gt (Bp Gg (by decide) (Kn.own .m2) rfl rfl (by omega) (by first | omega | (simp at q ⊢;omega))) ?_
  refine Gt (DN rfl A4 (Kn.own .m2) (by first | omega | (simp at q ⊢;omega))) ?_
  refine Gm rfl (Gm rfl ?_)
  refine Ah rfl Uq (.c rfl (.c rfl (.c rfl (.c rfl (.c rfl .n))))) (.c .h (.c (.t (.t (.t .h))) .n)) (F5 _ T _ (!decide (AE.setKind o.verb=2)) ((AE.BQ T.w T.own (max o.nth 1) o.name false).getD (0:Int).toNat 0) _ _ hg hb hx0 (by omega)) (fun v39 B hv=>?_)
  obtain⟨y40,rfl,y41,rfl⟩:=hv
  refine AQ (AB (.nil _) ?_)
  refine AW ?_
  refine Bk rfl .n ?_
  intro w1 hS
  have hS:=(hS.perm (Ay.perm (.c .h (.c .h .n)))).A1
  have d0:(decide (((T.ET o).length:Int)=0) || !decide ((T.w.AO.at ((T.ET o).getD 0 0)).kind=AE.setKind o.verb))=false:=by rw [hsl];exact c15
  have d1:((T.w.AO.at ((T.ET o).getD 0 0)).on == AE.Ho o.verb)=false:=by rw [hsl];exact c16
  have d2:AE.Ho o.verb=true:=c17
  have hq:T.set o=_:=(AX c10).trans ((AX d0).trans ((AX d1).trans (BB d2)))
  (try rw [hsl] at hq)
  refine⟨_,⟨?gq8,rfl,?hl8,?hB8⟩,hS⟩
  case hB8=>rw [hq];(try rfl)
  case hl8=>rw [hq];assumption
 have c17p:=kz c17
 refine AJ (Gm rfl (Gm rfl (Gt (Ag rfl rfl) (Gm rfl ?_))))
 refine Gt (Bp Gg (by decide) (Kn.own .m2) rfl rfl (by omega) (by first | omega | (simp at q ⊢;omega))) ?_
 refine Gt (DN rfl A4 (Kn.own .m2) (by first | omega | (simp at q ⊢;omega))) ?_
 refine Gm rfl (Gm rfl ?_)
 refine Ah rfl Uq (.c rfl (.c rfl (.c rfl (.c rfl (.c rfl .n))))) (.c .h (.c (.t (.t (.t .h))) .n)) (F5 _ T _ (decide (AE.setKind o.verb=2)) ((AE.BQ T.w T.own (max o.nth 1) o.name false).getD (0:Int).toNat 0) _ _ hg hb hx0 (by omega)) (fun v42 B hv=>?_)
 obtain⟨y43,rfl,y44,rfl⟩:=hv
 refine AQ (AB (.nil _) ?_)
 refine AW ?_
 refine Bk rfl .n ?_
 intro w1 hS
 have hS:=(hS.perm (Ay.perm (.c .h (.c .h .n)))).A1
 have d0:(decide (((T.ET o).length:Int)=0) || !decide ((T.w.AO.at ((T.ET o).getD 0 0)).kind=AE.setKind o.verb))=false:=by rw [hsl];exact c15
 have d1:((T.w.AO.at ((T.ET o).getD 0 0)).on == AE.Ho o.verb)=false:=by rw [hsl];exact c16
 have d2:AE.Ho o.verb=false:=c17
 have hq:T.set o=_:=(AX c10).trans ((AX d0).trans ((AX d1).trans (AX d2)))
 (try rw [hsl] at hq)
 refine⟨_,⟨?gq9,rfl,?hl9,?hB9⟩,hS⟩
 case hB9=>rw [hq];(try rfl)
 case hl9=>rw [hq];assumption
theorem GW (X:AG)(b:Int)(o:Order)(hw:X.DL)(hu:o.second.length≤5000000)(hm:o.name.length≤5000000):FC Tryz.prog 84 #[.agg X.enc.toArray, .int .i64 b, .agg o.enc.toArray] [] (fun w=>(GV 0 AG.DE w∧0 ∉ Cc [])∧(G0 7 w∧7 ∉ Cc [])∧(G0 8 w∧8 ∉ Cc [])) (fun v B=>∃ h:Hd,v = .tuple #[.agg ((AE.EF X b o).1.enc).toArray,h.val, .int .i64 (AE.EF X b o).2.2]∧h.len=(AE.EF X b o).2.1.length∧B = [Ac.own h 56 16 ((AE.EF X b o).2.1.flatMap Ing.Event.enc)]):=by
 intro w hS0 hH
 obtain⟨⟨gl0,gm0⟩,⟨gl1,gm1⟩,⟨gl2,gm2⟩⟩:=hH
 refine Al _ _ Tryz.func84 rfl rfl rfl (hS0) ?_
 refine Gs ?_
 refine B5 rfl rfl rfl (fun b1=>?_)
 refine B5 rfl rfl rfl (fun b2=>?_)
 refine BH rfl NS rfl (fun b3=>?_)
 refine Ga rfl (Ga rfl (Gn (.t4 1 3 5 6) (Ap (Ae (Gs (Gt (AZ rfl BZ .m2 (AU.id AG.fl.len AG.fl.one) rfl) ?_))))))
 refine BA rfl bx (.c rfl .n) (fun w hS=>HZ _ w) ?_
 refine Gt (BT rfl) (Ga rfl (Gn (.t5 1 3 5 6 10) ?_))
 refine Gc (fun c1=>?_) (fun c1=>?_)
 ·
  refine Gs (Gt (AZ rfl BZ .m2 (AU.id AG.fl.len AG.fl.one) rfl) ?_)
  refine AT (AK (AU.id AG.fl.len AG.fl.one) rfl rfl rfl EC rfl .h) ?_
  refine Ga rfl (Ga rfl (Gn (.t3 6 7 8) (Ab (AR (AD ?_)))))
  refine AY rfl (.cell rfl .m0 (.inl ⟨(by rw [AG.fl.len];exact BZ),rfl⟩) (.tmp rfl (.tmp rfl .n))) ?_
  intro w1 hS
  have hS:=hS.Cr 56 16
  have hS:=(hS.perm (Ay.perm (.c .h .n))).A1
  have hq:AE.EF X b o=_:=(BB c1)
  refine⟨_,⟨⟨none,0,0⟩,?hv1,?hl1,?hB1⟩,hS⟩
  case hv1=>rw [hq];rfl
  case hl1=>rw [hq];rfl
  case hB1=>rw [hq];rfl
 have c1p:=kz c1
 refine Gs (Gm rfl (Gt (A8 rfl rfl) (Gm rfl (Bc 18 rfl rfl (fun q=>AF rfl) (Bc 18 rfl rfl (fun q=>CV (cF rfl q) rfl) ?_)))))
 refine Gt (BR rfl rfl (fun h=>by rw [h];rfl)) ?_
 refine Gm rfl (Bc 22 rfl rfl (fun q=>AF rfl) (Bc 22 rfl rfl (fun q=>Ai Bs rfl) ?_))
 refine Bc 22 rfl rfl (fun q=>by have q1:=q;(try simp at q1);exact AS C8 (cF rfl q) (cF rfl q) (by first | omega | exact hb.1 | exact hb.2 | (dsimp only;omega)) (by first | omega | exact hb.1 | exact hb.2 | (dsimp only;omega))) ?_
 refine Bc 22 rfl rfl (fun q=>Ai IW (cF rfl q)) ?_
 refine Bc 22 rfl rfl (fun q=>by have q1:=q;(try simp at q1);exact AH (cF rfl q) Dr .m2 ((AG.l2.comp (AU.ar (n:=6) Aj.fl (by first | omega | exact hb | (dsimp only;omega)))).comp Aj.l1) rfl rfl) ?_
 refine Bc 22 rfl rfl (fun q=>BT (cF rfl q)) ?_
 refine Gt (BR rfl rfl (fun h=>by rw [h];rfl)) ?_
 refine Ga rfl (Gn (.t5 1 3 5 6 15) ?_)
 refine Gc (fun c2=>?_) (fun c2=>?_)
 ·
  refine Gs (Gt (AZ rfl BZ .m2 (AU.id AG.fl.len AG.fl.one) rfl) ?_)
  refine AT (AK (AU.id AG.fl.len AG.fl.one) rfl rfl rfl EC rfl .h) ?_
  refine Ga rfl (Ga rfl (Gn (.t3 6 7 8) (Ab (AR (AD ?_)))))
  refine AY rfl (.cell rfl .m0 (.inl ⟨(by rw [AG.fl.len];exact BZ),rfl⟩) (.tmp rfl (.tmp rfl .n))) ?_
  intro w1 hS
  have hS:=hS.Cr 56 16
  have hS:=(hS.perm (Ay.perm (.c .h .n))).A1
  have hq:AE.EF X b o=_:=((AX c1).trans (BB c2))
  refine⟨_,⟨⟨none,0,0⟩,?hv2,?hl2,?hB2⟩,hS⟩
  case hv2=>rw [hq];rfl
  case hl2=>rw [hq];rfl
  case hB2=>rw [hq];rfl
 have c2p:=kz c2
 refine Gs (Gt (Ai DI rfl) (Gt (AH rfl A4 .m1 Order.l0 rfl rfl) (Gt (A8 rfl rfl) (Gm rfl (Bc 35 rfl rfl (fun q=>Ai DI rfl) (Bc 35 rfl rfl (fun q=>AH (cF rfl q) A4 .m1 Order.l0 rfl rfl) (Bc 35 rfl rfl (fun q=>Cn (cF rfl q) rfl) ?_)))))))
 refine Gt (BR rfl rfl (fun h=>by rw [h];rfl)) ?_
 refine Ga rfl (Gn (.t5 1 3 5 6 31) ?_)
 refine Gc (fun c3=>?_) (fun c3=>?_)
 ·
  refine Gs (Gt (AZ rfl BZ .m2 (AU.id AG.fl.len AG.fl.one) rfl) ?_)
  refine AT (AK (AU.id AG.fl.len AG.fl.one) rfl rfl rfl EC rfl .h) ?_
  refine Ga rfl (Ga rfl (Gn (.t3 6 7 8) (Ab (AR (AD ?_)))))
  refine AY rfl (.cell rfl .m0 (.inl ⟨(by rw [AG.fl.len];exact BZ),rfl⟩) (.tmp rfl (.tmp rfl .n))) ?_
  intro w1 hS
  have hS:=hS.Cr 56 16
  have hS:=(hS.perm (Ay.perm (.c .h .n))).A1
  have hq:AE.EF X b o=_:=((AX c1).trans ((AX c2).trans (BB c3)))
  refine⟨_,⟨⟨none,0,0⟩,?hv3,?hl3,?hB3⟩,hS⟩
  case hv3=>rw [hq];rfl
  case hl3=>rw [hq];rfl
  case hB3=>rw [hq];rfl
 have c3p:=kz c3
 have hF:=AE.WD hw c1 c2
 have hb:=hF.b
 refine Aa ?_
 refine AB (.t4 1 3 5 6) ?_
 refine AW (AA (Gs (Gt (AZ rfl BZ .m2 (AU.id AG.fl.len AG.fl.one) rfl) (Gm rfl (Gt (BC Um VD rfl (.cons Ad.l0 rfl rfl rfl (.cons Ad.l1 rfl rfl rfl .nil))) ?_)))))
 refine B5 rfl rfl rfl (fun b4=>?_)
 refine Ga rfl (Gn (.t4 1 5 6 9) (Ap (Ae (Gs (Gt (Ai DI rfl) (Gt (AH rfl A4 .m2 Order.l0 rfl rfl) (Gt (A8 rfl rfl) ?_)))))))
 refine Ga rfl (Gn (.t5 1 5 6 9 48) ?_)
 refine Gc (fun c4=>?_) (fun c4=>?_)
 ·
  have c4p:=kz c4
  refine AJ (Gm rfl (Gt (Ai DI rfl) (Gt (AH rfl A4 .m2 Order.l0 rfl rfl) ?_)))
  refine Dp Ing.Event.enc 56 16 ?_
  refine BE rfl fc (.c rfl (.c rfl .n)) (.c (.t .h) (.c .h .n)) (Rm _ (⟨X,b,[]⟩:AE) _ o.verb rfl hF (by omega) (Nat.zero_le _)) (fun w hS=>gl0.pull gm0 hS (.c (.t .h) (.c .h .n))) (fun v5 B hv=>?_)
  obtain⟨y6,rfl,y7,rfl⟩:=hv
  refine AQ (AB (.t2 6 9) ?_)
  refine AW (AA (Ap ?_))
  refine BD (N:=11) [0,1,3,7,0,16,48,112,15,511,1023] mix (by kernel_rfl) rfl ?_
  refine Pf 0 rfl (AF rfl) (Pf 1 rfl (BV rfl) (Pf 2 rfl (Ai A9 rfl) (Pf 3 rfl (AZ rfl BZ .m0 Ad.l0 rfl) (Pf 4 rfl (AF rfl) (Pf 5 rfl (BV rfl) (Pf 6 rfl (Ai CL rfl) (Pf 7 rfl (AH rfl Dn .m0 Ad.l2 rfl rfl) ?_)))))))
  refine An 8 rfl (by kernel_rfl) ?_
  refine AT (AK (AU.id AG.fl.len AG.fl.one) rfl rfl rfl EC rfl (.t (.t .h))) ?_
  refine BO rfl ⟨?_,?_⟩
  · exact(Po rfl (AH rfl Dn .m0 Ad.l2 rfl rfl) rfl rfl (Po rfl (Ai CL rfl) rfl rfl (Po rfl (BV rfl) rfl rfl (Po rfl (AF rfl) rfl rfl (Pk (Pk (Pk (Pk As))))))))
  refine Pf 9 rfl (A0 rfl) (Pf 10 rfl (A0 rfl) ?_)
  refine A3 (by kernel_rfl) ?_
  refine AB (.t3 6 7 8) ?_
  refine AA (Ab ?_)
  refine AY rfl (.cell rfl .m2 (.inl ⟨(by rw [AG.fl.len];exact BZ),rfl⟩) (.tmp rfl (.tmp rfl .n))) ?_
  intro w1 hS
  have hS:=(hS.perm (Ay.perm (.c (.t .h) .n))).A1
  have ha:AE.act (⟨X,b,[]⟩:AE) o=_:=(BB c4)
  have hq:AE.EF X b o=((AE.act (⟨X,b,[]⟩:AE) o).w,(AE.act (⟨X,b,[]⟩:AE) o).out,0):=((AX c1).trans ((AX c2).trans (AX c3)))
  rw [ha] at hq
  refine⟨_,⟨?gq4,?hv4,?hl4,?hB4⟩,hS⟩
  case hB4=>rw [hq];(try rfl)
  case hv4=>rw [hq];(try rfl)
  case hl4=>rw [hq];(try dsimp only);exact y7
 have c4p:=kz c4
 refine Gs (Gt (Ai DI rfl) (Gt (AH rfl A4 .m2 Order.l0 rfl rfl) (Gt (Ag rfl rfl) (Ga rfl (Gn (.t5 1 5 6 9 56) ?_)))))
 refine Gc (fun c5=>?_) (fun c5=>?_)
 ·
  refine AJ (Gm rfl ?_)
  refine Dp Ing.Event.enc 56 16 ?_
  refine BE rfl VC (.c rfl .n) (.c (.t .h) (.c .h .n)) (HL _ (⟨X,b,[]⟩:AE) _ rfl hF.b hF.br (Nat.zero_le _)) (fun w hS=>gl0.pull gm0 hS (.c (.t .h) (.c .h .n))) (fun v9 B hv=>?_)
  obtain⟨y10,rfl,y11,rfl⟩:=hv
  refine AQ (AB (.t2 6 9) ?_)
  refine AW (AA (Ap ?_))
  refine BD (N:=11) [0,1,3,7,0,16,48,112,15,511,1023] mix (by kernel_rfl) rfl ?_
  refine Pf 0 rfl (AF rfl) (Pf 1 rfl (BV rfl) (Pf 2 rfl (Ai A9 rfl) (Pf 3 rfl (AZ rfl BZ .m0 Ad.l0 rfl) (Pf 4 rfl (AF rfl) (Pf 5 rfl (BV rfl) (Pf 6 rfl (Ai CL rfl) (Pf 7 rfl (AH rfl Dn .m0 Ad.l2 rfl rfl) ?_)))))))
  refine An 8 rfl (by kernel_rfl) ?_
  refine AT (AK (AU.id AG.fl.len AG.fl.one) rfl rfl rfl EC rfl (.t (.t .h))) ?_
  refine BO rfl ⟨?_,?_⟩
  · exact(Po rfl (AH rfl Dn .m0 Ad.l2 rfl rfl) rfl rfl (Po rfl (Ai CL rfl) rfl rfl (Po rfl (BV rfl) rfl rfl (Po rfl (AF rfl) rfl rfl (Pk (Pk (Pk (Pk As))))))))
  refine Pf 9 rfl (A0 rfl) (Pf 10 rfl (A0 rfl) ?_)
  refine A3 (by kernel_rfl) ?_
  refine AB (.t3 6 7 8) ?_
  refine AA (Ab ?_)
  refine AY rfl (.cell rfl .m2 (.inl ⟨(by rw [AG.fl.len];exact BZ),rfl⟩) (.tmp rfl (.tmp rfl .n))) ?_
  intro w1 hS
  have hS:=(hS.perm (Ay.perm (.c (.t .h) .n))).A1
  have ha:AE.act (⟨X,b,[]⟩:AE) o=_:=((AX c4).trans (BB c5))
  have hq:AE.EF X b o=((AE.act (⟨X,b,[]⟩:AE) o).w,(AE.act (⟨X,b,[]⟩:AE) o).out,0):=((AX c1).trans ((AX c2).trans (AX c3)))
  rw [ha] at hq
  refine⟨_,⟨?gq5,?hv5,?hl5,?hB5⟩,hS⟩
  case hB5=>rw [hq];(try rfl)
  case hv5=>rw [hq];(try rfl)
  case hl5=>rw [hq];(try dsimp only);exact y11
 have c5p:=kz c5
 refine Gs (Gt (Ai DI rfl) (Gt (AH rfl A4 .m2 Order.l0 rfl rfl) (Gt (Ag rfl rfl) (Ga rfl (Gn (.t5 1 5 6 9 62) ?_)))))
 refine Gc (fun c6=>?_) (fun c6=>?_)
 ·
  have c6p:=kz c6
  refine AJ (Gm rfl (Gm rfl (Gt (BV rfl) (Gt (Ai A9 rfl) (Gt (AZ rfl BZ .m0 Ad.l0 rfl) (Gm rfl ?_))))))
  refine Ah rfl SA (.c rfl (.c rfl (.c rfl .n))) .n (FF _ _ _) (fun v12 B hv=>?_)
  obtain⟨y13,rfl,y14,rfl⟩:=hv
  refine Dp Ing.Event.enc 56 16 ?_
  refine Ah rfl aV (.c rfl (.c rfl (.c rfl .n))) (.c (.t (.t .h)) (.c .h (.c .h .n))) (Lt _ (⟨X,b,[]⟩:AE) _ [89,111,117,32,104,97,118,101] _ (X.has 1 b) rfl hF.b (by assumption) (AG.IN _ _ _) (fun i hi=>AG.Fp hi) hF.br (by decide) (Nat.zero_le _)) (fun v17 B hv=>?_)
  obtain⟨y18,rfl,y19,rfl⟩:=hv
  refine AQ (AB (.t2 6 9) ?_)
  refine AW (AA (Ap ?_))
  refine BD (N:=11) [0,1,3,7,0,16,48,112,15,511,1023] mix (by kernel_rfl) rfl ?_
  refine Pf 0 rfl (AF rfl) (Pf 1 rfl (BV rfl) (Pf 2 rfl (Ai A9 rfl) (Pf 3 rfl (AZ rfl BZ .m0 Ad.l0 rfl) (Pf 4 rfl (AF rfl) (Pf 5 rfl (BV rfl) (Pf 6 rfl (Ai CL rfl) (Pf 7 rfl (AH rfl Dn .m0 Ad.l2 rfl rfl) ?_)))))))
  refine An 8 rfl (by kernel_rfl) ?_
  refine AT (AK (AU.id AG.fl.len AG.fl.one) rfl rfl rfl EC rfl (.t (.t (.t .h)))) ?_
  refine BO rfl ⟨?_,?_⟩
  · exact(Po rfl (AH rfl Dn .m0 Ad.l2 rfl rfl) rfl rfl (Po rfl (Ai CL rfl) rfl rfl (Po rfl (BV rfl) rfl rfl (Po rfl (AF rfl) rfl rfl (Pk (Pk (Pk (Pk As))))))))
  refine Pf 9 rfl (A0 rfl) (Pf 10 rfl (A0 rfl) ?_)
  refine A3 (by kernel_rfl) ?_
  refine AB (.t3 6 7 8) ?_
  refine AA (Ab ?_)
  refine AY rfl (.cell rfl .m3 (.inl ⟨(by rw [AG.fl.len];exact BZ),rfl⟩) (.tmp rfl (.tmp rfl .n))) ?_
  intro w1 hS
  have hS:=(hS.perm (Ay.perm (.c (.t .h) .n))).A1
  have ha:AE.act (⟨X,b,[]⟩:AE) o=_:=((AX c4).trans ((AX c5).trans (BB c6)))
  have hq:AE.EF X b o=((AE.act (⟨X,b,[]⟩:AE) o).w,(AE.act (⟨X,b,[]⟩:AE) o).out,0):=((AX c1).trans ((AX c2).trans (AX c3)))
  rw [ha] at hq
  refine⟨_,⟨?gq6,?hv6,?hl6,?hB6⟩,hS⟩
  case hB6=>rw [hq];(try rfl)
  case hv6=>rw [hq];(try rfl)
  case hl6=>rw [hq];(try dsimp only);exact y19
 have c6p:=kz c6
 refine Gs (Gt (Ai DI rfl) (Gt (AH rfl A4 .m2 Order.l0 rfl rfl) (Gt (Ag rfl rfl) (Ga rfl (Gn (.t4 5 6 9 74) ?_)))))
 refine Gc (fun c7=>?_) (fun c7=>?_)
 ·
  refine AJ (Gm rfl (Gt (Ai RS rfl) (Gt (AH rfl CO .m2 Order.l5 rfl rfl) (Gt (BC OY Hx rfl (.cons Ing.Event.l0 rfl rfl rfl (.cons Ing.Event.l3 rfl rfl rfl (.cons Ing.Event.l9 rfl rfl rfl .nil)))) ?_))))
  refine Dp Ing.Event.enc 56 16 ?_
  refine Ah rfl ON (.c rfl (.c rfl .n)) (.c (.t .h) (.c .h .n)) (CQ _ (⟨X,b,[]⟩:AE) _ { AE.F2 7 with text:=o.text } rfl hF.b (show(-1:Int) < 6 by decide) (Nat.zero_le _)) (fun v21 B hv=>?_)
  obtain⟨y22,rfl,y23,rfl⟩:=hv
  refine AQ (AB (.t2 6 9) ?_)
  refine AW (AA (Ap ?_))
  refine BD (N:=11) [0,1,3,7,0,16,48,112,15,511,1023] mix (by kernel_rfl) rfl ?_
  refine Pf 0 rfl (AF rfl) (Pf 1 rfl (BV rfl) (Pf 2 rfl (Ai A9 rfl) (Pf 3 rfl (AZ rfl BZ .m0 Ad.l0 rfl) (Pf 4 rfl (AF rfl) (Pf 5 rfl (BV rfl) (Pf 6 rfl (Ai CL rfl) (Pf 7 rfl (AH rfl Dn .m0 Ad.l2 rfl rfl) ?_)))))))
  refine An 8 rfl (by kernel_rfl) ?_
  refine AT (AK (AU.id AG.fl.len AG.fl.one) rfl rfl rfl EC rfl (.t (.t .h))) ?_
  refine BO rfl ⟨?_,?_⟩
  · exact(Po rfl (AH rfl Dn .m0 Ad.l2 rfl rfl) rfl rfl (Po rfl (Ai CL rfl) rfl rfl (Po rfl (BV rfl) rfl rfl (Po rfl (AF rfl) rfl rfl (Pk (Pk (Pk (Pk As))))))))
  refine Pf 9 rfl (A0 rfl) (Pf 10 rfl (A0 rfl) ?_)
  refine A3 (by kernel_rfl) ?_
  refine AB (.t3 6 7 8) ?_
  refine AA (Ab ?_)
  refine AY rfl (.cell rfl .m2 (.inl ⟨(by rw [AG.fl.len];exact BZ),rfl⟩) (.tmp rfl (.tmp rfl .n))) ?_
  intro w1 hS
  have hS:=(hS.perm (Ay.perm (.c (.t .h) .n))).A1
  have ha:AE.act (⟨X,b,[]⟩:AE) o=_:=((AX c4).trans ((AX c5).trans ((AX c6).trans (BB c7))))
  have hq:AE.EF X b o=((AE.act (⟨X,b,[]⟩:AE) o).w,(AE.act (⟨X,b,[]⟩:AE) o).out,0):=((AX c1).trans ((AX c2).trans (AX c3)))
  rw [ha] at hq
  refine⟨_,⟨?gq7,?hv7,?hl7,?hB7⟩,hS⟩
  case hB7=>rw [hq];(try rfl)
  case hv7=>rw [hq];(try rfl)
  case hl7=>rw [hq];(try dsimp only);exact y23
 have c7p:=kz c7
 refine Gs (Gt (Ai DI rfl) (Gt (AH rfl A4 .m2 Order.l0 rfl rfl) (Gt (Ag rfl rfl) (Ga rfl (Gn (.t4 5 6 9 83) ?_)))))
 refine Gc (fun c8=>?_) (fun c8=>?_)
 ·
  refine AJ (Gm rfl ?_)
  refine Dp Ing.Event.enc 56 16 ?_
  refine Ah rfl dV (.c rfl .n) (.c (.t .h) (.c .h .n)) (Qy _ (⟨X,b,[]⟩:AE) _ rfl hF (Nat.zero_le _)) (fun v25 B hv=>?_)
  obtain⟨y26,rfl,y27,rfl⟩:=hv
  refine AQ (AB (.t2 6 9) ?_)
  refine AW (AA (Ap ?_))
  refine BD (N:=11) [0,1,3,7,0,16,48,112,15,511,1023] mix (by kernel_rfl) rfl ?_
  refine Pf 0 rfl (AF rfl) (Pf 1 rfl (BV rfl) (Pf 2 rfl (Ai A9 rfl) (Pf 3 rfl (AZ rfl BZ .m0 Ad.l0 rfl) (Pf 4 rfl (AF rfl) (Pf 5 rfl (BV rfl) (Pf 6 rfl (Ai CL rfl) (Pf 7 rfl (AH rfl Dn .m0 Ad.l2 rfl rfl) ?_)))))))
  refine An 8 rfl (by kernel_rfl) ?_
  refine AT (AK (AU.id AG.fl.len AG.fl.one) rfl rfl rfl EC rfl (.t (.t .h))) ?_
  refine BO rfl ⟨?_,?_⟩
  · exact(Po rfl (AH rfl Dn .m0 Ad.l2 rfl rfl) rfl rfl (Po rfl (Ai CL rfl) rfl rfl (Po rfl (BV rfl) rfl rfl (Po rfl (AF rfl) rfl rfl (Pk (Pk (Pk (Pk As))))))))
  refine Pf 9 rfl (A0 rfl) (Pf 10 rfl (A0 rfl) ?_)
  refine A3 (by kernel_rfl) ?_
  refine AB (.t3 6 7 8) ?_
  refine AA (Ab ?_)
  refine AY rfl (.cell rfl .m2 (.inl ⟨(by rw [AG.fl.len];exact BZ),rfl⟩) (.tmp rfl (.tmp rfl .n))) ?_
  intro w1 hS
  have hS:=(hS.perm (Ay.perm (.c (.t .h) .n))).A1
  have ha:AE.act (⟨X,b,[]⟩:AE) o=_:=((AX c4).trans ((AX c5).trans ((AX c6).trans ((AX c7).trans (BB c8)))))
  have hq:AE.EF X b o=((AE.act (⟨X,b,[]⟩:AE) o).w,(AE.act (⟨X,b,[]⟩:AE) o).out,0):=((AX c1).trans ((AX c2).trans (AX c3)))
  rw [ha] at hq
  refine⟨_,⟨?gq8,?hv8,?hl8,?hB8⟩,hS⟩
  case hB8=>rw [hq];(try rfl)
  case hv8=>rw [hq];(try rfl)
  case hl8=>rw [hq];(try dsimp only);exact y27
 have c8p:=kz c8
 refine Gs (Gt (Ai DI rfl) (Gt (AH rfl A4 .m2 Order.l0 rfl rfl) (Gt (Ag rfl rfl) (Ga rfl (Gn (.t4 5 6 9 89) ?_)))))
 refine Gc (fun c9=>?_) (fun c9=>?_)
 ·
  refine AJ (Gm rfl (Gt (AZ rfl CA .m2 (AU.id Order.fl.len Order.fl.one) rfl) ?_))
  refine Dp Ing.Event.enc 56 16 ?_
  refine BE rfl db (.c rfl (.c rfl .n)) (.c (.t .h) (.c .h .n)) (Pn _ (⟨X,b,[]⟩:AE) _ o rfl hF hm (Nat.zero_le _)) (fun w hS=>⟨gl1.pull gm1 hS (.c (.t .h) (.c .h .n)),gl2.pull gm2 hS (.c (.t .h) (.c .h .n))⟩) (fun v29 B hv=>?_)
  obtain⟨y30,rfl,y31,rfl⟩:=hv
  refine AQ (AB (.t2 6 9) ?_)
  refine AW (AA (Ap ?_))
  refine BD (N:=11) [0,1,3,7,0,16,48,112,15,511,1023] mix (by kernel_rfl) rfl ?_
  refine Pf 0 rfl (AF rfl) (Pf 1 rfl (BV rfl) (Pf 2 rfl (Ai A9 rfl) (Pf 3 rfl (AZ rfl BZ .m0 Ad.l0 rfl) (Pf 4 rfl (AF rfl) (Pf 5 rfl (BV rfl) (Pf 6 rfl (Ai CL rfl) (Pf 7 rfl (AH rfl Dn .m0 Ad.l2 rfl rfl) ?_)))))))
  refine An 8 rfl (by kernel_rfl) ?_
  refine AT (AK (AU.id AG.fl.len AG.fl.one) rfl rfl rfl EC rfl (.t (.t .h))) ?_
  refine BO rfl ⟨?_,?_⟩
  · exact(Po rfl (AH rfl Dn .m0 Ad.l2 rfl rfl) rfl rfl (Po rfl (Ai CL rfl) rfl rfl (Po rfl (BV rfl) rfl rfl (Po rfl (AF rfl) rfl rfl (Pk (Pk (Pk (Pk As))))))))
  refine Pf 9 rfl (A0 rfl) (Pf 10 rfl (A0 rfl) ?_)
  refine A3 (by kernel_rfl) ?_
  refine AB (.t3 6 7 8) ?_
  refine AA (Ab ?_)
  refine AY rfl (.cell rfl .m2 (.inl ⟨(by rw [AG.fl.len];exact BZ),rfl⟩) (.tmp rfl (.tmp rfl .n))) ?_
  intro w1 hS
  have hS:=(hS.perm (Ay.perm (.c (.t .h) .n))).A1
  have ha:AE.act (⟨X,b,[]⟩:AE) o=_:=((AX c4).trans ((AX c5).trans ((AX c6).trans ((AX c7).trans ((AX c8).trans (BB c9))))))
  have hq:AE.EF X b o=((AE.act (⟨X,b,[]⟩:AE) o).w,(AE.act (⟨X,b,[]⟩:AE) o).out,0):=((AX c1).trans ((AX c2).trans (AX c3)))
  rw [ha] at hq
  refine⟨_,⟨?gq9,?hv9,?hl9,?hB9⟩,hS⟩
  case hB9=>rw [hq];(try rfl)
  case hv9=>rw [hq];(try rfl)
  case hl9=>rw [hq];(try dsimp only);exact y31
 have c9p:=kz c9
 refine Gs (Gt (Ai DI rfl) (Gt (AH rfl A4 .m2 Order.l0 rfl rfl) (Gt (Ag rfl rfl) (Ga rfl (Gn (.t4 5 6 9 96) ?_)))))
 refine Gc (fun c10=>?_) (fun c10=>?_)
 ·
  refine AJ (Gm rfl (Gt (AZ rfl CA .m2 (AU.id Order.fl.len Order.fl.one) rfl) ?_))
  refine Dp Ing.Event.enc 56 16 ?_
  refine BE rfl dN (.c rfl (.c rfl .n)) (.c (.t .h) (.c .h .n)) (Sr _ (⟨X,b,[]⟩:AE) _ o rfl hF hu (Nat.zero_le _)) (fun w hS=>⟨gl1.pull gm1 hS (.c (.t .h) (.c .h .n)),gl2.pull gm2 hS (.c (.t .h) (.c .h .n))⟩) (fun v33 B hv=>?_)
  obtain⟨y34,rfl,y35,rfl⟩:=hv
  refine AQ (AB (.t2 6 9) ?_)
  refine AW (AA (Ap ?_))
  refine BD (N:=11) [0,1,3,7,0,16,48,112,15,511,1023] mix (by kernel_rfl) rfl ?_
  refine Pf 0 rfl (AF rfl) (Pf 1 rfl (BV rfl) (Pf 2 rfl (Ai A9 rfl) (Pf 3 rfl (AZ rfl BZ .m0 Ad.l0 rfl) (Pf 4 rfl (AF rfl) (Pf 5 rfl (BV rfl) (Pf 6 rfl (Ai CL rfl) (Pf 7 rfl (AH rfl Dn .m0 Ad.l2 rfl rfl) ?_)))))))
  refine An 8 rfl (by kernel_rfl) ?_
  refine AT (AK (AU.id AG.fl.len AG.fl.one) rfl rfl rfl EC rfl (.t (.t .h))) ?_
  refine BO rfl ⟨?_,?_⟩
  · exact(Po rfl (AH rfl Dn .m0 Ad.l2 rfl rfl) rfl rfl (Po rfl (Ai CL rfl) rfl rfl (Po rfl (BV rfl) rfl rfl (Po rfl (AF rfl) rfl rfl (Pk (Pk (Pk (Pk As))))))))
  refine Pf 9 rfl (A0 rfl) (Pf 10 rfl (A0 rfl) ?_)
  refine A3 (by kernel_rfl) ?_
  refine AB (.t3 6 7 8) ?_
  refine AA (Ab ?_)
  refine AY rfl (.cell rfl .m2 (.inl ⟨(by rw [AG.fl.len];exact BZ),rfl⟩) (.tmp rfl (.tmp rfl .n))) ?_
  intro w1 hS
  have hS:=(hS.perm (Ay.perm (.c (.t .h) .n))).A1
  have ha:AE.act (⟨X,b,[]⟩:AE) o=_:=((AX c4).trans ((AX c5).trans ((AX c6).trans ((AX c7).trans ((AX c8).trans ((AX c9).trans (BB c10)))))))
  have hq:AE.EF X b o=((AE.act (⟨X,b,[]⟩:AE) o).w,(AE.act (⟨X,b,[]⟩:AE) o).out,0):=((AX c1).trans ((AX c2).trans (AX c3)))
  rw [ha] at hq
  refine⟨_,⟨?gq10,?hv10,?hl10,?hB10⟩,hS⟩
  case hB10=>rw [hq];(try rfl)
  case hv10=>rw [hq];(try rfl)
  case hl10=>rw [hq];(try dsimp only);exact y35
 have c10p:=kz c10
 refine Gs (Gt (Ai DI rfl) (Gt (AH rfl A4 .m2 Order.l0 rfl rfl) (Gt (Ag rfl rfl) (Gm rfl (Bc 107 rfl rfl (fun q=>Ai DI rfl) (Bc 107 rfl rfl (fun q=>AH (cF rfl q) A4 .m2 Order.l0 rfl rfl) (Bc 107 rfl rfl (fun q=>Ag (cF rfl q) rfl) ?_)))))))
 refine Gt (BR rfl rfl (fun h=>by rw [h];rfl)) ?_
 refine Gm rfl (Bc 112 rfl rfl (fun q=>Ai DI rfl) (Bc 112 rfl rfl (fun q=>AH (cF rfl q) A4 .m2 Order.l0 rfl rfl) (Bc 112 rfl rfl (fun q=>Ag (cF rfl q) rfl) ?_)))
 refine Gt (BR rfl rfl (fun h=>by rw [h];rfl)) ?_
 refine Ga rfl (Gn (.t4 5 6 9 103) ?_)
 refine Gc (fun c11=>?_) (fun c11=>?_)
 ·
  have c11p:=kz c11
  refine AJ (Gm rfl (Gt (AZ rfl CA .m2 (AU.id Order.fl.len Order.fl.one) rfl) ?_))
  refine Dp Ing.Event.enc 56 16 ?_
  refine BE rfl dJ (.c rfl (.c rfl .n)) (.c (.t .h) (.c .h .n)) (Rw _ (⟨X,b,[]⟩:AE) _ o rfl hF (by omega) hu (Nat.zero_le _)) (fun w hS=>⟨gl1.pull gm1 hS (.c (.t .h) (.c .h .n)),gl2.pull gm2 hS (.c (.t .h) (.c .h .n))⟩) (fun v37 B hv=>?_)
  obtain⟨y38,rfl,y39,rfl⟩:=hv
  refine AQ (AB (.t2 6 9) ?_)
  refine AW (AA (Ap ?_))
  refine BD (N:=11) [0,1,3,7,0,16,48,112,15,511,1023] mix (by kernel_rfl) rfl ?_
  refine Pf 0 rfl (AF rfl) (Pf 1 rfl (BV rfl) (Pf 2 rfl (Ai A9 rfl) (Pf 3 rfl (AZ rfl BZ .m0 Ad.l0 rfl) (Pf 4 rfl (AF rfl) (Pf 5 rfl (BV rfl) (Pf 6 rfl (Ai CL rfl) (Pf 7 rfl (AH rfl Dn .m0 Ad.l2 rfl rfl) ?_)))))))
  refine An 8 rfl (by kernel_rfl) ?_
  refine AT (AK (AU.id AG.fl.len AG.fl.one) rfl rfl rfl EC rfl (.t (.t .h))) ?_
  refine BO rfl ⟨?_,?_⟩
  · exact(Po rfl (AH rfl Dn .m0 Ad.l2 rfl rfl) rfl rfl (Po rfl (Ai CL rfl) rfl rfl (Po rfl (BV rfl) rfl rfl (Po rfl (AF rfl) rfl rfl (Pk (Pk (Pk (Pk As))))))))
  refine Pf 9 rfl (A0 rfl) (Pf 10 rfl (A0 rfl) ?_)
  refine A3 (by kernel_rfl) ?_
  refine AB (.t3 6 7 8) ?_
  refine AA (Ab ?_)
  refine AY rfl (.cell rfl .m2 (.inl ⟨(by rw [AG.fl.len];exact BZ),rfl⟩) (.tmp rfl (.tmp rfl .n))) ?_
  intro w1 hS
  have hS:=(hS.perm (Ay.perm (.c (.t .h) .n))).A1
  have ha:AE.act (⟨X,b,[]⟩:AE) o=_:=((AX c4).trans ((AX c5).trans ((AX c6).trans ((AX c7).trans ((AX c8).trans ((AX c9).trans ((AX c10).trans (BB c11))))))))
  have hq:AE.EF X b o=((AE.act (⟨X,b,[]⟩:AE) o).w,(AE.act (⟨X,b,[]⟩:AE) o).out,0):=((AX c1).trans ((AX c2).trans (AX c3)))
  rw [ha] at hq
  refine⟨_,⟨?gq11,?hv11,?hl11,?hB11⟩,hS⟩
  case hB11=>rw [hq];(try rfl)
  case hv11=>rw [hq];(try rfl)
  case hl11=>rw [hq];(try dsimp only);exact y39
 have c11p:=kz c11
 refine AJ (Gm rfl (Gt (AZ rfl CA .m2 (AU.id Order.fl.len Order.fl.one) rfl) ?_))
 refine Dp Ing.Event.enc 56 16 ?_
 refine BE rfl dW (.c rfl (.c rfl .n)) (.c (.t .h) (.c .h .n)) (SN _ (⟨X,b,[]⟩:AE) _ o rfl hF (by omega) (Nat.zero_le _)) (fun w hS=>gl0.pull gm0 hS (.c (.t .h) (.c .h .n))) (fun v41 B hv=>?_)
 obtain⟨y42,rfl,y43,rfl⟩:=hv
 refine AQ (AB (.t2 6 9) ?_)
 refine AW (AA (Ap ?_))
 refine BD (N:=11) [0,1,3,7,0,16,48,112,15,511,1023] mix (by kernel_rfl) rfl ?_
 refine Pf 0 rfl (AF rfl) (Pf 1 rfl (BV rfl) (Pf 2 rfl (Ai A9 rfl) (Pf 3 rfl (AZ rfl BZ .m0 Ad.l0 rfl) (Pf 4 rfl (AF rfl) (Pf 5 rfl (BV rfl) (Pf 6 rfl (Ai CL rfl) (Pf 7 rfl (AH rfl Dn .m0 Ad.l2 rfl rfl) ?_)))))))
 refine An 8 rfl (by kernel_rfl) ?_
 refine AT (AK (AU.id AG.fl.len AG.fl.one) rfl rfl rfl EC rfl (.t (.t .h))) ?_
 refine BO rfl ⟨?_,?_⟩
 · exact(Po rfl (AH rfl Dn .m0 Ad.l2 rfl rfl) rfl rfl (Po rfl (Ai CL rfl) rfl rfl (Po rfl (BV rfl) rfl rfl (Po rfl (AF rfl) rfl rfl (Pk (Pk (Pk (Pk As))))))))
 refine Pf 9 rfl (A0 rfl) (Pf 10 rfl (A0 rfl) ?_)
 refine A3 (by kernel_rfl) ?_
 refine AB (.t3 6 7 8) ?_
 refine AA (Ab ?_)
 refine AY rfl (.cell rfl .m2 (.inl ⟨(by rw [AG.fl.len];exact BZ),rfl⟩) (.tmp rfl (.tmp rfl .n))) ?_
 intro w1 hS
 have hS:=(hS.perm (Ay.perm (.c (.t .h) .n))).A1
 have ha:AE.act (⟨X,b,[]⟩:AE) o=_:=((AX c4).trans ((AX c5).trans ((AX c6).trans ((AX c7).trans ((AX c8).trans ((AX c9).trans ((AX c10).trans (AX c11))))))))
 have hq:AE.EF X b o=((AE.act (⟨X,b,[]⟩:AE) o).w,(AE.act (⟨X,b,[]⟩:AE) o).out,0):=((AX c1).trans ((AX c2).trans (AX c3)))
 rw [ha] at hq
 refine⟨_,⟨?gq12,?hv12,?hl12,?hB12⟩,hS⟩
 case hB12=>rw [hq];(try rfl)
 case hv12=>rw [hq];(try rfl)
 case hl12=>rw [hq];(try dsimp only);exact y43
theorem Ia (b:Nat)(V:AL)(ls:Vector BG 4)(ev:List Ing.Event)(k:Int)(n m:Nat)(hk:0≤k∧k < 4)(hF:AI.Fit (A5 V ls ev) n m)(hn:n≤900000)(hm:m≤900000):FC Tryz.prog 67 #[.pointer (some ⟨b,0,none⟩), .pointer (some ⟨b,165+k.toNat * 22,none⟩)] [Ac.box b 101 (AL.enc V),Ac.D7 (CJ 9 (AL.Ax V) ls),Ac.own (AL.last V) 56 16 ((ev).flatMap Ing.Event.enc)] (fun w=>(GV 2 Fa w∧2 ∉ Cc [Ac.box b 101 (AL.enc V),Ac.D7 (CJ 9 (AL.Ax V) ls),Ac.own (AL.last V) 56 16 ((ev).flatMap Ing.Event.enc)])∧(GV 0 AG.DE w∧0 ∉ Cc [Ac.box b 101 (AL.enc V),Ac.D7 (CJ 9 (AL.Ax V) ls),Ac.own (AL.last V) 56 16 ((ev).flatMap Ing.Event.enc)])∧(G0 7 w∧7 ∉ Cc [Ac.box b 101 (AL.enc V),Ac.D7 (CJ 9 (AL.Ax V) ls),Ac.own (AL.last V) 56 16 ((ev).flatMap Ing.Event.enc)])∧(G0 8 w∧8 ∉ Cc [Ac.box b 101 (AL.enc V),Ac.D7 (CJ 9 (AL.Ax V) ls),Ac.own (AL.last V) 56 16 ((ev).flatMap Ing.Event.enc)])) (fun v B=>∃ V' ls' ev',v = .tuple #[]∧A5 V' ls' ev'=AI.leave (A5 V ls ev) k∧B = [Ac.box b 101 (AL.enc V'),Ac.D7 (CJ 9 (AL.Ax V') ls'),Ac.own (AL.last V') 56 16 ((ev').flatMap Ing.Event.enc)]):=by
 intro w hS0 hH
 obtain⟨⟨gl0,gm0⟩,⟨gl1,gm1⟩,⟨gl2,gm2⟩,⟨gl3,gm3⟩⟩:=hH
 have hbe:=Wx hF hk.1 hk.2
 refine Al _ _ Tryz.func67 rfl rfl rfl (hS0) ?_
 refine Ap (Ap ?_)
 refine BD (N:=18) [0,1,3,7,15,31,63,63,191,447,959,127,2175,6271,16383,32767,65535,131071] mix (by kernel_rfl) rfl ?_
 refine Pf 0 rfl (AF rfl) (Pf 1 rfl (BV rfl) (Pf 2 rfl (Ai JF rfl) (Pf 3 rfl (AH rfl A4 .m0 ((AL.l1.comp (AU.arr (n:=4) A2.fl hk.1 hk.2)).comp A2.l0) rfl rfl) (Pf 4 rfl (Ag rfl rfl) (Pf 5 rfl (AF rfl) (Mr 6 12 rfl rfl rfl (fun q=>AF rfl) (Mr 7 12 rfl rfl rfl (fun q=>AF rfl) ?_)))))))
 refine Mr 8 12 rfl rfl rfl (fun q=>BV (Bj rfl q)) (Mr 9 12 rfl rfl rfl (fun q=>Ai IV (Bj rfl q)) (Mr 10 12 rfl rfl rfl (fun q=>AH (Bj rfl q) A4 .m0 ((AL.l1.comp (AU.arr (n:=4) A2.fl hk.1 hk.2)).comp A2.l1) rfl rfl) (Mr 11 12 rfl rfl rfl (fun q=>BV (Bj rfl q)) (Mr 12 12 rfl rfl rfl (fun q=>Ai EL (Bj rfl q)) (Mr 13 12 rfl rfl rfl (fun q=>Ai Bs (Bj rfl q)) ?_)))))
 refine Bb 14 rfl rfl (by kernel_rfl) (Sk (t:=12) rfl rfl (fun q=>by have q1:=q;(try simp at q1);exact Is (AS C8 (Bj rfl q) (Bj rfl q) (by first | omega | exact hk.1 | exact hk.2) (by first | omega | exact hk.1 | exact hk.2)))) ?_
 refine Mr 15 12 rfl rfl rfl (fun q=>Ai IW (Bj rfl q)) ?_
 refine Bb 16 rfl rfl (by kernel_rfl) (Sk (t:=12) rfl rfl (fun q=>by have q1:=q;(try simp at q1);exact Is (AH (Bj rfl q) Dr .m0 (((AL.l0.comp AG.l2).comp (AU.ar (n:=6) Aj.fl (by first | omega | exact hk))).comp Aj.l1) rfl rfl))) ?_
 refine Pf 17 rfl (BK rfl rfl (fun h=>h)) ?_
 refine A3 (by kernel_rfl) ?_
 refine AB (.t3 0 1 24) ?_
 refine AA ?_
 refine Gc (fun c1=>?_) (fun c1=>?_)
 ·
  have c1p:=kz c1
  have hdl:=AE.NZ V.w (V.Ax.at k).Au AI.EG
  have hds:=AE.IC (b:=(V.Ax.at k).Au) (o:=AI.EG) hF.FP AI.KV
  refine Ap ?_
  refine BD (N:=18) [0,1,3,7,0,16,48,112,0,511,1023,2047,2047,2047,0,20479,57343,131071] mix (by kernel_rfl) rfl ?_
  refine Pf 0 rfl (AF rfl) (Pf 1 rfl (BV rfl) (Pf 2 rfl (Ai EL rfl) (Pf 3 rfl (AZ rfl BZ .m0 AL.l0 rfl) (Pf 4 rfl (AF rfl) (Pf 5 rfl (BV rfl) (Pf 6 rfl (Ai IV rfl) (Pf 7 rfl (AH rfl A4 .m0 ((AL.l1.comp (AU.arr (n:=4) A2.fl hk.1 hk.2)).comp A2.l1) rfl rfl) ?_)))))))
  refine Pf 8 rfl (BC Sf L3 rfl (.cons Order.l0 rfl rfl rfl .nil)) ?_
  refine J7 9 14 rfl rfl (by kernel_rfl) ?_ ?_
  ·
   refine BE rfl aH (.c rfl (.c rfl (.c rfl .n))) .n (GW V.w (V.Ax.at k).Au AI.EG hF.FP.HS (Nat.zero_le _) (Nat.zero_le _)) (fun w hS=>⟨gl1.pull gm1 hS .n,gl2.pull gm2 hS .n,gl3.pull gm3 hS .n⟩) (fun v1 B hv=>?_)
   obtain⟨y2,rfl,y3,rfl⟩:=hv
   refine Bu rfl ⟨?_,?_⟩
   · exact(Pk (Pk (Pk (Pk (Pk (Pk (Pk (Pk (Pk As)))))))))
   refine Pf 10 rfl (AF rfl) (Pf 11 rfl (AM rfl rfl) (Pf 12 rfl (AM rfl rfl) (Pf 13 rfl (AM rfl rfl) ?_)))
   refine An 14 rfl (by kernel_rfl) ?_
   refine BH rfl NS rfl (fun b1=>?_)
   refine Bu rfl ⟨?_,?_⟩
   · exact(Po rfl (AM rfl rfl) rfl rfl (Po rfl (AM rfl rfl) rfl rfl (Po rfl (AM rfl rfl) rfl rfl (Po rfl (AF rfl) rfl rfl (Po rfl (BC Sf L3 rfl (.cons Order.l0 rfl rfl rfl .nil)) rfl rfl (Po rfl (AH rfl A4 .m2 ((AL.l1.comp (AU.arr (n:=4) A2.fl hk.1 hk.2)).comp A2.l1) rfl rfl) rfl rfl (Po rfl (Ai IV rfl) rfl rfl (Po rfl (BV rfl) rfl rfl (Po rfl (AF rfl) rfl rfl (Po rfl (AZ rfl BZ .m2 AL.l0 rfl) rfl rfl (Po rfl (Ai EL rfl) rfl rfl (Po rfl (BV rfl) rfl rfl (Po rfl (AF rfl) rfl rfl As)))))))))))))
   refine An 15 rfl (by kernel_rfl) ?_
   refine AT (AK (AU.id AG.fl.len AG.fl.one) rfl rfl rfl EC rfl .h) ?_
   refine BO rfl ⟨?_,?_⟩
   · exact(Po rfl (AM rfl rfl) rfl rfl (Po rfl (AM rfl rfl) rfl rfl (Pk (Pk (Pk (Pk (Pk (Pk (Pk (Pk (Pk (Pk (Pk As)))))))))))))
   refine Pf 16 rfl (A0 rfl) (Pf 17 rfl (A0 rfl) ?_)
   refine A3 (by kernel_rfl) ?_
   refine AB (.t4 0 1 4 5) ?_
   refine AA (Gs (Gm rfl (Gt (AZ rfl BZ .m0 (AU.id AG.fl.len AG.fl.one) rfl) (Gt (BV rfl) (Gt (Ai EL rfl) ?_)))))
   refine AT (AK AL.l0 rfl rfl rfl EC rfl (.t (.t .h))) ?_
   refine Gn (.t3 0 1 5) (Ap ?_)
   refine Eu (.c (.t (.t .h)) (.c (.t (.t .h)) .n)) ?_
   refine Ft (k:=k) hk.1 hk.2 (fun sv sl hsv hlv hln=>?_)
   refine AJ (Gm rfl (Gt (BC WZ V5 rfl .nil) (Gt (BV rfl) ?_)))
   refine AT (AK (AU.BM { V with w:=(AE.EF V.w (V.Ax.at k).Au AI.EG).1 } hk.1 hk.2) rfl rfl rfl Tw rfl (.t (.t (.t .h)))) ?_
   refine Gn (.t3 0 1 5) ?_
   refine Eb A7 9 1 ?_
   refine Eb A7 9 1 ?_
   refine Eb A7 9 1 ?_
   refine Eu (.c (.t (.t .h)) (.c (.t .h) (.c .h (.c (.t (.t (.t .h))) (.c (.t (.t (.t .h))) .n))))) ?_
   refine HG hk.1 hk.2 (by rfl) (by rfl) (by rfl) ?_
   refine AJ (Gm rfl (Gm rfl ?_))
   refine BE rfl VZ (.c rfl (.c rfl .n)) (.c .h (.c .h (.c (.t (.t (.t (.t (.t .h))))) (.c (.t (.t (.t (.t .h)))) .n)))) (E1 _ (AL.BM { V with w:=(AE.EF V.w (V.Ax.at k).Au AI.EG).1 } k default) (ls.put k ⟨[],[],[]⟩) ev _ (AE.EF V.w (V.Ax.at k).Au AI.EG).2.1 n (by assumption) (Gp (((hF.land hds.1).free hk.1 hk.2) |> fun h=>by rw [← OT,← Ib hk.1 hk.2] at h;exact h)) (by omega) (Nat.le_trans hF.last (by omega)) (fun e he c _=>hds.2 e he)) (fun w hS=>⟨gl0.pull gm0 hS (.c .h (.c .h (.c (.t (.t (.t (.t (.t .h))))) (.c (.t (.t (.t (.t .h)))) .n)))),gl1.pull gm1 hS (.c .h (.c .h (.c (.t (.t (.t (.t (.t .h))))) (.c (.t (.t (.t (.t .h)))) .n))))⟩) (fun v8 B hv=>?_)
   obtain⟨y9,y10,y11,rfl,y12,rfl⟩:=hv
   refine Gn (.t1 1) ?_
   refine Ft (k:=k) hk.1 hk.2 (fun sv sl hsv hlv hln=>?_)
   refine AJ (Gm rfl (Gt (BC WZ V5 rfl .nil) (Gt (BV rfl) ?_)))
   refine AT (AK (AU.BM y9 hk.1 hk.2) rfl rfl rfl Tw rfl (.t (.t (.t .h)))) ?_
   refine AQ ?_
   refine Bk rfl .n ?_
   intro w1 hS
   have hS:=hS.Cr 9 1
   have hS:=hS.Cr 9 1
   have hS:=hS.Cr 9 1
   have hS:=(hS.perm (Ay.perm (.c (.t (.t .h)) (.c (.t .h) (.c .h (.c (.t (.t (.t .h))) (.c (.t (.t (.t .h))) (.c (.t (.t (.t .h))) .n)))))))).A1
   have hS:=St.close' (s:=default) (qs:= []) (ws:= []) (ts:= []) hk.1 hk.2 rfl rfl rfl hS
   refine⟨_,⟨_,_,_,rfl,?ga1,rfl⟩,hS⟩
   case ga1=>exact Q4 hk.1 hk.2 c1 y12
  ·
   refine BH rfl NS rfl (fun b2=>?_)
   refine Bu rfl ⟨?_,?_⟩
   · exact(Po rfl (BC Sf L3 rfl (.cons Order.l0 rfl rfl rfl .nil)) rfl rfl (Po rfl (AH rfl A4 .m1 ((AL.l1.comp (AU.arr (n:=4) A2.fl hk.1 hk.2)).comp A2.l1) rfl rfl) rfl rfl (Po rfl (Ai IV rfl) rfl rfl (Po rfl (BV rfl) rfl rfl (Po rfl (AF rfl) rfl rfl (Po rfl (AZ rfl BZ .m1 AL.l0 rfl) rfl rfl (Po rfl (Ai EL rfl) rfl rfl (Po rfl (BV rfl) rfl rfl (Po rfl (AF rfl) rfl rfl As)))))))))
   refine An 9 rfl (by kernel_rfl) ?_
   refine BE rfl aH (.c rfl (.c rfl (.c rfl .n))) .n (GW V.w (V.Ax.at k).Au AI.EG hF.FP.HS (Nat.zero_le _) (Nat.zero_le _)) (fun w hS=>⟨gl1.pull gm1 hS .n,gl2.pull gm2 hS .n,gl3.pull gm3 hS .n⟩) (fun v16 B hv=>?_)
   obtain⟨y17,rfl,y18,rfl⟩:=hv
   refine Bu rfl ⟨?_,?_⟩
   · exact(Pk (Pk (Pk (Pk (Pk (Pk (Pk (Pk (Pk As)))))))))
   refine Pf 10 rfl (AF rfl) (Pf 11 rfl (AM rfl rfl) (Pf 12 rfl (AM rfl rfl) (Pf 13 rfl (AM rfl rfl) ?_)))
   refine An 15 rfl (by kernel_rfl) ?_
   refine AT (AK (AU.id AG.fl.len AG.fl.one) rfl rfl rfl EC rfl (.t .h)) ?_
   refine BO rfl ⟨?_,?_⟩
   · exact(Po rfl (AM rfl rfl) rfl rfl (Po rfl (AM rfl rfl) rfl rfl (Pk (Pk (Pk (Pk (Pk (Pk (Pk (Pk (Pk (Pk (Pk As)))))))))))))
   refine Pf 16 rfl (A0 rfl) (Pf 17 rfl (A0 rfl) ?_)
   refine A3 (by kernel_rfl) ?_
   refine AB (.t4 0 1 4 5) ?_
   refine AA (Gs (Gm rfl (Gt (AZ rfl BZ .m1 (AU.id AG.fl.len AG.fl.one) rfl) (Gt (BV rfl) (Gt (Ai EL rfl) ?_)))))
   refine AT (AK AL.l0 rfl rfl rfl EC rfl (.t (.t .h))) ?_
   refine Gn (.t3 0 1 5) (Ap ?_)
   refine Eu (.c (.t (.t .h)) (.c (.t (.t .h)) .n)) ?_
   refine Ft (k:=k) hk.1 hk.2 (fun sv sl hsv hlv hln=>?_)
   refine AJ (Gm rfl (Gt (BC WZ V5 rfl .nil) (Gt (BV rfl) ?_)))
   refine AT (AK (AU.BM { V with w:=(AE.EF V.w (V.Ax.at k).Au AI.EG).1 } hk.1 hk.2) rfl rfl rfl Tw rfl (.t (.t (.t .h)))) ?_
   refine Gn (.t3 0 1 5) ?_
   refine Eb A7 9 1 ?_
   refine Eb A7 9 1 ?_
   refine Eb A7 9 1 ?_
   refine Eu (.c (.t (.t .h)) (.c (.t .h) (.c .h (.c (.t (.t (.t .h))) (.c (.t (.t (.t .h))) .n))))) ?_
   refine HG hk.1 hk.2 (by rfl) (by rfl) (by rfl) ?_
   refine AJ (Gm rfl (Gm rfl ?_))
   refine BE rfl VZ (.c rfl (.c rfl .n)) (.c .h (.c .h (.c (.t (.t (.t (.t (.t .h))))) (.c (.t (.t (.t .h))) .n)))) (E1 _ (AL.BM { V with w:=(AE.EF V.w (V.Ax.at k).Au AI.EG).1 } k default) (ls.put k ⟨[],[],[]⟩) ev _ (AE.EF V.w (V.Ax.at k).Au AI.EG).2.1 n (by assumption) (Gp (((hF.land hds.1).free hk.1 hk.2) |> fun h=>by rw [← OT,← Ib hk.1 hk.2] at h;exact h)) (by omega) (Nat.le_trans hF.last (by omega)) (fun e he c _=>hds.2 e he)) (fun w hS=>⟨gl0.pull gm0 hS (.c .h (.c .h (.c (.t (.t (.t (.t (.t .h))))) (.c (.t (.t (.t .h))) .n)))),gl1.pull gm1 hS (.c .h (.c .h (.c (.t (.t (.t (.t (.t .h))))) (.c (.t (.t (.t .h))) .n))))⟩) (fun v23 B hv=>?_)
   obtain⟨y24,y25,y26,rfl,y27,rfl⟩:=hv
   refine Gn (.t1 1) ?_
   refine Ft (k:=k) hk.1 hk.2 (fun sv sl hsv hlv hln=>?_)
   refine AJ (Gm rfl (Gt (BC WZ V5 rfl .nil) (Gt (BV rfl) ?_)))
   refine AT (AK (AU.BM y24 hk.1 hk.2) rfl rfl rfl Tw rfl (.t (.t (.t .h)))) ?_
   refine AQ ?_
   refine Bk rfl .n ?_
   intro w1 hS
   have hS:=hS.Cr 9 1
   have hS:=hS.Cr 9 1
   have hS:=hS.Cr 9 1
   have hS:=(hS.perm (Ay.perm (.c (.t (.t .h)) (.c (.t .h) (.c .h (.c (.t (.t (.t .h))) (.c (.t (.t (.t .h))) (.c (.t (.t (.t .h))) .n)))))))).A1
   have hS:=St.close' (s:=default) (qs:= []) (ws:= []) (ts:= []) hk.1 hk.2 rfl rfl rfl hS
   refine⟨_,⟨_,_,_,rfl,?ga2,rfl⟩,hS⟩
   case ga2=>exact Q4 hk.1 hk.2 c1 y27
 refine Aa ?_
 refine AB (.t1 1) ?_
 refine AA ?_
 refine Ft (k:=k) hk.1 hk.2 (fun sv sl hsv hlv hln=>?_)
 refine AJ (Gm rfl (Gt (BC WZ V5 rfl .nil) (Gt (BV rfl) ?_)))
 refine AT (AK (AU.BM V hk.1 hk.2) rfl rfl rfl Tw rfl (.t (.t (.t .h)))) ?_
 refine AQ ?_
 refine Bk rfl .n ?_
 intro w1 hS
 have hS:=hS.Cr 9 1
 have hS:=hS.Cr 9 1
 have hS:=hS.Cr 9 1
 have hS:=(hS.perm (Ay.perm (.c (.t (.t .h)) (.c (.t .h) (.c .h (.c (.t (.t (.t .h))) (.c (.t (.t (.t .h))) (.c (.t (.t (.t .h))) .n)))))))).A1
 have hS:=St.close' (s:=default) (qs:= []) (ws:= []) (ts:= []) hk.1 hk.2 rfl rfl rfl hS
 refine⟨_,⟨_,_,_,rfl,?ga3,rfl⟩,hS⟩
 case ga3=>exact U5 hk.1 hk.2 c1
theorem Py (b:Nat)(V:AL)(ls:Vector BG 4)(ev:List Ing.Event)(k:Int)(u:Ao)(n m:Nat)(hk:0≤k∧k < 4)(hF:AI.Fit (A5 V ls ev) n m)(hn:n≤900000)(hm:m≤900000)(hu:u.length≤1000):FC Tryz.prog 95 #[.pointer (some ⟨b,0,none⟩), .pointer (some ⟨b,165+k.toNat * 22,none⟩),BU u] [Ac.box b 101 (AL.enc V),Ac.D7 (CJ 9 (AL.Ax V) ls),Ac.own (AL.last V) 56 16 ((ev).flatMap Ing.Event.enc)] (fun w=>(GV 2 Fa w∧2 ∉ Cc [Ac.box b 101 (AL.enc V),Ac.D7 (CJ 9 (AL.Ax V) ls),Ac.own (AL.last V) 56 16 ((ev).flatMap Ing.Event.enc)])∧(GV 0 AG.DE w∧0 ∉ Cc [Ac.box b 101 (AL.enc V),Ac.D7 (CJ 9 (AL.Ax V) ls),Ac.own (AL.last V) 56 16 ((ev).flatMap Ing.Event.enc)])∧(G0 7 w∧7 ∉ Cc [Ac.box b 101 (AL.enc V),Ac.D7 (CJ 9 (AL.Ax V) ls),Ac.own (AL.last V) 56 16 ((ev).flatMap Ing.Event.enc)])∧(G0 8 w∧8 ∉ Cc [Ac.box b 101 (AL.enc V),Ac.D7 (CJ 9 (AL.Ax V) ls),Ac.own (AL.last V) 56 16 ((ev).flatMap Ing.Event.enc)])) (fun v B=>∃ V' ls' ev',v = .tuple #[]∧A5 V' ls' ev'=AI.order (A5 V ls ev) k u∧B = [Ac.box b 101 (AL.enc V'),Ac.D7 (CJ 9 (AL.Ax V') ls'),Ac.own (AL.last V') 56 16 ((ev').flatMap Ing.Event.enc)]):=by
 intro w hS0 hH
 obtain⟨⟨gl0,gm0⟩,⟨gl1,gm1⟩,⟨gl2,gm2⟩,⟨gl3,gm3⟩⟩:=hH
 have hps:=Words.Jy u
 have hdl:=AE.NZ V.w (V.Ax.at k).Au (Words.parse u).1
 have hds:=AE.IC (b:=(V.Ax.at k).Au) (o:=(Words.parse u).1) hF.FP (by have:=hps.2.2;omega)
 have htn:=Gp hF
 refine Al _ _ Tryz.func95 rfl rfl rfl (hS0) ?_
 refine Gs (Gm rfl ?_)
 refine BA rfl dH (.c rfl .n) (fun w hS=>Me u (by omega) w (gl1.stM gm1 hS) (gl2.stM gm2 hS) (gl3.stM gm3 hS)) ?_
 refine Gm rfl (Gt (AM rfl rfl) (Gt (AM rfl rfl) ?_))
 refine BH rfl L3 rfl (fun b1=>?_)
 refine AT (AK (AU.id Order.fl.len Order.fl.one) rfl rfl rfl D9 rfl .h) ?_
 refine Ga rfl (Gn (.t4 0 1 6 7) (CD (Gm rfl (Gt (Ca rfl rfl) (Gn (.t4 0 1 6 17) ?_)))))
 refine Gc (fun c1=>?_) (fun c1=>?_)
 ·
  have c1p:=kz c1
  refine Gs (Gm rfl (Gm rfl ?_))
  refine Ah rfl UR (.c rfl (.c rfl (.c rfl .n))) (.c (.t .h) (.c (.t .h) (.c (.t .h) .n))) (EO _ V ls ev k _ hk (Nat.le_trans (htn k hk.1 hk.2) (by omega))) (fun v1 B hv=>?_)
  obtain⟨y2,y3,y4,rfl,y5,rfl⟩:=hv
  refine Gn (.nil _) (Ab (AD ?_))
  refine AY rfl .n ?_
  intro w1 hS
  have hS:=(hS.perm (Ay.perm (.c .h (.c .h (.c .h .n))))).A1
  refine⟨_,⟨y2,y3,y4,rfl,?ga1,rfl⟩,hS⟩
  case ga1=>exact y5.trans (if_pos c1).symm
 have c1p:=kz c1
 refine Aa ?_
 refine AB (.t3 0 1 6) ?_
 refine AA (CD (Gt (Ai DI rfl) (Gt (AH rfl A4 .m0 Order.l0 rfl rfl) (Gt (Ag rfl rfl) (Gn (.t4 0 1 6 23) ?_)))))
 refine Gc (fun c2=>?_) (fun c2=>?_)
 ·
  refine Gs (Gm rfl (Gm rfl ?_))
  refine BE rfl cE (.c rfl (.c rfl .n)) (.c (.t .h) (.c (.t .h) (.c (.t .h) .n))) (Ia _ V ls ev k n m hk hF hn hm) (fun w hS=>⟨gl0.pull gm0 hS (.c (.t .h) (.c (.t .h) (.c (.t .h) .n))),gl1.pull gm1 hS (.c (.t .h) (.c (.t .h) (.c (.t .h) .n))),gl2.pull gm2 hS (.c (.t .h) (.c (.t .h) (.c (.t .h) .n))),gl3.pull gm3 hS (.c (.t .h) (.c (.t .h) (.c (.t .h) .n)))⟩) (fun v6 B hv=>?_)
  obtain⟨y7,y8,y9,rfl,y10,rfl⟩:=hv
  refine Gn (.nil _) (Ab (AD ?_))
  refine AY rfl .n ?_
  intro w1 hS
  have hS:=(hS.perm (Ay.perm (.c .h (.c .h (.c .h .n))))).A1
  refine⟨_,⟨y7,y8,y9,rfl,?ga2,rfl⟩,hS⟩
  case ga2=>exact y10.trans ((AX c1).trans (BB c2)).symm
 have c2p:=kz c2
 refine Aa ?_
 refine AB (.t3 0 1 6) ?_
 refine AA (Ap ?_)
 refine BD (N:=18) [0,1,3,7,0,16,48,112,0,511,1023,2047,2047,2047,0,20479,57343,131071] mix (by kernel_rfl) rfl ?_
 refine Pf 0 rfl (AF rfl) (Pf 1 rfl (BV rfl) (Pf 2 rfl (Ai EL rfl) (Pf 3 rfl (AZ rfl BZ .m1 AL.l0 rfl) (Pf 4 rfl (AF rfl) (Pf 5 rfl (BV rfl) (Pf 6 rfl (Ai IV rfl) (Pf 7 rfl (AH rfl A4 .m1 ((AL.l1.comp (AU.arr (n:=4) A2.fl hk.1 hk.2)).comp A2.l1) rfl rfl) ?_)))))))
 refine Pf 8 rfl (AZ rfl CA .m0 (AU.id Order.fl.len Order.fl.one) rfl) ?_
 refine J7 9 14 rfl rfl (by kernel_rfl) ?_ ?_
 ·
  refine BE rfl aH (.c rfl (.c rfl (.c rfl .n))) .n (GW V.w (V.Ax.at k).Au (Words.parse u).1 hF.FP.HS (by have:=hps.2.1;omega) (by have:=hps.1;omega)) (fun w hS=>⟨gl1.pull gm1 hS .n,gl2.pull gm2 hS .n,gl3.pull gm3 hS .n⟩) (fun v11 B hv=>?_)
  obtain⟨y12,rfl,y13,rfl⟩:=hv
  refine Bu rfl ⟨?_,?_⟩
  · exact(Pk (Pk (Pk (Pk (Pk (Pk (Pk (Pk (Pk As)))))))))
  refine Pf 10 rfl (AF rfl) (Pf 11 rfl (AM rfl rfl) (Pf 12 rfl (AM rfl rfl) (Pf 13 rfl (AM rfl rfl) ?_)))
  refine An 14 rfl (by kernel_rfl) ?_
  refine BH rfl NS rfl (fun b2=>?_)
  refine Bu rfl ⟨?_,?_⟩
  · exact(Po rfl (AM rfl rfl) rfl rfl (Po rfl (AM rfl rfl) rfl rfl (Po rfl (AM rfl rfl) rfl rfl (Po rfl (AF rfl) rfl rfl (Po rfl (AZ rfl CA .m2 (AU.id Order.fl.len Order.fl.one) rfl) rfl rfl (Po rfl (AH rfl A4 .m3 ((AL.l1.comp (AU.arr (n:=4) A2.fl hk.1 hk.2)).comp A2.l1) rfl rfl) rfl rfl (Po rfl (Ai IV rfl) rfl rfl (Po rfl (BV rfl) rfl rfl (Po rfl (AF rfl) rfl rfl (Po rfl (AZ rfl BZ .m3 AL.l0 rfl) rfl rfl (Po rfl (Ai EL rfl) rfl rfl (Po rfl (BV rfl) rfl rfl (Po rfl (AF rfl) rfl rfl As)))))))))))))
  refine An 15 rfl (by kernel_rfl) ?_
  refine AT (AK (AU.id AG.fl.len AG.fl.one) rfl rfl rfl EC rfl .h) ?_
  refine BO rfl ⟨?_,?_⟩
  · exact(Po rfl (AM rfl rfl) rfl rfl (Po rfl (AM rfl rfl) rfl rfl (Pk (Pk (Pk (Pk (Pk (Pk (Pk (Pk (Pk (Pk (Pk As)))))))))))))
  refine Pf 16 rfl (A0 rfl) (Pf 17 rfl (A0 rfl) ?_)
  refine A3 (by kernel_rfl) ?_
  refine AB (.t3 0 8 9) ?_
  refine AA (Gs (Gm rfl (Gt (AZ rfl BZ .m0 (AU.id AG.fl.len AG.fl.one) rfl) (Gt (BV rfl) (Gt (Ai EL rfl) ?_)))))
  refine AT (AK AL.l0 rfl rfl rfl EC rfl (.t (.t (.t .h)))) ?_
  refine Gn (.t2 0 9) (AJ (Gm rfl (Gm rfl ?_)))
  refine BE rfl VZ (.c rfl (.c rfl .n)) (.c (.t (.t (.t .h))) (.c (.t (.t (.t .h))) (.c (.t (.t (.t .h))) (.c (.t .h) .n)))) (E1 _ { V with w:=(AE.EF V.w (V.Ax.at k).Au (Words.parse u).1).1 } ls ev _ (AE.EF V.w (V.Ax.at k).Au (Words.parse u).1).2.1 n (by assumption) htn (by omega) (Nat.le_trans hF.last (by omega)) (fun e he c _=>hds.2 e he)) (fun w hS=>⟨gl0.pull gm0 hS (.c (.t (.t (.t .h))) (.c (.t (.t (.t .h))) (.c (.t (.t (.t .h))) (.c (.t .h) .n)))),gl1.pull gm1 hS (.c (.t (.t (.t .h))) (.c (.t (.t (.t .h))) (.c (.t (.t (.t .h))) (.c (.t .h) .n))))⟩) (fun v15 B hv=>?_)
  obtain⟨y16,y17,y18,rfl,y19,rfl⟩:=hv
  refine AQ ?_
  refine Bk rfl .n ?_
  intro w1 hS
  have hS:=(hS.perm (Ay.perm (.c .h (.c .h (.c .h .n))))).A1
  refine⟨_,⟨y16,y17,y18,rfl,?ga3,rfl⟩,hS⟩
  case ga3=>exact VG hk.1 hk.2 c1 c2 y19
 ·
  refine BH rfl NS rfl (fun b3=>?_)
  refine Bu rfl ⟨?_,?_⟩
  · exact(Po rfl (AZ rfl CA .m1 (AU.id Order.fl.len Order.fl.one) rfl) rfl rfl (Po rfl (AH rfl A4 .m2 ((AL.l1.comp (AU.arr (n:=4) A2.fl hk.1 hk.2)).comp A2.l1) rfl rfl) rfl rfl (Po rfl (Ai IV rfl) rfl rfl (Po rfl (BV rfl) rfl rfl (Po rfl (AF rfl) rfl rfl (Po rfl (AZ rfl BZ .m2 AL.l0 rfl) rfl rfl (Po rfl (Ai EL rfl) rfl rfl (Po rfl (BV rfl) rfl rfl (Po rfl (AF rfl) rfl rfl As)))))))))
  refine An 9 rfl (by kernel_rfl) ?_
  refine BE rfl aH (.c rfl (.c rfl (.c rfl .n))) .n (GW V.w (V.Ax.at k).Au (Words.parse u).1 hF.FP.HS (by have:=hps.2.1;omega) (by have:=hps.1;omega)) (fun w hS=>⟨gl1.pull gm1 hS .n,gl2.pull gm2 hS .n,gl3.pull gm3 hS .n⟩) (fun v20 B hv=>?_)
  obtain⟨y21,rfl,y22,rfl⟩:=hv
  refine Bu rfl ⟨?_,?_⟩
  · exact(Pk (Pk (Pk (Pk (Pk (Pk (Pk (Pk (Pk As)))))))))
  refine Pf 10 rfl (AF rfl) (Pf 11 rfl (AM rfl rfl) (Pf 12 rfl (AM rfl rfl) (Pf 13 rfl (AM rfl rfl) ?_)))
  refine An 15 rfl (by kernel_rfl) ?_
  refine AT (AK (AU.id AG.fl.len AG.fl.one) rfl rfl rfl EC rfl (.t .h)) ?_
  refine BO rfl ⟨?_,?_⟩
  · exact(Po rfl (AM rfl rfl) rfl rfl (Po rfl (AM rfl rfl) rfl rfl (Pk (Pk (Pk (Pk (Pk (Pk (Pk (Pk (Pk (Pk (Pk As)))))))))))))
  refine Pf 16 rfl (A0 rfl) (Pf 17 rfl (A0 rfl) ?_)
  refine A3 (by kernel_rfl) ?_
  refine AB (.t3 0 8 9) ?_
  refine AA (Gs (Gm rfl (Gt (AZ rfl BZ .m1 (AU.id AG.fl.len AG.fl.one) rfl) (Gt (BV rfl) (Gt (Ai EL rfl) ?_)))))
  refine AT (AK AL.l0 rfl rfl rfl EC rfl (.t (.t (.t .h)))) ?_
  refine Gn (.t2 0 9) (AJ (Gm rfl (Gm rfl ?_)))
  refine BE rfl VZ (.c rfl (.c rfl .n)) (.c (.t (.t (.t .h))) (.c (.t (.t (.t .h))) (.c (.t (.t (.t .h))) (.c .h .n)))) (E1 _ { V with w:=(AE.EF V.w (V.Ax.at k).Au (Words.parse u).1).1 } ls ev _ (AE.EF V.w (V.Ax.at k).Au (Words.parse u).1).2.1 n (by assumption) htn (by omega) (Nat.le_trans hF.last (by omega)) (fun e he c _=>hds.2 e he)) (fun w hS=>⟨gl0.pull gm0 hS (.c (.t (.t (.t .h))) (.c (.t (.t (.t .h))) (.c (.t (.t (.t .h))) (.c .h .n)))),gl1.pull gm1 hS (.c (.t (.t (.t .h))) (.c (.t (.t (.t .h))) (.c (.t (.t (.t .h))) (.c .h .n))))⟩) (fun v24 B hv=>?_)
  obtain⟨y25,y26,y27,rfl,y28,rfl⟩:=hv
  refine AQ ?_
  refine Bk rfl .n ?_
  intro w1 hS
  have hS:=(hS.perm (Ay.perm (.c .h (.c .h (.c .h .n))))).A1
  refine⟨_,⟨y25,y26,y27,rfl,?ga4,rfl⟩,hS⟩
  case ga4=>exact VG hk.1 hk.2 c1 c2 y28
end Go.Proofs.YtoidpggbbfncpaaGreatDoor

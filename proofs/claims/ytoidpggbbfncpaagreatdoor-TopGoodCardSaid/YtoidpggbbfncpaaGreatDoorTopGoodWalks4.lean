/- What the functions that the law TopGood reaches compute: walks, part 4. No condition. -/
import Derived.Test.YtoidpggbbfncpaaGreatDoorCards
import Derived.Test.YtoidpggbbfncpaaGreatDoorTie
import Derived.Deep.DeepHandedRow
import Derived.Test.YtoidpggbbfncpaaGreatDoorRows
import Derived.Test.YtoidpggbbfncpaaGreatDoorTopGoodEc3
import Derived.Test.YtoidpggbbfncpaaGreatDoorTopGoodRa1
import Derived.Test.YtoidpggbbfncpaaGreatDoorTopGoodRb1
import Derived.Test.YtoidpggbbfncpaaGreatDoorTopGoodRc1
import Derived.Test.YtoidpggbbfncpaaGreatDoorTopGoodWalks
import Derived.Test.YtoidpggbbfncpaaGreatDoorTopGoodWalks2
import Derived.Test.YtoidpggbbfncpaaGreatDoorTopGoodWalks3
set_option linter.unusedSimpArgs false
set_option linter.unusedVariables false
set_option maxRecDepth 100000
set_option maxHeartbeats 1000000
namespace Go.Proofs.YtoidpggbbfncpaaGreatDoor
open Go Go.Ing Go.RowKit Go.ChangeShapes Go.WideShapes Go.ChangeAt
theorem SJ (b:Nat)(T:AF)(g:Hd)(o:Order)(hg:g.len=T.out.length)(hF:T.Fit)(hu:o.second.length≤5000000)(hn:T.out.length≤90000):FK Tryz.prog 105 #[.pointer (some ⟨b,0,none⟩), .agg o.enc.toArray] [Ac.box b 163 (Ad.enc ⟨T.w,T.b,g⟩),Ac.own g 56 16 (T.out.flatMap Ing.Event.enc)] (fun w=>(Gu 7 w∧7 ∉ Cf [Ac.box b 163 (Ad.enc ⟨T.w,T.b,g⟩),Ac.own g 56 16 (T.out.flatMap Ing.Event.enc)])∧(Gu 8 w∧8 ∉ Cf [Ac.box b 163 (Ad.enc ⟨T.w,T.b,g⟩),Ac.own g 56 16 (T.out.flatMap Ing.Event.enc)])) (fun v B=>∃ g':Hd,v = .tuple #[]∧g'.len=(T.get o).out.length∧B = [Ac.box b 163 (Ad.enc ⟨(T.get o).w,(T.get o).b,g'⟩),Ac.own g' 56 16 ((T.get o).out.flatMap Ing.Event.enc)]):=by
 intro w hS0 hH
 obtain⟨⟨gl0,gm0⟩,⟨gl1,gm1⟩⟩:=hH
 have hb:=hF.b
 have hr:=hF.room
 refine Ak _ _ Tryz.func105 rfl rfl rfl (hS0) ?_
 refine Gs ?_
 refine B5 rfl rfl rfl (fun b1=>?_)
 refine Gn (.t2 0 3) (Gs (Gm rfl ?_))
 refine Ai rfl W1 (.c rfl .n) (.c (.t .h) .n) (I9 _ _ _ (by first | assumption | omega)) (fun v1 B hv=>?_)
 obtain⟨y2,rfl,y3,rfl⟩:=hv
 refine Ga rfl (Gn (.t3 0 3 4) (CB (Gt (Ah Hy rfl) (Gt (AG rfl CP .m2 Order.l4 rfl rfl) (Gt (D1 rfl rfl) (Gn (.t4 0 3 4 14) ?_))))))
 refine Gc (fun c1=>?_) (fun c1=>?_)
 ·
  have c1p:=kz c1
  refine Gs (Gm rfl (Gt (Ah Hy rfl) (Gt (AG rfl CP .m2 Order.l4 rfl rfl) ?_)))
  refine BF rfl ZA (.c rfl (.c rfl .n)) (.c .h (.c (.t (.t .h)) .n)) (Mg _ T _ _ hg hF hu (by omega)) (fun w hS=>⟨gl0.pull gm0 hS (.c .h (.c (.t (.t .h)) .n)),gl1.pull gm1 hS (.c .h (.c (.t (.t .h)) .n))⟩) (fun v5 B hv=>?_)
  obtain⟨y6,rfl,y7,rfl⟩:=hv
  refine Gm rfl (Gt (AN rfl rfl) (Gt (AN rfl rfl) (Ga rfl (Ga rfl (Gn (.t4 0 3 5 6) (CB (Gm rfl ?_)))))))
  refine Gt (BQ rfl) (Gn (.t4 0 3 5 23) ?_)
  refine Gc (fun c2=>?_) (fun c2=>?_)
  ·
   have c2p:=kz c2
   refine Ab (AD (AD ?_))
   refine AZ rfl .n ?_
   intro w1 hS
   have hS:=(hS.perm (Ax.perm (.c .h (.c .h .n)))).A1
   have hq:T.get o=_:=((BB c1).trans (BB c2))
   refine⟨_,⟨?gq1,rfl,?hl1,?hB1⟩,hS⟩
   case hB1=>rw [hq];(try rfl)
   case hl1=>rw [hq];assumption
  have c2p:=kz c2
  refine Aa ?_
  refine AB (.t3 0 3 5) ?_
  refine AA (AJ (Gm rfl (Gt (BV rfl) (Gt (Ah A9 rfl) (Gt (AY rfl BW .m0 Ad.l0 rfl) (Gm rfl ?_))))))
  refine Ai rfl SK (.c rfl (.c rfl (.c rfl .n))) .n (FD _ _ _) (fun v8 B hv=>?_)
  obtain⟨y9,rfl,y10,rfl⟩:=hv
  refine Ga rfl (Gn (.t3 0 3 4) (Gs (Gm rfl (Gm rfl (Gt (Ah GM rfl) (Gt (AG rfl A5 .m4 Order.l1 rfl rfl) (Gt (Ah Fm rfl) ?_)))))))
  refine Gt (AG rfl CP .m4 Order.l3 rfl rfl) (Gt (Ah HC rfl) (Gt (AG rfl DN .m4 Order.l2 rfl rfl) ?_))
  refine Ai rfl QG (.c rfl (.c rfl (.c rfl (.c rfl (.c rfl .n))))) (.c (.t .h) (.c .h .n)) (Ex _ (T.box o.second).1 _ _ ((T.box o.second).1.w.has 2 (T.box o.second).2.1) _ _ _ (hF.Ef (T.Ji _).1 (T.Ji _).2) (by assumption) (Nat.le_trans (AH.H7 _ _ _) (by decide)) (fun i hi=>AH.Fi hi)) (fun v12 B hv=>?_)
  obtain⟨y13,rfl,y14,rfl⟩:=hv
  refine Ga rfl (Gn (.t2 0 4) (CB (Gm rfl (Gt (Av rfl Tryz.underlying169 rfl) (Gt (Aj rfl rfl) (Gn (.t3 0 4 41) ?_))))))
  refine Gc (fun c3=>?_) (fun c3=>?_)
  ·
   have c3p:=kz c3
   rw [y14] at c3
   refine AJ (Gm rfl ?_)
   refine Ai rfl EC (.c rfl (.c rfl .n)) (.c .h (.c (.t (.t .h)) .n)) (Bc _ (T.box o.second).1 _ _ (by assumption) (by rw [(T.Ji _).2];exact hb) (by have:=T.Ho o.second;omega)) (fun v16 B hv=>?_)
   obtain⟨y17,rfl,y18,rfl⟩:=hv
   refine Gn (.t2 0 4) (Gs (Gm rfl (Gt (Av rfl Tryz.underlying169 rfl) (Gm rfl (Gn (.t4 0 44 45 46) (Ae ?_))))))
   refine Bo (.t4 46 0 44 45) ?_
   refine Bh (.t .h) ?_
   refine Bh (.t .h) ?_
   refine Dt (fun(k:Int) (X:AF) (h:Hd)=>0≤k∧k≤((AF.BR (T.box o.second).1.w ((T.box o.second).1.w.has 2 (T.box o.second).2.1) o.nth o.name o.Bj).length:Int)∧T.get o=X.DE ((AF.BR (T.box o.second).1.w ((T.box o.second).1.w.has 2 (T.box o.second).2.1) o.nth o.name o.Bj).drop k.toNat)∧X.b=T.b∧(X.out.length:Int)≤T.out.length+2+k∧h.len=X.out.length∧((AF.BR (T.box o.second).1.w ((T.box o.second).1.w.has 2 (T.box o.second).2.1) o.nth o.name o.Bj).length:Int)≤9) (fun(k:Int) (X:AF) (h:Hd)=>(((AF.BR (T.box o.second).1.w ((T.box o.second).1.w.has 2 (T.box o.second).2.1) o.nth o.name o.Bj).length:Int) - k).toNat) (fun(k:Int) (X:AF) (h:Hd)=> [(46, .int .i64 k)]) (fun(k:Int) (X:AF) (h:Hd)=> [Ac.box b 163 (Ad.enc ⟨X.w,X.b,h⟩),Ac.own h 56 16 (X.out.flatMap Ing.Event.enc)]) (0) (_) (_) ?_ rfl rfl (fun k X h hI1=>?_)
   · exact⟨by omega,by omega,((BB c1).trans (AX c2)).trans (congrArg (fun q=>AF.DE q _) (BB c3)),(T.Ji _).2,by have:=T.Ho o.second;(try simp only [AF.CE]);omega,by assumption,by have:=(AF.EW (T.box o.second).1.w ((T.box o.second).1.w.has 2 (T.box o.second).2.1) o.nth o.name o.Bj).length_le;have:=AH.H7 (T.box o.second).1.w 2 (T.box o.second).2.1;omega⟩
   obtain⟨hI11,hI12,hI13,hI14,hI15,hI16,hI17⟩:=hI1
   refine Gs (Gt (A8 rfl rfl) (AR (AA (Ap ?_))))
   refine Gc (fun c4=>?_) (fun c4=>?_)
   ·
    have c4p:=kz c4
    have hx:0≤(AF.BR (T.box o.second).1.w ((T.box o.second).1.w.has 2 (T.box o.second).2.1) o.nth o.name o.Bj).getD k.toNat 0∧(AF.BR (T.box o.second).1.w ((T.box o.second).1.w.has 2 (T.box o.second).2.1) o.nth o.name o.Bj).getD k.toNat 0 < 9:=(fun i hi=>AH.Fi (AF.Dp hi)) _ (Bg.Eo (xs:=(AF.BR (T.box o.second).1.w ((T.box o.second).1.w.has 2 (T.box o.second).2.1) o.nth o.name o.Bj)) (i:=k.toNat) (by omega))
    refine Aa ?_
    refine AB (.t4 0 44 45 46) ?_
    refine AA (Ap (Ae (Gs ?_)))
    refine Gt (Br GY (by decide) (Kn.own .m3) rfl rfl (by omega) (by omega)) ?_
    refine Gt (DJ rfl A5 (Kn.own .m3) (by omega)) ?_
    refine Ga rfl (Gn (.t5 0 8 44 45 46) (Gs (Gm rfl (Gm rfl (Gt (BV rfl) (Gt (Ah A9 rfl) (Gt (Ah Cw rfl) ?_)))))))
    refine Gt (AQ F9 rfl rfl (by first | omega | exact hb.1 | exact hb.2 | (dsimp only;omega)) (by first | omega | exact hb.1 | exact hb.2 | (dsimp only;omega))) ?_
    refine Ga rfl (Gn (.t6 0 8 9 44 45 46) (Gs (Gm rfl (Gm rfl (Gm rfl (Gt (BV rfl) (Gt (Ah CR rfl) ?_)))))))
    refine Gt (AG rfl A5 .m0 Ad.l1 rfl rfl) (Gt (BV rfl) (Gt (Ah FP rfl) ?_))
    refine AS (AK (((Ad.l0.comp AH.l1).comp (AU.ar (n:=9) Al.fl (by first | omega | exact hb | (dsimp only;omega)))).comp Al.l2) rfl rfl rfl DB rfl .h) ?_
    refine Gt (BV rfl) (Gt (Ah DF rfl) ?_)
    refine AS (AK (((Ad.l0.comp AH.l1).comp (AU.ar (n:=9) Al.fl (by first | omega | exact hb | (dsimp only;omega)))).comp Al.l3) rfl rfl rfl DB rfl .h) ?_
    refine Gn (.t5 0 8 44 45 46) ?_
    refine GC (fun _=> .h) (congrArg (fun q=>Ad.enc ⟨q,_,_⟩) (AF.HK X hx.1 hx.2 1 X.b)) ?_
    refine AJ (Gm rfl (Gm rfl ?_))
    refine Ai rfl OF (.c rfl (.c rfl (.c rfl .n))) (.c .h (.c .h .n)) (Dx _ (X.place ((AF.BR (T.box o.second).1.w ((T.box o.second).1.w.has 2 (T.box o.second).2.1) o.nth o.name o.Bj).getD k.toNat 0) 1 X.b) _ 3 ((AF.BR (T.box o.second).1.w ((T.box o.second).1.w.has 2 (T.box o.second).2.1) o.nth o.name o.Bj).getD k.toNat 0) (by assumption) (show 0≤X.b∧X.b < 6 by rw [hI14];exact hb) hx (show X.out.length≤100000 by omega)) (fun v19 B hv=>?_)
    obtain⟨y20,rfl,y21,rfl⟩:=hv
    refine AR (AB (.t4 0 44 45 46) ?_)
    refine AV (AA (AJ ?_))
    refine Gt (Aw rfl rfl (IntWalk.i64_in _ (by first | omega | exact hb.1 | exact hb.2 | (dsimp only;omega)))) ?_
    refine Gm rfl ?_
    refine AR (AB (.t4 0 44 45 46) ?_)
    refine Bw (k+1) _ _ ?_ ?_ (.t4 46 0 44 45) (.refl _)
    · exact⟨by omega,by omega,by rw [hI13,AF.G9 hI11 (by omega)],hI14,(by rw [AF.FT];show((X.out.length+1:Nat):Int)≤_;omega),by assumption,hI17⟩
    · omega
   have c4p:=kz c4
   obtain rfl:k=((AF.BR (T.box o.second).1.w ((T.box o.second).1.w.has 2 (T.box o.second).2.1) o.nth o.name o.Bj).length:Int):=by omega
   rw [AF.Jb] at hI13
   refine Ba (AW (AW (Af ?_)))
   refine Bk rfl .n ?_
   intro w1 hS
   have hS:=(hS.perm (Ax.perm (.c .h (.c .h .n)))).A1
   refine⟨_,⟨?gq2,rfl,?hl2,?hB2⟩,hS⟩
   case hB2=>rw [hI13];rfl
   case hl2=>rw [hI13];exact hI16
  have c3p:=kz c3
  rw [y14] at c3
  refine Aa ?_
  refine AB (.t2 0 4) ?_
  refine AA (Gs (Gm rfl (Gt (Av rfl Tryz.underlying169 rfl) (Gm rfl (Gn (.t4 0 44 45 46) (Ae ?_))))))
  refine Bo (.t4 46 0 44 45) ?_
  refine Bh (.t (.t (.t .h))) ?_
  refine Bh (.t .h) ?_
  refine Dt (fun(k:Int) (X:AF) (h:Hd)=>0≤k∧k≤((AF.BR (T.box o.second).1.w ((T.box o.second).1.w.has 2 (T.box o.second).2.1) o.nth o.name o.Bj).length:Int)∧T.get o=X.DE ((AF.BR (T.box o.second).1.w ((T.box o.second).1.w.has 2 (T.box o.second).2.1) o.nth o.name o.Bj).drop k.toNat)∧X.b=T.b∧(X.out.length:Int)≤T.out.length+2+k∧h.len=X.out.length∧((AF.BR (T.box o.second).1.w ((T.box o.second).1.w.has 2 (T.box o.second).2.1) o.nth o.name o.Bj).length:Int)≤9) (fun(k:Int) (X:AF) (h:Hd)=>(((AF.BR (T.box o.second).1.w ((T.box o.second).1.w.has 2 (T.box o.second).2.1) o.nth o.name o.Bj).length:Int) - k).toNat) (fun(k:Int) (X:AF) (h:Hd)=> [(46, .int .i64 k)]) (fun(k:Int) (X:AF) (h:Hd)=> [Ac.box b 163 (Ad.enc ⟨X.w,X.b,h⟩),Ac.own h 56 16 (X.out.flatMap Ing.Event.enc)]) (0) (_) (_) ?_ rfl rfl (fun k X h hI1=>?_)
  · exact⟨by omega,by omega,((BB c1).trans (AX c2)).trans (congrArg (fun q=>AF.DE q _) (AX c3)),(T.Ji _).2,by have:=T.Ho o.second;(try simp only [AF.CE]);omega,by assumption,by have:=(AF.EW (T.box o.second).1.w ((T.box o.second).1.w.has 2 (T.box o.second).2.1) o.nth o.name o.Bj).length_le;have:=AH.H7 (T.box o.second).1.w 2 (T.box o.second).2.1;omega⟩
  obtain⟨hI11,hI12,hI13,hI14,hI15,hI16,hI17⟩:=hI1
  refine Gs (Gt (A8 rfl rfl) (AR (AA (Ap ?_))))
  refine Gc (fun c5=>?_) (fun c5=>?_)
  ·
   have c5p:=kz c5
   have hx:0≤(AF.BR (T.box o.second).1.w ((T.box o.second).1.w.has 2 (T.box o.second).2.1) o.nth o.name o.Bj).getD k.toNat 0∧(AF.BR (T.box o.second).1.w ((T.box o.second).1.w.has 2 (T.box o.second).2.1) o.nth o.name o.Bj).getD k.toNat 0 < 9:=(fun i hi=>AH.Fi (AF.Dp hi)) _ (Bg.Eo (xs:=(AF.BR (T.box o.second).1.w ((T.box o.second).1.w.has 2 (T.box o.second).2.1) o.nth o.name o.Bj)) (i:=k.toNat) (by omega))
   refine Aa ?_
   refine AB (.t4 0 44 45 46) ?_
   refine AA (Ap (Ae (Gs ?_)))
   refine Gt (Br GY (by decide) (Kn.own .m3) rfl rfl (by omega) (by omega)) ?_
   refine Gt (DJ rfl A5 (Kn.own .m3) (by omega)) ?_
   refine Ga rfl (Gn (.t5 0 8 44 45 46) (Gs (Gm rfl (Gm rfl (Gt (BV rfl) (Gt (Ah A9 rfl) (Gt (Ah Cw rfl) ?_)))))))
   refine Gt (AQ F9 rfl rfl (by first | omega | exact hb.1 | exact hb.2 | (dsimp only;omega)) (by first | omega | exact hb.1 | exact hb.2 | (dsimp only;omega))) ?_
   refine Ga rfl (Gn (.t6 0 8 9 44 45 46) (Gs (Gm rfl (Gm rfl (Gm rfl (Gt (BV rfl) (Gt (Ah CR rfl) ?_)))))))
   refine Gt (AG rfl A5 .m0 Ad.l1 rfl rfl) (Gt (BV rfl) (Gt (Ah FP rfl) ?_))
   refine AS (AK (((Ad.l0.comp AH.l1).comp (AU.ar (n:=9) Al.fl (by first | omega | exact hb | (dsimp only;omega)))).comp Al.l2) rfl rfl rfl DB rfl .h) ?_
   refine Gt (BV rfl) (Gt (Ah DF rfl) ?_)
   refine AS (AK (((Ad.l0.comp AH.l1).comp (AU.ar (n:=9) Al.fl (by first | omega | exact hb | (dsimp only;omega)))).comp Al.l3) rfl rfl rfl DB rfl .h) ?_
   refine Gn (.t5 0 8 44 45 46) ?_
   refine GC (fun _=> .h) (congrArg (fun q=>Ad.enc ⟨q,_,_⟩) (AF.HK X hx.1 hx.2 1 X.b)) ?_
   refine AJ (Gm rfl (Gm rfl ?_))
   refine Ai rfl OF (.c rfl (.c rfl (.c rfl .n))) (.c .h (.c .h .n)) (Dx _ (X.place ((AF.BR (T.box o.second).1.w ((T.box o.second).1.w.has 2 (T.box o.second).2.1) o.nth o.name o.Bj).getD k.toNat 0) 1 X.b) _ 3 ((AF.BR (T.box o.second).1.w ((T.box o.second).1.w.has 2 (T.box o.second).2.1) o.nth o.name o.Bj).getD k.toNat 0) (by assumption) (show 0≤X.b∧X.b < 6 by rw [hI14];exact hb) hx (show X.out.length≤100000 by omega)) (fun v22 B hv=>?_)
   obtain⟨y23,rfl,y24,rfl⟩:=hv
   refine AR (AB (.t4 0 44 45 46) ?_)
   refine AV (AA (AJ ?_))
   refine Gt (Aw rfl rfl (IntWalk.i64_in _ (by first | omega | exact hb.1 | exact hb.2 | (dsimp only;omega)))) ?_
   refine Gm rfl ?_
   refine AR (AB (.t4 0 44 45 46) ?_)
   refine Bw (k+1) _ _ ?_ ?_ (.t4 46 0 44 45) (.refl _)
   · exact⟨by omega,by omega,by rw [hI13,AF.G9 hI11 (by omega)],hI14,(by rw [AF.FT];show((X.out.length+1:Nat):Int)≤_;omega),by assumption,hI17⟩
   · omega
  have c5p:=kz c5
  obtain rfl:k=((AF.BR (T.box o.second).1.w ((T.box o.second).1.w.has 2 (T.box o.second).2.1) o.nth o.name o.Bj).length:Int):=by omega
  rw [AF.Jb] at hI13
  refine Ba (AW (AW (Af ?_)))
  refine Bk rfl .n ?_
  intro w1 hS
  have hS:=(hS.perm (Ax.perm (.c .h (.c .h .n)))).A1
  refine⟨_,⟨?gq3,rfl,?hl3,?hB3⟩,hS⟩
  case hB3=>rw [hI13];rfl
  case hl3=>rw [hI13];exact hI16
 have c1p:=kz c1
 refine Aa ?_
 refine AB (.t3 0 3 4) ?_
 refine AA (Gs (Gm rfl (Gm rfl (Gt (Ah GM rfl) (Gt (AG rfl A5 .m2 Order.l1 rfl rfl) (Gt (Ah Fm rfl) (Gt (AG rfl CP .m2 Order.l3 rfl rfl) ?_)))))))
 refine Gt (Ah HC rfl) (Gt (AG rfl DN .m2 Order.l2 rfl rfl) ?_)
 refine Ai rfl QG (.c rfl (.c rfl (.c rfl (.c rfl (.c rfl .n))))) (.c .h (.c .h .n)) (Ex _ T _ _ T.seen _ _ _ hF (by assumption) (Nat.le_trans T.Iu (by decide)) (fun i hi=>AF.NR hi)) (fun v25 B hv=>?_)
 obtain⟨y26,rfl,y27,rfl⟩:=hv
 refine Ga rfl (Gn (.t2 0 4) (CB (Gm rfl (Gt (Av rfl Tryz.underlying169 rfl) (Gt (Aj rfl rfl) (Gn (.t3 0 4 41) ?_))))))
 refine Gc (fun c6=>?_) (fun c6=>?_)
 ·
  have c6p:=kz c6
  rw [y27] at c6
  refine AJ (Gm rfl ?_)
  refine Ai rfl EC (.c rfl (.c rfl .n)) (.c .h (.c (.t (.t (.t .h))) .n)) (Bc _ T _ _ (by assumption) (by exact hb) (by have:=T.Ho o.second;omega)) (fun v29 B hv=>?_)
  obtain⟨y30,rfl,y31,rfl⟩:=hv
  refine Gn (.t2 0 4) (Gs (Gm rfl (Gt (Av rfl Tryz.underlying169 rfl) (Gm rfl (Gn (.t4 0 44 45 46) (Ae ?_))))))
  refine Bo (.t4 46 0 44 45) ?_
  refine Bh (.t .h) ?_
  refine Bh (.t .h) ?_
  refine Dt (fun(k:Int) (X:AF) (h:Hd)=>0≤k∧k≤((AF.BR T.w T.seen o.nth o.name o.Bj).length:Int)∧T.get o=X.DE ((AF.BR T.w T.seen o.nth o.name o.Bj).drop k.toNat)∧X.b=T.b∧(X.out.length:Int)≤T.out.length+2+k∧h.len=X.out.length∧((AF.BR T.w T.seen o.nth o.name o.Bj).length:Int)≤9) (fun(k:Int) (X:AF) (h:Hd)=>(((AF.BR T.w T.seen o.nth o.name o.Bj).length:Int) - k).toNat) (fun(k:Int) (X:AF) (h:Hd)=> [(46, .int .i64 k)]) (fun(k:Int) (X:AF) (h:Hd)=> [Ac.box b 163 (Ad.enc ⟨X.w,X.b,h⟩),Ac.own h 56 16 (X.out.flatMap Ing.Event.enc)]) (0) (_) (_) ?_ rfl rfl (fun k X h hI1=>?_)
  · exact⟨by omega,by omega,(AX c1).trans (congrArg (fun q=>AF.DE q _) (BB c6)),rfl,by have:=T.Ho o.second;(try simp only [AF.CE]);omega,by assumption,by have:=(AF.EW T.w T.seen o.nth o.name o.Bj).length_le;have:=T.Iu;omega⟩
  obtain⟨hI11,hI12,hI13,hI14,hI15,hI16,hI17⟩:=hI1
  refine Gs (Gt (A8 rfl rfl) (AR (AA (Ap ?_))))
  refine Gc (fun c7=>?_) (fun c7=>?_)
  ·
   have c7p:=kz c7
   have hx:0≤(AF.BR T.w T.seen o.nth o.name o.Bj).getD k.toNat 0∧(AF.BR T.w T.seen o.nth o.name o.Bj).getD k.toNat 0 < 9:=(fun i hi=>AF.NR (AF.Dp hi)) _ (Bg.Eo (xs:=(AF.BR T.w T.seen o.nth o.name o.Bj)) (i:=k.toNat) (by omega))
   refine Aa ?_
   refine AB (.t4 0 44 45 46) ?_
   refine AA (Ap (Ae (Gs ?_)))
   refine Gt (Br GY (by decide) (Kn.own .m3) rfl rfl (by omega) (by omega)) ?_
   refine Gt (DJ rfl A5 (Kn.own .m3) (by omega)) ?_
   refine Ga rfl (Gn (.t5 0 8 44 45 46) (Gs (Gm rfl (Gm rfl (Gt (BV rfl) (Gt (Ah A9 rfl) (Gt (Ah Cw rfl) ?_)))))))
   refine Gt (AQ F9 rfl rfl (by first | omega | exact hb.1 | exact hb.2 | (dsimp only;omega)) (by first | omega | exact hb.1 | exact hb.2 | (dsimp only;omega))) ?_
   refine Ga rfl (Gn (.t6 0 8 9 44 45 46) (Gs (Gm rfl (Gm rfl (Gm rfl (Gt (BV rfl) (Gt (Ah CR rfl) ?_)))))))
   refine Gt (AG rfl A5 .m0 Ad.l1 rfl rfl) (Gt (BV rfl) (Gt (Ah FP rfl) ?_))
   refine AS (AK (((Ad.l0.comp AH.l1).comp (AU.ar (n:=9) Al.fl (by first | omega | exact hb | (dsimp only;omega)))).comp Al.l2) rfl rfl rfl DB rfl .h) ?_
   refine Gt (BV rfl) (Gt (Ah DF rfl) ?_)
   refine AS (AK (((Ad.l0.comp AH.l1).comp (AU.ar (n:=9) Al.fl (by first | omega | exact hb | (dsimp only;omega)))).comp Al.l3) rfl rfl rfl DB rfl .h) ?_
   refine Gn (.t5 0 8 44 45 46) ?_
   refine GC (fun _=> .h) (congrArg (fun q=>Ad.enc ⟨q,_,_⟩) (AF.HK X hx.1 hx.2 1 X.b)) ?_
   refine AJ (Gm rfl (Gm rfl ?_))
   refine Ai rfl OF (.c rfl (.c rfl (.c rfl .n))) (.c .h (.c .h .n)) (Dx _ (X.place ((AF.BR T.w T.seen o.nth o.name o.Bj).getD k.toNat 0) 1 X.b) _ 3 ((AF.BR T.w T.seen o.nth o.name o.Bj).getD k.toNat 0) (by assumption) (show 0≤X.b∧X.b < 6 by rw [hI14];exact hb) hx (show X.out.length≤100000 by omega)) (fun v32 B hv=>?_)
   obtain⟨y33,rfl,y34,rfl⟩:=hv
   refine AR (AB (.t4 0 44 45 46) ?_)
   refine AV (AA (AJ ?_))
   refine Gt (Aw rfl rfl (IntWalk.i64_in _ (by first | omega | exact hb.1 | exact hb.2 | (dsimp only;omega)))) ?_
   refine Gm rfl ?_
   refine AR (AB (.t4 0 44 45 46) ?_)
   refine Bw (k+1) _ _ ?_ ?_ (.t4 46 0 44 45) (.refl _)
   · exact⟨by omega,by omega,by rw [hI13,AF.G9 hI11 (by omega)],hI14,(by rw [AF.FT];show((X.out.length+1:Nat):Int)≤_;omega),by assumption,hI17⟩
   · omega
  have c7p:=kz c7
  obtain rfl:k=((AF.BR T.w T.seen o.nth o.name o.Bj).length:Int):=by omega
  rw [AF.Jb] at hI13
  refine Ba (AW (AW (Af ?_)))
  refine Bk rfl .n ?_
  intro w1 hS
  have hS:=(hS.perm (Ax.perm (.c .h (.c .h .n)))).A1
  refine⟨_,⟨?gq4,rfl,?hl4,?hB4⟩,hS⟩
  case hB4=>rw [hI13];rfl
  case hl4=>rw [hI13];exact hI16
 have c6p:=kz c6
 rw [y27] at c6
 refine Aa ?_
 refine AB (.t2 0 4) ?_
 refine AA (Gs (Gm rfl (Gt (Av rfl Tryz.underlying169 rfl) (Gm rfl (Gn (.t4 0 44 45 46) (Ae ?_))))))
 refine Bo (.t4 46 0 44 45) ?_
 refine Bh (.t (.t (.t (.t .h)))) ?_
 refine Bh (.t .h) ?_
 refine Dt (fun(k:Int) (X:AF) (h:Hd)=>0≤k∧k≤((AF.BR T.w T.seen o.nth o.name o.Bj).length:Int)∧T.get o=X.DE ((AF.BR T.w T.seen o.nth o.name o.Bj).drop k.toNat)∧X.b=T.b∧(X.out.length:Int)≤T.out.length+2+k∧h.len=X.out.length∧((AF.BR T.w T.seen o.nth o.name o.Bj).length:Int)≤9) (fun(k:Int) (X:AF) (h:Hd)=>(((AF.BR T.w T.seen o.nth o.name o.Bj).length:Int) - k).toNat) (fun(k:Int) (X:AF) (h:Hd)=> [(46, .int .i64 k)]) (fun(k:Int) (X:AF) (h:Hd)=> [Ac.box b 163 (Ad.enc ⟨X.w,X.b,h⟩),Ac.own h 56 16 (X.out.flatMap Ing.Event.enc)]) (0) (_) (_) ?_ rfl rfl (fun k X h hI1=>?_)
 · exact⟨by omega,by omega,(AX c1).trans (congrArg (fun q=>AF.DE q _) (AX c6)),rfl,by have:=T.Ho o.second;(try simp only [AF.CE]);omega,by assumption,by have:=(AF.EW T.w T.seen o.nth o.name o.Bj).length_le;have:=T.Iu;omega⟩
 obtain⟨hI11,hI12,hI13,hI14,hI15,hI16,hI17⟩:=hI1
 refine Gs (Gt (A8 rfl rfl) (AR (AA (Ap ?_))))
 refine Gc (fun c8=>?_) (fun c8=>?_)
 ·
  have c8p:=kz c8
  have hx:0≤(AF.BR T.w T.seen o.nth o.name o.Bj).getD k.toNat 0∧(AF.BR T.w T.seen o.nth o.name o.Bj).getD k.toNat 0 < 9:=(fun i hi=>AF.NR (AF.Dp hi)) _ (Bg.Eo (xs:=(AF.BR T.w T.seen o.nth o.name o.Bj)) (i:=k.toNat) (by omega))
  refine Aa ?_
  refine AB (.t4 0 44 45 46) ?_
  refine AA (Ap (Ae (Gs ?_)))
  refine Gt (Br GY (by decide) (Kn.own .m3) rfl rfl (by omega) (by omega)) ?_
  refine Gt (DJ rfl A5 (Kn.own .m3) (by omega)) ?_
  refine Ga rfl (Gn (.t5 0 8 44 45 46) (Gs (Gm rfl (Gm rfl (Gt (BV rfl) (Gt (Ah A9 rfl) (Gt (Ah Cw rfl) ?_)))))))
  refine Gt (AQ F9 rfl rfl (by first | omega | exact hb.1 | exact hb.2 | (dsimp only;omega)) (by first | omega | exact hb.1 | exact hb.2 | (dsimp only;omega))) ?_
  refine Ga rfl (Gn (.t6 0 8 9 44 45 46) (Gs (Gm rfl (Gm rfl (Gm rfl (Gt (BV rfl) (Gt (Ah CR rfl) ?_)))))))
  refine Gt (AG rfl A5 .m0 Ad.l1 rfl rfl) (Gt (BV rfl) (Gt (Ah FP rfl) ?_))
  refine AS (AK (((Ad.l0.comp AH.l1).comp (AU.ar (n:=9) Al.fl (by first | omega | exact hb | (dsimp only;omega)))).comp Al.l2) rfl rfl rfl DB rfl .h) ?_
  refine Gt (BV rfl) (Gt (Ah DF rfl) ?_)
  refine AS (AK (((Ad.l0.comp AH.l1).comp (AU.ar (n:=9) Al.fl (by first | omega | exact hb | (dsimp only;omega)))).comp Al.l3) rfl rfl rfl DB rfl .h) ?_
  refine Gn (.t5 0 8 44 45 46) ?_
  refine GC (fun _=> .h) (congrArg (fun q=>Ad.enc ⟨q,_,_⟩) (AF.HK X hx.1 hx.2 1 X.b)) ?_
  refine AJ (Gm rfl (Gm rfl ?_))
  refine Ai rfl OF (.c rfl (.c rfl (.c rfl .n))) (.c .h (.c .h .n)) (Dx _ (X.place ((AF.BR T.w T.seen o.nth o.name o.Bj).getD k.toNat 0) 1 X.b) _ 3 ((AF.BR T.w T.seen o.nth o.name o.Bj).getD k.toNat 0) (by assumption) (show 0≤X.b∧X.b < 6 by rw [hI14];exact hb) hx (show X.out.length≤100000 by omega)) (fun v35 B hv=>?_)
  obtain⟨y36,rfl,y37,rfl⟩:=hv
  refine AR (AB (.t4 0 44 45 46) ?_)
  refine AV (AA (AJ ?_))
  refine Gt (Aw rfl rfl (IntWalk.i64_in _ (by first | omega | exact hb.1 | exact hb.2 | (dsimp only;omega)))) ?_
  refine Gm rfl ?_
  refine AR (AB (.t4 0 44 45 46) ?_)
  refine Bw (k+1) _ _ ?_ ?_ (.t4 46 0 44 45) (.refl _)
  · exact⟨by omega,by omega,by rw [hI13,AF.G9 hI11 (by omega)],hI14,(by rw [AF.FT];show((X.out.length+1:Nat):Int)≤_;omega),by assumption,hI17⟩
  · omega
 have c8p:=kz c8
 obtain rfl:k=((AF.BR T.w T.seen o.nth o.name o.Bj).length:Int):=by omega
 rw [AF.Jb] at hI13
 refine Ba (AW (AW (Af ?_)))
 refine Bk rfl .n ?_
 intro w1 hS
 have hS:=(hS.perm (Ax.perm (.c .h (.c .h .n)))).A1
 refine⟨_,⟨?gq5,rfl,?hl5,?hB5⟩,hS⟩
 case hB5=>rw [hI13];rfl
 case hl5=>rw [hI13];exact hI16
theorem L9 (X:AH)(i box:Int)(w:World):Eh Tryz.prog 137 #[.agg X.enc.toArray, .int .i64 i, .int .i64 box] w fun v w'=>v = .bool (X.Tp i box)∧CA w w':=by
 refine Ak [] [] Tryz.func137 rfl rfl rfl (St.start w []) ?_
 refine Gs ?_
 refine B5 rfl rfl rfl (fun b1=>?_)
 refine Ga rfl (Gn (.t3 1 2 3) (CB (Gm rfl (AR (AA (Ae ?_))))))
 refine Bo (.t4 1 7 2 3) ?_
 refine HZ (fun(k:Int) (j:Int)=>0≤k∧k≤10∧X.Tp i box=X.inside box (10 - k).toNat j) (fun(k:Int) (j:Int)=>(10 - k).toNat) (fun(k:Int) (j:Int)=> [(1, .int .i64 j),(7, .int .i64 k)]) (fun(k:Int) (j:Int)=> []) (0) (i) ?_ rfl rfl (fun k j hI1=>?_)
 · exact⟨Int.le_refl _,by omega,rfl⟩
 obtain⟨hI11,hI12,hI13⟩:=hI1
 refine Gs (Gt (A8 rfl rfl) (AR (AA (Ap ?_))))
 refine Gc (fun c1=>?_) (fun c1=>?_)
 ·
  have c1p:=kz c1
  rw [show(10 - k).toNat=(10 - (k+1)).toNat+1 from by omega,AH.inside] at hI13
  refine Aa ?_
  refine AB (.t4 1 2 3 7) ?_
  refine AA (Ap (Ae (CB (Gm rfl (Gm rfl (Gt (Aj rfl rfl) (Gn (.t5 1 2 3 7 11) ?_)))))))
  refine Gc (fun c2=>?_) (fun c2=>?_)
  ·
   refine Gs (Ga rfl (Gn (.t1 6) (Ab (AD (AT (AD (AD ?_)))))))
   refine AT (AD ?_)
   refine AZ rfl (.tmp rfl .n) ?_
   intro w1 hS;refine⟨congrArg Value.bool ?_,hS.Am⟩;rw [hI13];simp only [c1,c2,↓reduceIte,Bool.false_eq_true]
  have c2p:=kz c2
  refine Aa ?_
  refine AB (.t4 1 2 3 7) ?_
  refine AA (CB (Gm rfl (Gt (A8 rfl rfl) (Gm rfl (BZ 14 rfl rfl (fun q=>AE rfl) (BZ 14 rfl rfl (fun q=>CI (cF rfl q) rfl) ?_))))))
  refine Gt (BS rfl rfl (fun h=>by rw [h];rfl)) ?_
  refine Gm rfl (BZ 18 rfl rfl (fun q=>AE rfl) (BZ 18 rfl rfl (fun q=>Ah Cw rfl) ?_))
  refine BZ 18 rfl rfl (fun q=>by have q1:=q;(try simp at q1);exact AQ F9 (cF rfl q) (cF rfl q) (by omega) (by omega)) ?_
  refine BZ 18 rfl rfl (fun q=>Ah FP (cF rfl q)) ?_
  refine BZ 18 rfl rfl (fun q=>by have q1:=q;(try simp at q1);exact AG (cF rfl q) A5 .m0 ((AH.l1.comp (AU.ar (n:=9) Al.fl (by omega))).comp Al.l2) rfl rfl) ?_
  refine BZ 18 rfl rfl (fun q=>Ce (cF rfl q) rfl) ?_
  refine Gt (BS rfl rfl (fun h=>by rw [h];rfl)) ?_
  refine Gn (.t5 1 2 3 7 25) ?_
  refine Gc (fun c3=>?_) (fun c3=>?_)
  ·
   refine Gs (Ga rfl (Gn (.t1 6) (Ab (AD (AT (AD (AD ?_)))))))
   refine AT (AD ?_)
   refine AZ rfl (.tmp rfl .n) ?_
   intro w1 hS;refine⟨congrArg Value.bool ?_,hS.Am⟩;rw [hI13];simp only [c1,c2,c3,↓reduceIte,Bool.false_eq_true]
  have c3p:=kz c3
  have h9:0≤j∧j < 9:=by simp at c3;omega
  refine Aa ?_
  refine AB (.t4 1 2 3 7) ?_
  refine AA (AJ (Gm rfl (Gt (Ah Cw rfl) ?_)))
  refine Gt (AQ F9 rfl rfl (by omega) (by omega)) ?_
  refine Gt (Ah DF rfl) ?_
  refine Gt (AG rfl A5 .m0 ((AH.l1.comp (AU.ar (n:=9) Al.fl (by omega))).comp Al.l3) rfl rfl) ?_
  refine Ga rfl ?_
  refine AR (AB (.t4 1 2 3 7) ?_)
  refine AV (AA (AJ ?_))
  refine Gt (Aw rfl rfl (IntWalk.i64_in _ (by omega))) ?_
  refine Gm rfl ?_
  refine AR (AB (.t4 1 2 3 7) ?_)
  refine Dh (k+1) ((X.AO.at j).at_) ?_ ?_ (.t4 1 7 2 3) (.refl _)
  · exact⟨by omega,by omega,by rw [hI13];simp only [c1,c2,c3,↓reduceIte,Bool.false_eq_true]⟩
  · omega
 have c1p:=kz c1
 obtain rfl:k=10:=by omega
 refine Ba (AW (AW (Af ?_)))
 refine AB (.nil _) ?_
 refine AA (Gs (Ga rfl (AR (AA (Ab ?_)))))
 refine AZ rfl (.tmp rfl .n) ?_
 intro w1 hS;refine⟨congrArg Value.bool ?_,hS.Am⟩;rw [hI13];rfl
theorem Rr (b:Nat)(T:AF)(g:Hd)(o:Order)(hg:g.len=T.out.length)(hF:T.Fit)(hv:o.verb=8∨o.verb=9∨o.verb=10)(hu:o.second.length≤5000000)(hn:T.out.length≤90000):FK Tryz.prog 106 #[.pointer (some ⟨b,0,none⟩), .agg o.enc.toArray] [Ac.box b 163 (Ad.enc ⟨T.w,T.b,g⟩),Ac.own g 56 16 (T.out.flatMap Ing.Event.enc)] (fun w=>(Gu 7 w∧7 ∉ Cf [Ac.box b 163 (Ad.enc ⟨T.w,T.b,g⟩),Ac.own g 56 16 (T.out.flatMap Ing.Event.enc)])∧(Gu 8 w∧8 ∉ Cf [Ac.box b 163 (Ad.enc ⟨T.w,T.b,g⟩),Ac.own g 56 16 (T.out.flatMap Ing.Event.enc)])) (fun v B=>∃ g':Hd,v = .tuple #[]∧g'.len=(T.E7 o).out.length∧B = [Ac.box b 163 (Ad.enc ⟨(T.E7 o).w,(T.E7 o).b,g'⟩),Ac.own g' 56 16 ((T.E7 o).out.flatMap Ing.Event.enc)]):=by
 intro w hS0 hH
 obtain⟨⟨gl0,gm0⟩,⟨gl1,gm1⟩⟩:=hH
 have hb:=hF.b
 have hr:=hF.room
 refine Ak _ _ Tryz.func106 rfl rfl rfl (hS0) ?_
 refine Gs ?_
 refine B5 rfl rfl rfl (fun b1=>?_)
 refine Gn (.t2 0 3) (Gs (Ga rfl (Ga rfl (AR (AA ?_)))))
 refine Bh (.t (.t .h)) ?_
 refine Bh (.t (.t .h)) ?_
 refine YI (Lm:= [_,_]) (fun(X:AF) (to:Int) (p:Bool) (j:Hd)=>X=(T.Cu o).1∧to=(T.Cu o).2.1∧p=(T.Cu o).2.2∧j.len=X.out.length) (fun(X:AF) (to:Int) (p:Bool) (j:Hd)=> [(4, .int .i64 to),(5, .bool p)]) (fun(X:AF) (to:Int) (p:Bool) (j:Hd)=> [Ac.box b 163 (Ad.enc ⟨X.w,X.b,j⟩),Ac.own j 56 16 (X.out.flatMap Ing.Event.enc)]) (.t2 0 3) rfl ?_ (fun X to p j hC=>?_)
 ·
  refine Gs (Gt (Ah DC rfl) (Gt (AG rfl A5 .m2 Order.l0 rfl rfl) (Gn (.t5 0 3 4 5 11) (Ae (Gs (Gt (Aj rfl rfl) (Ga rfl ?_)))))))
  refine Gn (.t6 0 3 4 5 11 12) ?_
  refine Gc (fun c1=>?_) (fun c1=>?_)
  ·
   have c1p:=kz c1
   refine AJ (Gm rfl (Gt (Ah Hy rfl) (Gt (AG rfl CP .m2 Order.l4 rfl rfl) ?_)))
   refine BF rfl ZA (.c rfl (.c rfl .n)) (.c .h (.c .h .n)) (Mg _ T _ _ hg hF hu (by omega)) (fun w hS=>⟨gl0.pull gm0 hS (.c .h (.c .h .n)),gl1.pull gm1 hS (.c .h (.c .h .n))⟩) (fun v1 B hv=>?_)
   obtain⟨y2,rfl,y3,rfl⟩:=hv
   refine Gm rfl (Gt (AN rfl rfl) (Gt (AN rfl rfl) (Ga rfl (Ga rfl ?_))))
   refine AR (AB (.t4 0 3 4 5) ?_)
   refine AV ?_
   refine Qi _ _ _ _ ?_ (.t4 4 5 0 3) (.refl _)
   · have ht:T.Cu o=_:=BB c1
     exact⟨by rw [ht],by rw [ht],by rw [ht],by assumption⟩
  have c1p:=kz c1
  refine Gs (Gt (Aj rfl rfl) (Ga rfl (Gn (.t5 0 3 4 5 21) ?_)))
  refine Gc (fun c2=>?_) (fun c2=>?_)
  ·
   have c2p:=kz c2
   refine AJ (Gm rfl (Gt (Ah Hy rfl) (Gt (AG rfl CP .m2 Order.l4 rfl rfl) ?_)))
   refine BF rfl Y5 (.c rfl (.c rfl .n)) (.c .h (.c .h .n)) (IY _ T _ _ hg hF hu (by omega)) (fun w hS=>⟨gl0.pull gm0 hS (.c .h (.c .h .n)),gl1.pull gm1 hS (.c .h (.c .h .n))⟩) (fun v4 B hv=>?_)
   obtain⟨y5,rfl,y6,rfl⟩:=hv
   refine Gm rfl (Gt (AN rfl rfl) (Gt (AN rfl rfl) (Ga rfl (Ga rfl ?_))))
   refine AR (AB (.t4 0 3 4 5) ?_)
   refine AV ?_
   refine Qi _ _ _ _ ?_ (.t4 4 5 0 3) (.refl _)
   · have ht:T.Cu o=_:=(AX c1).trans (BB c2)
     exact⟨by rw [ht],by rw [ht],by rw [ht],by assumption⟩
  have c2p:=kz c2
  refine Aa ?_
  refine AB (.t4 0 3 4 5) ?_
  refine AV ?_
  refine Qi _ _ _ _ ?_ (.t4 4 5 0 3) (.refl _)
  · have ht:T.Cu o=_:=(AX c1).trans (AX c2)
    exact⟨by rw [ht],by rw [ht],by rw [ht],by assumption⟩
 obtain⟨hD1,hD2,hD3,hD4⟩:=hC
 have hXw:=T.Ui o
 have hXo:X.out.length≤T.out.length+1:=by rw [hD1];exact T.QC o
 rw [← hD1] at hXw
 have hXF:X.Fit:=hF.Ef hXw.1 hXw.2
 have hPl:((AF.BR X.w X.own o.nth o.name o.Bj)).length≤9:=AF.SS.2.2
 refine CB (Gm rfl (Gt (BQ rfl) (Gn (.t4 0 3 4 31) ?_)))
 refine Gc (fun c3=>?_) (fun c3=>?_)
 ·
  refine Ab (AD ?_)
  refine AZ rfl .n ?_
  intro w1 hS
  have hS:=(hS.perm (Ax.perm (.c .h (.c .h .n)))).A1
  have hq:T.E7 o=X:=AF.Vq hD1 hD3 c3
  refine⟨_,⟨?gq1,rfl,?hl1,?hB1⟩,hS⟩
  case hB1=>rw [hq];(try rfl)
  case hl1=>rw [hq];exact hD4
 have c3p:=kz c3
 obtain⟨hgo,hn0,hn9,hok⟩:=AF.TL hD1 hD2 hD3 c3
 refine Aa ?_
 refine AB (.t3 0 3 4) ?_
 refine AA (Ap ?_)
 refine BE (N:=11) [0,0,2,0,8,0,32,0,128,511,1023] mix (by kernel_rfl) rfl ?_
 refine Pf 0 rfl (AE rfl) (Pf 1 rfl (AE rfl) (Pf 3 rfl (Ah GM rfl) (Pf 4 rfl (AG rfl A5 .m2 Order.l1 rfl rfl) (Pf 5 rfl (Ah Fm rfl) (Pf 6 rfl (AG rfl CP .m2 Order.l3 rfl rfl) (Pf 7 rfl (Ah HC rfl) (Pf 8 rfl (AG rfl DN .m2 Order.l2 rfl rfl) ?_)))))))
 refine An 2 rfl (by kernel_rfl) ?_
 refine Ai rfl Ts (.c rfl .n) (.c .h .n) (Ht _ X _ hXF) (fun v7 B hv=>?_)
 obtain⟨y8,rfl,y9,rfl⟩:=hv
 refine Bp rfl ⟨?_,?_⟩
 · exact(Po rfl (AG rfl DN .m3 Order.l2 rfl rfl) rfl rfl (Po rfl (Ah HC rfl) rfl rfl (Po rfl (AG rfl CP .m3 Order.l3 rfl rfl) rfl rfl (Po rfl (Ah Fm rfl) rfl rfl (Po rfl (AG rfl A5 .m3 Order.l1 rfl rfl) rfl rfl (Po rfl (Ah GM rfl) rfl rfl (Pk (Po rfl (AE rfl) rfl rfl Ar))))))))
 refine An 9 rfl (by kernel_rfl) ?_
 refine Ai rfl QG (.c rfl (.c rfl (.c rfl (.c rfl (.c rfl .n))))) (.c .h (.c .h .n)) (Ex _ X _ _ X.own _ _ _ hXF (by assumption) (Nat.le_trans X.KO (by decide)) (fun i hi=>AF.Ly hi)) (fun v11 B hv=>?_)
 obtain⟨y12,rfl,y13,rfl⟩:=hv
 refine Bp rfl ⟨?_,?_⟩
 · exact(Pk (Pk (Pk (Pk (Pk (Pk (Pk (Pk Ar))))))))
 refine Pf 10 rfl (A0 rfl) ?_
 refine A4 (by kernel_rfl) ?_
 refine AB (.t4 0 3 4 6) ?_
 refine AA ?_
 refine Bh (.t (.t (.t .h))) ?_
 refine Bh (.t .h) ?_
 refine QS (Lm:= [_,_]) (fun(Z:AF) (m:Hd)=>Z=X.Qu o∧m.len=Z.out.length) (fun(Z:AF) (m:Hd)=> []) (fun(Z:AF) (m:Hd)=> [Ac.box b 163 (Ad.enc ⟨Z.w,Z.b,m⟩),Ac.own m 56 16 (Z.out.flatMap Ing.Event.enc)]) (.t4 0 3 4 6) rfl ?_ (fun Z m hC=>?_)
 ·
  refine Gs (Gm rfl (Gt (Av rfl Tryz.underlying169 rfl) (Gt (Aj rfl rfl) (Gn (.t5 0 3 4 6 44) ?_))))
  refine Gc (fun c4=>?_) (fun c4=>?_)
  ·
   have c4p:=kz c4
   rw [y13] at c4
   refine AJ (Gm rfl ?_)
   refine Ai rfl EC (.c rfl (.c rfl .n)) (.c .h (.c .h .n)) (Bc _ X _ _ (by assumption) (by rw [hXw.2];exact hb) (by omega)) (fun v15 B hv=>?_)
   obtain⟨y16,rfl,y17,rfl⟩:=hv
   refine AR (AB (.t4 0 3 4 6) ?_)
   refine Eb _ _ ?_ (.t4 0 3 4 6) (.refl _)
   · exact⟨(AF.Z4 (T:=X) (o:=o) c4).symm,by assumption⟩
  rw [y13] at c4
  refine Aa ?_
  refine AB (.t4 0 3 4 6) ?_
  refine Eb _ _ ?_ (.t4 0 3 4 6) (.refl _)
  · exact⟨(AF.Zq (T:=X) (o:=o) c4).symm,by exact hD4⟩
 obtain⟨hE1,hE2⟩:=hC
 refine Gs (Gm rfl (Gt (Av rfl Tryz.underlying169 rfl) (Gm rfl (Gn (.t6 0 3 4 47 48 49) (Ae ?_)))))
 refine Bo (.t6 49 0 3 4 47 48) ?_
 refine Bh (.t .h) ?_
 refine Bh (.t .h) ?_
 refine Dt (fun(k:Int) (V:AF) (f:Hd)=>0≤k∧V=X.Q7 to o k.toNat∧k≤((AF.BR X.w X.own o.nth o.name o.Bj).length:Int)∧f.len=V.out.length) (fun(k:Int) (V:AF) (f:Hd)=>(((AF.BR X.w X.own o.nth o.name o.Bj).length:Int) - k).toNat) (fun(k:Int) (V:AF) (f:Hd)=> [(49, .int .i64 k)]) (fun(k:Int) (V:AF) (f:Hd)=> [Ac.box b 163 (Ad.enc ⟨V.w,V.b,f⟩),Ac.own f 56 16 (V.out.flatMap Ing.Event.enc)]) (0) (_) (_) ?_ rfl rfl (fun k V f hI1=>?_)
 · exact⟨by omega,hE1,by omega,hE2⟩
 obtain⟨hI11,hI12,hI13,hI14⟩:=hI1
 refine Gs (Gt (A8 rfl rfl) (AR (AA (Ap ?_))))
 refine Gc (fun c5=>?_) (fun c5=>?_)
 ·
  have c5p:=kz c5
  have hx:0≤((AF.BR X.w X.own o.nth o.name o.Bj).getD k.toNat 0)∧((AF.BR X.w X.own o.nth o.name o.Bj).getD k.toNat 0) < 9:=AF.Ly (AF.Dp (Bg.Eo (xs:=(AF.BR X.w X.own o.nth o.name o.Bj)) (i:=k.toNat) (by omega)))
  have hVK:=AF.Wo X to o k.toNat
  rw [← hI12] at hVK
  have hVb:=hVK.2
  have hVo:=hVK.1
  have hbV:0≤V.b∧V.b < 6:=by rw [hVb,hXw.2];exact hb
  refine Aa ?_
  refine AB (.t6 0 3 4 47 48 49) ?_
  refine AA (Ap (Ae (Gs ?_)))
  refine Gt (Br GY (by decide) (Kn.own .m3) rfl rfl (by omega) (by omega)) ?_
  refine Gt (DJ rfl A5 (Kn.own .m3) (by omega)) ?_
  refine Ga rfl (Gn (.t7 0 3 4 8 47 48 49) (Gs (Gm rfl (Gm rfl (Gt (BV rfl) (Gt (Ah A9 rfl) (Gt (Ah Cw rfl) ?_)))))))
  refine Gt (AQ F9 rfl rfl (by first | omega | exact hbV.1 | exact hbV.2 | (dsimp only;omega)) (by first | omega | exact hbV.1 | exact hbV.2 | (dsimp only;omega))) ?_
  refine Ga rfl (Gn (.t8 0 3 4 8 9 47 48 49) (Ae (Gs (Gm rfl (Gt (BV rfl) (Gt (Ah Gz rfl) ?_))))))
  refine Gt (AG rfl A5 .m0 (((Ad.l0.comp AH.l1).comp (AU.ar (n:=9) Al.fl (by first | omega | exact hbV | (dsimp only;omega)))).comp Al.l1) rfl rfl) ?_
  refine Gt (Aj rfl rfl) (Gm rfl (Bl 87 rfl rfl (fun q=>AE rfl) (Bl 87 rfl rfl (fun q=>BV (Bf rfl q)) (Bl 87 rfl rfl (fun q=>Ah GI (Bf rfl q)) ?_))))
  refine Bl 87 rfl rfl (fun q=>by have q1:=q;(try simp at q1);exact AG (Bf rfl q) DN .m0 (((Ad.l0.comp AH.l1).comp (AU.ar (n:=9) Al.fl (by first | omega | exact hbV | (dsimp only;omega)))).comp Al.l4) rfl rfl) ?_
  refine Gt (BJ rfl rfl (fun h=>h)) (Ga rfl (Gn (.t9 0 3 4 8 9 47 48 49 81) ?_))
  refine Gc (fun c6=>?_) (fun c6=>?_)
  ·
   have c6p:=kz c6
   refine AJ (Gm rfl ?_)
   refine Ai rfl EC (.c rfl (.c rfl .n)) (.c .h (.c .h .n)) (Bc _ V _ _ (by assumption) hbV (by omega)) (fun v18 B hv=>?_)
   obtain⟨y19,rfl,y20,rfl⟩:=hv
   refine AR (AB (.t6 0 3 4 47 48 49) ?_)
   refine AV (AV (AA (AJ ?_)))
   refine Gt (Aw rfl rfl (IntWalk.i64_in _ (by first | omega | exact hbV.1 | exact hbV.2 | (dsimp only;omega)))) ?_
   refine Gm rfl ?_
   refine AR (AB (.t6 0 3 4 47 48 49) ?_)
   refine Bw (k+1) _ _ ?_ ?_ (.t6 49 0 3 4 47 48) (.refl _)
   · have hq:V.Cp o.verb to ((AF.BR X.w X.own o.nth o.name o.Bj).getD k.toNat 0)=_:=(BB c6)
     (try rw [AF.D0 hx.1 hx.2] at *)
     (try rw [AF.Dd hx.1 hx.2 hn0] at *)
     exact⟨by omega,(by(try rw [AF.D0 hx.1 hx.2]);(try rw [AF.Dd hx.1 hx.2 hn0]);exact hq.symm.trans ((congrArg (fun q=>AF.Cp q o.verb to ((AF.BR X.w X.own o.nth o.name o.Bj).getD k.toNat 0)) hI12).trans (AF.Is hI11 (by show k < (((AF.BR X.w X.own o.nth o.name o.Bj)).length:Int);omega)).symm)),by omega,by assumption⟩
   · omega
  have c6p:=kz c6
  refine Gs (Gt (Ah DC rfl) (Gt (AG rfl A5 .m4 Order.l0 rfl rfl) (Gt (Aj rfl rfl) (Ga rfl (Gn (.t9 0 3 4 8 9 47 48 49 95) ?_)))))
  refine Gc (fun c7=>?_) (fun c7=>?_)
  ·
   have c7p:=kz c7
   refine Ap ?_
   refine BE (N:=19) [0,0,0,0,8,24,56,4,132,388,1020,2044,4092,8189,16381,32765,65535,131071,262143] mix (by kernel_rfl) rfl ?_
   refine Pf 0 rfl (AE rfl) (Pf 1 rfl (AE rfl) (Pf 2 rfl (AE rfl) (Pf 3 rfl (AE rfl) (Pf 4 rfl (BV rfl) (Pf 5 rfl (Ah CR rfl) (Pf 6 rfl (AG rfl A5 .m0 Ad.l1 rfl rfl) (Pf 7 rfl (BV rfl) ?_)))))))
   refine Pf 8 rfl (Ah A9 rfl) (Pf 9 rfl (Ah Bi rfl) ?_)
   refine Pf 10 rfl (AQ Cs rfl rfl (by first | omega | exact hbV.1 | exact hbV.2 | (dsimp only;omega)) (by first | omega | exact hbV.1 | exact hbV.2 | (dsimp only;omega))) ?_
   refine Pf 11 rfl (Ah C2 rfl) ?_
   refine Pf 12 rfl (AG rfl A5 .m0 (((Ad.l0.comp AH.l2).comp (AU.ar (n:=6) Ag.fl (by first | omega | exact hbV | (dsimp only;omega)))).comp Ag.l3) rfl rfl) ?_
   refine Pf 13 rfl (BV rfl) (Pf 14 rfl (Ah FP rfl) ?_)
   refine An 15 rfl (by kernel_rfl) ?_
   refine AS (AK (((Ad.l0.comp AH.l1).comp (AU.ar (n:=9) Al.fl (by first | omega | exact hbV | (dsimp only;omega)))).comp Al.l2) rfl rfl rfl DB rfl .h) ?_
   refine BO rfl ⟨?_,?_⟩
   · exact(Pk (Pk (Pk (Pk (Pk (Pk (Pk (Pk (Pk (Pk (Pk (Pk (Pk (Po rfl (AE rfl) rfl rfl (Pk Ar)))))))))))))))
   refine Pf 16 rfl (BV rfl) (Pf 17 rfl (Ah DF rfl) ?_)
   refine An 18 rfl (by kernel_rfl) ?_
   refine AS (AK (((Ad.l0.comp AH.l1).comp (AU.ar (n:=9) Al.fl (by first | omega | exact hbV | (dsimp only;omega)))).comp Al.l3) rfl rfl rfl DB rfl .h) ?_
   refine BO rfl ⟨?_,?_⟩
   · exact(Pk (Pk (Pk (Pk (Pk (Pk (Pk (Pk (Pk (Pk (Pk (Pk (Pk (Pk (Pk (Pk (Pk Ar)))))))))))))))))
   refine A4 (by kernel_rfl) ?_
   refine AB (.t7 0 3 4 8 47 48 49) ?_
   refine AA ?_
   refine GC (fun _=> .h) (congrArg (fun q=>Ad.enc ⟨q,_,_⟩) (AF.HK V hx.1 hx.2 0 (V.w.AM.at V.b).room)) ?_
   refine AJ (Gm rfl (Gm rfl ?_))
   refine Ai rfl OF (.c rfl (.c rfl (.c rfl .n))) (.c .h (.c .h .n)) (Dx _ (V.place ((AF.BR X.w X.own o.nth o.name o.Bj).getD k.toNat 0) 0 (V.w.AM.at V.b).room) _ 4 ((AF.BR X.w X.own o.nth o.name o.Bj).getD k.toNat 0) (by assumption) hbV hx (show V.out.length≤100000 by omega)) (fun v21 B hv=>?_)
   obtain⟨y22,rfl,y23,rfl⟩:=hv
   refine AR (AB (.t6 0 3 4 47 48 49) ?_)
   refine AV (AV (AA (AJ ?_)))
   refine Gt (Aw rfl rfl (IntWalk.i64_in _ (by first | omega | exact hbV.1 | exact hbV.2 | (dsimp only;omega)))) ?_
   refine Gm rfl ?_
   refine AR (AB (.t6 0 3 4 47 48 49) ?_)
   refine Bw (k+1) _ _ ?_ ?_ (.t6 49 0 3 4 47 48) (.refl _)
   · have hq:V.Cp o.verb to ((AF.BR X.w X.own o.nth o.name o.Bj).getD k.toNat 0)=_:=((AX c6).trans (BB c7))
     (try rw [AF.D0 hx.1 hx.2] at *)
     (try rw [AF.Dd hx.1 hx.2 hn0] at *)
     exact⟨by omega,(by(try rw [AF.D0 hx.1 hx.2]);(try rw [AF.Dd hx.1 hx.2 hn0]);exact hq.symm.trans ((congrArg (fun q=>AF.Cp q o.verb to ((AF.BR X.w X.own o.nth o.name o.Bj).getD k.toNat 0)) hI12).trans (AF.Is hI11 (by show k < (((AF.BR X.w X.own o.nth o.name o.Bj)).length:Int);omega)).symm)),by omega,by assumption⟩
   · omega
  have c7p:=kz c7
  refine Gs (Gt (Ah DC rfl) (Gt (AG rfl A5 .m4 Order.l0 rfl rfl) (Gt (Aj rfl rfl) (Ga rfl (Gn (.t9 0 3 4 8 9 47 48 49 119) ?_)))))
  refine Gc (fun c8=>?_) (fun c8=>?_)
  ·
   have c8p:=kz c8
   refine Gs (Gm rfl (Gm rfl (Gm rfl (Gt (BV rfl) (Gt (Ah FP rfl) ?_)))))
   refine AS (AK (((Ad.l0.comp AH.l1).comp (AU.ar (n:=9) Al.fl (by first | omega | exact hbV | (dsimp only;omega)))).comp Al.l2) rfl rfl rfl DB rfl .h) ?_
   refine Gt (BV rfl) (Gt (Ah DF rfl) ?_)
   refine AS (AK (((Ad.l0.comp AH.l1).comp (AU.ar (n:=9) Al.fl (by first | omega | exact hbV | (dsimp only;omega)))).comp Al.l3) rfl rfl rfl DB rfl .h) ?_
   refine Gn (.t7 0 3 4 9 47 48 49) ?_
   refine GC (fun _=> .h) (congrArg (fun q=>Ad.enc ⟨q,_,_⟩) (AF.HK V hx.1 hx.2 1 to)) ?_
   refine AJ (Gm rfl (Gm rfl (Gm rfl (Gt (BV rfl) (Gt (Ah Mb rfl) ?_)))))
   refine Gt (AG rfl CP .m0 (((Ad.l0.comp AH.l1).comp (AU.ar (n:=9) Al.fl (by first | omega | exact hbV | (dsimp only;omega)))).comp Al.l0) rfl rfl) ?_
   refine Gt (BC O9 IU rfl (.cons Ing.Event.l0 rfl rfl rfl (.cons Ing.Event.l3 rfl rfl rfl (.cons Ing.Event.l8 rfl rfl rfl .nil)))) ?_
   refine Ai rfl Nx (.c rfl (.c rfl .n)) (.c .h (.c .h .n)) (CO _ (V.place ((AF.BR X.w X.own o.nth o.name o.Bj).getD k.toNat 0) 1 to) _ { AF.Fy 6 with other:=to,Bs:=((V.place ((AF.BR X.w X.own o.nth o.name o.Bj).getD k.toNat 0) 1 to).w.AO.at ((AF.BR X.w X.own o.nth o.name o.Bj).getD k.toNat 0)).name } (by assumption) hbV (show to < 6 from(hok hv).dz (by omega)) (show V.out.length≤100000 by omega)) (fun v24 B hv=>?_)
   obtain⟨y25,rfl,y26,rfl⟩:=hv
   refine AR (AB (.t6 0 3 4 47 48 49) ?_)
   refine AV (AV (AA (AJ ?_)))
   refine Gt (Aw rfl rfl (IntWalk.i64_in _ (by first | omega | exact hbV.1 | exact hbV.2 | (dsimp only;omega)))) ?_
   refine Gm rfl ?_
   refine AR (AB (.t6 0 3 4 47 48 49) ?_)
   refine Bw (k+1) _ _ ?_ ?_ (.t6 49 0 3 4 47 48) (.refl _)
   · have hq:V.Cp o.verb to ((AF.BR X.w X.own o.nth o.name o.Bj).getD k.toNat 0)=_:=((AX c6).trans ((AX c7).trans (BB c8)))
     (try rw [AF.D0 hx.1 hx.2] at *)
     (try rw [AF.Dd hx.1 hx.2 hn0] at *)
     exact⟨by omega,(by(try rw [AF.D0 hx.1 hx.2]);(try rw [AF.Dd hx.1 hx.2 hn0]);exact hq.symm.trans ((congrArg (fun q=>AF.Cp q o.verb to ((AF.BR X.w X.own o.nth o.name o.Bj).getD k.toNat 0)) hI12).trans (AF.Is hI11 (by show k < (((AF.BR X.w X.own o.nth o.name o.Bj)).length:Int);omega)).symm)),by omega,by assumption⟩
   · omega
  have c8p:=kz c8
  refine Gs (Gm rfl (Gt (BV rfl) (Gt (Ah A9 rfl) (Gt (AY rfl BW .m0 Ad.l0 rfl) (Gm rfl (Gm rfl ?_))))))
  refine BA rfl bI (.c rfl (.c rfl (.c rfl .n))) (fun w hS=>L9 _ _ _ w) ?_
  refine Ga rfl (Gn (.t8 0 3 4 9 47 48 49 138) ?_)
  refine Gc (fun c9=>?_) (fun c9=>?_)
  ·
   have c9p:=kz c9
   refine AJ (Gm rfl ?_)
   refine Ai rfl EC (.c rfl (.c rfl .n)) (.c .h (.c .h .n)) (Bc _ V _ _ (by assumption) hbV (by omega)) (fun v27 B hv=>?_)
   obtain⟨y28,rfl,y29,rfl⟩:=hv
   refine AR (AB (.t6 0 3 4 47 48 49) ?_)
   refine AV (AV (AA (AJ ?_)))
   refine Gt (Aw rfl rfl (IntWalk.i64_in _ (by first | omega | exact hbV.1 | exact hbV.2 | (dsimp only;omega)))) ?_
   refine Gm rfl ?_
   refine AR (AB (.t6 0 3 4 47 48 49) ?_)
   refine Bw (k+1) _ _ ?_ ?_ (.t6 49 0 3 4 47 48) (.refl _)
   · have hq:V.Cp o.verb to ((AF.BR X.w X.own o.nth o.name o.Bj).getD k.toNat 0)=_:=((AX c6).trans ((AX c7).trans ((AX c8).trans (BB c9))))
     (try rw [AF.D0 hx.1 hx.2] at *)
     (try rw [AF.Dd hx.1 hx.2 hn0] at *)
     exact⟨by omega,(by(try rw [AF.D0 hx.1 hx.2]);(try rw [AF.Dd hx.1 hx.2 hn0]);exact hq.symm.trans ((congrArg (fun q=>AF.Cp q o.verb to ((AF.BR X.w X.own o.nth o.name o.Bj).getD k.toNat 0)) hI12).trans (AF.Is hI11 (by show k < (((AF.BR X.w X.own o.nth o.name o.Bj)).length:Int);omega)).symm)),by omega,by assumption⟩
   · omega
  have c9p:=kz c9
  refine Gs (Gm rfl (Gm rfl (Gm rfl (Gt (BV rfl) (Gt (Ah FP rfl) ?_)))))
  refine AS (AK (((Ad.l0.comp AH.l1).comp (AU.ar (n:=9) Al.fl (by first | omega | exact hbV | (dsimp only;omega)))).comp Al.l2) rfl rfl rfl DB rfl .h) ?_
  refine Gt (BV rfl) (Gt (Ah DF rfl) ?_)
  refine AS (AK (((Ad.l0.comp AH.l1).comp (AU.ar (n:=9) Al.fl (by first | omega | exact hbV | (dsimp only;omega)))).comp Al.l3) rfl rfl rfl DB rfl .h) ?_
  refine Gn (.t7 0 3 4 9 47 48 49) ?_
  refine GC (fun _=> .h) (congrArg (fun q=>Ad.enc ⟨q,_,_⟩) (AF.HK V hx.1 hx.2 2 to)) ?_
  refine BE (N:=15) [0,0,2,6,14,0,0,32,160,416,992,2016,4064,8190,16383] mix (by kernel_rfl) rfl ?_
  refine Pf 0 rfl (AE rfl) (Pf 1 rfl (AE rfl) (Pf 2 rfl (BV rfl) (Pf 3 rfl (Ah Mb rfl) ?_)))
  refine Pf 4 rfl (AG rfl CP .m0 (((Ad.l0.comp AH.l1).comp (AU.ar (n:=9) Al.fl (by first | omega | exact hbV | (dsimp only;omega)))).comp Al.l0) rfl rfl) ?_
  refine Pf 5 rfl (AE rfl) (Pf 6 rfl (AE rfl) (Pf 7 rfl (BV rfl) (Pf 8 rfl (Ah A9 rfl) (Pf 9 rfl (Ah Cw rfl) ?_))))
  refine Pf 10 rfl (AQ F9 rfl rfl (by first | omega | exact hbV.1 | exact hbV.2 | (dsimp only;omega)) (by first | omega | exact hbV.1 | exact hbV.2 | (dsimp only;omega))) ?_
  refine Pf 11 rfl (Ah Mb rfl) ?_
  refine Pf 12 rfl (AG rfl CP .m0 (((Ad.l0.comp AH.l1).comp (AU.ar (n:=9) Al.fl (by first | omega | exact hbV | (dsimp only;omega)))).comp Al.l0) rfl rfl) ?_
  refine Pf 13 rfl (BC O9 IU rfl (.cons Ing.Event.l0 rfl rfl rfl (.cons Ing.Event.l3 rfl rfl rfl (.cons Ing.Event.l8 rfl rfl rfl (.cons Ing.Event.l9 rfl rfl rfl .nil))))) ?_
  refine An 14 rfl (by kernel_rfl) ?_
  refine Ai rfl Nx (.c rfl (.c rfl .n)) (.c .h (.c .h .n)) (CO _ (V.place ((AF.BR X.w X.own o.nth o.name o.Bj).getD k.toNat 0) 2 to) _ { AF.Fy 5 with Bs:=((V.place ((AF.BR X.w X.own o.nth o.name o.Bj).getD k.toNat 0) 2 to).w.AO.at ((AF.BR X.w X.own o.nth o.name o.Bj).getD k.toNat 0)).name,text:=((V.place ((AF.BR X.w X.own o.nth o.name o.Bj).getD k.toNat 0) 2 to).w.AO.at to).name } (by assumption) hbV (show(-1:Int) < 6 by decide) (show V.out.length≤100000 by omega)) (fun v30 B hv=>?_)
  obtain⟨y31,rfl,y32,rfl⟩:=hv
  refine Bp rfl ⟨?_,?_⟩
  · exact(Pk (Pk (Pk (Pk (Pk (Pk (Pk (Pk (Pk (Pk (Pk (Pk (Pk (Pk Ar))))))))))))))
  refine A4 (by kernel_rfl) ?_
  refine AB (.t6 0 3 4 47 48 49) ?_
  refine AV (AV (AA (AJ ?_)))
  refine Gt (Aw rfl rfl (IntWalk.i64_in _ (by first | omega | exact hbV.1 | exact hbV.2 | (dsimp only;omega)))) ?_
  refine Gm rfl ?_
  refine AR (AB (.t6 0 3 4 47 48 49) ?_)
  refine Bw (k+1) _ _ ?_ ?_ (.t6 49 0 3 4 47 48) (.refl _)
  · have hq:V.Cp o.verb to ((AF.BR X.w X.own o.nth o.name o.Bj).getD k.toNat 0)=_:=((AX c6).trans ((AX c7).trans ((AX c8).trans (AX c9))))
    (try rw [AF.D0 hx.1 hx.2] at *)
    (try rw [AF.Dd hx.1 hx.2 hn0] at *)
    exact⟨by omega,(by(try rw [AF.D0 hx.1 hx.2]);(try rw [AF.Dd hx.1 hx.2 hn0]);exact hq.symm.trans ((congrArg (fun q=>AF.Cp q o.verb to ((AF.BR X.w X.own o.nth o.name o.Bj).getD k.toNat 0)) hI12).trans (AF.Is hI11 (by show k < (((AF.BR X.w X.own o.nth o.name o.Bj)).length:Int);omega)).symm)),by omega,by assumption⟩
  · omega
 have c5p:=kz c5
 obtain rfl:k=((AF.BR X.w X.own o.nth o.name o.Bj).length:Int):=by omega
 refine Ba (AW (AW (Af ?_)))
 refine Bk rfl .n ?_
 intro w1 hS
 have hS:=(hS.perm (Ax.perm (.c .h (.c .h .n)))).A1
 have hq:T.E7 o=V:=hgo.trans (hI12.trans AF.XP).symm
 refine⟨_,⟨?gq2,rfl,?hl2,?hB2⟩,hS⟩
 case hB2=>rw [hq];(try rfl)
 case hl2=>rw [hq];exact hI14
theorem Jn (s:Aq)(w:World)(gl0:GV 0 AH.DG w):Eh Tryz.prog 138 #[BU s] w fun v w'=>v = .tuple #[.int .i64 (Words.dir s).1, .bool (Words.dir s).2]∧CA w w':=by
 refine Ak [] [] Tryz.func138 rfl rfl rfl (St.start w []) ?_
 refine Gs (Ga rfl (Ga rfl (Gn (.t1 0) (CB (Gm rfl (AR (AA ?_)))))))
 refine Ae ?_
 refine Bo (.t2 5 0) ?_
 refine CQ (fun(k:Int)=>0≤k∧k≤6∧Words.OV s 6=Words.OV s (6 - k).toNat) (fun(k:Int)=>(6 - k).toNat) (fun(k:Int)=> [(5, .int .i64 k)]) (fun(k:Int)=> []) (0) ?_ rfl rfl (fun k hI1=>?_)
 · exact⟨by omega,by omega,rfl⟩
 obtain⟨hI11,hI12,hI13⟩:=hI1
 refine Gs (Gt (A8 rfl rfl) (AR (AA (Ap ?_))))
 refine Gc (fun c1=>?_) (fun c1=>?_)
 ·
  have c1p:=kz c1
  rw [Words.Uz hI11 (by omega)] at hI13
  refine Aa ?_
  refine AB (.t2 0 5) ?_
  refine AA (Ap (Ae (Gs (Gm rfl (Ga rfl (Gn (.t3 0 4 5) (Gs ?_)))))))
  refine Gm rfl ?_
  refine Gt (AQ WX rfl rfl (by omega) (by omega)) ?_
  refine Gt (Qd gl0 rfl CP (AH.OC (by omega) (by omega))) ?_
  refine Gm rfl (Gt (Bt rfl rfl) (Gn (.t4 0 4 5 12) ?_))
  refine Gc (fun c2=>?_) (fun c2=>?_)
  ·
   refine Gs (Gm rfl (Ga rfl (Ga rfl (Gn (.t2 2 3) (Ab (AT (AD ?_)))))))
   refine AD (AT (AD ?_))
   refine AZ rfl (.tmp rfl (.tmp rfl .n)) ?_
   intro w1 hS;refine⟨?_,hS.Am⟩;rw [Words.dir,hI13,BB c2];rfl
  have c2p:=kz c2
  refine Aa ?_
  refine AB (.t2 0 5) ?_
  refine AV (AA (AJ ?_))
  refine Gt (Aw rfl rfl (IntWalk.i64_in _ (by omega))) ?_
  refine Gm rfl ?_
  refine AR (AB (.t2 0 5) ?_)
  refine Bx (k+1) ?_ ?_ (.t2 5 0) (.refl _)
  · exact⟨by omega,by omega,by rw [hI13,AX c2]⟩
  · omega
 have c1p:=kz c1
 obtain rfl:k=6:=by omega
 refine Ba (AW (AW (Af ?_)))
 refine AB (.nil _) ?_
 refine AA (Gs (Ga rfl (Ga rfl (AR (AA (Ab ?_))))))
 refine AZ rfl (.tmp rfl (.tmp rfl .n)) ?_
 intro w1 hS;refine⟨?_,hS.Am⟩;rw [Words.dir,hI13];rfl
theorem RI (b:Nat)(T:AF)(g:Hd)(d:Int)(p:Bool)(k:Int)(hg:g.len=T.out.length)(hF:T.Fit)(hd:0≤d∧d < 6)(hn:T.out.length≤90000):JO Tryz.prog 139 #[.pointer (some ⟨b,0,none⟩), .int .i64 d, .bool p, .int .i64 k] [Ac.box b 163 (Ad.enc ⟨T.w,T.b,g⟩),Ac.own g 56 16 (T.out.flatMap Ing.Event.enc)] (fun v B=>∃ g':Hd,v = .tuple #[]∧g'.len=(T.G0 d p k).out.length∧B = [Ac.box b 163 (Ad.enc ⟨(T.G0 d p k).w,(T.G0 d p k).b,g'⟩),Ac.own g' 56 16 ((T.G0 d p k).out.flatMap Ing.Event.enc)]):=by
 intro w hS0
 have hb:=hF.b
 have hr:=hF.room
 have hx:=hF.exit hd.1 hd.2
 have hop:=AH.Ld d
 refine Ak _ _ Tryz.func139 rfl rfl rfl (hS0) ?_
 refine Ap ?_
 refine BE (N:=12) [0,0,2,6,14,1,33,97,255,511,1023,2047] mix (by kernel_rfl) rfl ?_
 refine Pf 0 rfl (AE rfl) (Pf 1 rfl (AE rfl) (Pf 2 rfl (BV rfl) (Pf 3 rfl (Ah CR rfl) (Pf 4 rfl (AG rfl A5 .m0 Ad.l1 rfl rfl) (Pf 5 rfl (BV rfl) (Pf 6 rfl (Ah A9 rfl) (Pf 7 rfl (Ah Bi rfl) ?_)))))))
 refine Pf 8 rfl (AQ Cs rfl rfl (by first | omega | exact hb.1 | exact hb.2 | exact hr.1 | exact hr.2 | (dsimp only;omega)) (by first | omega | exact hb.1 | exact hb.2 | exact hr.1 | exact hr.2 | (dsimp only;omega))) ?_
 refine Pf 9 rfl (Ah C2 rfl) ?_
 refine Pf 10 rfl (AG rfl A5 .m0 (((Ad.l0.comp AH.l2).comp (AU.ar (n:=6) Ag.fl (by first | omega | exact hb | exact hr | (dsimp only;omega)))).comp Ag.l3) rfl rfl) ?_
 refine Pf 11 rfl (A0 rfl) ?_
 refine A4 (by kernel_rfl) ?_
 refine AB (.t5 0 1 2 3 8) ?_
 refine AA (Gs (Gm rfl (Gm rfl (Gm rfl (Gt (BV rfl) (Gt (Ah A9 rfl) (Gt (Ah G2 rfl) ?_)))))))
 refine Gt (AQ OO rfl rfl (by first | omega | exact hb.1 | exact hb.2 | exact hr.1 | exact hr.2 | (dsimp only;omega)) (by first | omega | exact hb.1 | exact hb.2 | exact hr.1 | exact hr.2 | (dsimp only;omega))) ?_
 refine Gt (Ah MQ rfl) ?_
 refine Gt (AQ R4 rfl rfl (by first | omega | exact hb.1 | exact hb.2 | exact hr.1 | exact hr.2 | (dsimp only;omega)) (by first | omega | exact hb.1 | exact hb.2 | exact hr.1 | exact hr.2 | (dsimp only;omega))) ?_
 refine Gt (AG rfl A5 .m0 ((((Ad.l0.comp AH.l0).comp (AU.ar (n:=6) Room.fl (by first | omega | exact hb | exact hr | (dsimp only;omega)))).comp Room.l2).comp (AU.ar (n:=6) B2 (by first | omega | exact hb | exact hr | (dsimp only;omega)))) rfl rfl) ?_
 refine Gt (FR rfl rfl (IntWalk.i64_in _ (by first | omega | exact hb.1 | exact hb.2 | exact hr.1 | exact hr.2 | (dsimp only;omega)))) ?_
 refine Ga rfl (Gn (.t6 0 1 2 3 8 9) (Ae (Gs (Gm rfl (Gt (A8 rfl rfl) (Ga rfl (Gn (.t7 0 1 2 3 8 9 74) ?_)))))))
 refine Gc (fun c1=>?_) (fun c1=>?_)
 ·
  have c1p:=kz c1
  try dsimp only at c1p
  refine AJ (Gm rfl ?_)
  refine Ai rfl EC (.c rfl (.c rfl .n)) (.c .h (.c .h .n)) (Bc _ _ _ _ hg hb (by omega)) (fun v1 B hv=>?_)
  obtain⟨y2,rfl,y3,rfl⟩:=hv
  refine AR (AB (.nil _) ?_)
  refine AV ?_
  refine Bk rfl .n ?_
  intro w1 hS
  have hS:=(hS.perm (Ax.perm (.c .h (.c .h .n)))).A1
  have hq:T.G0 d p k=_:=(BB c1)
  refine⟨_,⟨?gq1,rfl,?hl1,?hB1⟩,hS⟩
  case hB1=>rw [hq];(try rfl)
  case hl1=>rw [hq];assumption
 have c1p:=kz c1
 try dsimp only at c1p
 refine Gs (Gm rfl (Gm rfl (Gm rfl (Gt (BV rfl) (Gt (Ah A9 rfl) (Gt (Ah G2 rfl) ?_))))))
 refine Gt (AQ OO rfl rfl (by first | omega | exact hb.1 | exact hb.2 | exact hr.1 | exact hr.2 | (dsimp only;omega)) (by first | omega | exact hb.1 | exact hb.2 | exact hr.1 | exact hr.2 | (dsimp only;omega))) ?_
 refine Gt (Ah MJ rfl) ?_
 refine Gt (AQ QT rfl rfl (by first | omega | exact hb.1 | exact hb.2 | exact hr.1 | exact hr.2 | (dsimp only;omega)) (by first | omega | exact hb.1 | exact hb.2 | exact hr.1 | exact hr.2 | (dsimp only;omega))) ?_
 refine Gt (AG rfl DN .m0 ((((Ad.l0.comp AH.l0).comp (AU.ar (n:=6) Room.fl (by first | omega | exact hb | exact hr | (dsimp only;omega)))).comp Room.l3).comp (AU.ar (n:=6) Fx (by first | omega | exact hb | exact hr | (dsimp only;omega)))) rfl rfl) ?_
 refine Gm rfl (Gt (Jw Tryz.underlying4 rfl rfl) (Ga rfl (Gn (.t7 0 1 2 3 8 9 79) ?_)))
 refine Gc (fun c2=>?_) (fun c2=>?_)
 ·
  have c2p:=kz c2
  try dsimp only at c2p
  refine AJ (Gm rfl ?_)
  refine Ai rfl EC (.c rfl (.c rfl .n)) (.c .h (.c .h .n)) (Bc _ _ _ _ hg hb (by omega)) (fun v4 B hv=>?_)
  obtain⟨y5,rfl,y6,rfl⟩:=hv
  refine AR (AB (.nil _) ?_)
  refine AV ?_
  refine Bk rfl .n ?_
  intro w1 hS
  have hS:=(hS.perm (Ax.perm (.c .h (.c .h .n)))).A1
  have hq:T.G0 d p k=_:=((AX c1).trans (BB c2))
  refine⟨_,⟨?gq2,rfl,?hl2,?hB2⟩,hS⟩
  case hB2=>rw [hq];(try rfl)
  case hl2=>rw [hq];assumption
 have c2p:=kz c2
 try dsimp only at c2p
 refine Gs (Gm rfl (Gm rfl (Gm rfl (Gm rfl (Gt (BQ rfl) (Gt (BV rfl) (Gt (Ah A9 rfl) ?_)))))))
 refine Gt (Ah G2 rfl) ?_
 refine Gt (AQ OO rfl rfl (by first | omega | exact hb.1 | exact hb.2 | exact hr.1 | exact hr.2 | (dsimp only;omega)) (by first | omega | exact hb.1 | exact hb.2 | exact hr.1 | exact hr.2 | (dsimp only;omega))) ?_
 refine Gt (Ah MJ rfl) ?_
 refine Gt (AQ QT rfl rfl (by first | omega | exact hb.1 | exact hb.2 | exact hr.1 | exact hr.2 | (dsimp only;omega)) (by first | omega | exact hb.1 | exact hb.2 | exact hr.1 | exact hr.2 | (dsimp only;omega))) ?_
 refine AS (AK ((((Ad.l0.comp AH.l0).comp (AU.ar (n:=6) Room.fl (by first | omega | exact hb | exact hr | (dsimp only;omega)))).comp Room.l3).comp (AU.ar (n:=6) Fx (by first | omega | exact hb | exact hr | (dsimp only;omega)))) rfl rfl rfl J8 rfl .h) ?_
 refine Gn (.t6 0 1 2 3 8 9) (CB (Gm rfl ?_))
 refine BA rfl Y4 (.c rfl .n) (fun w hS=>HQ _ w) ?_
 refine Ga rfl (Gn (.t6 0 2 3 8 9 10) (Gs (Gm rfl (Gm rfl (Gm rfl (Gt (BV rfl) (Gt (Ah A9 rfl) ?_)))))))
 refine Gt (Ah G2 rfl) ?_
 refine Gt (AQ OO rfl rfl (by first | omega | exact hb.1 | exact hb.2 | exact hr.1 | exact hr.2 | (dsimp only;omega)) (by first | omega | exact hb.1 | exact hb.2 | exact hr.1 | exact hr.2 | (dsimp only;omega))) ?_
 refine Gt (Ah MQ rfl) ?_
 refine Gt (AQ R4 rfl rfl (by first | omega | exact hb.1 | exact hb.2 | exact hr.1 | exact hr.2 | (dsimp only;omega)) (by first | omega | exact hb.1 | exact hb.2 | exact hr.1 | exact hr.2 | (dsimp only;omega))) ?_
 refine Gt (AG rfl A5 .m0 ((((Ad.l0.comp AH.l0).comp (AU.ar (n:=6) Room.fl (by first | omega | exact hb | exact hr | (dsimp only;omega)))).comp Room.l2).comp (AU.ar (n:=6) B2 (by first | omega | exact hb | exact hr | (dsimp only;omega)))) rfl rfl) ?_
 refine Gm rfl ?_
 refine Gt (Aw rfl rfl (IntWalk.i64_in _ (by first | omega | exact hb.1 | exact hb.2 | exact hr.1 | exact hr.2 | (dsimp only;omega)))) ?_
 refine Gt (Aj rfl rfl) (Gn (.t6 0 2 3 9 10 58) ?_)
 refine Gc (fun c3=>?_) (fun c3=>?_)
 ·
  have c3p:=kz c3
  try dsimp only at c3p
  refine AJ (Gm rfl (Gm rfl (Gm rfl (Gm rfl (Gt (BQ rfl) (Gt (BV rfl) (Gt (Ah A9 rfl) ?_)))))))
  refine Gt (Ah G2 rfl) ?_
  refine Gt (AQ OO rfl rfl (by first | omega | exact hb.1 | exact hb.2 | exact hr.1 | exact hr.2 | (dsimp only;omega)) (by first | omega | exact hb.1 | exact hb.2 | exact hr.1 | exact hr.2 | (dsimp only;omega))) ?_
  refine Gt (Ah MJ rfl) ?_
  refine Gt (AQ QT rfl rfl (by first | omega | exact hb.1 | exact hb.2 | exact hr.1 | exact hr.2 | (dsimp only;omega)) (by first | omega | exact hb.1 | exact hb.2 | exact hr.1 | exact hr.2 | (dsimp only;omega))) ?_
  refine AS (AK ((((Ad.l0.comp AH.l0).comp (AU.ar (n:=6) Room.fl (by first | omega | exact hb | exact hr | (dsimp only;omega)))).comp Room.l3).comp (AU.ar (n:=6) Fx (by first | omega | exact hb | exact hr | (dsimp only;omega)))) rfl rfl rfl J8 rfl .h) ?_
  refine Gn (.t2 0 3) (AJ (Gm rfl (Gm rfl (Gt (BC O9 IU rfl (.cons Ing.Event.l0 rfl rfl rfl (.cons Ing.Event.l3 rfl rfl rfl (.cons Ing.Event.l8 rfl rfl rfl .nil)))) ?_))))
  refine Ai rfl Nx (.c rfl (.c rfl .n)) (.c .h (.c .h .n)) (CO _ (AF.C5 (T.C5 T.me.room d (!p)) ((T.w.BT.at (T.w.AM.at T.b).room).CN.at d - 1) (AH.opposite d) (!p)) _ { AF.Fy k with Bs:=AF.PY } hg hb (show(-1:Int) < 6 by decide) (show T.out.length≤100000 by omega)) (fun v7 B hv=>?_)
  obtain⟨y8,rfl,y9,rfl⟩:=hv
  refine AR (AB (.nil _) ?_)
  refine AV ?_
  refine Bk rfl .n ?_
  intro w1 hS
  have hS:=(hS.perm (Ax.perm (.c .h (.c .h .n)))).A1
  have hq:T.G0 d p k=_:=(show T.G0 d p k=_ from(AX c1).trans (AX c2)).trans (congrArg (fun q=>AF.BP q { AF.Fy k with Bs:=AF.PY }) (BB c3))
  refine⟨_,⟨?gq3,rfl,?hl3,?hB3⟩,hS⟩
  case hB3=>rw [hq];(try rfl)
  case hl3=>rw [hq];assumption
 have c3p:=kz c3
 try dsimp only at c3p
 refine Aa ?_
 refine AB (.t2 0 3) ?_
 refine AA (AJ (Gm rfl (Gm rfl (Gt (BC O9 IU rfl (.cons Ing.Event.l0 rfl rfl rfl (.cons Ing.Event.l3 rfl rfl rfl (.cons Ing.Event.l8 rfl rfl rfl .nil)))) ?_))))
 refine Ai rfl Nx (.c rfl (.c rfl .n)) (.c .h (.c .h .n)) (CO _ (T.C5 T.me.room d (!p)) _ { AF.Fy k with Bs:=AF.PY } hg hb (show(-1:Int) < 6 by decide) (show T.out.length≤100000 by omega)) (fun v10 B hv=>?_)
 obtain⟨y11,rfl,y12,rfl⟩:=hv
 refine AR (AB (.nil _) ?_)
 refine AV ?_
 refine Bk rfl .n ?_
 intro w1 hS
 have hS:=(hS.perm (Ax.perm (.c .h (.c .h .n)))).A1
 have hq:T.G0 d p k=_:=(show T.G0 d p k=_ from(AX c1).trans (AX c2)).trans (congrArg (fun q=>AF.BP q { AF.Fy k with Bs:=AF.PY }) (AX c3))
 refine⟨_,⟨?gq4,rfl,?hl4,?hB4⟩,hS⟩
 case hB4=>rw [hq];(try rfl)
 case hl4=>rw [hq];assumption
theorem F1 (b:Nat)(T:AF)(g:Hd)(a:Bool)(i:Int)(p:Bool)(k:Int)(hg:g.len=T.out.length)(hb:0≤T.b∧T.b < 6)(hi:0≤i∧i < 9)(hn:T.out.length≤90000):JO Tryz.prog 140 #[.pointer (some ⟨b,0,none⟩), .bool a, .int .i64 i, .bool p, .int .i64 k] [Ac.box b 163 (Ad.enc ⟨T.w,T.b,g⟩),Ac.own g 56 16 (T.out.flatMap Ing.Event.enc)] (fun v B=>∃ g':Hd,v = .tuple #[]∧g'.len=(T.before a i p k).out.length∧B = [Ac.box b 163 (Ad.enc ⟨(T.before a i p k).w,(T.before a i p k).b,g'⟩),Ac.own g' 56 16 ((T.before a i p k).out.flatMap Ing.Event.enc)]):=by
 intro w hS0
 refine Ak _ _ Tryz.func140 rfl rfl rfl (hS0) ?_
 refine CB (Gm rfl (Gn (.t5 0 2 3 4 10) ?_))
 refine Gc (fun c1=>?_) (fun c1=>?_)
 ·
  have c1p:=kz c1
  refine Gs (Gm rfl (Gm rfl (Gm rfl (Gt (BV rfl) (Gt (Ah A9 rfl) (Gt (Ah Cw rfl) ?_))))))
  refine Gt (AQ F9 rfl rfl (by first | omega | exact hb.1 | exact hb.2 | (dsimp only;omega)) (by first | omega | exact hb.1 | exact hb.2 | (dsimp only;omega))) ?_
  refine Gt (Ah GI rfl) ?_
  refine AS (AK (((Ad.l0.comp AH.l1).comp (AU.ar (n:=9) Al.fl (by first | omega | exact hb | (dsimp only;omega)))).comp Al.l4) rfl rfl rfl J8 rfl .h) ?_
  refine Gn (.t3 0 2 4) (Gs (Gm rfl (Gm rfl (Gm rfl ?_))))
  refine Ai rfl OF (.c rfl (.c rfl (.c rfl .n))) (.c .h (.c .h .n)) (Dx _ (T.C6 i { T.w.AO.at i with on:=p }) _ k i hg hb hi (show T.out.length≤100000 by omega)) (fun v1 B hv=>?_)
  obtain⟨y2,rfl,y3,rfl⟩:=hv
  refine Gn (.nil _) (Ab (AD ?_))
  refine AZ rfl .n ?_
  intro w1 hS
  have hS:=(hS.perm (Ax.perm (.c .h (.c .h .n)))).A1
  have hq:T.before a i p k=_:=(BB c1)
  refine⟨_,⟨?gq1,rfl,?hl1,?hB1⟩,hS⟩
  case hB1=>rw [hq];(try rfl)
  case hl1=>rw [hq];assumption
 have c1p:=kz c1
 refine Aa ?_
 refine AB (.t4 0 2 3 4) ?_
 refine AA (Gs (Gm rfl (Gm rfl (Gm rfl ?_))))
 refine Ai rfl OF (.c rfl (.c rfl (.c rfl .n))) (.c .h (.c .h .n)) (Dx _ T _ k i hg hb hi (show T.out.length≤100000 by omega)) (fun v4 B hv=>?_)
 obtain⟨y5,rfl,y6,rfl⟩:=hv
 refine Gn (.t3 0 2 3) (AJ (Gm rfl (Gm rfl (Gm rfl (Gt (BV rfl) (Gt (Ah A9 rfl) (Gt (Ah Cw rfl) ?_)))))))
 refine Gt (AQ F9 rfl rfl (by first | omega | exact hb.1 | exact hb.2 | (dsimp only;omega)) (by first | omega | exact hb.1 | exact hb.2 | (dsimp only;omega))) ?_
 refine Gt (Ah GI rfl) ?_
 refine AS (AK (((Ad.l0.comp AH.l1).comp (AU.ar (n:=9) Al.fl (by first | omega | exact hb | (dsimp only;omega)))).comp Al.l4) rfl rfl rfl J8 rfl .h) ?_
 refine AR ?_
 refine Bk rfl .n ?_
 intro w1 hS
 have hS:=(hS.perm (Ax.perm (.c .h (.c .h .n)))).A1
 have hq:T.before a i p k=_:=(AX c1)
 refine⟨_,⟨?gq2,rfl,?hl2,?hB2⟩,hS⟩
 case hB2=>rw [hq];(try rfl)
 case hl2=>rw [hq];assumption
theorem R3 (b:Nat)(T:AF)(g:Hd)(o:Order)(hg:g.len=T.out.length)(hF:T.Fit)(hv:12≤o.verb∧o.verb≤17)(hn:T.out.length≤80000):FK Tryz.prog 107 #[.pointer (some ⟨b,0,none⟩), .agg o.enc.toArray] [Ac.box b 163 (Ad.enc ⟨T.w,T.b,g⟩),Ac.own g 56 16 (T.out.flatMap Ing.Event.enc)] (fun w=>(GV 0 AH.DG w∧0 ∉ Cf [Ac.box b 163 (Ad.enc ⟨T.w,T.b,g⟩),Ac.own g 56 16 (T.out.flatMap Ing.Event.enc)])) (fun v B=>∃ g':Hd,v = .tuple #[]∧g'.len=(T.set o).out.length∧B = [Ac.box b 163 (Ad.enc ⟨(T.set o).w,(T.set o).b,g'⟩),Ac.own g' 56 16 ((T.set o).out.flatMap Ing.Event.enc)]):=by
 intro w hS0 hH
 obtain⟨gl0,gm0⟩:=hH
 have hb:=hF.b
 have hr:=hF.room
 have ho9:=T.KO
 have hs9:=T.Iu
 refine Ak _ _ Tryz.func107 rfl rfl rfl (hS0) ?_
 refine Gs ?_
 refine B5 rfl rfl rfl (fun b1=>?_)
 refine Gn (.t2 0 3) (Gs (Gt (Ah DC rfl) (Gt (AG rfl A5 .m0 Order.l0 rfl rfl) (Gt (Aj rfl rfl) (Gm rfl (BZ 13 rfl rfl (fun q=>Ah DC rfl) (BZ 13 rfl rfl (fun q=>AG (cF rfl q) A5 .m0 Order.l0 rfl rfl) ?_)))))))
 refine BZ 13 rfl rfl (fun q=>Aj (cF rfl q) rfl) ?_
 refine Gt (BS rfl rfl (fun h=>by rw [h];rfl)) ?_
 refine Gm rfl (BZ 18 rfl rfl (fun q=>Ah DC rfl) (BZ 18 rfl rfl (fun q=>AG (cF rfl q) A5 .m0 Order.l0 rfl rfl) (BZ 18 rfl rfl (fun q=>Aj (cF rfl q) rfl) ?_)))
 refine Gt (BS rfl rfl (fun h=>by rw [h];rfl)) ?_
 refine Ga rfl (Gn (.t3 0 3 4) (Gs (Ga rfl (Ga rfl (AR (AA ?_))))))
 refine QS (Lm:= []) (fun(kd:Int) (ev:Int)=>kd=AF.setKind o.verb∧ev=AF.NQ o.verb) (fun(kd:Int) (ev:Int)=> [(5, .int .i64 kd),(6, .int .i64 ev)]) (fun(kd:Int) (ev:Int)=> []) (.t3 0 3 4) rfl ?_ (fun kd ev hC=>?_)
 ·
  refine Gs (Gt (Ah DC rfl) (Gt (AG rfl A5 .m0 Order.l0 rfl rfl) (Gn (.t6 0 3 4 5 6 24) (Ae (Gs (Gt (Aj rfl rfl) (Ga rfl ?_)))))))
  refine Gn (.t7 0 3 4 5 6 24 25) ?_
  refine Gc (fun c1=>?_) (fun c1=>?_)
  ·
   have c1p:=kz c1
   refine AJ (Ga rfl ?_)
   refine AR (AB (.t5 0 3 4 5 6) ?_)
   refine AV ?_
   refine Eb _ _ ?_ (.t5 5 6 0 3 4) (.refl _)
   · have hv6:o.verb=12∨o.verb=13∨o.verb=14∨o.verb=15∨o.verb=16∨o.verb=17:=by omega
     rcases hv6 with e | e | e | e | e | e<;>(try rw [e] at c1)<;>first | exact⟨by rw [e];rfl,by rw [e];rfl⟩ | exact absurd c1 (by decide)
  have c1p:=kz c1
  refine CB (Gt (Aj rfl rfl) (Ga rfl (Gn (.t7 0 3 4 5 6 24 27) ?_)))
  refine Gc (fun c2=>?_) (fun c2=>?_)
  ·
   have c2p:=kz c2
   refine Aa (AA ?_)
   refine G4 rfl c2 ?_
   refine Gs (Ga rfl (Ga rfl (Gn (.t5 0 3 4 5 6) (Gs (Gm rfl (Gt (BQ rfl) (Gn (.t6 0 3 4 5 6 31) ?_)))))))
   refine Gc (fun c3=>?_) (fun c3=>?_)
   ·
    have c3p:=kz c3
    refine AJ (Ga rfl ?_)
    refine AR (AB (.t5 0 3 4 5 6) ?_)
    refine AV ?_
    refine Eb _ _ ?_ (.t5 5 6 0 3 4) (.refl _)
    · have hv6:o.verb=12∨o.verb=13∨o.verb=14∨o.verb=15∨o.verb=16∨o.verb=17:=by omega
      rcases hv6 with e | e | e | e | e | e<;>(try rw [e] at c1)<;>(try rw [e] at c2)<;>(try rw [e] at c3)<;>first | exact⟨by rw [e];rfl,by rw [e];rfl⟩ | exact absurd c1 (by decide) | exact absurd c2 (by decide) | exact absurd c3 (by decide)
   have c3p:=kz c3
   refine Aa ?_
   refine AB (.t5 0 3 4 5 6) ?_
   refine AV ?_
   refine Eb _ _ ?_ (.t5 5 6 0 3 4) (.refl _)
   · have hv6:o.verb=12∨o.verb=13∨o.verb=14∨o.verb=15∨o.verb=16∨o.verb=17:=by omega
     rcases hv6 with e | e | e | e | e | e<;>(try rw [e] at c1)<;>(try rw [e] at c2)<;>(try rw [e] at c3)<;>first | exact⟨by rw [e];rfl,by rw [e];rfl⟩ | exact absurd c1 (by decide) | exact absurd c2 (by decide) | exact absurd c3 (by decide)
  have c2p:=kz c2
  refine AJ (Gt (Aj rfl rfl) (Ga rfl (Gn (.t7 0 3 4 5 6 24 27) ?_)))
  refine Gc (fun c4=>?_) (fun c4=>?_)
  ·
   have c4p:=kz c4
   refine Gs (Ga rfl (Ga rfl (Gn (.t5 0 3 4 5 6) (Gs (Gm rfl (Gt (BQ rfl) (Gn (.t6 0 3 4 5 6 31) ?_)))))))
   refine Gc (fun c5=>?_) (fun c5=>?_)
   ·
    have c5p:=kz c5
    refine AJ (Ga rfl ?_)
    refine AR (AB (.t5 0 3 4 5 6) ?_)
    refine AV ?_
    refine Eb _ _ ?_ (.t5 5 6 0 3 4) (.refl _)
    · have hv6:o.verb=12∨o.verb=13∨o.verb=14∨o.verb=15∨o.verb=16∨o.verb=17:=by omega
      rcases hv6 with e | e | e | e | e | e<;>(try rw [e] at c1)<;>(try rw [e] at c2)<;>(try rw [e] at c4)<;>(try rw [e] at c5)<;>first | exact⟨by rw [e];rfl,by rw [e];rfl⟩ | exact absurd c1 (by decide) | exact absurd c2 (by decide) | exact absurd c4 (by decide) | exact absurd c5 (by decide)
   have c5p:=kz c5
   refine Aa ?_
   refine AB (.t5 0 3 4 5 6) ?_
   refine AV ?_
   refine Eb _ _ ?_ (.t5 5 6 0 3 4) (.refl _)
   · have hv6:o.verb=12∨o.verb=13∨o.verb=14∨o.verb=15∨o.verb=16∨o.verb=17:=by omega
     rcases hv6 with e | e | e | e | e | e<;>(try rw [e] at c1)<;>(try rw [e] at c2)<;>(try rw [e] at c4)<;>(try rw [e] at c5)<;>first | exact⟨by rw [e];rfl,by rw [e];rfl⟩ | exact absurd c1 (by decide) | exact absurd c2 (by decide) | exact absurd c4 (by decide) | exact absurd c5 (by decide)
  have c4p:=kz c4
  refine CB (Gt (Aj rfl rfl) (Ga rfl (Gn (.t7 0 3 4 5 6 24 32) ?_)))
  refine Gc (fun c6=>?_) (fun c6=>?_)
  ·
   have c6p:=kz c6
   refine Aa ?_
   refine AB (.t6 0 3 4 5 6 32) ?_
   refine AA ?_
   refine G4 rfl c6 ?_
   refine Gs (Ga rfl (Ga rfl (Gn (.t5 0 3 4 5 6) (Gs (Gm rfl (Gt (BQ rfl) (Gn (.t6 0 3 4 5 6 36) ?_)))))))
   refine Gc (fun c7=>?_) (fun c7=>?_)
   ·
    have c7p:=kz c7
    refine AJ (Ga rfl ?_)
    refine AR (AB (.t5 0 3 4 5 6) ?_)
    refine AV ?_
    refine Eb _ _ ?_ (.t5 5 6 0 3 4) (.refl _)
    · have hv6:o.verb=12∨o.verb=13∨o.verb=14∨o.verb=15∨o.verb=16∨o.verb=17:=by omega
      rcases hv6 with e | e | e | e | e | e<;>(try rw [e] at c1)<;>(try rw [e] at c2)<;>(try rw [e] at c4)<;>(try rw [e] at c6)<;>(try rw [e] at c7)<;>first | exact⟨by rw [e];rfl,by rw [e];rfl⟩ | exact absurd c1 (by decide) | exact absurd c2 (by decide) | exact absurd c4 (by decide) | exact absurd c6 (by decide) | exact absurd c7 (by decide)
   have c7p:=kz c7
   refine Aa ?_
   refine AB (.t5 0 3 4 5 6) ?_
   refine AV ?_
   refine Eb _ _ ?_ (.t5 5 6 0 3 4) (.refl _)
   · have hv6:o.verb=12∨o.verb=13∨o.verb=14∨o.verb=15∨o.verb=16∨o.verb=17:=by omega
     rcases hv6 with e | e | e | e | e | e<;>(try rw [e] at c1)<;>(try rw [e] at c2)<;>(try rw [e] at c4)<;>(try rw [e] at c6)<;>(try rw [e] at c7)<;>first | exact⟨by rw [e];rfl,by rw [e];rfl⟩ | exact absurd c1 (by decide) | exact absurd c2 (by decide) | exact absurd c4 (by decide) | exact absurd c6 (by decide) | exact absurd c7 (by decide)
  have c6p:=kz c6
  refine AJ (Gt (Aj rfl rfl) (Ga rfl (Gn (.t6 0 3 4 5 6 32) ?_)))
  refine Gc (fun c8=>?_) (fun c8=>?_)
  ·
   have c8p:=kz c8
   refine Gs (Ga rfl (Ga rfl (Gn (.t5 0 3 4 5 6) (Gs (Gm rfl (Gt (BQ rfl) (Gn (.t6 0 3 4 5 6 36) ?_)))))))
   refine Gc (fun c9=>?_) (fun c9=>?_)
   ·
    have c9p:=kz c9
    refine AJ (Ga rfl ?_)
    refine AR (AB (.t5 0 3 4 5 6) ?_)
    refine AV ?_
    refine Eb _ _ ?_ (.t5 5 6 0 3 4) (.refl _)
    · have hv6:o.verb=12∨o.verb=13∨o.verb=14∨o.verb=15∨o.verb=16∨o.verb=17:=by omega
      rcases hv6 with e | e | e | e | e | e<;>(try rw [e] at c1)<;>(try rw [e] at c2)<;>(try rw [e] at c4)<;>(try rw [e] at c6)<;>(try rw [e] at c8)<;>(try rw [e] at c9)<;>first | exact⟨by rw [e];rfl,by rw [e];rfl⟩ | exact absurd c1 (by decide) | exact absurd c2 (by decide) | exact absurd c4 (by decide) | exact absurd c6 (by decide) | exact absurd c8 (by decide) | exact absurd c9 (by decide)
   have c9p:=kz c9
   refine Aa ?_
   refine AB (.t5 0 3 4 5 6) ?_
   refine AV ?_
   refine Eb _ _ ?_ (.t5 5 6 0 3 4) (.refl _)
   · have hv6:o.verb=12∨o.verb=13∨o.verb=14∨o.verb=15∨o.verb=16∨o.verb=17:=by omega
     rcases hv6 with e | e | e | e | e | e<;>(try rw [e] at c1)<;>(try rw [e] at c2)<;>(try rw [e] at c4)<;>(try rw [e] at c6)<;>(try rw [e] at c8)<;>(try rw [e] at c9)<;>first | exact⟨by rw [e];rfl,by rw [e];rfl⟩ | exact absurd c1 (by decide) | exact absurd c2 (by decide) | exact absurd c4 (by decide) | exact absurd c6 (by decide) | exact absurd c8 (by decide) | exact absurd c9 (by decide)
  have c8p:=kz c8
  refine Aa ?_
  refine AB (.t5 0 3 4 5 6) ?_
  refine AV ?_
  refine Eb _ _ ?_ (.t5 5 6 0 3 4) (.refl _)
  · have hv6:o.verb=12∨o.verb=13∨o.verb=14∨o.verb=15∨o.verb=16∨o.verb=17:=by omega
    rcases hv6 with e | e | e | e | e | e<;>(try rw [e] at c1)<;>(try rw [e] at c2)<;>(try rw [e] at c4)<;>(try rw [e] at c6)<;>(try rw [e] at c8)<;>first | exact⟨by rw [e];rfl,by rw [e];rfl⟩ | exact absurd c1 (by decide) | exact absurd c2 (by decide) | exact absurd c4 (by decide) | exact absurd c6 (by decide) | exact absurd c8 (by decide)
 obtain⟨rfl,rfl⟩:=hC
 refine CB (Gt (Ah Fm rfl) (Gt (AG rfl CP .m0 Order.l3 rfl rfl) ?_))
 refine BA rfl cC (.c rfl .n) (fun w hS=>Jn _ w (gl0.stM gm0 hS)) ?_
 refine Gm rfl (Gt (AN rfl rfl) (Gt (AN rfl rfl) (Ga rfl (Ga rfl (Gn (.t7 0 3 4 5 6 7 8) (Gs (Gm rfl ?_)))))))
 refine Gm rfl (Bl 44 rfl rfl (fun q=>AE rfl) (Bl 44 rfl rfl (fun q=>Aj (Bf rfl q) rfl) (Gt (BJ rfl rfl (fun h=>h)) (Gn (.t7 0 3 4 5 6 7 47) ?_))))
 refine Gc (fun c10=>?_) (fun c10=>?_)
 ·
  have c10p:=kz c10
  refine Gs (Gm rfl (Gm rfl (Gm rfl (Gm rfl ?_))))
  refine Ai rfl cL (.c rfl (.c rfl (.c rfl (.c rfl .n)))) (.c (.t .h) (.c (.t .h) .n)) (RI _ T _ _ _ _ hg hF (Words.UJ (Bool.and_eq_true_iff.1 c10).1) (by omega)) (fun v1 B hv=>?_)
  obtain⟨y2,rfl,y3,rfl⟩:=hv
  refine Gn (.nil _) (Ab (AD ?_))
  refine AZ rfl .n ?_
  intro w1 hS
  have hS:=(hS.perm (Ax.perm (.c .h (.c .h .n)))).A1
  have hq:T.set o=_:=(BB c10)
  refine⟨_,⟨?gq1,rfl,?hl1,?hB1⟩,hS⟩
  case hB1=>rw [hq];(try rfl)
  case hl1=>rw [hq];assumption
 have c10p:=kz c10
 refine Aa ?_
 refine AB (.t5 0 3 4 5 6) ?_
 refine AA (Gs (Gm rfl ?_))
 refine Ai rfl Ts (.c rfl .n) (.c (.t .h) .n) (Ht _ T _ hF) (fun v4 B hv=>?_)
 obtain⟨y5,rfl,y6,rfl⟩:=hv
 refine Ga rfl (Gn (.t6 0 3 4 5 6 9) (CB (Gm rfl (Gt (Aj rfl rfl) (Gn (.t7 0 3 4 5 6 9 56) ?_)))))
 refine Gc (fun c11=>?_) (fun c11=>?_)
 ·
  have c11p:=kz c11
  refine AJ (Gm rfl (Gm rfl ?_))
  refine Ai rfl W1 (.c rfl .n) (.c .h .n) (I9 _ T _ hF) (fun v8 B hv=>?_)
  obtain⟨y9,rfl,y10,rfl⟩:=hv
  refine Cd B2 rfl Tryz.underlying169 DB aN rfl cT (by decide) (by decide) rfl rfl (fun w hS=>Src.Dz Tryz.underlying169 ((Kn.own .m1) w hS)) (by(try dsimp only);omega) (fun _=>(.t (.t .h))) (fun h12 h12l h12z=>?_)
  refine Ga rfl (Gn (.t6 0 3 4 5 6 9) (Gs (Gm rfl (Gm rfl (Gt (Ah GM rfl) (Gt (AG rfl A5 .m3 Order.l1 rfl rfl) (Gt (Li rfl rfl) ?_)))))))
  refine Gt (Ah Fm rfl) (Gt (AG rfl CP .m3 Order.l3 rfl rfl) ?_)
  refine Ai rfl QG (.c rfl (.c rfl (.c rfl (.c rfl (.c rfl .n))))) (.c .h (.c (.t .h) .n)) (Ex _ T _ _ (T.own++T.seen) _ _ _ hF (by rw [List.length_append];omega) (by rw [List.length_append];omega) (fun i hi=>AF.Qy hi)) (fun v13 B hv=>?_)
  obtain⟨y14,rfl,y15,rfl⟩:=hv
  refine Ga rfl (Gn (.t5 0 4 5 6 9) (Ae (Ap ?_)))
  have hx0:=AF.SI (l:=(AF.BR T.w (T.own++T.seen) (max o.nth 1) o.name false)) (fun i hi=>AF.Qy (AF.Dp hi))
  refine BE (N:=18) [0,1,3,7,15,15,47,111,31,287,799,2047,4095,8191,15,32767,65535,131071] mix (by kernel_rfl) rfl ?_
  refine Pf 0 rfl (AE rfl) (Pf 1 rfl (Av rfl Tryz.underlying169 rfl) (Pf 2 rfl (Aj rfl rfl) (Pf 3 rfl (AE rfl) (Hf 4 82 rfl rfl rfl (fun q=>AE rfl) (Hf 5 82 rfl rfl rfl (fun q=>AE rfl) ?_)))))
  refine BN 6 rfl rfl (by kernel_rfl) (G6 (t:=82) rfl rfl (fun q=>by have q1:=q;(try simp at q1);exact Ge (Br GY (by decide) (Kn.own .m2) (cF rfl q) rfl (by omega) (by first | omega | (simp at q ⊢;omega))))) ?_
  refine BN 7 rfl rfl (by kernel_rfl) (G6 (t:=82) rfl rfl (fun q=>by have q1:=q;(try simp at q1);exact Ge (DJ (cF rfl q) A5 (Kn.own .m2) (by first | omega | (simp at q ⊢;omega))))) ?_
  refine Hf 8 82 rfl rfl rfl (fun q=>BV (cF rfl q)) (Hf 9 82 rfl rfl rfl (fun q=>Ah A9 (cF rfl q)) (Hf 10 82 rfl rfl rfl (fun q=>Ah Cw (cF rfl q)) ?_))
  refine BN 11 rfl rfl (by kernel_rfl) (G6 (t:=82) rfl rfl (fun q=>by have q1:=q;(try simp at q1);exact Ge (AQ F9 (cF rfl q) (cF rfl q) (by first | omega | exact hb.1 | exact hb.2 | exact hx0.1 | exact hx0.2 | (dsimp only;omega)) (by first | omega | exact hb.1 | exact hb.2 | exact hx0.1 | exact hx0.2 | (dsimp only;omega))))) ?_
  refine Hf 12 82 rfl rfl rfl (fun q=>Ah Gz (cF rfl q)) ?_
  refine BN 13 rfl rfl (by kernel_rfl) (G6 (t:=82) rfl rfl (fun q=>by have q1:=q;(try simp at q1);exact Ge (AG (cF rfl q) A5 .m0 (((Ad.l0.comp AH.l1).comp (AU.ar (n:=9) Al.fl (by first | omega | exact hb | exact hx0 | (dsimp only;omega)))).comp Al.l1) rfl rfl))) ?_
  refine Hf 14 82 rfl rfl rfl (fun q=>AE rfl) (Hf 15 82 rfl rfl rfl (fun q=>Ce (cF rfl q) (cF rfl q)) ?_)
  refine Pf 16 rfl (BS rfl rfl (fun h=>by rw [h];rfl)) ?_
  refine Pf 17 rfl (A0 rfl) ?_
  refine A4 (by kernel_rfl) ?_
  refine AB (.t6 0 4 5 6 9 78) ?_
  refine AA ?_
  refine Gc (fun c12=>?_) (fun c12=>?_)
  ·
   have c12p:=kz c12
   rw [y15] at c12 c12p
   have hsl:T.EO o=(AF.BR T.w (T.own++T.seen) (max o.nth 1) o.name false):=congrArg (fun q=>AF.BR T.w q _ _ _) (BB c11)
   refine AJ (Gm rfl ?_)
   refine Ai rfl EC (.c rfl (.c rfl .n)) (.c .h (.c (.t (.t (.t (.t .h)))) .n)) (Bc _ _ _ _ hg hb (by omega)) (fun v17 B hv=>?_)
   obtain⟨y18,rfl,y19,rfl⟩:=hv
   refine AR (AB (.nil _) ?_)
   refine AV ?_
   refine Bk rfl .n ?_
   intro w1 hS
   have hS:=(hS.perm (Ax.perm (.c .h (.c .h .n)))).A1
   have d0:(decide (((T.EO o).length:Int)=0) || !decide ((T.w.AO.at ((T.EO o).getD 0 0)).kind=AF.setKind o.verb))=true:=by rw [hsl];exact c12
   have hq:T.set o=_:=(AX c10).trans (BB d0)
   (try rw [hsl] at hq)
   refine⟨_,⟨?gq2,rfl,?hl2,?hB2⟩,hS⟩
   case hB2=>rw [hq];(try rfl)
   case hl2=>rw [hq];assumption
  have c12p:=kz c12
  rw [y15] at c12 c12p
  have hsl:T.EO o=(AF.BR T.w (T.own++T.seen) (max o.nth 1) o.name false):=congrArg (fun q=>AF.BR T.w q _ _ _) (BB c11)
  refine Ap ?_
  refine BE (N:=13) [0,0,2,6,1,17,49,127,255,511,0,2047,4095] mix (by kernel_rfl) rfl ?_
  refine Pf 0 rfl (AE rfl) (Pf 1 rfl (AE rfl) ?_)
  refine Pf 2 rfl (Br GY (by decide) (Kn.own .m2) rfl rfl (by omega) (by first | omega | (simp at q ⊢;omega))) ?_
  refine Pf 3 rfl (DJ rfl A5 (Kn.own .m2) (by first | omega | (simp at q ⊢;omega))) ?_
  refine Pf 4 rfl (BV rfl) (Pf 5 rfl (Ah A9 rfl) (Pf 6 rfl (Ah Cw rfl) ?_))
  refine Pf 7 rfl (AQ F9 rfl rfl (by first | omega | exact hb.1 | exact hb.2 | exact hx0.1 | exact hx0.2 | (dsimp only;omega)) (by first | omega | exact hb.1 | exact hb.2 | exact hx0.1 | exact hx0.2 | (dsimp only;omega))) ?_
  refine Pf 8 rfl (Ah GI rfl) ?_
  refine Pf 9 rfl (AG rfl DN .m0 (((Ad.l0.comp AH.l1).comp (AU.ar (n:=9) Al.fl (by first | omega | exact hb | exact hx0 | (dsimp only;omega)))).comp Al.l4) rfl rfl) ?_
  refine Pf 10 rfl (AE rfl) (Pf 11 rfl (Jk Tryz.underlying4 rfl rfl) (Pf 12 rfl (A0 rfl) ?_))
  refine A4 (by kernel_rfl) ?_
  refine AB (.t6 0 4 5 6 9 98) ?_
  refine AA ?_
  refine Gc (fun c13=>?_) (fun c13=>?_)
  ·
   have c13p:=kz c13
   refine AJ (Gm rfl ?_)
   refine Ai rfl EC (.c rfl (.c rfl .n)) (.c .h (.c (.t (.t (.t (.t .h)))) .n)) (Bc _ _ _ _ hg hb (by omega)) (fun v20 B hv=>?_)
   obtain⟨y21,rfl,y22,rfl⟩:=hv
   refine AR (AB (.nil _) ?_)
   refine AV ?_
   refine Bk rfl .n ?_
   intro w1 hS
   have hS:=(hS.perm (Ax.perm (.c .h (.c .h .n)))).A1
   have d0:(decide (((T.EO o).length:Int)=0) || !decide ((T.w.AO.at ((T.EO o).getD 0 0)).kind=AF.setKind o.verb))=false:=by rw [hsl];exact c12
   have d1:((T.w.AO.at ((T.EO o).getD 0 0)).on == AF.HX o.verb)=true:=by rw [hsl];exact c13
   have hq:T.set o=_:=(AX c10).trans ((AX d0).trans (BB d1))
   (try rw [hsl] at hq)
   refine⟨_,⟨?gq3,rfl,?hl3,?hB3⟩,hS⟩
   case hB3=>rw [hq];(try rfl)
   case hl3=>rw [hq];assumption
  have c13p:=kz c13
  refine Gs (Gm rfl (Ga rfl (Gn (.t6 0 4 5 6 9 113) ?_)))
  refine Gc (fun c14=>?_) (fun c14=>?_)
  ·
   have c14p:=kz c14
   refine AJ (Gm rfl (Gm rfl (Gt (Ce rfl rfl) (Gm rfl ?_))))
   refine Gt (Br GY (by decide) (Kn.own .m2) rfl rfl (by omega) (by first | omega | (simp at q ⊢;omega))) ?_
   refine Gt (DJ rfl A5 (Kn.own .m2) (by first | omega | (simp at q ⊢;omega))) ?_
   refine Gm rfl (Gm rfl ?_)
   refine Ai rfl Ua (.c rfl (.c rfl (.c rfl (.c rfl (.c rfl .n))))) (.c .h (.c (.t (.t (.t (.t .h)))) .n)) (F1 _ T _ (!decide (AF.setKind o.verb=2)) ((AF.BR T.w (T.own++T.seen) (max o.nth 1) o.name false).getD (0:Int).toNat 0) _ _ hg hb hx0 (by omega)) (fun v23 B hv=>?_)
   obtain⟨y24,rfl,y25,rfl⟩:=hv
   refine AR (AB (.nil _) ?_)
   refine AV ?_
   refine Bk rfl .n ?_
   intro w1 hS
   have hS:=(hS.perm (Ax.perm (.c .h (.c .h .n)))).A1
   have d0:(decide (((T.EO o).length:Int)=0) || !decide ((T.w.AO.at ((T.EO o).getD 0 0)).kind=AF.setKind o.verb))=false:=by rw [hsl];exact c12
   have d1:((T.w.AO.at ((T.EO o).getD 0 0)).on == AF.HX o.verb)=false:=by rw [hsl];exact c13
   have d2:AF.HX o.verb=true:=c14
   have hq:T.set o=_:=(AX c10).trans ((AX d0).trans ((AX d1).trans (BB d2)))
   (try rw [hsl] at hq)
   refine⟨_,⟨?gq4,rfl,?hl4,?hB4⟩,hS⟩
   case hB4=>rw [hq];(try rfl)
   case hl4=>rw [hq];assumption
  have c14p:=kz c14
  refine AJ (Gm rfl (Gm rfl (Gt (Aj rfl rfl) (Gm rfl ?_))))
  refine Gt (Br GY (by decide) (Kn.own .m2) rfl rfl (by omega) (by first | omega | (simp at q ⊢;omega))) ?_
  refine Gt (DJ rfl A5 (Kn.own .m2) (by first | omega | (simp at q ⊢;omega))) ?_
  refine Gm rfl (Gm rfl ?_)
  refine Ai rfl Ua (.c rfl (.c rfl (.c rfl (.c rfl (.c rfl .n))))) (.c .h (.c (.t (.t (.t (.t .h)))) .n)) (F1 _ T _ (decide (AF.setKind o.verb=2)) ((AF.BR T.w (T.own++T.seen) (max o.nth 1) o.name false).getD (0:Int).toNat 0) _ _ hg hb hx0 (by omega)) (fun v26 B hv=>?_)
  obtain⟨y27,rfl,y28,rfl⟩:=hv
  refine AR (AB (.nil _) ?_)
  refine AV ?_
  refine Bk rfl .n ?_
  intro w1 hS
  have hS:=(hS.perm (Ax.perm (.c .h (.c .h .n)))).A1
  have d0:(decide (((T.EO o).length:Int)=0) || !decide ((T.w.AO.at ((T.EO o).getD 0 0)).kind=AF.setKind o.verb))=false:=by rw [hsl];exact c12
  have d1:((T.w.AO.at ((T.EO o).getD 0 0)).on == AF.HX o.verb)=false:=by rw [hsl];exact c13
  have d2:AF.HX o.verb=false:=c14
  have hq:T.set o=_:=(AX c10).trans ((AX d0).trans ((AX d1).trans (AX d2)))
  (try rw [hsl] at hq)
  refine⟨_,⟨?gq5,rfl,?hl5,?hB5⟩,hS⟩
  case hB5=>rw [hq];(try rfl)
  case hl5=>rw [hq];assumption
 have c11p:=kz c11
 refine Aa ?_
 refine AB (.t6 0 3 4 5 6 9) ?_
 refine AA (Gs (Gm rfl (Gm rfl (Gt (Ah GM rfl) (Gt (AG rfl A5 .m2 Order.l1 rfl rfl) (Gt (Li rfl rfl) (Gt (Ah Fm rfl) ?_)))))))
 refine Gt (AG rfl CP .m2 Order.l3 rfl rfl) ?_
 refine Ai rfl QG (.c rfl (.c rfl (.c rfl (.c rfl (.c rfl .n))))) (.c .h (.c .h .n)) (Ex _ T _ _ T.own _ _ _ hF (by assumption) (by omega) (fun i hi=>AF.Ly hi)) (fun v29 B hv=>?_)
 obtain⟨y30,rfl,y31,rfl⟩:=hv
 refine Ga rfl (Gn (.t5 0 4 5 6 9) (Ae (Ap ?_)))
 have hx0:=AF.SI (l:=(AF.BR T.w T.own (max o.nth 1) o.name false)) (fun i hi=>AF.Ly (AF.Dp hi))
 refine BE (N:=18) [0,1,3,7,15,15,47,111,31,287,799,2047,4095,8191,15,32767,65535,131071] mix (by kernel_rfl) rfl ?_
 refine Pf 0 rfl (AE rfl) (Pf 1 rfl (Av rfl Tryz.underlying169 rfl) (Pf 2 rfl (Aj rfl rfl) (Pf 3 rfl (AE rfl) (Hf 4 82 rfl rfl rfl (fun q=>AE rfl) (Hf 5 82 rfl rfl rfl (fun q=>AE rfl) ?_)))))
 refine BN 6 rfl rfl (by kernel_rfl) (G6 (t:=82) rfl rfl (fun q=>by have q1:=q;(try simp at q1);exact Ge (Br GY (by decide) (Kn.own .m2) (cF rfl q) rfl (by omega) (by first | omega | (simp at q ⊢;omega))))) ?_
 refine BN 7 rfl rfl (by kernel_rfl) (G6 (t:=82) rfl rfl (fun q=>by have q1:=q;(try simp at q1);exact Ge (DJ (cF rfl q) A5 (Kn.own .m2) (by first | omega | (simp at q ⊢;omega))))) ?_
 refine Hf 8 82 rfl rfl rfl (fun q=>BV (cF rfl q)) (Hf 9 82 rfl rfl rfl (fun q=>Ah A9 (cF rfl q)) (Hf 10 82 rfl rfl rfl (fun q=>Ah Cw (cF rfl q)) ?_))
 refine BN 11 rfl rfl (by kernel_rfl) (G6 (t:=82) rfl rfl (fun q=>by have q1:=q;(try simp at q1);exact Ge (AQ F9 (cF rfl q) (cF rfl q) (by first | omega | exact hb.1 | exact hb.2 | exact hx0.1 | exact hx0.2 | (dsimp only;omega)) (by first | omega | exact hb.1 | exact hb.2 | exact hx0.1 | exact hx0.2 | (dsimp only;omega))))) ?_
 refine Hf 12 82 rfl rfl rfl (fun q=>Ah Gz (cF rfl q)) ?_
 refine BN 13 rfl rfl (by kernel_rfl) (G6 (t:=82) rfl rfl (fun q=>by have q1:=q;(try simp at q1);exact Ge (AG (cF rfl q) A5 .m0 (((Ad.l0.comp AH.l1).comp (AU.ar (n:=9) Al.fl (by first | omega | exact hb | exact hx0 | (dsimp only;omega)))).comp Al.l1) rfl rfl))) ?_
 refine Hf 14 82 rfl rfl rfl (fun q=>AE rfl) (Hf 15 82 rfl rfl rfl (fun q=>Ce (cF rfl q) (cF rfl q)) ?_)
 refine Pf 16 rfl (BS rfl rfl (fun h=>by rw [h];rfl)) ?_
 refine Pf 17 rfl (A0 rfl) ?_
 refine A4 (by kernel_rfl) ?_
 refine AB (.t6 0 4 5 6 9 78) ?_
 refine AA ?_
 refine Gc (fun c15=>?_) (fun c15=>?_)
 ·
  have c15p:=kz c15
  rw [y31] at c15 c15p
  have hsl:T.EO o=(AF.BR T.w T.own (max o.nth 1) o.name false):=congrArg (fun q=>AF.BR T.w q _ _ _) (AX c11)
  refine AJ (Gm rfl ?_)
  refine Ai rfl EC (.c rfl (.c rfl .n)) (.c .h (.c (.t (.t (.t .h))) .n)) (Bc _ _ _ _ hg hb (by omega)) (fun v33 B hv=>?_)
  obtain⟨y34,rfl,y35,rfl⟩:=hv
  refine AR (AB (.nil _) ?_)
  refine AV ?_
  refine Bk rfl .n ?_
  intro w1 hS
  have hS:=(hS.perm (Ax.perm (.c .h (.c .h .n)))).A1
  have d0:(decide (((T.EO o).length:Int)=0) || !decide ((T.w.AO.at ((T.EO o).getD 0 0)).kind=AF.setKind o.verb))=true:=by rw [hsl];exact c15
  have hq:T.set o=_:=(AX c10).trans (BB d0)
  (try rw [hsl] at hq)
  refine⟨_,⟨?gq6,rfl,?hl6,?hB6⟩,hS⟩
  case hB6=>rw [hq];(try rfl)
  case hl6=>rw [hq];assumption
 have c15p:=kz c15
 rw [y31] at c15 c15p
 have hsl:T.EO o=(AF.BR T.w T.own (max o.nth 1) o.name false):=congrArg (fun q=>AF.BR T.w q _ _ _) (AX c11)
 refine Ap ?_
 refine BE (N:=13) [0,0,2,6,1,17,49,127,255,511,0,2047,4095] mix (by kernel_rfl) rfl ?_
 refine Pf 0 rfl (AE rfl) (Pf 1 rfl (AE rfl) ?_)
 refine Pf 2 rfl (Br GY (by decide) (Kn.own .m2) rfl rfl (by omega) (by first | omega | (simp at q ⊢;omega))) ?_
 refine Pf 3 rfl (DJ rfl A5 (Kn.own .m2) (by first | omega | (simp at q ⊢;omega))) ?_
 refine Pf 4 rfl (BV rfl) (Pf 5 rfl (Ah A9 rfl) (Pf 6 rfl (Ah Cw rfl) ?_))
 refine Pf 7 rfl (AQ F9 rfl rfl (by first | omega | exact hb.1 | exact hb.2 | exact hx0.1 | exact hx0.2 | (dsimp only;omega)) (by first | omega | exact hb.1 | exact hb.2 | exact hx0.1 | exact hx0.2 | (dsimp only;omega))) ?_
 refine Pf 8 rfl (Ah GI rfl) ?_
 refine Pf 9 rfl (AG rfl DN .m0 (((Ad.l0.comp AH.l1).comp (AU.ar (n:=9) Al.fl (by first | omega | exact hb | exact hx0 | (dsimp only;omega)))).comp Al.l4) rfl rfl) ?_
 refine Pf 10 rfl (AE rfl) (Pf 11 rfl (Jk Tryz.underlying4 rfl rfl) (Pf 12 rfl (A0 rfl) ?_))
 refine A4 (by kernel_rfl) ?_
 refine AB (.t6 0 4 5 6 9 98) ?_
 refine AA ?_
 refine Gc (fun c16=>?_) (fun c16=>?_)
 ·
  have c16p:=kz c16
  refine AJ (Gm rfl ?_)
  refine Ai rfl EC (.c rfl (.c rfl .n)) (.c .h (.c (.t (.t (.t .h))) .n)) (Bc _ _ _ _ hg hb (by omega)) (fun v36 B hv=>?_)
  obtain⟨y37,rfl,y38,rfl⟩:=hv
  refine AR (AB (.nil _) ?_)
  refine AV ?_
  refine Bk rfl .n ?_
  intro w1 hS
  have hS:=(hS.perm (Ax.perm (.c .h (.c .h .n)))).A1
  have d0:(decide (((T.EO o).length:Int)=0) || !decide ((T.w.AO.at ((T.EO o).getD 0 0)).kind=AF.setKind o.verb))=false:=by rw [hsl];exact c15
  have d1:((T.w.AO.at ((T.EO o).getD 0 0)).on == AF.HX o.verb)=true:=by rw [hsl];exact c16
  have hq:T.set o=_:=(AX c10).trans ((AX d0).trans (BB d1))
  (try rw [hsl] at hq)
  refine⟨_,⟨?gq7,rfl,?hl7,?hB7⟩,hS⟩
  case hB7=>rw [hq];(try rfl)
  case hl7=>rw [hq];assumption
 have c16p:=kz c16
 refine Gs (Gm rfl (Ga rfl (Gn (.t6 0 4 5 6 9 113) ?_)))
 refine Gc (fun c17=>?_) (fun c17=>?_)
 ·
  have c17p:=kz c17
  refine AJ (Gm rfl (Gm rfl (Gt (Ce rfl rfl) (Gm rfl ?_))))
  refine Gt (Br GY (by decide) (Kn.own .m2) rfl rfl (by omega) (by first | omega | (simp at q ⊢;omega))) ?_
  refine Gt (DJ rfl A5 (Kn.own .m2) (by first | omega | (simp at q ⊢;omega))) ?_
  refine Gm rfl (Gm rfl ?_)
  refine Ai rfl Ua (.c rfl (.c rfl (.c rfl (.c rfl (.c rfl .n))))) (.c .h (.c (.t (.t (.t .h))) .n)) (F1 _ T _ (!decide (AF.setKind o.verb=2)) ((AF.BR T.w T.own (max o.nth 1) o.name false).getD (0:Int).toNat 0) _ _ hg hb hx0 (by omega)) (fun v39 B hv=>?_)
  obtain⟨y40,rfl,y41,rfl⟩:=hv
  refine AR (AB (.nil _) ?_)
  refine AV ?_
  refine Bk rfl .n ?_
  intro w1 hS
  have hS:=(hS.perm (Ax.perm (.c .h (.c .h .n)))).A1
  have d0:(decide (((T.EO o).length:Int)=0) || !decide ((T.w.AO.at ((T.EO o).getD 0 0)).kind=AF.setKind o.verb))=false:=by rw [hsl];exact c15
  have d1:((T.w.AO.at ((T.EO o).getD 0 0)).on == AF.HX o.verb)=false:=by rw [hsl];exact c16
  have d2:AF.HX o.verb=true:=c17
  have hq:T.set o=_:=(AX c10).trans ((AX d0).trans ((AX d1).trans (BB d2)))
  (try rw [hsl] at hq)
  refine⟨_,⟨?gq8,rfl,?hl8,?hB8⟩,hS⟩
  case hB8=>rw [hq];(try rfl)
  case hl8=>rw [hq];assumption
 have c17p:=kz c17
 refine AJ (Gm rfl (Gm rfl (Gt (Aj rfl rfl) (Gm rfl ?_))))
 refine Gt (Br GY (by decide) (Kn.own .m2) rfl rfl (by omega) (by first | omega | (simp at q ⊢;omega))) ?_
 refine Gt (DJ rfl A5 (Kn.own .m2) (by first | omega | (simp at q ⊢;omega))) ?_
 refine Gm rfl (Gm rfl ?_)
 refine Ai rfl Ua (.c rfl (.c rfl (.c rfl (.c rfl (.c rfl .n))))) (.c .h (.c (.t (.t (.t .h))) .n)) (F1 _ T _ (decide (AF.setKind o.verb=2)) ((AF.BR T.w T.own (max o.nth 1) o.name false).getD (0:Int).toNat 0) _ _ hg hb hx0 (by omega)) (fun v42 B hv=>?_)
 obtain⟨y43,rfl,y44,rfl⟩:=hv
 refine AR (AB (.nil _) ?_)
 refine AV ?_
 refine Bk rfl .n ?_
 intro w1 hS
 have hS:=(hS.perm (Ax.perm (.c .h (.c .h .n)))).A1
 have d0:(decide (((T.EO o).length:Int)=0) || !decide ((T.w.AO.at ((T.EO o).getD 0 0)).kind=AF.setKind o.verb))=false:=by rw [hsl];exact c15
 have d1:((T.w.AO.at ((T.EO o).getD 0 0)).on == AF.HX o.verb)=false:=by rw [hsl];exact c16
 have d2:AF.HX o.verb=false:=c17
 have hq:T.set o=_:=(AX c10).trans ((AX d0).trans ((AX d1).trans (AX d2)))
 (try rw [hsl] at hq)
 refine⟨_,⟨?gq9,rfl,?hl9,?hB9⟩,hS⟩
 case hB9=>rw [hq];(try rfl)
 case hl9=>rw [hq];assumption
theorem GP (X:AH)(b:Int)(o:Order)(hw:X.DH)(hu:o.second.length≤5000000)(hm:o.name.length≤5000000):FK Tryz.prog 84 #[.agg X.enc.toArray, .int .i64 b, .agg o.enc.toArray] [] (fun w=>(GV 0 AH.DG w∧0 ∉ Cf [])∧(Gu 7 w∧7 ∉ Cf [])∧(Gu 8 w∧8 ∉ Cf [])) (fun v B=>∃ h:Hd,v = .tuple #[.agg ((AF.EA X b o).1.enc).toArray,h.val, .int .i64 (AF.EA X b o).2.2]∧h.len=(AF.EA X b o).2.1.length∧B = [Ac.own h 56 16 ((AF.EA X b o).2.1.flatMap Ing.Event.enc)]):=by
 intro w hS0 hH
 obtain⟨⟨gl0,gm0⟩,⟨gl1,gm1⟩,⟨gl2,gm2⟩⟩:=hH
 refine Ak _ _ Tryz.func84 rfl rfl rfl (hS0) ?_
 refine Gs ?_
 refine B5 rfl rfl rfl (fun b1=>?_)
 refine B5 rfl rfl rfl (fun b2=>?_)
 refine BD rfl L6 rfl (fun b3=>?_)
 refine Ga rfl (Ga rfl (Gn (.t4 1 3 5 6) (Ap (Ae (Gs (Gt (AY rfl BW .m2 (AU.id AH.fl.len AH.fl.one) rfl) ?_))))))
 refine BA rfl Yc (.c rfl .n) (fun w hS=>Fk _ w) ?_
 refine Gt (BQ rfl) (Ga rfl (Gn (.t5 1 3 5 6 10) ?_))
 refine Gc (fun c1=>?_) (fun c1=>?_)
 ·
  refine Gs (Gt (AY rfl BW .m2 (AU.id AH.fl.len AH.fl.one) rfl) ?_)
  refine AS (AK (AU.id AH.fl.len AH.fl.one) rfl rfl rfl D3 rfl .h) ?_
  refine Ga rfl (Ga rfl (Gn (.t3 6 7 8) (Ab (AT (AD ?_)))))
  refine AZ rfl (.cell rfl .m0 (.inl ⟨(by rw [AH.fl.len];exact BW),rfl⟩) (.tmp rfl (.tmp rfl .n))) ?_
  intro w1 hS
  have hS:=hS.Co 56 16
  have hS:=(hS.perm (Ax.perm (.c .h .n))).A1
  have hq:AF.EA X b o=_:=(BB c1)
  refine⟨_,⟨⟨none,0,0⟩,?hv1,?hl1,?hB1⟩,hS⟩
  case hv1=>rw [hq];rfl
  case hl1=>rw [hq];rfl
  case hB1=>rw [hq];rfl
 have c1p:=kz c1
 refine Gs (Gm rfl (Gt (A8 rfl rfl) (Gm rfl (BZ 18 rfl rfl (fun q=>AE rfl) (BZ 18 rfl rfl (fun q=>CI (cF rfl q) rfl) ?_)))))
 refine Gt (BS rfl rfl (fun h=>by rw [h];rfl)) ?_
 refine Gm rfl (BZ 22 rfl rfl (fun q=>AE rfl) (BZ 22 rfl rfl (fun q=>Ah Bi rfl) ?_))
 refine BZ 22 rfl rfl (fun q=>by have q1:=q;(try simp at q1);exact AQ Cs (cF rfl q) (cF rfl q) (by first | omega | exact hb.1 | exact hb.2 | (dsimp only;omega)) (by first | omega | exact hb.1 | exact hb.2 | (dsimp only;omega))) ?_
 refine BZ 22 rfl rfl (fun q=>Ah F8 (cF rfl q)) ?_
 refine BZ 22 rfl rfl (fun q=>by have q1:=q;(try simp at q1);exact AG (cF rfl q) DN .m2 ((AH.l2.comp (AU.ar (n:=6) Ag.fl (by first | omega | exact hb | (dsimp only;omega)))).comp Ag.l1) rfl rfl) ?_
 refine BZ 22 rfl rfl (fun q=>BQ (cF rfl q)) ?_
 refine Gt (BS rfl rfl (fun h=>by rw [h];rfl)) ?_
 refine Ga rfl (Gn (.t5 1 3 5 6 15) ?_)
 refine Gc (fun c2=>?_) (fun c2=>?_)
 ·
  refine Gs (Gt (AY rfl BW .m2 (AU.id AH.fl.len AH.fl.one) rfl) ?_)
  refine AS (AK (AU.id AH.fl.len AH.fl.one) rfl rfl rfl D3 rfl .h) ?_
  refine Ga rfl (Ga rfl (Gn (.t3 6 7 8) (Ab (AT (AD ?_)))))
  refine AZ rfl (.cell rfl .m0 (.inl ⟨(by rw [AH.fl.len];exact BW),rfl⟩) (.tmp rfl (.tmp rfl .n))) ?_
  intro w1 hS
  have hS:=hS.Co 56 16
  have hS:=(hS.perm (Ax.perm (.c .h .n))).A1
  have hq:AF.EA X b o=_:=((AX c1).trans (BB c2))
  refine⟨_,⟨⟨none,0,0⟩,?hv2,?hl2,?hB2⟩,hS⟩
  case hv2=>rw [hq];rfl
  case hl2=>rw [hq];rfl
  case hB2=>rw [hq];rfl
 have c2p:=kz c2
 refine Gs (Gt (Ah DC rfl) (Gt (AG rfl A5 .m1 Order.l0 rfl rfl) (Gt (A8 rfl rfl) (Gm rfl (BZ 35 rfl rfl (fun q=>Ah DC rfl) (BZ 35 rfl rfl (fun q=>AG (cF rfl q) A5 .m1 Order.l0 rfl rfl) (BZ 35 rfl rfl (fun q=>Ck (cF rfl q) rfl) ?_)))))))
 refine Gt (BS rfl rfl (fun h=>by rw [h];rfl)) ?_
 refine Ga rfl (Gn (.t5 1 3 5 6 31) ?_)
 refine Gc (fun c3=>?_) (fun c3=>?_)
 ·
  refine Gs (Gt (AY rfl BW .m2 (AU.id AH.fl.len AH.fl.one) rfl) ?_)
  refine AS (AK (AU.id AH.fl.len AH.fl.one) rfl rfl rfl D3 rfl .h) ?_
  refine Ga rfl (Ga rfl (Gn (.t3 6 7 8) (Ab (AT (AD ?_)))))
  refine AZ rfl (.cell rfl .m0 (.inl ⟨(by rw [AH.fl.len];exact BW),rfl⟩) (.tmp rfl (.tmp rfl .n))) ?_
  intro w1 hS
  have hS:=hS.Co 56 16
  have hS:=(hS.perm (Ax.perm (.c .h .n))).A1
  have hq:AF.EA X b o=_:=((AX c1).trans ((AX c2).trans (BB c3)))
  refine⟨_,⟨⟨none,0,0⟩,?hv3,?hl3,?hB3⟩,hS⟩
  case hv3=>rw [hq];rfl
  case hl3=>rw [hq];rfl
  case hB3=>rw [hq];rfl
 have c3p:=kz c3
 have hF:=AF.VA hw c1 c2
 have hb:=hF.b
 refine Aa ?_
 refine AB (.t4 1 3 5 6) ?_
 refine AV (AA (Gs (Gt (AY rfl BW .m2 (AU.id AH.fl.len AH.fl.one) rfl) (Gm rfl (Gt (BC UT Tz rfl (.cons Ad.l0 rfl rfl rfl (.cons Ad.l1 rfl rfl rfl .nil))) ?_)))))
 refine B5 rfl rfl rfl (fun b4=>?_)
 refine Ga rfl (Gn (.t4 1 5 6 9) (Ap (Ae (Gs (Gt (Ah DC rfl) (Gt (AG rfl A5 .m2 Order.l0 rfl rfl) (Gt (A8 rfl rfl) ?_)))))))
 refine Ga rfl (Gn (.t5 1 5 6 9 48) ?_)
 refine Gc (fun c4=>?_) (fun c4=>?_)
 ·
  have c4p:=kz c4
  refine AJ (Gm rfl (Gt (Ah DC rfl) (Gt (AG rfl A5 .m2 Order.l0 rfl rfl) ?_)))
  refine DU Ing.Event.enc 56 16 ?_
  refine BF rfl dH (.c rfl (.c rfl .n)) (.c (.t .h) (.c .h .n)) (QZ _ (⟨X,b,[]⟩:AF) _ o.verb rfl hF (by omega) (Nat.zero_le _)) (fun w hS=>gl0.pull gm0 hS (.c (.t .h) (.c .h .n))) (fun v5 B hv=>?_)
  obtain⟨y6,rfl,y7,rfl⟩:=hv
  refine AR (AB (.t2 6 9) ?_)
  refine AV (AA (Ap ?_))
  refine BE (N:=11) [0,1,3,7,0,16,48,112,15,511,1023] mix (by kernel_rfl) rfl ?_
  refine Pf 0 rfl (AE rfl) (Pf 1 rfl (BV rfl) (Pf 2 rfl (Ah A9 rfl) (Pf 3 rfl (AY rfl BW .m0 Ad.l0 rfl) (Pf 4 rfl (AE rfl) (Pf 5 rfl (BV rfl) (Pf 6 rfl (Ah CK rfl) (Pf 7 rfl (AG rfl Dl .m0 Ad.l2 rfl rfl) ?_)))))))
  refine An 8 rfl (by kernel_rfl) ?_
  refine AS (AK (AU.id AH.fl.len AH.fl.one) rfl rfl rfl D3 rfl (.t (.t .h))) ?_
  refine BO rfl ⟨?_,?_⟩
  · exact(Po rfl (AG rfl Dl .m0 Ad.l2 rfl rfl) rfl rfl (Po rfl (Ah CK rfl) rfl rfl (Po rfl (BV rfl) rfl rfl (Po rfl (AE rfl) rfl rfl (Pk (Pk (Pk (Pk Ar))))))))
  refine Pf 9 rfl (A0 rfl) (Pf 10 rfl (A0 rfl) ?_)
  refine A4 (by kernel_rfl) ?_
  refine AB (.t3 6 7 8) ?_
  refine AA (Ab ?_)
  refine AZ rfl (.cell rfl .m2 (.inl ⟨(by rw [AH.fl.len];exact BW),rfl⟩) (.tmp rfl (.tmp rfl .n))) ?_
  intro w1 hS
  have hS:=(hS.perm (Ax.perm (.c (.t .h) .n))).A1
  have ha:AF.act (⟨X,b,[]⟩:AF) o=_:=(BB c4)
  have hq:AF.EA X b o=((AF.act (⟨X,b,[]⟩:AF) o).w,(AF.act (⟨X,b,[]⟩:AF) o).out,0):=((AX c1).trans ((AX c2).trans (AX c3)))
  rw [ha] at hq
  refine⟨_,⟨?gq4,?hv4,?hl4,?hB4⟩,hS⟩
  case hB4=>rw [hq];(try rfl)
  case hv4=>rw [hq];(try rfl)
  case hl4=>rw [hq];(try dsimp only);exact y7
 have c4p:=kz c4
 refine Gs (Gt (Ah DC rfl) (Gt (AG rfl A5 .m2 Order.l0 rfl rfl) (Gt (Aj rfl rfl) (Ga rfl (Gn (.t5 1 5 6 9 56) ?_)))))
 refine Gc (fun c5=>?_) (fun c5=>?_)
 ·
  refine AJ (Gm rfl ?_)
  refine DU Ing.Event.enc 56 16 ?_
  refine BF rfl Ub (.c rfl .n) (.c (.t .h) (.c .h .n)) (HE _ (⟨X,b,[]⟩:AF) _ rfl hF.b hF.br (Nat.zero_le _)) (fun w hS=>gl0.pull gm0 hS (.c (.t .h) (.c .h .n))) (fun v9 B hv=>?_)
  obtain⟨y10,rfl,y11,rfl⟩:=hv
  refine AR (AB (.t2 6 9) ?_)
  refine AV (AA (Ap ?_))
  refine BE (N:=11) [0,1,3,7,0,16,48,112,15,511,1023] mix (by kernel_rfl) rfl ?_
  refine Pf 0 rfl (AE rfl) (Pf 1 rfl (BV rfl) (Pf 2 rfl (Ah A9 rfl) (Pf 3 rfl (AY rfl BW .m0 Ad.l0 rfl) (Pf 4 rfl (AE rfl) (Pf 5 rfl (BV rfl) (Pf 6 rfl (Ah CK rfl) (Pf 7 rfl (AG rfl Dl .m0 Ad.l2 rfl rfl) ?_)))))))
  refine An 8 rfl (by kernel_rfl) ?_
  refine AS (AK (AU.id AH.fl.len AH.fl.one) rfl rfl rfl D3 rfl (.t (.t .h))) ?_
  refine BO rfl ⟨?_,?_⟩
  · exact(Po rfl (AG rfl Dl .m0 Ad.l2 rfl rfl) rfl rfl (Po rfl (Ah CK rfl) rfl rfl (Po rfl (BV rfl) rfl rfl (Po rfl (AE rfl) rfl rfl (Pk (Pk (Pk (Pk Ar))))))))
  refine Pf 9 rfl (A0 rfl) (Pf 10 rfl (A0 rfl) ?_)
  refine A4 (by kernel_rfl) ?_
  refine AB (.t3 6 7 8) ?_
  refine AA (Ab ?_)
  refine AZ rfl (.cell rfl .m2 (.inl ⟨(by rw [AH.fl.len];exact BW),rfl⟩) (.tmp rfl (.tmp rfl .n))) ?_
  intro w1 hS
  have hS:=(hS.perm (Ax.perm (.c (.t .h) .n))).A1
  have ha:AF.act (⟨X,b,[]⟩:AF) o=_:=((AX c4).trans (BB c5))
  have hq:AF.EA X b o=((AF.act (⟨X,b,[]⟩:AF) o).w,(AF.act (⟨X,b,[]⟩:AF) o).out,0):=((AX c1).trans ((AX c2).trans (AX c3)))
  rw [ha] at hq
  refine⟨_,⟨?gq5,?hv5,?hl5,?hB5⟩,hS⟩
  case hB5=>rw [hq];(try rfl)
  case hv5=>rw [hq];(try rfl)
  case hl5=>rw [hq];(try dsimp only);exact y11
 have c5p:=kz c5
 refine Gs (Gt (Ah DC rfl) (Gt (AG rfl A5 .m2 Order.l0 rfl rfl) (Gt (Aj rfl rfl) (Ga rfl (Gn (.t5 1 5 6 9 62) ?_)))))
 refine Gc (fun c6=>?_) (fun c6=>?_)
 ·
  have c6p:=kz c6
  refine AJ (Gm rfl (Gm rfl (Gt (BV rfl) (Gt (Ah A9 rfl) (Gt (AY rfl BW .m0 Ad.l0 rfl) (Gm rfl ?_))))))
  refine Ai rfl SK (.c rfl (.c rfl (.c rfl .n))) .n (FD _ _ _) (fun v12 B hv=>?_)
  obtain⟨y13,rfl,y14,rfl⟩:=hv
  refine DU Ing.Event.enc 56 16 ?_
  refine Ai rfl ZJ (.c rfl (.c rfl (.c rfl .n))) (.c (.t (.t .h)) (.c .h (.c .h .n))) (Lu _ (⟨X,b,[]⟩:AF) _ [89,111,117,32,104,97,118,101] _ (X.has 1 b) rfl hF.b (by assumption) (AH.H7 _ _ _) (fun i hi=>AH.Fi hi) hF.br (by decide) (Nat.zero_le _)) (fun v17 B hv=>?_)
  obtain⟨y18,rfl,y19,rfl⟩:=hv
  refine AR (AB (.t2 6 9) ?_)
  refine AV (AA (Ap ?_))
  refine BE (N:=11) [0,1,3,7,0,16,48,112,15,511,1023] mix (by kernel_rfl) rfl ?_
  refine Pf 0 rfl (AE rfl) (Pf 1 rfl (BV rfl) (Pf 2 rfl (Ah A9 rfl) (Pf 3 rfl (AY rfl BW .m0 Ad.l0 rfl) (Pf 4 rfl (AE rfl) (Pf 5 rfl (BV rfl) (Pf 6 rfl (Ah CK rfl) (Pf 7 rfl (AG rfl Dl .m0 Ad.l2 rfl rfl) ?_)))))))
  refine An 8 rfl (by kernel_rfl) ?_
  refine AS (AK (AU.id AH.fl.len AH.fl.one) rfl rfl rfl D3 rfl (.t (.t (.t .h)))) ?_
  refine BO rfl ⟨?_,?_⟩
  · exact(Po rfl (AG rfl Dl .m0 Ad.l2 rfl rfl) rfl rfl (Po rfl (Ah CK rfl) rfl rfl (Po rfl (BV rfl) rfl rfl (Po rfl (AE rfl) rfl rfl (Pk (Pk (Pk (Pk Ar))))))))
  refine Pf 9 rfl (A0 rfl) (Pf 10 rfl (A0 rfl) ?_)
  refine A4 (by kernel_rfl) ?_
  refine AB (.t3 6 7 8) ?_
  refine AA (Ab ?_)
  refine AZ rfl (.cell rfl .m3 (.inl ⟨(by rw [AH.fl.len];exact BW),rfl⟩) (.tmp rfl (.tmp rfl .n))) ?_
  intro w1 hS
  have hS:=(hS.perm (Ax.perm (.c (.t .h) .n))).A1
  have ha:AF.act (⟨X,b,[]⟩:AF) o=_:=((AX c4).trans ((AX c5).trans (BB c6)))
  have hq:AF.EA X b o=((AF.act (⟨X,b,[]⟩:AF) o).w,(AF.act (⟨X,b,[]⟩:AF) o).out,0):=((AX c1).trans ((AX c2).trans (AX c3)))
  rw [ha] at hq
  refine⟨_,⟨?gq6,?hv6,?hl6,?hB6⟩,hS⟩
  case hB6=>rw [hq];(try rfl)
  case hv6=>rw [hq];(try rfl)
  case hl6=>rw [hq];(try dsimp only);exact y19
 have c6p:=kz c6
 refine Gs (Gt (Ah DC rfl) (Gt (AG rfl A5 .m2 Order.l0 rfl rfl) (Gt (Aj rfl rfl) (Ga rfl (Gn (.t4 5 6 9 74) ?_)))))
 refine Gc (fun c7=>?_) (fun c7=>?_)
 ·
  refine AJ (Gm rfl (Gt (Ah Qz rfl) (Gt (AG rfl CP .m2 Order.l5 rfl rfl) (Gt (BC O9 IU rfl (.cons Ing.Event.l0 rfl rfl rfl (.cons Ing.Event.l3 rfl rfl rfl (.cons Ing.Event.l9 rfl rfl rfl .nil)))) ?_))))
  refine DU Ing.Event.enc 56 16 ?_
  refine Ai rfl Nx (.c rfl (.c rfl .n)) (.c (.t .h) (.c .h .n)) (CO _ (⟨X,b,[]⟩:AF) _ { AF.Fy 7 with text:=o.text } rfl hF.b (show(-1:Int) < 6 by decide) (Nat.zero_le _)) (fun v21 B hv=>?_)
  obtain⟨y22,rfl,y23,rfl⟩:=hv
  refine AR (AB (.t2 6 9) ?_)
  refine AV (AA (Ap ?_))
  refine BE (N:=11) [0,1,3,7,0,16,48,112,15,511,1023] mix (by kernel_rfl) rfl ?_
  refine Pf 0 rfl (AE rfl) (Pf 1 rfl (BV rfl) (Pf 2 rfl (Ah A9 rfl) (Pf 3 rfl (AY rfl BW .m0 Ad.l0 rfl) (Pf 4 rfl (AE rfl) (Pf 5 rfl (BV rfl) (Pf 6 rfl (Ah CK rfl) (Pf 7 rfl (AG rfl Dl .m0 Ad.l2 rfl rfl) ?_)))))))
  refine An 8 rfl (by kernel_rfl) ?_
  refine AS (AK (AU.id AH.fl.len AH.fl.one) rfl rfl rfl D3 rfl (.t (.t .h))) ?_
  refine BO rfl ⟨?_,?_⟩
  · exact(Po rfl (AG rfl Dl .m0 Ad.l2 rfl rfl) rfl rfl (Po rfl (Ah CK rfl) rfl rfl (Po rfl (BV rfl) rfl rfl (Po rfl (AE rfl) rfl rfl (Pk (Pk (Pk (Pk Ar))))))))
  refine Pf 9 rfl (A0 rfl) (Pf 10 rfl (A0 rfl) ?_)
  refine A4 (by kernel_rfl) ?_
  refine AB (.t3 6 7 8) ?_
  refine AA (Ab ?_)
  refine AZ rfl (.cell rfl .m2 (.inl ⟨(by rw [AH.fl.len];exact BW),rfl⟩) (.tmp rfl (.tmp rfl .n))) ?_
  intro w1 hS
  have hS:=(hS.perm (Ax.perm (.c (.t .h) .n))).A1
  have ha:AF.act (⟨X,b,[]⟩:AF) o=_:=((AX c4).trans ((AX c5).trans ((AX c6).trans (BB c7))))
  have hq:AF.EA X b o=((AF.act (⟨X,b,[]⟩:AF) o).w,(AF.act (⟨X,b,[]⟩:AF) o).out,0):=((AX c1).trans ((AX c2).trans (AX c3)))
  rw [ha] at hq
  refine⟨_,⟨?gq7,?hv7,?hl7,?hB7⟩,hS⟩
  case hB7=>rw [hq];(try rfl)
  case hv7=>rw [hq];(try rfl)
  case hl7=>rw [hq];(try dsimp only);exact y23
 have c7p:=kz c7
 refine Gs (Gt (Ah DC rfl) (Gt (AG rfl A5 .m2 Order.l0 rfl rfl) (Gt (Aj rfl rfl) (Ga rfl (Gn (.t4 5 6 9 83) ?_)))))
 refine Gc (fun c8=>?_) (fun c8=>?_)
 ·
  refine AJ (Gm rfl ?_)
  refine DU Ing.Event.enc 56 16 ?_
  refine Ai rfl aT (.c rfl .n) (.c (.t .h) (.c .h .n)) (RB _ (⟨X,b,[]⟩:AF) _ rfl hF (Nat.zero_le _)) (fun v25 B hv=>?_)
  obtain⟨y26,rfl,y27,rfl⟩:=hv
  refine AR (AB (.t2 6 9) ?_)
  refine AV (AA (Ap ?_))
  refine BE (N:=11) [0,1,3,7,0,16,48,112,15,511,1023] mix (by kernel_rfl) rfl ?_
  refine Pf 0 rfl (AE rfl) (Pf 1 rfl (BV rfl) (Pf 2 rfl (Ah A9 rfl) (Pf 3 rfl (AY rfl BW .m0 Ad.l0 rfl) (Pf 4 rfl (AE rfl) (Pf 5 rfl (BV rfl) (Pf 6 rfl (Ah CK rfl) (Pf 7 rfl (AG rfl Dl .m0 Ad.l2 rfl rfl) ?_)))))))
  refine An 8 rfl (by kernel_rfl) ?_
  refine AS (AK (AU.id AH.fl.len AH.fl.one) rfl rfl rfl D3 rfl (.t (.t .h))) ?_
  refine BO rfl ⟨?_,?_⟩
  · exact(Po rfl (AG rfl Dl .m0 Ad.l2 rfl rfl) rfl rfl (Po rfl (Ah CK rfl) rfl rfl (Po rfl (BV rfl) rfl rfl (Po rfl (AE rfl) rfl rfl (Pk (Pk (Pk (Pk Ar))))))))
  refine Pf 9 rfl (A0 rfl) (Pf 10 rfl (A0 rfl) ?_)
  refine A4 (by kernel_rfl) ?_
  refine AB (.t3 6 7 8) ?_
  refine AA (Ab ?_)
  refine AZ rfl (.cell rfl .m2 (.inl ⟨(by rw [AH.fl.len];exact BW),rfl⟩) (.tmp rfl (.tmp rfl .n))) ?_
  intro w1 hS
  have hS:=(hS.perm (Ax.perm (.c (.t .h) .n))).A1
  have ha:AF.act (⟨X,b,[]⟩:AF) o=_:=((AX c4).trans ((AX c5).trans ((AX c6).trans ((AX c7).trans (BB c8)))))
  have hq:AF.EA X b o=((AF.act (⟨X,b,[]⟩:AF) o).w,(AF.act (⟨X,b,[]⟩:AF) o).out,0):=((AX c1).trans ((AX c2).trans (AX c3)))
  rw [ha] at hq
  refine⟨_,⟨?gq8,?hv8,?hl8,?hB8⟩,hS⟩
  case hB8=>rw [hq];(try rfl)
  case hv8=>rw [hq];(try rfl)
  case hl8=>rw [hq];(try dsimp only);exact y27
 have c8p:=kz c8
 refine Gs (Gt (Ah DC rfl) (Gt (AG rfl A5 .m2 Order.l0 rfl rfl) (Gt (Aj rfl rfl) (Ga rfl (Gn (.t4 5 6 9 89) ?_)))))
 refine Gc (fun c9=>?_) (fun c9=>?_)
 ·
  refine AJ (Gm rfl (Gt (AY rfl B8 .m2 (AU.id Order.fl.len Order.fl.one) rfl) ?_))
  refine DU Ing.Event.enc 56 16 ?_
  refine BF rfl bT (.c rfl (.c rfl .n)) (.c (.t .h) (.c .h .n)) (PH _ (⟨X,b,[]⟩:AF) _ o rfl hF hm (Nat.zero_le _)) (fun w hS=>⟨gl1.pull gm1 hS (.c (.t .h) (.c .h .n)),gl2.pull gm2 hS (.c (.t .h) (.c .h .n))⟩) (fun v29 B hv=>?_)
  obtain⟨y30,rfl,y31,rfl⟩:=hv
  refine AR (AB (.t2 6 9) ?_)
  refine AV (AA (Ap ?_))
  refine BE (N:=11) [0,1,3,7,0,16,48,112,15,511,1023] mix (by kernel_rfl) rfl ?_
  refine Pf 0 rfl (AE rfl) (Pf 1 rfl (BV rfl) (Pf 2 rfl (Ah A9 rfl) (Pf 3 rfl (AY rfl BW .m0 Ad.l0 rfl) (Pf 4 rfl (AE rfl) (Pf 5 rfl (BV rfl) (Pf 6 rfl (Ah CK rfl) (Pf 7 rfl (AG rfl Dl .m0 Ad.l2 rfl rfl) ?_)))))))
  refine An 8 rfl (by kernel_rfl) ?_
  refine AS (AK (AU.id AH.fl.len AH.fl.one) rfl rfl rfl D3 rfl (.t (.t .h))) ?_
  refine BO rfl ⟨?_,?_⟩
  · exact(Po rfl (AG rfl Dl .m0 Ad.l2 rfl rfl) rfl rfl (Po rfl (Ah CK rfl) rfl rfl (Po rfl (BV rfl) rfl rfl (Po rfl (AE rfl) rfl rfl (Pk (Pk (Pk (Pk Ar))))))))
  refine Pf 9 rfl (A0 rfl) (Pf 10 rfl (A0 rfl) ?_)
  refine A4 (by kernel_rfl) ?_
  refine AB (.t3 6 7 8) ?_
  refine AA (Ab ?_)
  refine AZ rfl (.cell rfl .m2 (.inl ⟨(by rw [AH.fl.len];exact BW),rfl⟩) (.tmp rfl (.tmp rfl .n))) ?_
  intro w1 hS
  have hS:=(hS.perm (Ax.perm (.c (.t .h) .n))).A1
  have ha:AF.act (⟨X,b,[]⟩:AF) o=_:=((AX c4).trans ((AX c5).trans ((AX c6).trans ((AX c7).trans ((AX c8).trans (BB c9))))))
  have hq:AF.EA X b o=((AF.act (⟨X,b,[]⟩:AF) o).w,(AF.act (⟨X,b,[]⟩:AF) o).out,0):=((AX c1).trans ((AX c2).trans (AX c3)))
  rw [ha] at hq
  refine⟨_,⟨?gq9,?hv9,?hl9,?hB9⟩,hS⟩
  case hB9=>rw [hq];(try rfl)
  case hv9=>rw [hq];(try rfl)
  case hl9=>rw [hq];(try dsimp only);exact y31
 have c9p:=kz c9
 refine Gs (Gt (Ah DC rfl) (Gt (AG rfl A5 .m2 Order.l0 rfl rfl) (Gt (Aj rfl rfl) (Ga rfl (Gn (.t4 5 6 9 96) ?_)))))
 refine Gc (fun c10=>?_) (fun c10=>?_)
 ·
  refine AJ (Gm rfl (Gt (AY rfl B8 .m2 (AU.id Order.fl.len Order.fl.one) rfl) ?_))
  refine DU Ing.Event.enc 56 16 ?_
  refine BF rfl bo (.c rfl (.c rfl .n)) (.c (.t .h) (.c .h .n)) (SJ _ (⟨X,b,[]⟩:AF) _ o rfl hF hu (Nat.zero_le _)) (fun w hS=>⟨gl1.pull gm1 hS (.c (.t .h) (.c .h .n)),gl2.pull gm2 hS (.c (.t .h) (.c .h .n))⟩) (fun v33 B hv=>?_)
  obtain⟨y34,rfl,y35,rfl⟩:=hv
  refine AR (AB (.t2 6 9) ?_)
  refine AV (AA (Ap ?_))
  refine BE (N:=11) [0,1,3,7,0,16,48,112,15,511,1023] mix (by kernel_rfl) rfl ?_
  refine Pf 0 rfl (AE rfl) (Pf 1 rfl (BV rfl) (Pf 2 rfl (Ah A9 rfl) (Pf 3 rfl (AY rfl BW .m0 Ad.l0 rfl) (Pf 4 rfl (AE rfl) (Pf 5 rfl (BV rfl) (Pf 6 rfl (Ah CK rfl) (Pf 7 rfl (AG rfl Dl .m0 Ad.l2 rfl rfl) ?_)))))))
  refine An 8 rfl (by kernel_rfl) ?_
  refine AS (AK (AU.id AH.fl.len AH.fl.one) rfl rfl rfl D3 rfl (.t (.t .h))) ?_
  refine BO rfl ⟨?_,?_⟩
  · exact(Po rfl (AG rfl Dl .m0 Ad.l2 rfl rfl) rfl rfl (Po rfl (Ah CK rfl) rfl rfl (Po rfl (BV rfl) rfl rfl (Po rfl (AE rfl) rfl rfl (Pk (Pk (Pk (Pk Ar))))))))
  refine Pf 9 rfl (A0 rfl) (Pf 10 rfl (A0 rfl) ?_)
  refine A4 (by kernel_rfl) ?_
  refine AB (.t3 6 7 8) ?_
  refine AA (Ab ?_)
  refine AZ rfl (.cell rfl .m2 (.inl ⟨(by rw [AH.fl.len];exact BW),rfl⟩) (.tmp rfl (.tmp rfl .n))) ?_
  intro w1 hS
  have hS:=(hS.perm (Ax.perm (.c (.t .h) .n))).A1
  have ha:AF.act (⟨X,b,[]⟩:AF) o=_:=((AX c4).trans ((AX c5).trans ((AX c6).trans ((AX c7).trans ((AX c8).trans ((AX c9).trans (BB c10)))))))
  have hq:AF.EA X b o=((AF.act (⟨X,b,[]⟩:AF) o).w,(AF.act (⟨X,b,[]⟩:AF) o).out,0):=((AX c1).trans ((AX c2).trans (AX c3)))
  rw [ha] at hq
  refine⟨_,⟨?gq10,?hv10,?hl10,?hB10⟩,hS⟩
  case hB10=>rw [hq];(try rfl)
  case hv10=>rw [hq];(try rfl)
  case hl10=>rw [hq];(try dsimp only);exact y35
 have c10p:=kz c10
 refine Gs (Gt (Ah DC rfl) (Gt (AG rfl A5 .m2 Order.l0 rfl rfl) (Gt (Aj rfl rfl) (Gm rfl (BZ 107 rfl rfl (fun q=>Ah DC rfl) (BZ 107 rfl rfl (fun q=>AG (cF rfl q) A5 .m2 Order.l0 rfl rfl) (BZ 107 rfl rfl (fun q=>Aj (cF rfl q) rfl) ?_)))))))
 refine Gt (BS rfl rfl (fun h=>by rw [h];rfl)) ?_
 refine Gm rfl (BZ 112 rfl rfl (fun q=>Ah DC rfl) (BZ 112 rfl rfl (fun q=>AG (cF rfl q) A5 .m2 Order.l0 rfl rfl) (BZ 112 rfl rfl (fun q=>Aj (cF rfl q) rfl) ?_)))
 refine Gt (BS rfl rfl (fun h=>by rw [h];rfl)) ?_
 refine Ga rfl (Gn (.t4 5 6 9 103) ?_)
 refine Gc (fun c11=>?_) (fun c11=>?_)
 ·
  have c11p:=kz c11
  refine AJ (Gm rfl (Gt (AY rfl B8 .m2 (AU.id Order.fl.len Order.fl.one) rfl) ?_))
  refine DU Ing.Event.enc 56 16 ?_
  refine BF rfl ba (.c rfl (.c rfl .n)) (.c (.t .h) (.c .h .n)) (Rr _ (⟨X,b,[]⟩:AF) _ o rfl hF (by omega) hu (Nat.zero_le _)) (fun w hS=>⟨gl1.pull gm1 hS (.c (.t .h) (.c .h .n)),gl2.pull gm2 hS (.c (.t .h) (.c .h .n))⟩) (fun v37 B hv=>?_)
  obtain⟨y38,rfl,y39,rfl⟩:=hv
  refine AR (AB (.t2 6 9) ?_)
  refine AV (AA (Ap ?_))
  refine BE (N:=11) [0,1,3,7,0,16,48,112,15,511,1023] mix (by kernel_rfl) rfl ?_
  refine Pf 0 rfl (AE rfl) (Pf 1 rfl (BV rfl) (Pf 2 rfl (Ah A9 rfl) (Pf 3 rfl (AY rfl BW .m0 Ad.l0 rfl) (Pf 4 rfl (AE rfl) (Pf 5 rfl (BV rfl) (Pf 6 rfl (Ah CK rfl) (Pf 7 rfl (AG rfl Dl .m0 Ad.l2 rfl rfl) ?_)))))))
  refine An 8 rfl (by kernel_rfl) ?_
  refine AS (AK (AU.id AH.fl.len AH.fl.one) rfl rfl rfl D3 rfl (.t (.t .h))) ?_
  refine BO rfl ⟨?_,?_⟩
  · exact(Po rfl (AG rfl Dl .m0 Ad.l2 rfl rfl) rfl rfl (Po rfl (Ah CK rfl) rfl rfl (Po rfl (BV rfl) rfl rfl (Po rfl (AE rfl) rfl rfl (Pk (Pk (Pk (Pk Ar))))))))
  refine Pf 9 rfl (A0 rfl) (Pf 10 rfl (A0 rfl) ?_)
  refine A4 (by kernel_rfl) ?_
  refine AB (.t3 6 7 8) ?_
  refine AA (Ab ?_)
  refine AZ rfl (.cell rfl .m2 (.inl ⟨(by rw [AH.fl.len];exact BW),rfl⟩) (.tmp rfl (.tmp rfl .n))) ?_
  intro w1 hS
  have hS:=(hS.perm (Ax.perm (.c (.t .h) .n))).A1
  have ha:AF.act (⟨X,b,[]⟩:AF) o=_:=((AX c4).trans ((AX c5).trans ((AX c6).trans ((AX c7).trans ((AX c8).trans ((AX c9).trans ((AX c10).trans (BB c11))))))))
  have hq:AF.EA X b o=((AF.act (⟨X,b,[]⟩:AF) o).w,(AF.act (⟨X,b,[]⟩:AF) o).out,0):=((AX c1).trans ((AX c2).trans (AX c3)))
  rw [ha] at hq
  refine⟨_,⟨?gq11,?hv11,?hl11,?hB11⟩,hS⟩
  case hB11=>rw [hq];(try rfl)
  case hv11=>rw [hq];(try rfl)
  case hl11=>rw [hq];(try dsimp only);exact y39
 have c11p:=kz c11
 refine AJ (Gm rfl (Gt (AY rfl B8 .m2 (AU.id Order.fl.len Order.fl.one) rfl) ?_))
 refine DU Ing.Event.enc 56 16 ?_
 refine BF rfl au (.c rfl (.c rfl .n)) (.c (.t .h) (.c .h .n)) (R3 _ (⟨X,b,[]⟩:AF) _ o rfl hF (by omega) (Nat.zero_le _)) (fun w hS=>gl0.pull gm0 hS (.c (.t .h) (.c .h .n))) (fun v41 B hv=>?_)
 obtain⟨y42,rfl,y43,rfl⟩:=hv
 refine AR (AB (.t2 6 9) ?_)
 refine AV (AA (Ap ?_))
 refine BE (N:=11) [0,1,3,7,0,16,48,112,15,511,1023] mix (by kernel_rfl) rfl ?_
 refine Pf 0 rfl (AE rfl) (Pf 1 rfl (BV rfl) (Pf 2 rfl (Ah A9 rfl) (Pf 3 rfl (AY rfl BW .m0 Ad.l0 rfl) (Pf 4 rfl (AE rfl) (Pf 5 rfl (BV rfl) (Pf 6 rfl (Ah CK rfl) (Pf 7 rfl (AG rfl Dl .m0 Ad.l2 rfl rfl) ?_)))))))
 refine An 8 rfl (by kernel_rfl) ?_
 refine AS (AK (AU.id AH.fl.len AH.fl.one) rfl rfl rfl D3 rfl (.t (.t .h))) ?_
 refine BO rfl ⟨?_,?_⟩
 · exact(Po rfl (AG rfl Dl .m0 Ad.l2 rfl rfl) rfl rfl (Po rfl (Ah CK rfl) rfl rfl (Po rfl (BV rfl) rfl rfl (Po rfl (AE rfl) rfl rfl (Pk (Pk (Pk (Pk Ar))))))))
 refine Pf 9 rfl (A0 rfl) (Pf 10 rfl (A0 rfl) ?_)
 refine A4 (by kernel_rfl) ?_
 refine AB (.t3 6 7 8) ?_
 refine AA (Ab ?_)
 refine AZ rfl (.cell rfl .m2 (.inl ⟨(by rw [AH.fl.len];exact BW),rfl⟩) (.tmp rfl (.tmp rfl .n))) ?_
 intro w1 hS
 have hS:=(hS.perm (Ax.perm (.c (.t .h) .n))).A1
 have ha:AF.act (⟨X,b,[]⟩:AF) o=_:=((AX c4).trans ((AX c5).trans ((AX c6).trans ((AX c7).trans ((AX c8).trans ((AX c9).trans ((AX c10).trans (AX c11))))))))
 have hq:AF.EA X b o=((AF.act (⟨X,b,[]⟩:AF) o).w,(AF.act (⟨X,b,[]⟩:AF) o).out,0):=((AX c1).trans ((AX c2).trans (AX c3)))
 rw [ha] at hq
 refine⟨_,⟨?gq12,?hv12,?hl12,?hB12⟩,hS⟩
 case hB12=>rw [hq];(try rfl)
 case hv12=>rw [hq];(try rfl)
 case hl12=>rw [hq];(try dsimp only);exact y43
theorem IF (b:Nat)(V:AL)(ls:Vector BI 4)(ev:List Ing.Event)(k:Int)(n m:Nat)(hk:0≤k∧k < 4)(hF:AI.Fit (A3 V ls ev) n m)(hn:n≤900000)(hm:m≤900000):FK Tryz.prog 67 #[.pointer (some ⟨b,0,none⟩), .pointer (some ⟨b,165+k.toNat * 22,none⟩)] [Ac.box b 101 (AL.enc V),Ac.Dv (CG 9 (AL.Ao V) ls),Ac.own (AL.last V) 56 16 ((ev).flatMap Ing.Event.enc)] (fun w=>(GV 2 Fo w∧2 ∉ Cf [Ac.box b 101 (AL.enc V),Ac.Dv (CG 9 (AL.Ao V) ls),Ac.own (AL.last V) 56 16 ((ev).flatMap Ing.Event.enc)])∧(GV 0 AH.DG w∧0 ∉ Cf [Ac.box b 101 (AL.enc V),Ac.Dv (CG 9 (AL.Ao V) ls),Ac.own (AL.last V) 56 16 ((ev).flatMap Ing.Event.enc)])∧(Gu 7 w∧7 ∉ Cf [Ac.box b 101 (AL.enc V),Ac.Dv (CG 9 (AL.Ao V) ls),Ac.own (AL.last V) 56 16 ((ev).flatMap Ing.Event.enc)])∧(Gu 8 w∧8 ∉ Cf [Ac.box b 101 (AL.enc V),Ac.Dv (CG 9 (AL.Ao V) ls),Ac.own (AL.last V) 56 16 ((ev).flatMap Ing.Event.enc)])) (fun v B=>∃ V' ls' ev',v = .tuple #[]∧A3 V' ls' ev'=AI.leave (A3 V ls ev) k∧B = [Ac.box b 101 (AL.enc V'),Ac.Dv (CG 9 (AL.Ao V') ls'),Ac.own (AL.last V') 56 16 ((ev').flatMap Ing.Event.enc)]):=by
 intro w hS0 hH
 obtain⟨⟨gl0,gm0⟩,⟨gl1,gm1⟩,⟨gl2,gm2⟩,⟨gl3,gm3⟩⟩:=hH
 have hbe:=Vm hF hk.1 hk.2
 refine Ak _ _ Tryz.func67 rfl rfl rfl (hS0) ?_
 refine Ap (Ap ?_)
 refine BE (N:=18) [0,1,3,7,15,31,63,63,191,447,959,127,2175,6271,16383,32767,65535,131071] mix (by kernel_rfl) rfl ?_
 refine Pf 0 rfl (AE rfl) (Pf 1 rfl (BV rfl) (Pf 2 rfl (Ah JK rfl) (Pf 3 rfl (AG rfl A5 .m0 ((AL.l1.comp (AU.arr (n:=4) A2.fl hk.1 hk.2)).comp A2.l0) rfl rfl) (Pf 4 rfl (Aj rfl rfl) (Pf 5 rfl (AE rfl) (JT 6 12 rfl rfl rfl (fun q=>AE rfl) (JT 7 12 rfl rfl rfl (fun q=>AE rfl) ?_)))))))
 refine JT 8 12 rfl rfl rfl (fun q=>BV (Bf rfl q)) (JT 9 12 rfl rfl rfl (fun q=>Ah IC (Bf rfl q)) (JT 10 12 rfl rfl rfl (fun q=>AG (Bf rfl q) A5 .m0 ((AL.l1.comp (AU.arr (n:=4) A2.fl hk.1 hk.2)).comp A2.l1) rfl rfl) (JT 11 12 rfl rfl rfl (fun q=>BV (Bf rfl q)) (JT 12 12 rfl rfl rfl (fun q=>Ah D8 (Bf rfl q)) (JT 13 12 rfl rfl rfl (fun q=>Ah Bi (Bf rfl q)) ?_)))))
 refine BN 14 rfl rfl (by kernel_rfl) (Jo (t:=12) rfl rfl (fun q=>by have q1:=q;(try simp at q1);exact Ge (AQ Cs (Bf rfl q) (Bf rfl q) (by first | omega | exact hk.1 | exact hk.2) (by first | omega | exact hk.1 | exact hk.2)))) ?_
 refine JT 15 12 rfl rfl rfl (fun q=>Ah F8 (Bf rfl q)) ?_
 refine BN 16 rfl rfl (by kernel_rfl) (Jo (t:=12) rfl rfl (fun q=>by have q1:=q;(try simp at q1);exact Ge (AG (Bf rfl q) DN .m0 (((AL.l0.comp AH.l2).comp (AU.ar (n:=6) Ag.fl (by first | omega | exact hk))).comp Ag.l1) rfl rfl))) ?_
 refine Pf 17 rfl (BJ rfl rfl (fun h=>h)) ?_
 refine A4 (by kernel_rfl) ?_
 refine AB (.t3 0 1 24) ?_
 refine AA ?_
 refine Gc (fun c1=>?_) (fun c1=>?_)
 ·
  have c1p:=kz c1
  have hdl:=AF.NJ V.w (V.Ao.at k).Au AI.EB
  have hds:=AF.KS (b:=(V.Ao.at k).Au) (o:=AI.EB) hF.Fe AI.MV
  refine Ap ?_
  refine BE (N:=18) [0,1,3,7,0,16,48,112,0,511,1023,2047,2047,2047,0,20479,57343,131071] mix (by kernel_rfl) rfl ?_
  refine Pf 0 rfl (AE rfl) (Pf 1 rfl (BV rfl) (Pf 2 rfl (Ah D8 rfl) (Pf 3 rfl (AY rfl BW .m0 AL.l0 rfl) (Pf 4 rfl (AE rfl) (Pf 5 rfl (BV rfl) (Pf 6 rfl (Ah IC rfl) (Pf 7 rfl (AG rfl A5 .m0 ((AL.l1.comp (AU.arr (n:=4) A2.fl hk.1 hk.2)).comp A2.l1) rfl rfl) ?_)))))))
  refine Pf 8 rfl (BC Ro LP rfl (.cons Order.l0 rfl rfl rfl .nil)) ?_
  refine J4 9 14 rfl rfl (by kernel_rfl) ?_ ?_
  ·
   refine BF rfl Yl (.c rfl (.c rfl (.c rfl .n))) .n (GP V.w (V.Ao.at k).Au AI.EB hF.Fe.H3 (Nat.zero_le _) (Nat.zero_le _)) (fun w hS=>⟨gl1.pull gm1 hS .n,gl2.pull gm2 hS .n,gl3.pull gm3 hS .n⟩) (fun v1 B hv=>?_)
   obtain⟨y2,rfl,y3,rfl⟩:=hv
   refine Bp rfl ⟨?_,?_⟩
   · exact(Pk (Pk (Pk (Pk (Pk (Pk (Pk (Pk (Pk Ar)))))))))
   refine Pf 10 rfl (AE rfl) (Pf 11 rfl (AN rfl rfl) (Pf 12 rfl (AN rfl rfl) (Pf 13 rfl (AN rfl rfl) ?_)))
   refine An 14 rfl (by kernel_rfl) ?_
   refine BD rfl L6 rfl (fun b1=>?_)
   refine Bp rfl ⟨?_,?_⟩
   · exact(Po rfl (AN rfl rfl) rfl rfl (Po rfl (AN rfl rfl) rfl rfl (Po rfl (AN rfl rfl) rfl rfl (Po rfl (AE rfl) rfl rfl (Po rfl (BC Ro LP rfl (.cons Order.l0 rfl rfl rfl .nil)) rfl rfl (Po rfl (AG rfl A5 .m2 ((AL.l1.comp (AU.arr (n:=4) A2.fl hk.1 hk.2)).comp A2.l1) rfl rfl) rfl rfl (Po rfl (Ah IC rfl) rfl rfl (Po rfl (BV rfl) rfl rfl (Po rfl (AE rfl) rfl rfl (Po rfl (AY rfl BW .m2 AL.l0 rfl) rfl rfl (Po rfl (Ah D8 rfl) rfl rfl (Po rfl (BV rfl) rfl rfl (Po rfl (AE rfl) rfl rfl Ar)))))))))))))
   refine An 15 rfl (by kernel_rfl) ?_
   refine AS (AK (AU.id AH.fl.len AH.fl.one) rfl rfl rfl D3 rfl .h) ?_
   refine BO rfl ⟨?_,?_⟩
   · exact(Po rfl (AN rfl rfl) rfl rfl (Po rfl (AN rfl rfl) rfl rfl (Pk (Pk (Pk (Pk (Pk (Pk (Pk (Pk (Pk (Pk (Pk Ar)))))))))))))
   refine Pf 16 rfl (A0 rfl) (Pf 17 rfl (A0 rfl) ?_)
   refine A4 (by kernel_rfl) ?_
   refine AB (.t4 0 1 4 5) ?_
   refine AA (Gs (Gm rfl (Gt (AY rfl BW .m0 (AU.id AH.fl.len AH.fl.one) rfl) (Gt (BV rfl) (Gt (Ah D8 rfl) ?_)))))
   refine AS (AK AL.l0 rfl rfl rfl D3 rfl (.t (.t .h))) ?_
   refine Gn (.t3 0 1 5) (Ap ?_)
   refine EJ (.c (.t (.t .h)) (.c (.t (.t .h)) .n)) ?_
   refine E4 (k:=k) hk.1 hk.2 (fun sv sl hsv hlv hln=>?_)
   refine AJ (Gm rfl (Gt (BC VL Vu rfl .nil) (Gt (BV rfl) ?_)))
   refine AS (AK (AU.BL { V with w:=(AF.EA V.w (V.Ao.at k).Au AI.EB).1 } hk.1 hk.2) rfl rfl rfl TM rfl (.t (.t (.t .h)))) ?_
   refine Gn (.t3 0 1 5) ?_
   refine E0 A7 9 1 ?_
   refine E0 A7 9 1 ?_
   refine E0 A7 9 1 ?_
   refine EJ (.c (.t (.t .h)) (.c (.t .h) (.c .h (.c (.t (.t (.t .h))) (.c (.t (.t (.t .h))) .n))))) ?_
   refine HA hk.1 hk.2 (by rfl) (by rfl) (by rfl) ?_
   refine AJ (Gm rfl (Gm rfl ?_))
   refine BF rfl VY (.c rfl (.c rfl .n)) (.c .h (.c .h (.c (.t (.t (.t (.t (.t .h))))) (.c (.t (.t (.t (.t .h)))) .n)))) (Ew _ (AL.BL { V with w:=(AF.EA V.w (V.Ao.at k).Au AI.EB).1 } k default) (ls.put k ⟨[],[],[]⟩) ev _ (AF.EA V.w (V.Ao.at k).Au AI.EB).2.1 n (by assumption) (Gj (((hF.land hds.1).free hk.1 hk.2) |> fun h=>by rw [← Nd,← Ir hk.1 hk.2] at h;exact h)) (by omega) (Nat.le_trans hF.last (by omega)) (fun e he c _=>hds.2 e he)) (fun w hS=>⟨gl0.pull gm0 hS (.c .h (.c .h (.c (.t (.t (.t (.t (.t .h))))) (.c (.t (.t (.t (.t .h)))) .n)))),gl1.pull gm1 hS (.c .h (.c .h (.c (.t (.t (.t (.t (.t .h))))) (.c (.t (.t (.t (.t .h)))) .n))))⟩) (fun v8 B hv=>?_)
   obtain⟨y9,y10,y11,rfl,y12,rfl⟩:=hv
   refine Gn (.t1 1) ?_
   refine E4 (k:=k) hk.1 hk.2 (fun sv sl hsv hlv hln=>?_)
   refine AJ (Gm rfl (Gt (BC VL Vu rfl .nil) (Gt (BV rfl) ?_)))
   refine AS (AK (AU.BL y9 hk.1 hk.2) rfl rfl rfl TM rfl (.t (.t (.t .h)))) ?_
   refine AR ?_
   refine Bk rfl .n ?_
   intro w1 hS
   have hS:=hS.Co 9 1
   have hS:=hS.Co 9 1
   have hS:=hS.Co 9 1
   have hS:=(hS.perm (Ax.perm (.c (.t (.t .h)) (.c (.t .h) (.c .h (.c (.t (.t (.t .h))) (.c (.t (.t (.t .h))) (.c (.t (.t (.t .h))) .n)))))))).A1
   have hS:=St.close' (s:=default) (qs:= []) (ws:= []) (ts:= []) hk.1 hk.2 rfl rfl rfl hS
   refine⟨_,⟨_,_,_,rfl,?ga1,rfl⟩,hS⟩
   case ga1=>exact Qw hk.1 hk.2 c1 y12
  ·
   refine BD rfl L6 rfl (fun b2=>?_)
   refine Bp rfl ⟨?_,?_⟩
   · exact(Po rfl (BC Ro LP rfl (.cons Order.l0 rfl rfl rfl .nil)) rfl rfl (Po rfl (AG rfl A5 .m1 ((AL.l1.comp (AU.arr (n:=4) A2.fl hk.1 hk.2)).comp A2.l1) rfl rfl) rfl rfl (Po rfl (Ah IC rfl) rfl rfl (Po rfl (BV rfl) rfl rfl (Po rfl (AE rfl) rfl rfl (Po rfl (AY rfl BW .m1 AL.l0 rfl) rfl rfl (Po rfl (Ah D8 rfl) rfl rfl (Po rfl (BV rfl) rfl rfl (Po rfl (AE rfl) rfl rfl Ar)))))))))
   refine An 9 rfl (by kernel_rfl) ?_
   refine BF rfl Yl (.c rfl (.c rfl (.c rfl .n))) .n (GP V.w (V.Ao.at k).Au AI.EB hF.Fe.H3 (Nat.zero_le _) (Nat.zero_le _)) (fun w hS=>⟨gl1.pull gm1 hS .n,gl2.pull gm2 hS .n,gl3.pull gm3 hS .n⟩) (fun v16 B hv=>?_)
   obtain⟨y17,rfl,y18,rfl⟩:=hv
   refine Bp rfl ⟨?_,?_⟩
   · exact(Pk (Pk (Pk (Pk (Pk (Pk (Pk (Pk (Pk Ar)))))))))
   refine Pf 10 rfl (AE rfl) (Pf 11 rfl (AN rfl rfl) (Pf 12 rfl (AN rfl rfl) (Pf 13 rfl (AN rfl rfl) ?_)))
   refine An 15 rfl (by kernel_rfl) ?_
   refine AS (AK (AU.id AH.fl.len AH.fl.one) rfl rfl rfl D3 rfl (.t .h)) ?_
   refine BO rfl ⟨?_,?_⟩
   · exact(Po rfl (AN rfl rfl) rfl rfl (Po rfl (AN rfl rfl) rfl rfl (Pk (Pk (Pk (Pk (Pk (Pk (Pk (Pk (Pk (Pk (Pk Ar)))))))))))))
   refine Pf 16 rfl (A0 rfl) (Pf 17 rfl (A0 rfl) ?_)
   refine A4 (by kernel_rfl) ?_
   refine AB (.t4 0 1 4 5) ?_
   refine AA (Gs (Gm rfl (Gt (AY rfl BW .m1 (AU.id AH.fl.len AH.fl.one) rfl) (Gt (BV rfl) (Gt (Ah D8 rfl) ?_)))))
   refine AS (AK AL.l0 rfl rfl rfl D3 rfl (.t (.t .h))) ?_
   refine Gn (.t3 0 1 5) (Ap ?_)
   refine EJ (.c (.t (.t .h)) (.c (.t (.t .h)) .n)) ?_
   refine E4 (k:=k) hk.1 hk.2 (fun sv sl hsv hlv hln=>?_)
   refine AJ (Gm rfl (Gt (BC VL Vu rfl .nil) (Gt (BV rfl) ?_)))
   refine AS (AK (AU.BL { V with w:=(AF.EA V.w (V.Ao.at k).Au AI.EB).1 } hk.1 hk.2) rfl rfl rfl TM rfl (.t (.t (.t .h)))) ?_
   refine Gn (.t3 0 1 5) ?_
   refine E0 A7 9 1 ?_
   refine E0 A7 9 1 ?_
   refine E0 A7 9 1 ?_
   refine EJ (.c (.t (.t .h)) (.c (.t .h) (.c .h (.c (.t (.t (.t .h))) (.c (.t (.t (.t .h))) .n))))) ?_
   refine HA hk.1 hk.2 (by rfl) (by rfl) (by rfl) ?_
   refine AJ (Gm rfl (Gm rfl ?_))
   refine BF rfl VY (.c rfl (.c rfl .n)) (.c .h (.c .h (.c (.t (.t (.t (.t (.t .h))))) (.c (.t (.t (.t .h))) .n)))) (Ew _ (AL.BL { V with w:=(AF.EA V.w (V.Ao.at k).Au AI.EB).1 } k default) (ls.put k ⟨[],[],[]⟩) ev _ (AF.EA V.w (V.Ao.at k).Au AI.EB).2.1 n (by assumption) (Gj (((hF.land hds.1).free hk.1 hk.2) |> fun h=>by rw [← Nd,← Ir hk.1 hk.2] at h;exact h)) (by omega) (Nat.le_trans hF.last (by omega)) (fun e he c _=>hds.2 e he)) (fun w hS=>⟨gl0.pull gm0 hS (.c .h (.c .h (.c (.t (.t (.t (.t (.t .h))))) (.c (.t (.t (.t .h))) .n)))),gl1.pull gm1 hS (.c .h (.c .h (.c (.t (.t (.t (.t (.t .h))))) (.c (.t (.t (.t .h))) .n))))⟩) (fun v23 B hv=>?_)
   obtain⟨y24,y25,y26,rfl,y27,rfl⟩:=hv
   refine Gn (.t1 1) ?_
   refine E4 (k:=k) hk.1 hk.2 (fun sv sl hsv hlv hln=>?_)
   refine AJ (Gm rfl (Gt (BC VL Vu rfl .nil) (Gt (BV rfl) ?_)))
   refine AS (AK (AU.BL y24 hk.1 hk.2) rfl rfl rfl TM rfl (.t (.t (.t .h)))) ?_
   refine AR ?_
   refine Bk rfl .n ?_
   intro w1 hS
   have hS:=hS.Co 9 1
   have hS:=hS.Co 9 1
   have hS:=hS.Co 9 1
   have hS:=(hS.perm (Ax.perm (.c (.t (.t .h)) (.c (.t .h) (.c .h (.c (.t (.t (.t .h))) (.c (.t (.t (.t .h))) (.c (.t (.t (.t .h))) .n)))))))).A1
   have hS:=St.close' (s:=default) (qs:= []) (ws:= []) (ts:= []) hk.1 hk.2 rfl rfl rfl hS
   refine⟨_,⟨_,_,_,rfl,?ga2,rfl⟩,hS⟩
   case ga2=>exact Qw hk.1 hk.2 c1 y27
 refine Aa ?_
 refine AB (.t1 1) ?_
 refine AA ?_
 refine E4 (k:=k) hk.1 hk.2 (fun sv sl hsv hlv hln=>?_)
 refine AJ (Gm rfl (Gt (BC VL Vu rfl .nil) (Gt (BV rfl) ?_)))
 refine AS (AK (AU.BL V hk.1 hk.2) rfl rfl rfl TM rfl (.t (.t (.t .h)))) ?_
 refine AR ?_
 refine Bk rfl .n ?_
 intro w1 hS
 have hS:=hS.Co 9 1
 have hS:=hS.Co 9 1
 have hS:=hS.Co 9 1
 have hS:=(hS.perm (Ax.perm (.c (.t (.t .h)) (.c (.t .h) (.c .h (.c (.t (.t (.t .h))) (.c (.t (.t (.t .h))) (.c (.t (.t (.t .h))) .n)))))))).A1
 have hS:=St.close' (s:=default) (qs:= []) (ws:= []) (ts:= []) hk.1 hk.2 rfl rfl rfl hS
 refine⟨_,⟨_,_,_,rfl,?ga3,rfl⟩,hS⟩
 case ga3=>exact UE hk.1 hk.2 c1
theorem PL (b:Nat)(V:AL)(ls:Vector BI 4)(ev:List Ing.Event)(k:Int)(u:Aq)(n m:Nat)(hk:0≤k∧k < 4)(hF:AI.Fit (A3 V ls ev) n m)(hn:n≤900000)(hm:m≤900000)(hu:u.length≤1000):FK Tryz.prog 95 #[.pointer (some ⟨b,0,none⟩), .pointer (some ⟨b,165+k.toNat * 22,none⟩),BU u] [Ac.box b 101 (AL.enc V),Ac.Dv (CG 9 (AL.Ao V) ls),Ac.own (AL.last V) 56 16 ((ev).flatMap Ing.Event.enc)] (fun w=>(GV 2 Fo w∧2 ∉ Cf [Ac.box b 101 (AL.enc V),Ac.Dv (CG 9 (AL.Ao V) ls),Ac.own (AL.last V) 56 16 ((ev).flatMap Ing.Event.enc)])∧(GV 0 AH.DG w∧0 ∉ Cf [Ac.box b 101 (AL.enc V),Ac.Dv (CG 9 (AL.Ao V) ls),Ac.own (AL.last V) 56 16 ((ev).flatMap Ing.Event.enc)])∧(Gu 7 w∧7 ∉ Cf [Ac.box b 101 (AL.enc V),Ac.Dv (CG 9 (AL.Ao V) ls),Ac.own (AL.last V) 56 16 ((ev).flatMap Ing.Event.enc)])∧(Gu 8 w∧8 ∉ Cf [Ac.box b 101 (AL.enc V),Ac.Dv (CG 9 (AL.Ao V) ls),Ac.own (AL.last V) 56 16 ((ev).flatMap Ing.Event.enc)])) (fun v B=>∃ V' ls' ev',v = .tuple #[]∧A3 V' ls' ev'=AI.order (A3 V ls ev) k u∧B = [Ac.box b 101 (AL.enc V'),Ac.Dv (CG 9 (AL.Ao V') ls'),Ac.own (AL.last V') 56 16 ((ev').flatMap Ing.Event.enc)]):=by
 intro w hS0 hH
 obtain⟨⟨gl0,gm0⟩,⟨gl1,gm1⟩,⟨gl2,gm2⟩,⟨gl3,gm3⟩⟩:=hH
 have hps:=Words.Jf u
 have hdl:=AF.NJ V.w (V.Ao.at k).Au (Words.parse u).1
 have hds:=AF.KS (b:=(V.Ao.at k).Au) (o:=(Words.parse u).1) hF.Fe (by have:=hps.2.2;omega)
 have htn:=Gj hF
 refine Ak _ _ Tryz.func95 rfl rfl rfl (hS0) ?_
 refine Gs (Gm rfl ?_)
 refine BA rfl cK (.c rfl .n) (fun w hS=>MC u (by omega) w (gl1.stM gm1 hS) (gl2.stM gm2 hS) (gl3.stM gm3 hS)) ?_
 refine Gm rfl (Gt (AN rfl rfl) (Gt (AN rfl rfl) ?_))
 refine BD rfl LP rfl (fun b1=>?_)
 refine AS (AK (AU.id Order.fl.len Order.fl.one) rfl rfl rfl D6 rfl .h) ?_
 refine Ga rfl (Gn (.t4 0 1 6 7) (CB (Gm rfl (Gt (Ce rfl rfl) (Gn (.t4 0 1 6 17) ?_)))))
 refine Gc (fun c1=>?_) (fun c1=>?_)
 ·
  have c1p:=kz c1
  refine Gs (Gm rfl (Gm rfl ?_))
  refine Ai rfl Sl (.c rfl (.c rfl (.c rfl .n))) (.c (.t .h) (.c (.t .h) (.c (.t .h) .n))) (EI _ V ls ev k _ hk (Nat.le_trans (htn k hk.1 hk.2) (by omega))) (fun v1 B hv=>?_)
  obtain⟨y2,y3,y4,rfl,y5,rfl⟩:=hv
  refine Gn (.nil _) (Ab (AD ?_))
  refine AZ rfl .n ?_
  intro w1 hS
  have hS:=(hS.perm (Ax.perm (.c .h (.c .h (.c .h .n))))).A1
  refine⟨_,⟨y2,y3,y4,rfl,?ga1,rfl⟩,hS⟩
  case ga1=>exact y5.trans (if_pos c1).symm
 have c1p:=kz c1
 refine Aa ?_
 refine AB (.t3 0 1 6) ?_
 refine AA (CB (Gt (Ah DC rfl) (Gt (AG rfl A5 .m0 Order.l0 rfl rfl) (Gt (Aj rfl rfl) (Gn (.t4 0 1 6 23) ?_)))))
 refine Gc (fun c2=>?_) (fun c2=>?_)
 ·
  refine Gs (Gm rfl (Gm rfl ?_))
  refine BF rfl ZT (.c rfl (.c rfl .n)) (.c (.t .h) (.c (.t .h) (.c (.t .h) .n))) (IF _ V ls ev k n m hk hF hn hm) (fun w hS=>⟨gl0.pull gm0 hS (.c (.t .h) (.c (.t .h) (.c (.t .h) .n))),gl1.pull gm1 hS (.c (.t .h) (.c (.t .h) (.c (.t .h) .n))),gl2.pull gm2 hS (.c (.t .h) (.c (.t .h) (.c (.t .h) .n))),gl3.pull gm3 hS (.c (.t .h) (.c (.t .h) (.c (.t .h) .n)))⟩) (fun v6 B hv=>?_)
  obtain⟨y7,y8,y9,rfl,y10,rfl⟩:=hv
  refine Gn (.nil _) (Ab (AD ?_))
  refine AZ rfl .n ?_
  intro w1 hS
  have hS:=(hS.perm (Ax.perm (.c .h (.c .h (.c .h .n))))).A1
  refine⟨_,⟨y7,y8,y9,rfl,?ga2,rfl⟩,hS⟩
  case ga2=>exact y10.trans ((AX c1).trans (BB c2)).symm
 have c2p:=kz c2
 refine Aa ?_
 refine AB (.t3 0 1 6) ?_
 refine AA (Ap ?_)
 refine BE (N:=18) [0,1,3,7,0,16,48,112,0,511,1023,2047,2047,2047,0,20479,57343,131071] mix (by kernel_rfl) rfl ?_
 refine Pf 0 rfl (AE rfl) (Pf 1 rfl (BV rfl) (Pf 2 rfl (Ah D8 rfl) (Pf 3 rfl (AY rfl BW .m1 AL.l0 rfl) (Pf 4 rfl (AE rfl) (Pf 5 rfl (BV rfl) (Pf 6 rfl (Ah IC rfl) (Pf 7 rfl (AG rfl A5 .m1 ((AL.l1.comp (AU.arr (n:=4) A2.fl hk.1 hk.2)).comp A2.l1) rfl rfl) ?_)))))))
 refine Pf 8 rfl (AY rfl B8 .m0 (AU.id Order.fl.len Order.fl.one) rfl) ?_
 refine J4 9 14 rfl rfl (by kernel_rfl) ?_ ?_
 ·
  refine BF rfl Yl (.c rfl (.c rfl (.c rfl .n))) .n (GP V.w (V.Ao.at k).Au (Words.parse u).1 hF.Fe.H3 (by have:=hps.2.1;omega) (by have:=hps.1;omega)) (fun w hS=>⟨gl1.pull gm1 hS .n,gl2.pull gm2 hS .n,gl3.pull gm3 hS .n⟩) (fun v11 B hv=>?_)
  obtain⟨y12,rfl,y13,rfl⟩:=hv
  refine Bp rfl ⟨?_,?_⟩
  · exact(Pk (Pk (Pk (Pk (Pk (Pk (Pk (Pk (Pk Ar)))))))))
  refine Pf 10 rfl (AE rfl) (Pf 11 rfl (AN rfl rfl) (Pf 12 rfl (AN rfl rfl) (Pf 13 rfl (AN rfl rfl) ?_)))
  refine An 14 rfl (by kernel_rfl) ?_
  refine BD rfl L6 rfl (fun b2=>?_)
  refine Bp rfl ⟨?_,?_⟩
  · exact(Po rfl (AN rfl rfl) rfl rfl (Po rfl (AN rfl rfl) rfl rfl (Po rfl (AN rfl rfl) rfl rfl (Po rfl (AE rfl) rfl rfl (Po rfl (AY rfl B8 .m2 (AU.id Order.fl.len Order.fl.one) rfl) rfl rfl (Po rfl (AG rfl A5 .m3 ((AL.l1.comp (AU.arr (n:=4) A2.fl hk.1 hk.2)).comp A2.l1) rfl rfl) rfl rfl (Po rfl (Ah IC rfl) rfl rfl (Po rfl (BV rfl) rfl rfl (Po rfl (AE rfl) rfl rfl (Po rfl (AY rfl BW .m3 AL.l0 rfl) rfl rfl (Po rfl (Ah D8 rfl) rfl rfl (Po rfl (BV rfl) rfl rfl (Po rfl (AE rfl) rfl rfl Ar)))))))))))))
  refine An 15 rfl (by kernel_rfl) ?_
  refine AS (AK (AU.id AH.fl.len AH.fl.one) rfl rfl rfl D3 rfl .h) ?_
  refine BO rfl ⟨?_,?_⟩
  · exact(Po rfl (AN rfl rfl) rfl rfl (Po rfl (AN rfl rfl) rfl rfl (Pk (Pk (Pk (Pk (Pk (Pk (Pk (Pk (Pk (Pk (Pk Ar)))))))))))))
  refine Pf 16 rfl (A0 rfl) (Pf 17 rfl (A0 rfl) ?_)
  refine A4 (by kernel_rfl) ?_
  refine AB (.t3 0 8 9) ?_
  refine AA (Gs (Gm rfl (Gt (AY rfl BW .m0 (AU.id AH.fl.len AH.fl.one) rfl) (Gt (BV rfl) (Gt (Ah D8 rfl) ?_)))))
  refine AS (AK AL.l0 rfl rfl rfl D3 rfl (.t (.t (.t .h)))) ?_
  refine Gn (.t2 0 9) (AJ (Gm rfl (Gm rfl ?_)))
  refine BF rfl VY (.c rfl (.c rfl .n)) (.c (.t (.t (.t .h))) (.c (.t (.t (.t .h))) (.c (.t (.t (.t .h))) (.c (.t .h) .n)))) (Ew _ { V with w:=(AF.EA V.w (V.Ao.at k).Au (Words.parse u).1).1 } ls ev _ (AF.EA V.w (V.Ao.at k).Au (Words.parse u).1).2.1 n (by assumption) htn (by omega) (Nat.le_trans hF.last (by omega)) (fun e he c _=>hds.2 e he)) (fun w hS=>⟨gl0.pull gm0 hS (.c (.t (.t (.t .h))) (.c (.t (.t (.t .h))) (.c (.t (.t (.t .h))) (.c (.t .h) .n)))),gl1.pull gm1 hS (.c (.t (.t (.t .h))) (.c (.t (.t (.t .h))) (.c (.t (.t (.t .h))) (.c (.t .h) .n))))⟩) (fun v15 B hv=>?_)
  obtain⟨y16,y17,y18,rfl,y19,rfl⟩:=hv
  refine AR ?_
  refine Bk rfl .n ?_
  intro w1 hS
  have hS:=(hS.perm (Ax.perm (.c .h (.c .h (.c .h .n))))).A1
  refine⟨_,⟨y16,y17,y18,rfl,?ga3,rfl⟩,hS⟩
  case ga3=>exact UG hk.1 hk.2 c1 c2 y19
 ·
  refine BD rfl L6 rfl (fun b3=>?_)
  refine Bp rfl ⟨?_,?_⟩
  · exact(Po rfl (AY rfl B8 .m1 (AU.id Order.fl.len Order.fl.one) rfl) rfl rfl (Po rfl (AG rfl A5 .m2 ((AL.l1.comp (AU.arr (n:=4) A2.fl hk.1 hk.2)).comp A2.l1) rfl rfl) rfl rfl (Po rfl (Ah IC rfl) rfl rfl (Po rfl (BV rfl) rfl rfl (Po rfl (AE rfl) rfl rfl (Po rfl (AY rfl BW .m2 AL.l0 rfl) rfl rfl (Po rfl (Ah D8 rfl) rfl rfl (Po rfl (BV rfl) rfl rfl (Po rfl (AE rfl) rfl rfl Ar)))))))))
  refine An 9 rfl (by kernel_rfl) ?_
  refine BF rfl Yl (.c rfl (.c rfl (.c rfl .n))) .n (GP V.w (V.Ao.at k).Au (Words.parse u).1 hF.Fe.H3 (by have:=hps.2.1;omega) (by have:=hps.1;omega)) (fun w hS=>⟨gl1.pull gm1 hS .n,gl2.pull gm2 hS .n,gl3.pull gm3 hS .n⟩) (fun v20 B hv=>?_)
  obtain⟨y21,rfl,y22,rfl⟩:=hv
  refine Bp rfl ⟨?_,?_⟩
  · exact(Pk (Pk (Pk (Pk (Pk (Pk (Pk (Pk (Pk Ar)))))))))
  refine Pf 10 rfl (AE rfl) (Pf 11 rfl (AN rfl rfl) (Pf 12 rfl (AN rfl rfl) (Pf 13 rfl (AN rfl rfl) ?_)))
  refine An 15 rfl (by kernel_rfl) ?_
  refine AS (AK (AU.id AH.fl.len AH.fl.one) rfl rfl rfl D3 rfl (.t .h)) ?_
  refine BO rfl ⟨?_,?_⟩
  · exact(Po rfl (AN rfl rfl) rfl rfl (Po rfl (AN rfl rfl) rfl rfl (Pk (Pk (Pk (Pk (Pk (Pk (Pk (Pk (Pk (Pk (Pk Ar)))))))))))))
  refine Pf 16 rfl (A0 rfl) (Pf 17 rfl (A0 rfl) ?_)
  refine A4 (by kernel_rfl) ?_
  refine AB (.t3 0 8 9) ?_
  refine AA (Gs (Gm rfl (Gt (AY rfl BW .m1 (AU.id AH.fl.len AH.fl.one) rfl) (Gt (BV rfl) (Gt (Ah D8 rfl) ?_)))))
  refine AS (AK AL.l0 rfl rfl rfl D3 rfl (.t (.t (.t .h)))) ?_
  refine Gn (.t2 0 9) (AJ (Gm rfl (Gm rfl ?_)))
  refine BF rfl VY (.c rfl (.c rfl .n)) (.c (.t (.t (.t .h))) (.c (.t (.t (.t .h))) (.c (.t (.t (.t .h))) (.c .h .n)))) (Ew _ { V with w:=(AF.EA V.w (V.Ao.at k).Au (Words.parse u).1).1 } ls ev _ (AF.EA V.w (V.Ao.at k).Au (Words.parse u).1).2.1 n (by assumption) htn (by omega) (Nat.le_trans hF.last (by omega)) (fun e he c _=>hds.2 e he)) (fun w hS=>⟨gl0.pull gm0 hS (.c (.t (.t (.t .h))) (.c (.t (.t (.t .h))) (.c (.t (.t (.t .h))) (.c .h .n)))),gl1.pull gm1 hS (.c (.t (.t (.t .h))) (.c (.t (.t (.t .h))) (.c (.t (.t (.t .h))) (.c .h .n))))⟩) (fun v24 B hv=>?_)
  obtain⟨y25,y26,y27,rfl,y28,rfl⟩:=hv
  refine AR ?_
  refine Bk rfl .n ?_
  intro w1 hS
  have hS:=(hS.perm (Ax.perm (.c .h (.c .h (.c .h .n))))).A1
  refine⟨_,⟨y25,y26,y27,rfl,?ga4,rfl⟩,hS⟩
  case ga4=>exact UG hk.1 hk.2 c1 c2 y28
end Go.Proofs.YtoidpggbbfncpaaGreatDoor

/- What the functions that the law HousePlays reaches compute: walks, part 4. No condition. -/
import Derived.Test.YtlmmdjaoikaceaaGreatDoorCards
import Derived.Test.YtlmmdjaoikaceaaGreatDoorTie
import Derived.Deep.DeepHandedRow
import Derived.Test.YtlmmdjaoikaceaaGreatDoorRows
import Derived.Test.YtlmmdjaoikaceaaGreatDoorHousePlaysEc3
import Derived.Test.YtlmmdjaoikaceaaGreatDoorHousePlaysRa1
import Derived.Test.YtlmmdjaoikaceaaGreatDoorHousePlaysRb1
import Derived.Test.YtlmmdjaoikaceaaGreatDoorHousePlaysRc1
import Derived.Test.YtlmmdjaoikaceaaGreatDoorHousePlaysRd1
import Derived.Test.YtlmmdjaoikaceaaGreatDoorHousePlaysWalks
import Derived.Test.YtlmmdjaoikaceaaGreatDoorHousePlaysWalks2
import Derived.Test.YtlmmdjaoikaceaaGreatDoorHousePlaysWalks3
set_option linter.unusedSimpArgs false
set_option linter.unusedVariables false
set_option maxRecDepth 100000
set_option maxHeartbeats 4000000
namespace Go.Proofs.YtlmmdjaoikaceaaGreatDoor
open Go Go.Ing Go.RowKit Go.ChangeShapes Go.WideShapes Go.ChangeAt
theorem Ub (b:Nat)(T:AA)(g:Hd)(o:Order)(hg:g.len=T.out.length)(hF:T.Fit)(hu:o.second.length≤140737488351232)(hn:T.out.length≤90000):Cz Tryz.prog 128 #[.pointer (some ⟨b,0,none⟩), .agg o.enc.toArray] [AJ.box b 175 (Ab.enc ⟨T.w,T.b,g⟩),AJ.own g 100 16 (T.out.flatMap Ing.Event.enc)] (fun w=>(Eo 8 w∧8 ∉ BV [AJ.box b 175 (Ab.enc ⟨T.w,T.b,g⟩),AJ.own g 100 16 (T.out.flatMap Ing.Event.enc)])∧(Eo 9 w∧9 ∉ BV [AJ.box b 175 (Ab.enc ⟨T.w,T.b,g⟩),AJ.own g 100 16 (T.out.flatMap Ing.Event.enc)])) (fun v B=>∃ g':Hd,v = .tuple #[]∧g'.len=(T.get o).out.length∧B = [AJ.box b 175 (Ab.enc ⟨(T.get o).w,(T.get o).b,g'⟩),AJ.own g' 100 16 ((T.get o).out.flatMap Ing.Event.enc)]):=by
 intro w hS0 hH
 obtain⟨⟨gl0,gm0⟩,⟨gl1,gm1⟩⟩:=hH
 have hb:=hF.b
 have hr:=hF.room
 refine AR _ _ Tryz.func128 J J J (hS0) ?_
 refine W ?_
 intro b1
 refine Cl (.c (.t .h) .n) (Ji _ _ _ (by first | assumption | omega)) (fun v1 B hv=>?_)
 obtain⟨y2,rfl,y3,rfl⟩:=hv
 refine W ?_
 refine⟨fun c1 c1p=>?_,fun c1 c1p=>?_⟩
 ·
  refine W ?_
  refine Cm (.c .h (.c (.t (.t .h)) .n)) (Nr _ T _ _ hg hF hu (by omega)) (fun v5 B hv=>?_)
  obtain⟨y6,rfl,y7,rfl⟩:=hv
  refine W ?_
  refine⟨fun c2 c2p=>?_,fun c2 c2p=>?_⟩
  ·
   refine W ?_
   intro w1 hS
   have hS:=(hS.perm (AK.perm (.c .h (.c .h .n)))).AM
   have hq:T.get o=_:=((AN c1).trans (AN c2))
   refine⟨_,⟨?gq1,J,?g9l1,?g9B1⟩,hS⟩
   case g9B1=>rw [hq];(try rfl)
   case g9l1=>rw [hq];assumption
  refine W ?_
  refine Cl .n (E0 _ _ _) (fun v8 B hv=>?_)
  obtain⟨y9,rfl,y10,rfl⟩:=hv
  refine W ?_
  refine Cl (.c (.t .h) (.c .h .n)) (Ek _ (T.box o.second).1 _ _ ((T.box o.second).1.w.has 2 (T.box o.second).2.1) _ _ _ (hF.Fc (T.KD _).1 (T.KD _).2) (by assumption) (Nat.le_trans (AD.F7 _ _ _) (by decide)) (fun i hi=>AD.E4 hi)) (fun v12 B hv=>?_)
  obtain⟨y13,rfl,y14,rfl⟩:=hv
  refine W ?_
  refine⟨fun c3 c3p=>?_,fun c3 c3p=>?_⟩
  ·
   rw [y14] at c3
   refine W ?_
   refine Cl (.c .h (.c (.t (.t .h)) .n)) (A8 _ (T.box o.second).1 _ _ (by assumption) (by rw [(T.KD _).2];exact hb) (by have:=T.EL o.second;omega)) (fun v16 B hv=>?_)
   obtain⟨y17,rfl,y18,rfl⟩:=hv
   refine W ?_
   refine Af (.t4 46 0 44 45) ?_
   refine AY (.t .h) ?_
   refine AY (.t .h) ?_
   refine Bo (fun(k:Int) (X:AA) (h:Hd)=>0≤k∧k≤((AA.AS (T.box o.second).1.w ((T.box o.second).1.w.has 2 (T.box o.second).2.1) o.nth o.name o.An).length:Int)∧T.get o=X.CL ((AA.AS (T.box o.second).1.w ((T.box o.second).1.w.has 2 (T.box o.second).2.1) o.nth o.name o.An).drop k.toNat)∧X.b=T.b∧(X.out.length:Int)≤T.out.length+2+k∧h.len=X.out.length∧((AA.AS (T.box o.second).1.w ((T.box o.second).1.w.has 2 (T.box o.second).2.1) o.nth o.name o.An).length:Int)≤9) (fun(k:Int) (X:AA) (h:Hd)=>(((AA.AS (T.box o.second).1.w ((T.box o.second).1.w.has 2 (T.box o.second).2.1) o.nth o.name o.An).length:Int) - k).toNat) (fun(k:Int) (X:AA) (h:Hd)=> [(46, .int .i64 k)]) (fun(k:Int) (X:AA) (h:Hd)=> [AJ.box b 175 (Ab.enc ⟨X.w,X.b,h⟩),AJ.own h 100 16 (X.out.flatMap Ing.Event.enc)]) (0) (_) (_) ?_ J J (fun k X h hI1=>?_)
   · exact⟨by omega,by omega,((AN c1).trans (AB c2)).trans (congrArg (fun q=>AA.CL q _) (AN c3)),(T.KD _).2,by have:=T.EL o.second;(try simp only [AA.BQ]);omega,by assumption,by have:=(AA.C9 (T.box o.second).1.w ((T.box o.second).1.w.has 2 (T.box o.second).2.1) o.nth o.name o.An).length_le;have:=AD.F7 (T.box o.second).1.w 2 (T.box o.second).2.1;omega⟩
   obtain⟨hI11,hI12,hI13,hI14,hI15,hI16,hI17⟩:=hI1
   refine W ?_
   refine⟨fun c4 c4p=>?_,fun c4 c4p=>?_⟩
   ·
    have hx:0≤(AA.AS (T.box o.second).1.w ((T.box o.second).1.w.has 2 (T.box o.second).2.1) o.nth o.name o.An).getD k.toNat 0∧(AA.AS (T.box o.second).1.w ((T.box o.second).1.w.has 2 (T.box o.second).2.1) o.nth o.name o.An).getD k.toNat 0 < 9:=(fun i hi=>AD.E4 (AA.CO hi)) _ (Aa.CT (xs:=(AA.AS (T.box o.second).1.w ((T.box o.second).1.w.has 2 (T.box o.second).2.1) o.nth o.name o.An)) (i:=k.toNat) (by omega))
    refine Ws 14 ?_
    refine CY (fun _=> .h) (congrArg (fun q=>Ab.enc ⟨q,_,_⟩) (AA.DM X hx.1 hx.2 1 X.b)) ?_
    refine W ?_
    refine Cl (.c .h (.c .h .n)) (DX _ (X.place ((AA.AS (T.box o.second).1.w ((T.box o.second).1.w.has 2 (T.box o.second).2.1) o.nth o.name o.An).getD k.toNat 0) 1 X.b) _ 3 ((AA.AS (T.box o.second).1.w ((T.box o.second).1.w.has 2 (T.box o.second).2.1) o.nth o.name o.An).getD k.toNat 0) (by assumption) (show 0≤X.b∧X.b < 6 by rw [hI14];exact hb) hx (show X.out.length≤100000 by omega)) (fun v19 B hv=>?_)
    obtain⟨y20,rfl,y21,rfl⟩:=hv
    refine W ?_
    refine Ap (k+1) _ _ ?_ ?_ (.t4 46 0 44 45) (.refl _)
    · exact⟨by omega,by omega,by rw [hI13,AA.DQ hI11 (by omega)],hI14,(by rw [AA.FP];show((X.out.length+1:Nat):Int)≤_;omega),by assumption,hI17⟩
    · omega
   obtain rfl:k=((AA.AS (T.box o.second).1.w ((T.box o.second).1.w.has 2 (T.box o.second).2.1) o.nth o.name o.An).length:Int):=by omega
   rw [AA.Ez] at hI13
   refine W ?_
   intro w1 hS
   have hS:=(hS.perm (AK.perm (.c .h (.c .h .n)))).AM
   refine⟨_,⟨?gq2,J,?g9l2,?g9B2⟩,hS⟩
   case g9B2=>rw [hI13];rfl
   case g9l2=>rw [hI13];exact hI16
  rw [y14] at c3
  refine W ?_
  refine Af (.t4 46 0 44 45) ?_
  refine AY (.t (.t (.t .h))) ?_
  refine AY (.t .h) ?_
  refine Bo (fun(k:Int) (X:AA) (h:Hd)=>0≤k∧k≤((AA.AS (T.box o.second).1.w ((T.box o.second).1.w.has 2 (T.box o.second).2.1) o.nth o.name o.An).length:Int)∧T.get o=X.CL ((AA.AS (T.box o.second).1.w ((T.box o.second).1.w.has 2 (T.box o.second).2.1) o.nth o.name o.An).drop k.toNat)∧X.b=T.b∧(X.out.length:Int)≤T.out.length+2+k∧h.len=X.out.length∧((AA.AS (T.box o.second).1.w ((T.box o.second).1.w.has 2 (T.box o.second).2.1) o.nth o.name o.An).length:Int)≤9) (fun(k:Int) (X:AA) (h:Hd)=>(((AA.AS (T.box o.second).1.w ((T.box o.second).1.w.has 2 (T.box o.second).2.1) o.nth o.name o.An).length:Int) - k).toNat) (fun(k:Int) (X:AA) (h:Hd)=> [(46, .int .i64 k)]) (fun(k:Int) (X:AA) (h:Hd)=> [AJ.box b 175 (Ab.enc ⟨X.w,X.b,h⟩),AJ.own h 100 16 (X.out.flatMap Ing.Event.enc)]) (0) (_) (_) ?_ J J (fun k X h hI1=>?_)
  · exact⟨by omega,by omega,((AN c1).trans (AB c2)).trans (congrArg (fun q=>AA.CL q _) (AB c3)),(T.KD _).2,by have:=T.EL o.second;(try simp only [AA.BQ]);omega,by assumption,by have:=(AA.C9 (T.box o.second).1.w ((T.box o.second).1.w.has 2 (T.box o.second).2.1) o.nth o.name o.An).length_le;have:=AD.F7 (T.box o.second).1.w 2 (T.box o.second).2.1;omega⟩
  obtain⟨hI11,hI12,hI13,hI14,hI15,hI16,hI17⟩:=hI1
  refine W ?_
  refine⟨fun c5 c5p=>?_,fun c5 c5p=>?_⟩
  ·
   have hx:0≤(AA.AS (T.box o.second).1.w ((T.box o.second).1.w.has 2 (T.box o.second).2.1) o.nth o.name o.An).getD k.toNat 0∧(AA.AS (T.box o.second).1.w ((T.box o.second).1.w.has 2 (T.box o.second).2.1) o.nth o.name o.An).getD k.toNat 0 < 9:=(fun i hi=>AD.E4 (AA.CO hi)) _ (Aa.CT (xs:=(AA.AS (T.box o.second).1.w ((T.box o.second).1.w.has 2 (T.box o.second).2.1) o.nth o.name o.An)) (i:=k.toNat) (by omega))
   refine Ws 14 ?_
   refine CY (fun _=> .h) (congrArg (fun q=>Ab.enc ⟨q,_,_⟩) (AA.DM X hx.1 hx.2 1 X.b)) ?_
   refine W ?_
   refine Cl (.c .h (.c .h .n)) (DX _ (X.place ((AA.AS (T.box o.second).1.w ((T.box o.second).1.w.has 2 (T.box o.second).2.1) o.nth o.name o.An).getD k.toNat 0) 1 X.b) _ 3 ((AA.AS (T.box o.second).1.w ((T.box o.second).1.w.has 2 (T.box o.second).2.1) o.nth o.name o.An).getD k.toNat 0) (by assumption) (show 0≤X.b∧X.b < 6 by rw [hI14];exact hb) hx (show X.out.length≤100000 by omega)) (fun v22 B hv=>?_)
   obtain⟨y23,rfl,y24,rfl⟩:=hv
   refine W ?_
   refine Ap (k+1) _ _ ?_ ?_ (.t4 46 0 44 45) (.refl _)
   · exact⟨by omega,by omega,by rw [hI13,AA.DQ hI11 (by omega)],hI14,(by rw [AA.FP];show((X.out.length+1:Nat):Int)≤_;omega),by assumption,hI17⟩
   · omega
  obtain rfl:k=((AA.AS (T.box o.second).1.w ((T.box o.second).1.w.has 2 (T.box o.second).2.1) o.nth o.name o.An).length:Int):=by omega
  rw [AA.Ez] at hI13
  refine W ?_
  intro w1 hS
  have hS:=(hS.perm (AK.perm (.c .h (.c .h .n)))).AM
  refine⟨_,⟨?gq3,J,?g9l3,?g9B3⟩,hS⟩
  case g9B3=>rw [hI13];rfl
  case g9l3=>rw [hI13];exact hI16
 refine W ?_
 refine Cl (.c .h (.c .h .n)) (Ek _ T _ _ T.seen _ _ _ hF (by assumption) (Nat.le_trans T.DC (by decide)) (fun i hi=>AA.Gp hi)) (fun v25 B hv=>?_)
 obtain⟨y26,rfl,y27,rfl⟩:=hv
 refine W ?_
 refine⟨fun c6 c6p=>?_,fun c6 c6p=>?_⟩
 ·
  rw [y27] at c6
  refine W ?_
  refine Cl (.c .h (.c (.t (.t (.t .h))) .n)) (A8 _ T _ _ (by assumption) (by exact hb) (by have:=T.EL o.second;omega)) (fun v29 B hv=>?_)
  obtain⟨y30,rfl,y31,rfl⟩:=hv
  refine W ?_
  refine Af (.t4 46 0 44 45) ?_
  refine AY (.t .h) ?_
  refine AY (.t .h) ?_
  refine Bo (fun(k:Int) (X:AA) (h:Hd)=>0≤k∧k≤((AA.AS T.w T.seen o.nth o.name o.An).length:Int)∧T.get o=X.CL ((AA.AS T.w T.seen o.nth o.name o.An).drop k.toNat)∧X.b=T.b∧(X.out.length:Int)≤T.out.length+2+k∧h.len=X.out.length∧((AA.AS T.w T.seen o.nth o.name o.An).length:Int)≤9) (fun(k:Int) (X:AA) (h:Hd)=>(((AA.AS T.w T.seen o.nth o.name o.An).length:Int) - k).toNat) (fun(k:Int) (X:AA) (h:Hd)=> [(46, .int .i64 k)]) (fun(k:Int) (X:AA) (h:Hd)=> [AJ.box b 175 (Ab.enc ⟨X.w,X.b,h⟩),AJ.own h 100 16 (X.out.flatMap Ing.Event.enc)]) (0) (_) (_) ?_ J J (fun k X h hI1=>?_)
  · exact⟨by omega,by omega,(AB c1).trans (congrArg (fun q=>AA.CL q _) (AN c6)),rfl,by have:=T.EL o.second;(try simp only [AA.BQ]);omega,by assumption,by have:=(AA.C9 T.w T.seen o.nth o.name o.An).length_le;have:=T.DC;omega⟩
  obtain⟨hI11,hI12,hI13,hI14,hI15,hI16,hI17⟩:=hI1
  refine W ?_
  refine⟨fun c7 c7p=>?_,fun c7 c7p=>?_⟩
  ·
   have hx:0≤(AA.AS T.w T.seen o.nth o.name o.An).getD k.toNat 0∧(AA.AS T.w T.seen o.nth o.name o.An).getD k.toNat 0 < 9:=(fun i hi=>AA.Gp (AA.CO hi)) _ (Aa.CT (xs:=(AA.AS T.w T.seen o.nth o.name o.An)) (i:=k.toNat) (by omega))
   refine Ws 14 ?_
   refine CY (fun _=> .h) (congrArg (fun q=>Ab.enc ⟨q,_,_⟩) (AA.DM X hx.1 hx.2 1 X.b)) ?_
   refine W ?_
   refine Cl (.c .h (.c .h .n)) (DX _ (X.place ((AA.AS T.w T.seen o.nth o.name o.An).getD k.toNat 0) 1 X.b) _ 3 ((AA.AS T.w T.seen o.nth o.name o.An).getD k.toNat 0) (by assumption) (show 0≤X.b∧X.b < 6 by rw [hI14];exact hb) hx (show X.out.length≤100000 by omega)) (fun v32 B hv=>?_)
   obtain⟨y33,rfl,y34,rfl⟩:=hv
   refine W ?_
   refine Ap (k+1) _ _ ?_ ?_ (.t4 46 0 44 45) (.refl _)
   · exact⟨by omega,by omega,by rw [hI13,AA.DQ hI11 (by omega)],hI14,(by rw [AA.FP];show((X.out.length+1:Nat):Int)≤_;omega),by assumption,hI17⟩
   · omega
  obtain rfl:k=((AA.AS T.w T.seen o.nth o.name o.An).length:Int):=by omega
  rw [AA.Ez] at hI13
  refine W ?_
  intro w1 hS
  have hS:=(hS.perm (AK.perm (.c .h (.c .h .n)))).AM
  refine⟨_,⟨?gq4,J,?g9l4,?g9B4⟩,hS⟩
  case g9B4=>rw [hI13];rfl
  case g9l4=>rw [hI13];exact hI16
 rw [y27] at c6
 refine W ?_
 refine Af (.t4 46 0 44 45) ?_
 refine AY (.t (.t (.t (.t .h)))) ?_
 refine AY (.t .h) ?_
 refine Bo (fun(k:Int) (X:AA) (h:Hd)=>0≤k∧k≤((AA.AS T.w T.seen o.nth o.name o.An).length:Int)∧T.get o=X.CL ((AA.AS T.w T.seen o.nth o.name o.An).drop k.toNat)∧X.b=T.b∧(X.out.length:Int)≤T.out.length+2+k∧h.len=X.out.length∧((AA.AS T.w T.seen o.nth o.name o.An).length:Int)≤9) (fun(k:Int) (X:AA) (h:Hd)=>(((AA.AS T.w T.seen o.nth o.name o.An).length:Int) - k).toNat) (fun(k:Int) (X:AA) (h:Hd)=> [(46, .int .i64 k)]) (fun(k:Int) (X:AA) (h:Hd)=> [AJ.box b 175 (Ab.enc ⟨X.w,X.b,h⟩),AJ.own h 100 16 (X.out.flatMap Ing.Event.enc)]) (0) (_) (_) ?_ J J (fun k X h hI1=>?_)
 · exact⟨by omega,by omega,(AB c1).trans (congrArg (fun q=>AA.CL q _) (AB c6)),rfl,by have:=T.EL o.second;(try simp only [AA.BQ]);omega,by assumption,by have:=(AA.C9 T.w T.seen o.nth o.name o.An).length_le;have:=T.DC;omega⟩
 obtain⟨hI11,hI12,hI13,hI14,hI15,hI16,hI17⟩:=hI1
 refine W ?_
 refine⟨fun c8 c8p=>?_,fun c8 c8p=>?_⟩
 ·
  have hx:0≤(AA.AS T.w T.seen o.nth o.name o.An).getD k.toNat 0∧(AA.AS T.w T.seen o.nth o.name o.An).getD k.toNat 0 < 9:=(fun i hi=>AA.Gp (AA.CO hi)) _ (Aa.CT (xs:=(AA.AS T.w T.seen o.nth o.name o.An)) (i:=k.toNat) (by omega))
  refine Ws 14 ?_
  refine CY (fun _=> .h) (congrArg (fun q=>Ab.enc ⟨q,_,_⟩) (AA.DM X hx.1 hx.2 1 X.b)) ?_
  refine W ?_
  refine Cl (.c .h (.c .h .n)) (DX _ (X.place ((AA.AS T.w T.seen o.nth o.name o.An).getD k.toNat 0) 1 X.b) _ 3 ((AA.AS T.w T.seen o.nth o.name o.An).getD k.toNat 0) (by assumption) (show 0≤X.b∧X.b < 6 by rw [hI14];exact hb) hx (show X.out.length≤100000 by omega)) (fun v35 B hv=>?_)
  obtain⟨y36,rfl,y37,rfl⟩:=hv
  refine W ?_
  refine Ap (k+1) _ _ ?_ ?_ (.t4 46 0 44 45) (.refl _)
  · exact⟨by omega,by omega,by rw [hI13,AA.DQ hI11 (by omega)],hI14,(by rw [AA.FP];show((X.out.length+1:Nat):Int)≤_;omega),by assumption,hI17⟩
  · omega
 obtain rfl:k=((AA.AS T.w T.seen o.nth o.name o.An).length:Int):=by omega
 rw [AA.Ez] at hI13
 refine W ?_
 intro w1 hS
 have hS:=(hS.perm (AK.perm (.c .h (.c .h .n)))).AM
 refine⟨_,⟨?gq5,J,?g9l5,?g9B5⟩,hS⟩
 case g9B5=>rw [hI13];rfl
 case g9l5=>rw [hI13];exact hI16
theorem Iy (X:AD)(i box:Int)(w:World):Ch Tryz.prog 169 #[.agg X.enc.toArray, .int .i64 i, .int .i64 box] w fun v w'=>v = .bool (X.Pb i box)∧BF w w':=by
 refine Rb Tryz.func169 ?_
 refine W ?_
 intro b1
 refine Af (.t4 1 7 2 3) ?_
 refine CZ (fun(k:Int) (j:Int)=>0≤k∧k≤10∧X.Pb i box=X.inside box (10 - k).toNat j) (fun(k:Int) (j:Int)=>(10 - k).toNat) (fun(k:Int) (j:Int)=> [(1, .int .i64 j),(7, .int .i64 k)]) (fun(k:Int) (j:Int)=> []) (0) (i) ?_ J J (fun k j hI1=>?_)
 · exact⟨Int.le_refl _,by omega,rfl⟩
 obtain⟨hI11,hI12,hI13⟩:=hI1
 refine W ?_
 refine⟨fun c1 c1p=>?_,fun c1 c1p=>?_⟩
 ·
  rw [show(10 - k).toNat=(10 - (k+1)).toNat+1 from by omega,AD.inside] at hI13
  refine W ?_
  refine⟨fun c2 c2p=>?_,fun c2 c2p=>?_⟩
  ·
   refine W ?_
   refine congrArg Value.bool ?_;rw [hI13];simp only [c1,c2,↓reduceIte,Bool.false_eq_true]
  refine W ?_
  refine⟨fun c3 c3p=>?_,fun c3 c3p=>?_⟩
  ·
   refine W ?_
   refine congrArg Value.bool ?_;rw [hI13];simp only [c1,c2,c3,↓reduceIte,Bool.false_eq_true]
  have h9:0≤j∧j < 9:=by simp at c3;omega
  refine W ?_
  refine BC (k+1) ((X.AH.at j).at_) ?_ ?_ (.t4 1 7 2 3) (.refl _)
  · exact⟨by omega,by omega,by rw [hI13];simp only [c1,c2,c3,↓reduceIte,Bool.false_eq_true]⟩
  · omega
 obtain rfl:k=10:=by omega
 refine W ?_
 refine congrArg Value.bool ?_;rw [hI13];rfl
instance instP169:DI Tryz.prog 169 (type_of% @Iy):=⟨@Iy⟩
theorem Uc (b:Nat)(T:AA)(g:Hd)(o:Order)(hg:g.len=T.out.length)(hF:T.Fit)(hv:o.verb=8∨o.verb=9∨o.verb=10)(hu:o.second.length≤140737488351232)(hn:T.out.length≤90000):Cz Tryz.prog 129 #[.pointer (some ⟨b,0,none⟩), .agg o.enc.toArray] [AJ.box b 175 (Ab.enc ⟨T.w,T.b,g⟩),AJ.own g 100 16 (T.out.flatMap Ing.Event.enc)] (fun w=>(Eo 8 w∧8 ∉ BV [AJ.box b 175 (Ab.enc ⟨T.w,T.b,g⟩),AJ.own g 100 16 (T.out.flatMap Ing.Event.enc)])∧(Eo 9 w∧9 ∉ BV [AJ.box b 175 (Ab.enc ⟨T.w,T.b,g⟩),AJ.own g 100 16 (T.out.flatMap Ing.Event.enc)])) (fun v B=>∃ g':Hd,v = .tuple #[]∧g'.len=(T.EM o).out.length∧B = [AJ.box b 175 (Ab.enc ⟨(T.EM o).w,(T.EM o).b,g'⟩),AJ.own g' 100 16 ((T.EM o).out.flatMap Ing.Event.enc)]):=by
 intro w hS0 hH
 obtain⟨⟨gl0,gm0⟩,⟨gl1,gm1⟩⟩:=hH
 have hb:=hF.b
 have hr:=hF.room
 refine AR _ _ Tryz.func129 J J J (hS0) ?_
 refine Ws 100021 ?_
 intro b1
 refine AY (.t (.t .h)) ?_
 refine AY (.t (.t .h)) ?_
 refine bo (Lm:= [_,_]) (fun(X:AA) (to:Int) (p:Bool) (j:Hd)=>X=(T.B3 o).1∧to=(T.B3 o).2.1∧p=(T.B3 o).2.2∧j.len=X.out.length) (fun(X:AA) (to:Int) (p:Bool) (j:Hd)=> [(4, .int .i64 to),(5, .bool p)]) (fun(X:AA) (to:Int) (p:Bool) (j:Hd)=> [AJ.box b 175 (Ab.enc ⟨X.w,X.b,j⟩),AJ.own j 100 16 (X.out.flatMap Ing.Event.enc)]) (.t2 0 3) J ?_ (fun X to p j hC=>?_)
 ·
  refine W ?_
  refine⟨fun c1 c1p=>?_,fun c1 c1p=>?_⟩
  ·
   refine W ?_
   refine Cm (.c .h (.c .h .n)) (Nr _ T _ _ hg hF hu (by omega)) (fun v1 B hv=>?_)
   obtain⟨y2,rfl,y3,rfl⟩:=hv
   refine W ?_
   refine Ro _ _ _ _ ?_ (.t4 4 5 0 3) (.refl _)
   · have ht:T.B3 o=_:=AN c1
     exact⟨by rw [ht],by rw [ht],by rw [ht],by assumption⟩
  refine W ?_
  refine⟨fun c2 c2p=>?_,fun c2 c2p=>?_⟩
  ·
   refine W ?_
   refine Cm (.c .h (.c .h .n)) (I7 _ T _ _ hg hF hu (by omega)) (fun v4 B hv=>?_)
   obtain⟨y5,rfl,y6,rfl⟩:=hv
   refine W ?_
   refine Ro _ _ _ _ ?_ (.t4 4 5 0 3) (.refl _)
   · have ht:T.B3 o=_:=(AB c1).trans (AN c2)
     exact⟨by rw [ht],by rw [ht],by rw [ht],by assumption⟩
  refine W ?_
  refine Ro _ _ _ _ ?_ (.t4 4 5 0 3) (.refl _)
  · have ht:T.B3 o=_:=(AB c1).trans (AB c2)
    exact⟨by rw [ht],by rw [ht],by rw [ht],by assumption⟩
 obtain⟨hD1,hD2,hD3,hD4⟩:=hC
 have hXw:=T.Se o
 have hXo:X.out.length≤T.out.length+1:=by rw [hD1];exact T.NJ o
 rw [← hD1] at hXw
 have hXF:X.Fit:=hF.Fc hXw.1 hXw.2
 have hPl:((AA.AS X.w X.own o.nth o.name o.An)).length≤9:=AA.KO.2.2
 refine W ?_
 refine⟨fun c3 c3p=>?_,fun c3 c3p=>?_⟩
 ·
  refine W ?_
  intro w1 hS
  have hS:=(hS.perm (AK.perm (.c .h (.c .h .n)))).AM
  have hq:T.EM o=X:=AA.Xu hD1 hD3 c3
  refine⟨_,⟨?gq1,J,?g9l1,?g9B1⟩,hS⟩
  case g9B1=>rw [hq];(try rfl)
  case g9l1=>rw [hq];exact hD4
 obtain⟨hgo,hn0,hn9,hok⟩:=AA.Vv hD1 hD2 hD3 c3
 refine W ?_
 refine Cl (.c .h .n) (II _ X _ hXF) (fun v7 B hv=>?_)
 obtain⟨y8,rfl,y9,rfl⟩:=hv
 refine W ?_
 refine Cl (.c .h (.c .h .n)) (Ek _ X _ _ X.own _ _ _ hXF (by assumption) (Nat.le_trans X.Fe (by decide)) (fun i hi=>AA.GP hi)) (fun v11 B hv=>?_)
 obtain⟨y12,rfl,y13,rfl⟩:=hv
 refine Ws 100091 ?_
 refine AY (.t (.t (.t .h))) ?_
 refine AY (.t .h) ?_
 refine Kk (Lm:= [_,_]) (fun(Z:AA) (m:Hd)=>Z=X.Pn o∧m.len=Z.out.length) (fun(Z:AA) (m:Hd)=> []) (fun(Z:AA) (m:Hd)=> [AJ.box b 175 (Ab.enc ⟨Z.w,Z.b,m⟩),AJ.own m 100 16 (Z.out.flatMap Ing.Event.enc)]) (.t4 0 3 4 6) J ?_ (fun Z m hC=>?_)
 ·
  refine W ?_
  refine⟨fun c4 c4p=>?_,fun c4 c4p=>?_⟩
  ·
   rw [y13] at c4
   refine W ?_
   refine Cl (.c .h (.c .h .n)) (A8 _ X _ _ (by assumption) (by rw [hXw.2];exact hb) (by omega)) (fun v15 B hv=>?_)
   obtain⟨y16,rfl,y17,rfl⟩:=hv
   refine W ?_
   refine Bx _ _ ?_ (.t4 0 3 4 6) (.refl _)
   · exact⟨(AA.Z7 (T:=X) (o:=o) c4).symm,by assumption⟩
  rw [y13] at c4
  refine W ?_
  refine Bx _ _ ?_ (.t4 0 3 4 6) (.refl _)
  · exact⟨(AA.Z6 (T:=X) (o:=o) c4).symm,by exact hD4⟩
 obtain⟨hE1,hE2⟩:=hC
 refine W ?_
 refine Af (.t6 49 0 3 4 47 48) ?_
 refine AY (.t .h) ?_
 refine AY (.t .h) ?_
 refine Bo (fun(k:Int) (V:AA) (f:Hd)=>0≤k∧V=X.Ph to o k.toNat∧k≤((AA.AS X.w X.own o.nth o.name o.An).length:Int)∧f.len=V.out.length) (fun(k:Int) (V:AA) (f:Hd)=>(((AA.AS X.w X.own o.nth o.name o.An).length:Int) - k).toNat) (fun(k:Int) (V:AA) (f:Hd)=> [(49, .int .i64 k)]) (fun(k:Int) (V:AA) (f:Hd)=> [AJ.box b 175 (Ab.enc ⟨V.w,V.b,f⟩),AJ.own f 100 16 (V.out.flatMap Ing.Event.enc)]) (0) (_) (_) ?_ J J (fun k V f hI1=>?_)
 · exact⟨by omega,hE1,by omega,hE2⟩
 obtain⟨hI11,hI12,hI13,hI14⟩:=hI1
 refine W ?_
 refine⟨fun c5 c5p=>?_,fun c5 c5p=>?_⟩
 ·
  have hx:0≤((AA.AS X.w X.own o.nth o.name o.An).getD k.toNat 0)∧((AA.AS X.w X.own o.nth o.name o.An).getD k.toNat 0) < 9:=AA.GP (AA.CO (Aa.CT (xs:=(AA.AS X.w X.own o.nth o.name o.An)) (i:=k.toNat) (by omega)))
  have hVK:=AA.UF X to o k.toNat
  rw [← hI12] at hVK
  have hVb:=hVK.2
  have hVo:=hVK.1
  have hbV:0≤V.b∧V.b < 6:=by rw [hVb,hXw.2];exact hb
  refine W ?_
  refine⟨fun c6 c6p=>?_,fun c6 c6p=>?_⟩
  ·
   refine W ?_
   refine Cl (.c .h (.c .h .n)) (A8 _ V _ _ (by assumption) hbV (by omega)) (fun v18 B hv=>?_)
   obtain⟨y19,rfl,y20,rfl⟩:=hv
   refine W ?_
   refine Ap (k+1) _ _ ?_ ?_ (.t6 49 0 3 4 47 48) (.refl _)
   · have hq:V.Bf o.verb to ((AA.AS X.w X.own o.nth o.name o.An).getD k.toNat 0)=_:=(AN c6)
     (try rw [AA.DA hx.1 hx.2] at *)
     (try rw [AA.Ck hx.1 hx.2 hn0] at *)
     exact⟨by omega,(by(try rw [AA.DA hx.1 hx.2]);(try rw [AA.Ck hx.1 hx.2 hn0]);exact hq.symm.trans ((congrArg (fun q=>AA.Bf q o.verb to ((AA.AS X.w X.own o.nth o.name o.An).getD k.toNat 0)) hI12).trans (AA.D9 hI11 (by show k < (((AA.AS X.w X.own o.nth o.name o.An)).length:Int);omega)).symm)),by omega,by assumption⟩
   · omega
  refine W ?_
  refine⟨fun c7 c7p=>?_,fun c7 c7p=>?_⟩
  ·
   refine Ws 21 ?_
   refine CY (fun _=> .h) (congrArg (fun q=>Ab.enc ⟨q,_,_⟩) (AA.DM V hx.1 hx.2 0 (V.w.AF.at V.b).room)) ?_
   refine W ?_
   refine Cl (.c .h (.c .h .n)) (DX _ (V.place ((AA.AS X.w X.own o.nth o.name o.An).getD k.toNat 0) 0 (V.w.AF.at V.b).room) _ 4 ((AA.AS X.w X.own o.nth o.name o.An).getD k.toNat 0) (by assumption) hbV hx (show V.out.length≤100000 by omega)) (fun v21 B hv=>?_)
   obtain⟨y22,rfl,y23,rfl⟩:=hv
   refine W ?_
   refine Ap (k+1) _ _ ?_ ?_ (.t6 49 0 3 4 47 48) (.refl _)
   · have hq:V.Bf o.verb to ((AA.AS X.w X.own o.nth o.name o.An).getD k.toNat 0)=_:=((AB c6).trans (AN c7))
     (try rw [AA.DA hx.1 hx.2] at *)
     (try rw [AA.Ck hx.1 hx.2 hn0] at *)
     exact⟨by omega,(by(try rw [AA.DA hx.1 hx.2]);(try rw [AA.Ck hx.1 hx.2 hn0]);exact hq.symm.trans ((congrArg (fun q=>AA.Bf q o.verb to ((AA.AS X.w X.own o.nth o.name o.An).getD k.toNat 0)) hI12).trans (AA.D9 hI11 (by show k < (((AA.AS X.w X.own o.nth o.name o.An)).length:Int);omega)).symm)),by omega,by assumption⟩
   · omega
  refine W ?_
  refine⟨fun c8 c8p=>?_,fun c8 c8p=>?_⟩
  ·
   refine Ws 24 ?_
   refine CY (fun _=> .h) (congrArg (fun q=>Ab.enc ⟨q,_,_⟩) (AA.DM V hx.1 hx.2 1 to)) ?_
   refine W ?_
   refine Cl (.c .h (.c .h .n)) (Bt _ (V.place ((AA.AS X.w X.own o.nth o.name o.An).getD k.toNat 0) 1 to) _ { AA.Dn 6 with other:=to,AQ:=((V.place ((AA.AS X.w X.own o.nth o.name o.An).getD k.toNat 0) 1 to).w.AH.at ((AA.AS X.w X.own o.nth o.name o.An).getD k.toNat 0)).name } (by assumption) hbV (show to < 6 from(hok hv).kc (by omega)) (show V.out.length≤100000 by omega)) (fun v24 B hv=>?_)
   obtain⟨y25,rfl,y26,rfl⟩:=hv
   refine W ?_
   refine Ap (k+1) _ _ ?_ ?_ (.t6 49 0 3 4 47 48) (.refl _)
   · have hq:V.Bf o.verb to ((AA.AS X.w X.own o.nth o.name o.An).getD k.toNat 0)=_:=((AB c6).trans ((AB c7).trans (AN c8)))
     (try rw [AA.DA hx.1 hx.2] at *)
     (try rw [AA.Ck hx.1 hx.2 hn0] at *)
     exact⟨by omega,(by(try rw [AA.DA hx.1 hx.2]);(try rw [AA.Ck hx.1 hx.2 hn0]);exact hq.symm.trans ((congrArg (fun q=>AA.Bf q o.verb to ((AA.AS X.w X.own o.nth o.name o.An).getD k.toNat 0)) hI12).trans (AA.D9 hI11 (by show k < (((AA.AS X.w X.own o.nth o.name o.An)).length:Int);omega)).symm)),by omega,by assumption⟩
   · omega
  refine W ?_
  refine⟨fun c9 c9p=>?_,fun c9 c9p=>?_⟩
  ·
   refine W ?_
   refine Cl (.c .h (.c .h .n)) (A8 _ V _ _ (by assumption) hbV (by omega)) (fun v27 B hv=>?_)
   obtain⟨y28,rfl,y29,rfl⟩:=hv
   refine W ?_
   refine Ap (k+1) _ _ ?_ ?_ (.t6 49 0 3 4 47 48) (.refl _)
   · have hq:V.Bf o.verb to ((AA.AS X.w X.own o.nth o.name o.An).getD k.toNat 0)=_:=((AB c6).trans ((AB c7).trans ((AB c8).trans (AN c9))))
     (try rw [AA.DA hx.1 hx.2] at *)
     (try rw [AA.Ck hx.1 hx.2 hn0] at *)
     exact⟨by omega,(by(try rw [AA.DA hx.1 hx.2]);(try rw [AA.Ck hx.1 hx.2 hn0]);exact hq.symm.trans ((congrArg (fun q=>AA.Bf q o.verb to ((AA.AS X.w X.own o.nth o.name o.An).getD k.toNat 0)) hI12).trans (AA.D9 hI11 (by show k < (((AA.AS X.w X.own o.nth o.name o.An)).length:Int);omega)).symm)),by omega,by assumption⟩
   · omega
  refine Ws 16 ?_
  refine CY (fun _=> .h) (congrArg (fun q=>Ab.enc ⟨q,_,_⟩) (AA.DM V hx.1 hx.2 2 to)) ?_
  refine W ?_
  refine Cl (.c .h (.c .h .n)) (Bt _ (V.place ((AA.AS X.w X.own o.nth o.name o.An).getD k.toNat 0) 2 to) _ { AA.Dn 5 with AQ:=((V.place ((AA.AS X.w X.own o.nth o.name o.An).getD k.toNat 0) 2 to).w.AH.at ((AA.AS X.w X.own o.nth o.name o.An).getD k.toNat 0)).name,text:=((V.place ((AA.AS X.w X.own o.nth o.name o.An).getD k.toNat 0) 2 to).w.AH.at to).name } (by assumption) hbV (show(-1:Int) < 6 by decide) (show V.out.length≤100000 by omega)) (fun v30 B hv=>?_)
  obtain⟨y31,rfl,y32,rfl⟩:=hv
  refine W ?_
  refine Ap (k+1) _ _ ?_ ?_ (.t6 49 0 3 4 47 48) (.refl _)
  · have hq:V.Bf o.verb to ((AA.AS X.w X.own o.nth o.name o.An).getD k.toNat 0)=_:=((AB c6).trans ((AB c7).trans ((AB c8).trans (AB c9))))
    (try rw [AA.DA hx.1 hx.2] at *)
    (try rw [AA.Ck hx.1 hx.2 hn0] at *)
    exact⟨by omega,(by(try rw [AA.DA hx.1 hx.2]);(try rw [AA.Ck hx.1 hx.2 hn0]);exact hq.symm.trans ((congrArg (fun q=>AA.Bf q o.verb to ((AA.AS X.w X.own o.nth o.name o.An).getD k.toNat 0)) hI12).trans (AA.D9 hI11 (by show k < (((AA.AS X.w X.own o.nth o.name o.An)).length:Int);omega)).symm)),by omega,by assumption⟩
  · omega
 obtain rfl:k=((AA.AS X.w X.own o.nth o.name o.An).length:Int):=by omega
 refine W ?_
 intro w1 hS
 have hS:=(hS.perm (AK.perm (.c .h (.c .h .n)))).AM
 have hq:T.EM o=V:=hgo.trans (hI12.trans AA.UE).symm
 refine⟨_,⟨?gq2,J,?g9l2,?g9B2⟩,hS⟩
 case g9B2=>rw [hq];(try rfl)
 case g9l2=>rw [hq];exact hI14
theorem Gw (s:AL)(w:World)(gl0:GV 1 AD.Be w):Ch Tryz.prog 170 #[Ag s] w fun v w'=>v = .tuple #[.int .i64 (Words.dir s).1, .bool (Words.dir s).2]∧BF w w':=by
 refine Rb Tryz.func170 ?_
 refine W ?_
 refine Af (.t2 5 0) ?_
 refine A7 (fun(k:Int)=>0≤k∧k≤6∧Words.M8 s 6=Words.M8 s (6 - k).toNat) (fun(k:Int)=>(6 - k).toNat) (fun(k:Int)=> [(5, .int .i64 k)]) (fun(k:Int)=> []) (0) ?_ J J (fun k hI1=>?_)
 · exact⟨by omega,by omega,rfl⟩
 obtain⟨hI11,hI12,hI13⟩:=hI1
 refine W ?_
 refine⟨fun c1 c1p=>?_,fun c1 c1p=>?_⟩
 ·
  rw [Words.Q0 hI11 (by omega)] at hI13
  refine W ?_
  refine Gt (Ko gl0 J LG (AD.Gu (by omega) (by omega))) ?_
  refine W ?_
  refine⟨fun c2 c2p=>?_,fun c2 c2p=>?_⟩
  ·
   refine W ?_
   rw [Words.dir,hI13,AN c2];rfl
  refine W ?_
  refine Aw (k+1) ?_ ?_ (.t2 5 0) (.refl _)
  · exact⟨by omega,by omega,by rw [hI13,AB c2]⟩
  · omega
 obtain rfl:k=6:=by omega
 refine W ?_
 rw [Words.dir,hI13];rfl
instance instP170:DI Tryz.prog 170 (type_of% @Gw):=⟨@Gw⟩
theorem Sr (b:Nat)(T:AA)(g:Hd)(d:Int)(p:Bool)(k:Int)(hg:g.len=T.out.length)(hF:T.Fit)(hd:0≤d∧d < 6)(hn:T.out.length≤90000):Fu Tryz.prog 171 #[.pointer (some ⟨b,0,none⟩), .int .i64 d, .bool p, .int .i64 k] [AJ.box b 175 (Ab.enc ⟨T.w,T.b,g⟩),AJ.own g 100 16 (T.out.flatMap Ing.Event.enc)] (fun v B=>∃ g':Hd,v = .tuple #[]∧g'.len=(T.Hr d p k).out.length∧B = [AJ.box b 175 (Ab.enc ⟨(T.Hr d p k).w,(T.Hr d p k).b,g'⟩),AJ.own g' 100 16 ((T.Hr d p k).out.flatMap Ing.Event.enc)]):=by
 intro w hS0
 have hb:=hF.b
 have hr:=hF.room
 have hx:=hF.exit hd.1 hd.2
 have hop:=AD.Sm d
 refine AR _ _ Tryz.func171 J J J (hS0) ?_
 refine W ?_
 refine⟨fun c1 c1p=>?_,fun c1 c1p=>?_⟩
 ·
  try dsimp only at c1p
  refine W ?_
  refine Cl (.c .h (.c .h .n)) (A8 _ _ _ _ hg hb (by omega)) (fun v1 B hv=>?_)
  obtain⟨y2,rfl,y3,rfl⟩:=hv
  refine W ?_
  intro w1 hS
  have hS:=(hS.perm (AK.perm (.c .h (.c .h .n)))).AM
  have hq:T.Hr d p k=_:=(AN c1)
  refine⟨_,⟨?gq1,J,?g9l1,?g9B1⟩,hS⟩
  case g9B1=>rw [hq];(try rfl)
  case g9l1=>rw [hq];assumption
 try dsimp only at c1p
 refine W ?_
 refine⟨fun c2 c2p=>?_,fun c2 c2p=>?_⟩
 ·
  try dsimp only at c2p
  refine W ?_
  refine Cl (.c .h (.c .h .n)) (A8 _ _ _ _ hg hb (by omega)) (fun v4 B hv=>?_)
  obtain⟨y5,rfl,y6,rfl⟩:=hv
  refine W ?_
  intro w1 hS
  have hS:=(hS.perm (AK.perm (.c .h (.c .h .n)))).AM
  have hq:T.Hr d p k=_:=((AB c1).trans (AN c2))
  refine⟨_,⟨?gq2,J,?g9l2,?g9B2⟩,hS⟩
  case g9B2=>rw [hq];(try rfl)
  case g9l2=>rw [hq];assumption
 try dsimp only at c2p
 refine W ?_
 refine⟨fun c3 c3p=>?_,fun c3 c3p=>?_⟩
 ·
  try dsimp only at c3p
  refine W ?_
  refine Cl (.c .h (.c .h .n)) (Bt _ (AA.B0 (T.B0 T.me.room d (!p)) ((T.w.Ad.at (T.w.AF.at T.b).room).BH.at d - 1) (AD.opposite d) (!p)) _ { AA.Dn k with AQ:=AA.Jp } hg hb (show(-1:Int) < 6 by decide) (show T.out.length≤100000 by omega)) (fun v7 B hv=>?_)
  obtain⟨y8,rfl,y9,rfl⟩:=hv
  refine W ?_
  intro w1 hS
  have hS:=(hS.perm (AK.perm (.c .h (.c .h .n)))).AM
  have hq:T.Hr d p k=_:=(show T.Hr d p k=_ from(AB c1).trans (AB c2)).trans (congrArg (fun q=>AA.Am q { AA.Dn k with AQ:=AA.Jp }) (AN c3))
  refine⟨_,⟨?gq3,J,?g9l3,?g9B3⟩,hS⟩
  case g9B3=>rw [hq];(try rfl)
  case g9l3=>rw [hq];assumption
 try dsimp only at c3p
 refine W ?_
 refine Cl (.c .h (.c .h .n)) (Bt _ (T.B0 T.me.room d (!p)) _ { AA.Dn k with AQ:=AA.Jp } hg hb (show(-1:Int) < 6 by decide) (show T.out.length≤100000 by omega)) (fun v10 B hv=>?_)
 obtain⟨y11,rfl,y12,rfl⟩:=hv
 refine W ?_
 intro w1 hS
 have hS:=(hS.perm (AK.perm (.c .h (.c .h .n)))).AM
 have hq:T.Hr d p k=_:=(show T.Hr d p k=_ from(AB c1).trans (AB c2)).trans (congrArg (fun q=>AA.Am q { AA.Dn k with AQ:=AA.Jp }) (AB c3))
 refine⟨_,⟨?gq4,J,?g9l4,?g9B4⟩,hS⟩
 case g9B4=>rw [hq];(try rfl)
 case g9l4=>rw [hq];assumption
theorem Fi (b:Nat)(T:AA)(g:Hd)(a:Bool)(i:Int)(p:Bool)(k:Int)(hg:g.len=T.out.length)(hb:0≤T.b∧T.b < 6)(hi:0≤i∧i < 9)(hn:T.out.length≤90000):Fu Tryz.prog 172 #[.pointer (some ⟨b,0,none⟩), .bool a, .int .i64 i, .bool p, .int .i64 k] [AJ.box b 175 (Ab.enc ⟨T.w,T.b,g⟩),AJ.own g 100 16 (T.out.flatMap Ing.Event.enc)] (fun v B=>∃ g':Hd,v = .tuple #[]∧g'.len=(T.before a i p k).out.length∧B = [AJ.box b 175 (Ab.enc ⟨(T.before a i p k).w,(T.before a i p k).b,g'⟩),AJ.own g' 100 16 ((T.before a i p k).out.flatMap Ing.Event.enc)]):=by
 intro w hS0
 refine AR _ _ Tryz.func172 J J J (hS0) ?_
 refine W ?_
 refine⟨fun c1 c1p=>?_,fun c1 c1p=>?_⟩
 ·
  refine W ?_
  refine Cl (.c .h (.c .h .n)) (DX _ (T.Co i { T.w.AH.at i with on:=p }) _ k i hg hb hi (show T.out.length≤100000 by omega)) (fun v1 B hv=>?_)
  obtain⟨y2,rfl,y3,rfl⟩:=hv
  refine W ?_
  intro w1 hS
  have hS:=(hS.perm (AK.perm (.c .h (.c .h .n)))).AM
  have hq:T.before a i p k=_:=(AN c1)
  refine⟨_,⟨?gq1,J,?g9l1,?g9B1⟩,hS⟩
  case g9B1=>rw [hq];(try rfl)
  case g9l1=>rw [hq];assumption
 refine W ?_
 refine Cl (.c .h (.c .h .n)) (DX _ T _ k i hg hb hi (show T.out.length≤100000 by omega)) (fun v4 B hv=>?_)
 obtain⟨y5,rfl,y6,rfl⟩:=hv
 refine W ?_
 intro w1 hS
 have hS:=(hS.perm (AK.perm (.c .h (.c .h .n)))).AM
 have hq:T.before a i p k=_:=(AB c1)
 refine⟨_,⟨?gq2,J,?g9l2,?g9B2⟩,hS⟩
 case g9B2=>rw [hq];(try rfl)
 case g9l2=>rw [hq];assumption
theorem Ue (b:Nat)(T:AA)(g:Hd)(o:Order)(hg:g.len=T.out.length)(hF:T.Fit)(hv:12≤o.verb∧o.verb≤17)(hn:T.out.length≤80000):Cz Tryz.prog 130 #[.pointer (some ⟨b,0,none⟩), .agg o.enc.toArray] [AJ.box b 175 (Ab.enc ⟨T.w,T.b,g⟩),AJ.own g 100 16 (T.out.flatMap Ing.Event.enc)] (fun w=>(GV 1 AD.Be w∧1 ∉ BV [AJ.box b 175 (Ab.enc ⟨T.w,T.b,g⟩),AJ.own g 100 16 (T.out.flatMap Ing.Event.enc)])) (fun v B=>∃ g':Hd,v = .tuple #[]∧g'.len=(T.set o).out.length∧B = [AJ.box b 175 (Ab.enc ⟨(T.set o).w,(T.set o).b,g'⟩),AJ.own g' 100 16 ((T.set o).out.flatMap Ing.Event.enc)]):=by
 intro w hS0 hH
 obtain⟨gl0,gm0⟩:=hH
 have hb:=hF.b
 have hr:=hF.room
 have ho9:=T.Fe
 have hs9:=T.DC
 refine AR _ _ Tryz.func130 J J J (hS0) ?_
 refine Ws 100031 ?_
 intro b1
 refine Kk (Lm:= []) (fun(kd:Int) (ev:Int)=>kd=AA.setKind o.verb∧ev=AA.RV o.verb) (fun(kd:Int) (ev:Int)=> [(5, .int .i64 kd),(6, .int .i64 ev)]) (fun(kd:Int) (ev:Int)=> []) (.t3 0 3 4) J ?_ (fun kd ev hC=>?_)
 ·
  refine W ?_
  refine⟨fun c1 c1p=>?_,fun c1 c1p=>?_⟩
  ·
   refine W ?_
   refine Bx _ _ ?_ (.t5 5 6 0 3 4) (.refl _)
   · have hv6:o.verb=12∨o.verb=13∨o.verb=14∨o.verb=15∨o.verb=16∨o.verb=17:=by omega
     rcases hv6 with e | e | e | e | e | e<;>(try rw [e] at c1)<;>first | exact⟨by rw [e];rfl,by rw [e];rfl⟩ | exact absurd c1 (by decide)
  refine W ?_
  refine⟨fun c2 c2p=>?_,fun c2 c2p=>?_⟩
  ·
   refine W ?_
   refine⟨fun c3 c3p=>?_,fun c3 c3p=>?_⟩
   ·
    refine W ?_
    refine Bx _ _ ?_ (.t5 5 6 0 3 4) (.refl _)
    · have hv6:o.verb=12∨o.verb=13∨o.verb=14∨o.verb=15∨o.verb=16∨o.verb=17:=by omega
      rcases hv6 with e | e | e | e | e | e<;>(try rw [e] at c1)<;>(try rw [e] at c2)<;>(try rw [e] at c3)<;>first | exact⟨by rw [e];rfl,by rw [e];rfl⟩ | exact absurd c1 (by decide) | exact absurd c2 (by decide) | exact absurd c3 (by decide)
   refine W ?_
   refine Bx _ _ ?_ (.t5 5 6 0 3 4) (.refl _)
   · have hv6:o.verb=12∨o.verb=13∨o.verb=14∨o.verb=15∨o.verb=16∨o.verb=17:=by omega
     rcases hv6 with e | e | e | e | e | e<;>(try rw [e] at c1)<;>(try rw [e] at c2)<;>(try rw [e] at c3)<;>first | exact⟨by rw [e];rfl,by rw [e];rfl⟩ | exact absurd c1 (by decide) | exact absurd c2 (by decide) | exact absurd c3 (by decide)
  refine W ?_
  refine⟨fun c4 c4p=>?_,fun c4 c4p=>?_⟩
  ·
   refine W ?_
   refine⟨fun c5 c5p=>?_,fun c5 c5p=>?_⟩
   ·
    refine W ?_
    refine Bx _ _ ?_ (.t5 5 6 0 3 4) (.refl _)
    · have hv6:o.verb=12∨o.verb=13∨o.verb=14∨o.verb=15∨o.verb=16∨o.verb=17:=by omega
      rcases hv6 with e | e | e | e | e | e<;>(try rw [e] at c1)<;>(try rw [e] at c2)<;>(try rw [e] at c4)<;>(try rw [e] at c5)<;>first | exact⟨by rw [e];rfl,by rw [e];rfl⟩ | exact absurd c1 (by decide) | exact absurd c2 (by decide) | exact absurd c4 (by decide) | exact absurd c5 (by decide)
   refine W ?_
   refine Bx _ _ ?_ (.t5 5 6 0 3 4) (.refl _)
   · have hv6:o.verb=12∨o.verb=13∨o.verb=14∨o.verb=15∨o.verb=16∨o.verb=17:=by omega
     rcases hv6 with e | e | e | e | e | e<;>(try rw [e] at c1)<;>(try rw [e] at c2)<;>(try rw [e] at c4)<;>(try rw [e] at c5)<;>first | exact⟨by rw [e];rfl,by rw [e];rfl⟩ | exact absurd c1 (by decide) | exact absurd c2 (by decide) | exact absurd c4 (by decide) | exact absurd c5 (by decide)
  refine W ?_
  refine⟨fun c6 c6p=>?_,fun c6 c6p=>?_⟩
  ·
   refine W ?_
   refine⟨fun c7 c7p=>?_,fun c7 c7p=>?_⟩
   ·
    refine W ?_
    refine Bx _ _ ?_ (.t5 5 6 0 3 4) (.refl _)
    · have hv6:o.verb=12∨o.verb=13∨o.verb=14∨o.verb=15∨o.verb=16∨o.verb=17:=by omega
      rcases hv6 with e | e | e | e | e | e<;>(try rw [e] at c1)<;>(try rw [e] at c2)<;>(try rw [e] at c4)<;>(try rw [e] at c6)<;>(try rw [e] at c7)<;>first | exact⟨by rw [e];rfl,by rw [e];rfl⟩ | exact absurd c1 (by decide) | exact absurd c2 (by decide) | exact absurd c4 (by decide) | exact absurd c6 (by decide) | exact absurd c7 (by decide)
   refine W ?_
   refine Bx _ _ ?_ (.t5 5 6 0 3 4) (.refl _)
   · have hv6:o.verb=12∨o.verb=13∨o.verb=14∨o.verb=15∨o.verb=16∨o.verb=17:=by omega
     rcases hv6 with e | e | e | e | e | e<;>(try rw [e] at c1)<;>(try rw [e] at c2)<;>(try rw [e] at c4)<;>(try rw [e] at c6)<;>(try rw [e] at c7)<;>first | exact⟨by rw [e];rfl,by rw [e];rfl⟩ | exact absurd c1 (by decide) | exact absurd c2 (by decide) | exact absurd c4 (by decide) | exact absurd c6 (by decide) | exact absurd c7 (by decide)
  refine W ?_
  refine⟨fun c8 c8p=>?_,fun c8 c8p=>?_⟩
  ·
   refine W ?_
   refine⟨fun c9 c9p=>?_,fun c9 c9p=>?_⟩
   ·
    refine W ?_
    refine Bx _ _ ?_ (.t5 5 6 0 3 4) (.refl _)
    · have hv6:o.verb=12∨o.verb=13∨o.verb=14∨o.verb=15∨o.verb=16∨o.verb=17:=by omega
      rcases hv6 with e | e | e | e | e | e<;>(try rw [e] at c1)<;>(try rw [e] at c2)<;>(try rw [e] at c4)<;>(try rw [e] at c6)<;>(try rw [e] at c8)<;>(try rw [e] at c9)<;>first | exact⟨by rw [e];rfl,by rw [e];rfl⟩ | exact absurd c1 (by decide) | exact absurd c2 (by decide) | exact absurd c4 (by decide) | exact absurd c6 (by decide) | exact absurd c8 (by decide) | exact absurd c9 (by decide)
   refine W ?_
   refine Bx _ _ ?_ (.t5 5 6 0 3 4) (.refl _)
   · have hv6:o.verb=12∨o.verb=13∨o.verb=14∨o.verb=15∨o.verb=16∨o.verb=17:=by omega
     rcases hv6 with e | e | e | e | e | e<;>(try rw [e] at c1)<;>(try rw [e] at c2)<;>(try rw [e] at c4)<;>(try rw [e] at c6)<;>(try rw [e] at c8)<;>(try rw [e] at c9)<;>first | exact⟨by rw [e];rfl,by rw [e];rfl⟩ | exact absurd c1 (by decide) | exact absurd c2 (by decide) | exact absurd c4 (by decide) | exact absurd c6 (by decide) | exact absurd c8 (by decide) | exact absurd c9 (by decide)
  refine W ?_
  refine Bx _ _ ?_ (.t5 5 6 0 3 4) (.refl _)
  · have hv6:o.verb=12∨o.verb=13∨o.verb=14∨o.verb=15∨o.verb=16∨o.verb=17:=by omega
    rcases hv6 with e | e | e | e | e | e<;>(try rw [e] at c1)<;>(try rw [e] at c2)<;>(try rw [e] at c4)<;>(try rw [e] at c6)<;>(try rw [e] at c8)<;>first | exact⟨by rw [e];rfl,by rw [e];rfl⟩ | exact absurd c1 (by decide) | exact absurd c2 (by decide) | exact absurd c4 (by decide) | exact absurd c6 (by decide) | exact absurd c8 (by decide)
 obtain⟨rfl,rfl⟩:=hC
 refine W ?_
 refine⟨fun c10 c10p=>?_,fun c10 c10p=>?_⟩
 ·
  refine W ?_
  refine Cl (.c (.t .h) (.c (.t .h) .n)) (Sr _ T _ _ _ _ hg hF (Words.Wl (Bool.and_eq_true_iff.1 c10).1) (by omega)) (fun v1 B hv=>?_)
  obtain⟨y2,rfl,y3,rfl⟩:=hv
  refine W ?_
  intro w1 hS
  have hS:=(hS.perm (AK.perm (.c .h (.c .h .n)))).AM
  have hq:T.set o=_:=(AN c10)
  refine⟨_,⟨?gq1,J,?g9l1,?g9B1⟩,hS⟩
  case g9B1=>rw [hq];(try rfl)
  case g9l1=>rw [hq];assumption
 refine W ?_
 refine Cl (.c (.t .h) .n) (II _ T _ hF) (fun v4 B hv=>?_)
 obtain⟨y5,rfl,y6,rfl⟩:=hv
 refine W ?_
 refine⟨fun c11 c11p=>?_,fun c11 c11p=>?_⟩
 ·
  refine W ?_
  refine Cl (.c .h .n) (Ji _ T _ hF) (fun v8 B hv=>?_)
  obtain⟨y9,rfl,y10,rfl⟩:=hv
  refine W ?_
  intro h12 h12l h12z
  refine Cl (.c .h (.c (.t .h) .n)) (Ek _ T _ _ (T.own++T.seen) _ _ _ hF (by rw [List.length_append];omega) (by rw [List.length_append];omega) (fun i hi=>AA.JT hi)) (fun v13 B hv=>?_)
  obtain⟨y14,rfl,y15,rfl⟩:=hv
  refine Ws 24 ?_
  have hx0:=AA.KI (l:=(AA.AS T.w (T.own++T.seen) (max o.nth 1) o.name false)) (fun i hi=>AA.JT (AA.CO hi))
  refine W ?_
  refine⟨fun c12 c12p=>?_,fun c12 c12p=>?_⟩
  ·
   rw [y15] at c12 c12p
   have hsl:T.B8 o=(AA.AS T.w (T.own++T.seen) (max o.nth 1) o.name false):=congrArg (fun q=>AA.AS T.w q _ _ _) (AN c11)
   refine W ?_
   refine Cl (.c .h (.c (.t (.t (.t (.t .h)))) .n)) (A8 _ _ _ _ hg hb (by omega)) (fun v17 B hv=>?_)
   obtain⟨y18,rfl,y19,rfl⟩:=hv
   refine W ?_
   intro w1 hS
   have hS:=(hS.perm (AK.perm (.c .h (.c .h .n)))).AM
   have d0:(decide (((T.B8 o).length:Int)=0) || !decide ((T.w.AH.at ((T.B8 o).getD 0 0)).kind=AA.setKind o.verb))=true:=by rw [hsl];exact c12
   have hq:T.set o=_:=(AB c10).trans (AN d0)
   (try rw [hsl] at hq)
   refine⟨_,⟨?gq2,J,?g9l2,?g9B2⟩,hS⟩
   case g9B2=>rw [hq];(try rfl)
   case g9l2=>rw [hq];assumption
  rw [y15] at c12 c12p
  have hsl:T.B8 o=(AA.AS T.w (T.own++T.seen) (max o.nth 1) o.name false):=congrArg (fun q=>AA.AS T.w q _ _ _) (AN c11)
  refine W ?_
  refine⟨fun c13 c13p=>?_,fun c13 c13p=>?_⟩
  ·
   refine W ?_
   refine Cl (.c .h (.c (.t (.t (.t (.t .h)))) .n)) (A8 _ _ _ _ hg hb (by omega)) (fun v20 B hv=>?_)
   obtain⟨y21,rfl,y22,rfl⟩:=hv
   refine W ?_
   intro w1 hS
   have hS:=(hS.perm (AK.perm (.c .h (.c .h .n)))).AM
   have d0:(decide (((T.B8 o).length:Int)=0) || !decide ((T.w.AH.at ((T.B8 o).getD 0 0)).kind=AA.setKind o.verb))=false:=by rw [hsl];exact c12
   have d1:((T.w.AH.at ((T.B8 o).getD 0 0)).on == AA.CC o.verb)=true:=by rw [hsl];exact c13
   have hq:T.set o=_:=(AB c10).trans ((AB d0).trans (AN d1))
   (try rw [hsl] at hq)
   refine⟨_,⟨?gq3,J,?g9l3,?g9B3⟩,hS⟩
   case g9B3=>rw [hq];(try rfl)
   case g9l3=>rw [hq];assumption
  refine W ?_
  refine⟨fun c14 c14p=>?_,fun c14 c14p=>?_⟩
  ·
   refine W ?_
   refine Cl (.c .h (.c (.t (.t (.t (.t .h)))) .n)) (Fi _ T _ (!decide (AA.setKind o.verb=2)) ((AA.AS T.w (T.own++T.seen) (max o.nth 1) o.name false).getD (0:Int).toNat 0) _ _ hg hb hx0 (by omega)) (fun v23 B hv=>?_)
   obtain⟨y24,rfl,y25,rfl⟩:=hv
   refine W ?_
   intro w1 hS
   have hS:=(hS.perm (AK.perm (.c .h (.c .h .n)))).AM
   have d0:(decide (((T.B8 o).length:Int)=0) || !decide ((T.w.AH.at ((T.B8 o).getD 0 0)).kind=AA.setKind o.verb))=false:=by rw [hsl];exact c12
   have d1:((T.w.AH.at ((T.B8 o).getD 0 0)).on == AA.CC o.verb)=false:=by rw [hsl];exact c13
   have d2:AA.CC o.verb=true:=c14
   have hq:T.set o=_:=(AB c10).trans ((AB d0).trans ((AB d1).trans (AN d2)))
   (try rw [hsl] at hq)
   refine⟨_,⟨?gq4,J,?g9l4,?g9B4⟩,hS⟩
   case g9B4=>rw [hq];(try rfl)
   case g9l4=>rw [hq];assumption
  refine W ?_
  refine Cl (.c .h (.c (.t (.t (.t (.t .h)))) .n)) (Fi _ T _ (decide (AA.setKind o.verb=2)) ((AA.AS T.w (T.own++T.seen) (max o.nth 1) o.name false).getD (0:Int).toNat 0) _ _ hg hb hx0 (by omega)) (fun v26 B hv=>?_)
  obtain⟨y27,rfl,y28,rfl⟩:=hv
  refine W ?_
  intro w1 hS
  have hS:=(hS.perm (AK.perm (.c .h (.c .h .n)))).AM
  have d0:(decide (((T.B8 o).length:Int)=0) || !decide ((T.w.AH.at ((T.B8 o).getD 0 0)).kind=AA.setKind o.verb))=false:=by rw [hsl];exact c12
  have d1:((T.w.AH.at ((T.B8 o).getD 0 0)).on == AA.CC o.verb)=false:=by rw [hsl];exact c13
  have d2:AA.CC o.verb=false:=c14
  have hq:T.set o=_:=(AB c10).trans ((AB d0).trans ((AB d1).trans (AB d2)))
  (try rw [hsl] at hq)
  refine⟨_,⟨?gq5,J,?g9l5,?g9B5⟩,hS⟩
  case g9B5=>rw [hq];(try rfl)
  case g9l5=>rw [hq];assumption
 refine W ?_
 refine Cl (.c .h (.c .h .n)) (Ek _ T _ _ T.own _ _ _ hF (by assumption) (by omega) (fun i hi=>AA.GP hi)) (fun v29 B hv=>?_)
 obtain⟨y30,rfl,y31,rfl⟩:=hv
 refine Ws 24 ?_
 have hx0:=AA.KI (l:=(AA.AS T.w T.own (max o.nth 1) o.name false)) (fun i hi=>AA.GP (AA.CO hi))
 refine W ?_
 refine⟨fun c15 c15p=>?_,fun c15 c15p=>?_⟩
 ·
  rw [y31] at c15 c15p
  have hsl:T.B8 o=(AA.AS T.w T.own (max o.nth 1) o.name false):=congrArg (fun q=>AA.AS T.w q _ _ _) (AB c11)
  refine W ?_
  refine Cl (.c .h (.c (.t (.t (.t .h))) .n)) (A8 _ _ _ _ hg hb (by omega)) (fun v33 B hv=>?_)
  obtain⟨y34,rfl,y35,rfl⟩:=hv
  refine W ?_
  intro w1 hS
  have hS:=(hS.perm (AK.perm (.c .h (.c .h .n)))).AM
  have d0:(decide (((T.B8 o).length:Int)=0) || !decide ((T.w.AH.at ((T.B8 o).getD 0 0)).kind=AA.setKind o.verb))=true:=by rw [hsl];exact c15
  have hq:T.set o=_:=(AB c10).trans (AN d0)
  (try rw [hsl] at hq)
  refine⟨_,⟨?gq6,J,?g9l6,?g9B6⟩,hS⟩
  case g9B6=>rw [hq];(try rfl)
  case g9l6=>rw [hq];assumption
 rw [y31] at c15 c15p
 have hsl:T.B8 o=(AA.AS T.w T.own (max o.nth 1) o.name false):=congrArg (fun q=>AA.AS T.w q _ _ _) (AB c11)
 refine W ?_
 refine⟨fun c16 c16p=>?_,fun c16 c16p=>?_⟩
 ·
  refine W ?_
  refine Cl (.c .h (.c (.t (.t (.t .h))) .n)) (A8 _ _ _ _ hg hb (by omega)) (fun v36 B hv=>?_)
  obtain⟨y37,rfl,y38,rfl⟩:=hv
  refine W ?_
  intro w1 hS
  have hS:=(hS.perm (AK.perm (.c .h (.c .h .n)))).AM
  have d0:(decide (((T.B8 o).length:Int)=0) || !decide ((T.w.AH.at ((T.B8 o).getD 0 0)).kind=AA.setKind o.verb))=false:=by rw [hsl];exact c15
  have d1:((T.w.AH.at ((T.B8 o).getD 0 0)).on == AA.CC o.verb)=true:=by rw [hsl];exact c16
  have hq:T.set o=_:=(AB c10).trans ((AB d0).trans (AN d1))
  (try rw [hsl] at hq)
  refine⟨_,⟨?gq7,J,?g9l7,?g9B7⟩,hS⟩
  case g9B7=>rw [hq];(try rfl)
  case g9l7=>rw [hq];assumption
 refine W ?_
 refine⟨fun c17 c17p=>?_,fun c17 c17p=>?_⟩
 ·
  refine W ?_
  refine Cl (.c .h (.c (.t (.t (.t .h))) .n)) (Fi _ T _ (!decide (AA.setKind o.verb=2)) ((AA.AS T.w T.own (max o.nth 1) o.name false).getD (0:Int).toNat 0) _ _ hg hb hx0 (by omega)) (fun v39 B hv=>?_)
  obtain⟨y40,rfl,y41,rfl⟩:=hv
  refine W ?_
  intro w1 hS
  have hS:=(hS.perm (AK.perm (.c .h (.c .h .n)))).AM
  have d0:(decide (((T.B8 o).length:Int)=0) || !decide ((T.w.AH.at ((T.B8 o).getD 0 0)).kind=AA.setKind o.verb))=false:=by rw [hsl];exact c15
  have d1:((T.w.AH.at ((T.B8 o).getD 0 0)).on == AA.CC o.verb)=false:=by rw [hsl];exact c16
  have d2:AA.CC o.verb=true:=c17
  have hq:T.set o=_:=(AB c10).trans ((AB d0).trans ((AB d1).trans (AN d2)))
  (try rw [hsl] at hq)
  refine⟨_,⟨?gq8,J,?g9l8,?g9B8⟩,hS⟩
  case g9B8=>rw [hq];(try rfl)
  case g9l8=>rw [hq];assumption
 refine W ?_
 refine Cl (.c .h (.c (.t (.t (.t .h))) .n)) (Fi _ T _ (decide (AA.setKind o.verb=2)) ((AA.AS T.w T.own (max o.nth 1) o.name false).getD (0:Int).toNat 0) _ _ hg hb hx0 (by omega)) (fun v42 B hv=>?_)
 obtain⟨y43,rfl,y44,rfl⟩:=hv
 refine W ?_
 intro w1 hS
 have hS:=(hS.perm (AK.perm (.c .h (.c .h .n)))).AM
 have d0:(decide (((T.B8 o).length:Int)=0) || !decide ((T.w.AH.at ((T.B8 o).getD 0 0)).kind=AA.setKind o.verb))=false:=by rw [hsl];exact c15
 have d1:((T.w.AH.at ((T.B8 o).getD 0 0)).on == AA.CC o.verb)=false:=by rw [hsl];exact c16
 have d2:AA.CC o.verb=false:=c17
 have hq:T.set o=_:=(AB c10).trans ((AB d0).trans ((AB d1).trans (AB d2)))
 (try rw [hsl] at hq)
 refine⟨_,⟨?gq9,J,?g9l9,?g9B9⟩,hS⟩
 case g9B9=>rw [hq];(try rfl)
 case g9l9=>rw [hq];assumption
theorem GU (X:AD)(b:Int)(o:Order)(hw:X.Cs)(hu:o.second.length≤140737488351232)(hm:o.name.length≤140737488351232):Cz Tryz.prog 82 #[.agg X.enc.toArray, .int .i64 b, .agg o.enc.toArray] [] (fun w=>(GV 1 AD.Be w∧1 ∉ BV [])∧(Eo 8 w∧8 ∉ BV [])∧(Eo 9 w∧9 ∉ BV [])) (fun v B=>∃ h:Hd,v = .tuple #[.agg ((AA.Dk X b o).1.enc).toArray,h.val, .int .i64 (AA.Dk X b o).2.2]∧h.len=(AA.Dk X b o).2.1.length∧B = [AJ.own h 100 16 ((AA.Dk X b o).2.1.flatMap Ing.Event.enc)]):=by
 intro w hS0 hH
 obtain⟨⟨gl0,gm0⟩,⟨gl1,gm1⟩,⟨gl2,gm2⟩⟩:=hH
 refine AR _ _ Tryz.func82 J J J (hS0) ?_
 refine W ?_
 intro b1 b2 b3
 refine⟨fun c1 c1p=>?_,fun c1 c1p=>?_⟩
 ·
  refine W ?_
  intro w1 hS
  have hS:=hS.BT 100 16
  have hS:=(hS.perm (AK.perm (.c .h .n))).AM
  have hq:AA.Dk X b o=_:=(AN c1)
  refine⟨_,⟨⟨none,0,0⟩,?g9v1,?g9l1,?g9B1⟩,hS⟩
  case g9v1=>rw [hq];rfl
  case g9l1=>rw [hq];rfl
  case g9B1=>rw [hq];rfl
 refine W ?_
 refine⟨fun c2 c2p=>?_,fun c2 c2p=>?_⟩
 ·
  refine W ?_
  intro w1 hS
  have hS:=hS.BT 100 16
  have hS:=(hS.perm (AK.perm (.c .h .n))).AM
  have hq:AA.Dk X b o=_:=((AB c1).trans (AN c2))
  refine⟨_,⟨⟨none,0,0⟩,?g9v2,?g9l2,?g9B2⟩,hS⟩
  case g9v2=>rw [hq];rfl
  case g9l2=>rw [hq];rfl
  case g9B2=>rw [hq];rfl
 refine W ?_
 refine⟨fun c3 c3p=>?_,fun c3 c3p=>?_⟩
 ·
  refine W ?_
  intro w1 hS
  have hS:=hS.BT 100 16
  have hS:=(hS.perm (AK.perm (.c .h .n))).AM
  have hq:AA.Dk X b o=_:=((AB c1).trans ((AB c2).trans (AN c3)))
  refine⟨_,⟨⟨none,0,0⟩,?g9v3,?g9l3,?g9B3⟩,hS⟩
  case g9v3=>rw [hq];rfl
  case g9l3=>rw [hq];rfl
  case g9B3=>rw [hq];rfl
 have hF:=AA.RX hw c1 c2
 have hb:=hF.b
 refine W ?_
 intro b4
 refine⟨fun c4 c4p=>?_,fun c4 c4p=>?_⟩
 ·
  refine W ?_
  refine Cn Ing.Event.enc 100 16 ?_
  refine W ?_
  refine Cm (.c (.t .h) (.c .h .n)) (Su _ (⟨X,b,[]⟩:AA) _ o.verb J hF (by omega) (Nat.zero_le _)) (fun v5 B hv=>?_)
  obtain⟨y6,rfl,y7,rfl⟩:=hv
  refine W ?_
  intro w1 hS
  have hS:=(hS.perm (AK.perm (.c (.t .h) .n))).AM
  have ha:AA.act (⟨X,b,[]⟩:AA) o=_:=(AN c4)
  have hq:AA.Dk X b o=((AA.act (⟨X,b,[]⟩:AA) o).w,(AA.act (⟨X,b,[]⟩:AA) o).out,0):=((AB c1).trans ((AB c2).trans (AB c3)))
  rw [ha] at hq
  refine⟨_,⟨?gq4,?g9v4,?g9l4,?g9B4⟩,hS⟩
  case g9B4=>rw [hq];(try rfl)
  case g9v4=>rw [hq];(try rfl)
  case g9l4=>rw [hq];(try dsimp only);exact y7
 refine W ?_
 refine⟨fun c5 c5p=>?_,fun c5 c5p=>?_⟩
 ·
  refine W ?_
  refine Cn Ing.Event.enc 100 16 ?_
  refine W ?_
  refine Cm (.c (.t .h) (.c .h .n)) (HN _ (⟨X,b,[]⟩:AA) _ J hF.b hF.br (Nat.zero_le _)) (fun v9 B hv=>?_)
  obtain⟨y10,rfl,y11,rfl⟩:=hv
  refine W ?_
  intro w1 hS
  have hS:=(hS.perm (AK.perm (.c (.t .h) .n))).AM
  have ha:AA.act (⟨X,b,[]⟩:AA) o=_:=((AB c4).trans (AN c5))
  have hq:AA.Dk X b o=((AA.act (⟨X,b,[]⟩:AA) o).w,(AA.act (⟨X,b,[]⟩:AA) o).out,0):=((AB c1).trans ((AB c2).trans (AB c3)))
  rw [ha] at hq
  refine⟨_,⟨?gq5,?g9v5,?g9l5,?g9B5⟩,hS⟩
  case g9B5=>rw [hq];(try rfl)
  case g9v5=>rw [hq];(try rfl)
  case g9l5=>rw [hq];(try dsimp only);exact y11
 refine W ?_
 refine⟨fun c6 c6p=>?_,fun c6 c6p=>?_⟩
 ·
  refine W ?_
  refine Cl .n (E0 _ _ _) (fun v12 B hv=>?_)
  obtain⟨y13,rfl,y14,rfl⟩:=hv
  refine W ?_
  refine Cn Ing.Event.enc 100 16 ?_
  refine W ?_
  refine Cl (.c (.t (.t .h)) (.c .h (.c .h .n))) (Mj _ (⟨X,b,[]⟩:AA) _ [89,111,117,32,104,97,118,101] _ (X.has 1 b) J hF.b (by assumption) (AD.F7 _ _ _) (fun i hi=>AD.E4 hi) hF.br (by decide) (Nat.zero_le _)) (fun v17 B hv=>?_)
  obtain⟨y18,rfl,y19,rfl⟩:=hv
  refine W ?_
  intro w1 hS
  have hS:=(hS.perm (AK.perm (.c (.t .h) .n))).AM
  have ha:AA.act (⟨X,b,[]⟩:AA) o=_:=((AB c4).trans ((AB c5).trans (AN c6)))
  have hq:AA.Dk X b o=((AA.act (⟨X,b,[]⟩:AA) o).w,(AA.act (⟨X,b,[]⟩:AA) o).out,0):=((AB c1).trans ((AB c2).trans (AB c3)))
  rw [ha] at hq
  refine⟨_,⟨?gq6,?g9v6,?g9l6,?g9B6⟩,hS⟩
  case g9B6=>rw [hq];(try rfl)
  case g9v6=>rw [hq];(try rfl)
  case g9l6=>rw [hq];(try dsimp only);exact y19
 refine W ?_
 refine⟨fun c7 c7p=>?_,fun c7 c7p=>?_⟩
 ·
  refine W ?_
  refine Cn Ing.Event.enc 100 16 ?_
  refine W ?_
  refine Cl (.c (.t .h) (.c .h .n)) (Bt _ (⟨X,b,[]⟩:AA) _ { AA.Dn 7 with text:=o.text } J hF.b (show(-1:Int) < 6 by decide) (Nat.zero_le _)) (fun v21 B hv=>?_)
  obtain⟨y22,rfl,y23,rfl⟩:=hv
  refine W ?_
  intro w1 hS
  have hS:=(hS.perm (AK.perm (.c (.t .h) .n))).AM
  have ha:AA.act (⟨X,b,[]⟩:AA) o=_:=((AB c4).trans ((AB c5).trans ((AB c6).trans (AN c7))))
  have hq:AA.Dk X b o=((AA.act (⟨X,b,[]⟩:AA) o).w,(AA.act (⟨X,b,[]⟩:AA) o).out,0):=((AB c1).trans ((AB c2).trans (AB c3)))
  rw [ha] at hq
  refine⟨_,⟨?gq7,?g9v7,?g9l7,?g9B7⟩,hS⟩
  case g9B7=>rw [hq];(try rfl)
  case g9v7=>rw [hq];(try rfl)
  case g9l7=>rw [hq];(try dsimp only);exact y23
 refine W ?_
 refine⟨fun c8 c8p=>?_,fun c8 c8p=>?_⟩
 ·
  refine W ?_
  refine Cn Ing.Event.enc 100 16 ?_
  refine W ?_
  refine Cl (.c (.t .h) (.c .h .n)) (Ss _ (⟨X,b,[]⟩:AA) _ J hF (Nat.zero_le _)) (fun v25 B hv=>?_)
  obtain⟨y26,rfl,y27,rfl⟩:=hv
  refine W ?_
  intro w1 hS
  have hS:=(hS.perm (AK.perm (.c (.t .h) .n))).AM
  have ha:AA.act (⟨X,b,[]⟩:AA) o=_:=((AB c4).trans ((AB c5).trans ((AB c6).trans ((AB c7).trans (AN c8)))))
  have hq:AA.Dk X b o=((AA.act (⟨X,b,[]⟩:AA) o).w,(AA.act (⟨X,b,[]⟩:AA) o).out,0):=((AB c1).trans ((AB c2).trans (AB c3)))
  rw [ha] at hq
  refine⟨_,⟨?gq8,?g9v8,?g9l8,?g9B8⟩,hS⟩
  case g9B8=>rw [hq];(try rfl)
  case g9v8=>rw [hq];(try rfl)
  case g9l8=>rw [hq];(try dsimp only);exact y27
 refine W ?_
 refine⟨fun c9 c9p=>?_,fun c9 c9p=>?_⟩
 ·
  refine W ?_
  refine Cn Ing.Event.enc 100 16 ?_
  refine W ?_
  refine Cm (.c (.t .h) (.c .h .n)) (Qh _ (⟨X,b,[]⟩:AA) _ o J hF hm (Nat.zero_le _)) (fun v29 B hv=>?_)
  obtain⟨y30,rfl,y31,rfl⟩:=hv
  refine W ?_
  intro w1 hS
  have hS:=(hS.perm (AK.perm (.c (.t .h) .n))).AM
  have ha:AA.act (⟨X,b,[]⟩:AA) o=_:=((AB c4).trans ((AB c5).trans ((AB c6).trans ((AB c7).trans ((AB c8).trans (AN c9))))))
  have hq:AA.Dk X b o=((AA.act (⟨X,b,[]⟩:AA) o).w,(AA.act (⟨X,b,[]⟩:AA) o).out,0):=((AB c1).trans ((AB c2).trans (AB c3)))
  rw [ha] at hq
  refine⟨_,⟨?gq9,?g9v9,?g9l9,?g9B9⟩,hS⟩
  case g9B9=>rw [hq];(try rfl)
  case g9v9=>rw [hq];(try rfl)
  case g9l9=>rw [hq];(try dsimp only);exact y31
 refine W ?_
 refine⟨fun c10 c10p=>?_,fun c10 c10p=>?_⟩
 ·
  refine W ?_
  refine Cn Ing.Event.enc 100 16 ?_
  refine W ?_
  refine Cm (.c (.t .h) (.c .h .n)) (Ub _ (⟨X,b,[]⟩:AA) _ o J hF hu (Nat.zero_le _)) (fun v33 B hv=>?_)
  obtain⟨y34,rfl,y35,rfl⟩:=hv
  refine W ?_
  intro w1 hS
  have hS:=(hS.perm (AK.perm (.c (.t .h) .n))).AM
  have ha:AA.act (⟨X,b,[]⟩:AA) o=_:=((AB c4).trans ((AB c5).trans ((AB c6).trans ((AB c7).trans ((AB c8).trans ((AB c9).trans (AN c10)))))))
  have hq:AA.Dk X b o=((AA.act (⟨X,b,[]⟩:AA) o).w,(AA.act (⟨X,b,[]⟩:AA) o).out,0):=((AB c1).trans ((AB c2).trans (AB c3)))
  rw [ha] at hq
  refine⟨_,⟨?gq10,?g9v10,?g9l10,?g9B10⟩,hS⟩
  case g9B10=>rw [hq];(try rfl)
  case g9v10=>rw [hq];(try rfl)
  case g9l10=>rw [hq];(try dsimp only);exact y35
 refine W ?_
 refine⟨fun c11 c11p=>?_,fun c11 c11p=>?_⟩
 ·
  refine W ?_
  refine Cn Ing.Event.enc 100 16 ?_
  refine W ?_
  refine Cm (.c (.t .h) (.c .h .n)) (Uc _ (⟨X,b,[]⟩:AA) _ o J hF (by omega) hu (Nat.zero_le _)) (fun v37 B hv=>?_)
  obtain⟨y38,rfl,y39,rfl⟩:=hv
  refine W ?_
  intro w1 hS
  have hS:=(hS.perm (AK.perm (.c (.t .h) .n))).AM
  have ha:AA.act (⟨X,b,[]⟩:AA) o=_:=((AB c4).trans ((AB c5).trans ((AB c6).trans ((AB c7).trans ((AB c8).trans ((AB c9).trans ((AB c10).trans (AN c11))))))))
  have hq:AA.Dk X b o=((AA.act (⟨X,b,[]⟩:AA) o).w,(AA.act (⟨X,b,[]⟩:AA) o).out,0):=((AB c1).trans ((AB c2).trans (AB c3)))
  rw [ha] at hq
  refine⟨_,⟨?gq11,?g9v11,?g9l11,?g9B11⟩,hS⟩
  case g9B11=>rw [hq];(try rfl)
  case g9v11=>rw [hq];(try rfl)
  case g9l11=>rw [hq];(try dsimp only);exact y39
 refine W ?_
 refine Cn Ing.Event.enc 100 16 ?_
 refine W ?_
 refine Cm (.c (.t .h) (.c .h .n)) (Ue _ (⟨X,b,[]⟩:AA) _ o J hF (by omega) (Nat.zero_le _)) (fun v41 B hv=>?_)
 obtain⟨y42,rfl,y43,rfl⟩:=hv
 refine W ?_
 intro w1 hS
 have hS:=(hS.perm (AK.perm (.c (.t .h) .n))).AM
 have ha:AA.act (⟨X,b,[]⟩:AA) o=_:=((AB c4).trans ((AB c5).trans ((AB c6).trans ((AB c7).trans ((AB c8).trans ((AB c9).trans ((AB c10).trans (AB c11))))))))
 have hq:AA.Dk X b o=((AA.act (⟨X,b,[]⟩:AA) o).w,(AA.act (⟨X,b,[]⟩:AA) o).out,0):=((AB c1).trans ((AB c2).trans (AB c3)))
 rw [ha] at hq
 refine⟨_,⟨?gq12,?g9v12,?g9l12,?g9B12⟩,hS⟩
 case g9B12=>rw [hq];(try rfl)
 case g9v12=>rw [hq];(try rfl)
 case g9l12=>rw [hq];(try dsimp only);exact y43
end Go.Proofs.YtlmmdjaoikaceaaGreatDoor

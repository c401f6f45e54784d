/- What the functions that the law TopGood reaches compute: walks, part 6. No condition. -/
import Derived.Test.YtoidpggbbfncpaaGreatDoorCards
import Derived.Test.YtoidpggbbfncpaaGreatDoorTie
import Derived.Deep.DeepHandedRow
import Derived.Test.YtoidpggbbfncpaaGreatDoorRows
import Derived.Test.YtoidpggbbfncpaaGreatDoorTopGoodEc3
import Derived.Test.YtoidpggbbfncpaaGreatDoorTopGoodRa1
import Derived.Test.YtoidpggbbfncpaaGreatDoorTopGoodRb1
import Derived.Test.YtoidpggbbfncpaaGreatDoorTopGoodRc1
import Derived.Test.YtoidpggbbfncpaaGreatDoorTopGoodWalks
import Derived.Test.YtoidpggbbfncpaaGreatDoorTopGoodWalks2
import Derived.Test.YtoidpggbbfncpaaGreatDoorTopGoodWalks3
import Derived.Test.YtoidpggbbfncpaaGreatDoorTopGoodWalks4
import Derived.Test.YtoidpggbbfncpaaGreatDoorTopGoodWalks5
set_option linter.unusedSimpArgs false
set_option linter.unusedVariables false
set_option maxRecDepth 100000
set_option maxHeartbeats 1000000
namespace Go.Proofs.YtoidpggbbfncpaaGreatDoor
open Go Go.Ing Go.RowKit Go.ChangeShapes Go.WideShapes Go.ChangeAt
theorem MU (X:AP)(u:Aq)(hu:u.length≤140737488351232)(w:World):Eh Tryz.prog 29 #[.agg X.enc.toArray,BU u] w fun v w'=>v = .tuple #[.agg (X.Df u).1.enc.toArray,BU (X.Df u).2.1,BU (X.Df u).2.2.1, .int .i64 (X.Df u).2.2.2]∧CA w w':=by
 refine Ak [] [] Tryz.func29 rfl rfl rfl (St.start w []) ?_
 refine Gs ?_
 refine B5 rfl rfl rfl (fun b1=>?_)
 refine BD rfl Zg rfl (fun b2=>?_)
 refine Ga rfl (Ga rfl (Ga rfl (Gn (.t3 1 2 4) (CB (Gt (AY rfl D5 .m1 (AU.id AP.fl.len AP.fl.one) rfl) ?_)))))
 refine BA rfl Zl (.c rfl .n) (fun w hS=>GF _ w) ?_
 refine Gt (BQ rfl) (Gn (.t4 1 2 4 15) ?_)
 refine Gc (fun c1=>?_) (fun c1=>?_)
 ·
  refine Gs (Gt (AY rfl D5 .m1 (AU.id AP.fl.len AP.fl.one) rfl) ?_)
  refine AS (AK (AU.id AP.fl.len AP.fl.one) rfl rfl rfl Ka rfl .h) ?_
  refine Ga rfl (Ga rfl (Ga rfl (Gn (.t4 4 5 6 7) (Ab (AD ?_)))))
  refine AZ rfl (.cell rfl .m0 (.inl ⟨(by rw [AP.fl.len];exact D5),rfl⟩) (.tmp rfl (.tmp rfl (.tmp rfl .n)))) ?_
  intro w1 hS;refine⟨?_,hS.Am⟩;rw [show X.Df u=_ from BB c1];rfl
 have c1p:=kz c1
 have hg:X.Bb=true:=by simpa using c1
 refine Aa ?_
 refine AB (.t3 1 2 4) ?_
 refine AA (Gs ?_)
 refine BD rfl UQ rfl (fun b3=>?_)
 refine DU DR 5 1 ?_
 refine BD rfl UQ rfl (fun b4=>?_)
 refine DU DR 5 1 ?_
 refine AR (AA (CB (Gm rfl ?_)))
 refine O2 rfl Tryz.underlying9 Tryz.underlying105 Tryz.underlying5 rfl (fun h1 h1l=>?_)
 refine Gt (Av rfl Tryz.underlying105 rfl) (Gm rfl (Gn (.t7 2 4 8 9 18 19 20) (Ae ?_)))
 refine Bo (.t7 20 2 4 8 9 18 19) ?_
 refine Bh (.t (.t (.t (.t (.t (.t .h)))))) ?_
 refine Bh (.t (.t (.t (.t (.t .h))))) ?_
 refine Bh (.t (.t (.t (.t (.t .h))))) ?_
 refine Bh (.t (.t (.t (.t (.t .h))))) ?_
 refine Bh (.t (.t (.t (.t (.t .h))))) ?_
 refine Rx (fun(k:Int) (t:AP) (x:Aq) (y:Aq) (p:Option Addr) (h:Hd) (q:Option Addr) (g:Hd)=>AP.Jz X u k t x y∧(p=none∨p=some ⟨b3,0,none⟩)∧h.Z∧h.len=x.length∧(q=none∨q=some ⟨b4,0,none⟩)∧g.Z∧g.len=y.length) (fun(k:Int) (t:AP) (x:Aq) (y:Aq) (p:Option Addr) (h:Hd) (q:Option Addr) (g:Hd)=>((u.length:Int) - k).toNat) (fun(k:Int) (t:AP) (x:Aq) (y:Aq) (p:Option Addr) (h:Hd) (q:Option Addr) (g:Hd)=> [(20, .int .i64 k)]) (fun(k:Int) (t:AP) (x:Aq) (y:Aq) (p:Option Addr) (h:Hd) (q:Option Addr) (g:Hd)=> [Ac.own g 5 1 (y.flatMap DR),Ac.box b4 107 (DX.enc ⟨q,g⟩),Ac.own h 5 1 (x.flatMap DR),Ac.box b3 107 (DX.enc ⟨p,h⟩),Ac.box b1 69 (AP.enc t)]) (0) (X) ([]) ([]) (none) (⟨none,0,0⟩) (none) (⟨none,0,0⟩) ?_ rfl rfl (fun k t x y p h q g hI1=>?_)
 · exact⟨AP.Jz.start (AP.W8 hg), .inl rfl,Hd.Ue,rfl, .inl rfl,Hd.Ue,rfl⟩
 obtain⟨hI11,hp,hz,hl,hq,hzg,hlg⟩:=hI1;have hk0:=hI11.k0;have hk1:=hI11.k1;have hsub:=hI11.sub;have hxl:=hI11.xl;have hyl:=hI11.yl;have hc8:=(u.getD k.toNat 0).toNat_lt;have hyb:=hI11.yb
 refine Gs (Gt (A8 rfl rfl) (AR (AA (Ap ?_))))
 refine Gc (fun c2=>?_) (fun c2=>?_)
 ·
  have c2p:=kz c2
  refine Aa ?_
  refine AB (.t7 2 4 8 9 18 19 20) ?_
  refine AA (Ap (Ae (Gs ?_)))
  refine Gt (Br Xj (by decide) (Kn.own .m5) rfl rfl (by omega) (by omega)) ?_
  refine Gt (WQ rfl cB (Kn.own .m5) (by omega)) ?_
  refine Ga rfl (Gn (.t8 2 4 8 9 11 18 19 20) (Gs (Gm rfl (Gt (TF Tryz.underlying3 Tryz.underlying5 rfl) (Ga rfl (Gn (.t9 2 4 8 9 11 12 18 19 20) (Gs ?_)))))))
  refine Gt (Ah Fq rfl) (Gt (AG rfl A5 .m4 AP.l0 rfl rfl) (Gn (.t10 2 4 8 9 11 12 18 19 20 27) (Ae (Gs (Gt (Aj rfl rfl) (Ga rfl (Gn (.t11 2 4 8 9 11 12 18 19 20 27 28) ?_)))))))
  refine Gc (fun c3=>?_) (fun c3=>?_)
  ·
   have c3p:=kz c3
   refine Gs (Gm rfl (Gt (Aj rfl rfl) (Gn (.t9 2 4 8 9 11 18 19 20 31) ?_)))
   refine Gc (fun c4=>?_) (fun c4=>?_)
   ·
    have c4p:=kz c4
    refine AJ (Gt (Ah Fq rfl) ?_)
    refine AS (AK AP.l0 rfl rfl rfl DB rfl (.t (.t (.t (.t .h))))) ?_
    refine AR (AB (.t7 2 4 8 9 18 19 20) ?_)
    refine AV (AV (AA (AJ ?_)))
    refine Gt (Aw rfl rfl (IntWalk.i64_in _ (by omega))) ?_
    refine Gm rfl ?_
    refine AR (AB (.t7 2 4 8 9 18 19 20) ?_)
    refine CS _ _ _ _ _ _ _ _ ?_ ?_ (.t7 20 2 4 8 9 18 19) (.refl _)
    · exact⟨hI11.next (by omega) (by simp only [AP.step,c1,c2,c3,c4,↓reduceIte,Bool.false_eq_true]) (by simp only [AP.step,c1,c2,c3,c4,List.append_nil,↓reduceIte,Bool.false_eq_true]) (by simp only [AP.step,c1,c2,c3,c4,List.append_nil,↓reduceIte,Bool.false_eq_true]),by assumption,by assumption,by assumption,by assumption,by assumption,by assumption⟩
    · omega
   have c4p:=kz c4
   refine AJ (Gm rfl ?_)
   refine Ai rfl YU (.c rfl (.c rfl .n)) (.c (.t (.t (.t .h))) (.c (.t (.t .h)) .n)) (Cj _ _ _ _ (by assumption) (by assumption) (by assumption) _ (by omega)) (fun v2 B hv=>?_)
   obtain⟨y3,y4,rfl,y5,y6,y7,rfl⟩:=hv
   refine AR (AB (.t7 2 4 8 9 18 19 20) ?_)
   refine AV (AV (AA (AJ ?_)))
   refine Gt (Aw rfl rfl (IntWalk.i64_in _ (by omega))) ?_
   refine Gm rfl ?_
   refine AR (AB (.t7 2 4 8 9 18 19 20) ?_)
   refine CJ (.c (.t (.t .h)) (.c (.t (.t .h)) (.c (.t .h) (.c .h (.c .h (.c .h (.c .h .n))))))) ?_
   refine Cc ?_
   refine CS _ _ _ _ _ _ _ _ ?_ ?_ (.t7 20 2 4 8 9 18 19) (.refl _)
   · exact⟨hI11.next (by omega) (by simp only [AP.step,c1,c2,c3,c4,↓reduceIte,Bool.false_eq_true]) (by simp only [AP.step,c1,c2,c3,c4,List.append_nil,↓reduceIte,Bool.false_eq_true]) (by simp only [AP.step,c1,c2,c3,c4,List.append_nil,↓reduceIte,Bool.false_eq_true]),by assumption,by assumption,by assumption,by assumption,by assumption,by assumption⟩
   · omega
  have c3p:=kz c3
  refine Gs (Gt (Aj rfl rfl) (Ga rfl (Gn (.t11 2 4 8 9 11 12 18 19 20 27 35) ?_)))
  refine Gc (fun c5=>?_) (fun c5=>?_)
  ·
   have c5p:=kz c5
   refine Gs (Gt (Ah Fq rfl) ?_)
   refine AS (AK AP.l0 rfl rfl rfl DB rfl (.t (.t (.t (.t .h))))) ?_
   refine Gn (.t9 2 4 8 9 11 12 18 19 20) (Ae (Gs (Gm rfl (Gt (Aj rfl rfl) (Ga rfl (Gn (.t10 2 4 8 9 11 12 18 19 20 38) ?_))))))
   refine Gc (fun c6=>?_) (fun c6=>?_)
   ·
    have c6p:=kz c6
    refine AJ (Gm rfl ?_)
    refine Ai rfl YU (.c rfl (.c rfl .n)) (.c (.t (.t (.t .h))) (.c (.t (.t .h)) .n)) (Cj _ _ _ _ (by assumption) (by assumption) (by assumption) _ (by omega)) (fun v8 B hv=>?_)
    obtain⟨y9,y10,rfl,y11,y12,y13,rfl⟩:=hv
    refine AR (AB (.t7 2 4 8 9 18 19 20) ?_)
    refine AV (AV (AV (AA (AJ ?_))))
    refine Gt (Aw rfl rfl (IntWalk.i64_in _ (by omega))) ?_
    refine Gm rfl ?_
    refine AR (AB (.t7 2 4 8 9 18 19 20) ?_)
    refine CJ (.c (.t (.t .h)) (.c (.t (.t .h)) (.c (.t .h) (.c .h (.c .h (.c .h (.c .h .n))))))) ?_
    refine Cc ?_
    refine CS _ _ _ _ _ _ _ _ ?_ ?_ (.t7 20 2 4 8 9 18 19) (.refl _)
    · exact⟨hI11.next (by omega) (by simp only [AP.step,c1,c2,c3,c5,c6,↓reduceIte,Bool.false_eq_true]) (by simp only [AP.step,c1,c2,c3,c5,c6,List.append_nil,↓reduceIte,Bool.false_eq_true]) (by simp only [AP.step,c1,c2,c3,c5,c6,List.append_nil,↓reduceIte,Bool.false_eq_true]),by assumption,by assumption,by assumption,by assumption,by assumption,by assumption⟩
    · omega
   have c6p:=kz c6
   refine Gs (Gm rfl (Gt (Aj rfl rfl) (Ga rfl (Gn (.t9 2 4 8 9 12 18 19 20 43) ?_))))
   refine Gc (fun c7=>?_) (fun c7=>?_)
   ·
    have c7p:=kz c7
    refine AJ (Gt (Ah Fq rfl) ?_)
    refine AS (AK AP.l0 rfl rfl rfl DB rfl (.t (.t (.t (.t .h))))) ?_
    refine AR (AB (.t7 2 4 8 9 18 19 20) ?_)
    refine AV (AV (AV (AA (AJ ?_))))
    refine Gt (Aw rfl rfl (IntWalk.i64_in _ (by omega))) ?_
    refine Gm rfl ?_
    refine AR (AB (.t7 2 4 8 9 18 19 20) ?_)
    refine CS _ _ _ _ _ _ _ _ ?_ ?_ (.t7 20 2 4 8 9 18 19) (.refl _)
    · exact⟨hI11.next (by omega) (by simp only [AP.step,c1,c2,c3,c5,c6,c7,↓reduceIte,Bool.false_eq_true]) (by simp only [AP.step,c1,c2,c3,c5,c6,c7,List.append_nil,↓reduceIte,Bool.false_eq_true]) (by simp only [AP.step,c1,c2,c3,c5,c6,c7,List.append_nil,↓reduceIte,Bool.false_eq_true]),by assumption,by assumption,by assumption,by assumption,by assumption,by assumption⟩
    · omega
   have c7p:=kz c7
   refine Gs (Gm rfl (Gt (CI rfl rfl) (Ga rfl (Gn (.t9 2 4 8 9 12 18 19 20 47) ?_))))
   refine Gc (fun c8=>?_) (fun c8=>?_)
   ·
    have c8p:=kz c8
    refine AJ (Gm rfl (Gt (Ah Fq rfl) ?_))
    refine AS (AK AP.l0 rfl rfl rfl DB rfl (.t (.t (.t (.t .h))))) ?_
    refine Gt (Ah LJ rfl) ?_
    refine AS (AK AP.l1 rfl rfl rfl DB rfl (.t (.t (.t (.t .h))))) ?_
    refine AR (AB (.t7 2 4 8 9 18 19 20) ?_)
    refine AV (AV (AV (AA (AJ ?_))))
    refine Gt (Aw rfl rfl (IntWalk.i64_in _ (by omega))) ?_
    refine Gm rfl ?_
    refine AR (AB (.t7 2 4 8 9 18 19 20) ?_)
    refine CS _ _ _ _ _ _ _ _ ?_ ?_ (.t7 20 2 4 8 9 18 19) (.refl _)
    · exact⟨hI11.next (by omega) (by simp only [AP.step,c1,c2,c3,c5,c6,c7,c8,↓reduceIte,Bool.false_eq_true]) (by simp only [AP.step,c1,c2,c3,c5,c6,c7,c8,List.append_nil,↓reduceIte,Bool.false_eq_true]) (by simp only [AP.step,c1,c2,c3,c5,c6,c7,c8,List.append_nil,↓reduceIte,Bool.false_eq_true]),by assumption,by assumption,by assumption,by assumption,by assumption,by assumption⟩
    · omega
   have c8p:=kz c8
   refine Aa ?_
   refine AB (.t7 2 4 8 9 18 19 20) ?_
   refine AV (AV (AV (AA (AJ ?_))))
   refine Gt (Aw rfl rfl (IntWalk.i64_in _ (by omega))) ?_
   refine Gm rfl ?_
   refine AR (AB (.t7 2 4 8 9 18 19 20) ?_)
   refine CS _ _ _ _ _ _ _ _ ?_ ?_ (.t7 20 2 4 8 9 18 19) (.refl _)
   · exact⟨hI11.next (by omega) (by simp only [AP.step,c1,c2,c3,c5,c6,c7,c8,↓reduceIte,Bool.false_eq_true]) (by simp only [AP.step,c1,c2,c3,c5,c6,c7,c8,List.append_nil,↓reduceIte,Bool.false_eq_true]) (by simp only [AP.step,c1,c2,c3,c5,c6,c7,c8,List.append_nil,↓reduceIte,Bool.false_eq_true]),by assumption,by assumption,by assumption,by assumption,by assumption,by assumption⟩
   · omega
  have c5p:=kz c5
  refine Gs (Gt (Aj rfl rfl) (Ga rfl (Gn (.t11 2 4 8 9 11 12 18 19 20 27 53) ?_)))
  refine Gc (fun c9=>?_) (fun c9=>?_)
  ·
   have c9p:=kz c9
   refine Gs (Gt (Ah LJ rfl) (Gt (AG rfl A5 .m4 AP.l1 rfl rfl) (Gm rfl ?_)))
   refine Ai rfl de (.c rfl (.c rfl (.c rfl .n))) (.c (.t (.t (.t (.t .h)))) .n) (JQ _ _ _ _ (by first | assumption | omega)) (fun v14 B hv=>?_)
   obtain⟨rfl,rfl⟩:=hv
   refine Ai rfl PO (.c rfl (.c rfl .n)) (.c (.t (.t .h)) (.c (.t .h) .n)) (BM _ _ _ _ (by assumption) (by assumption) (by assumption) _ (by have:=AP.H6 t t.verb ((u.getD k.toNat 0).toNat:Int);omega)) (fun v15 B hv=>?_)
   obtain⟨y16,y17,rfl,y18,y19,y20,rfl⟩:=hv
   refine Gn (.t7 2 4 8 9 18 19 20) (AJ (Gt (Ah Fq rfl) ?_))
   refine AS (AK AP.l0 rfl rfl rfl DB rfl (.t (.t .h))) ?_
   refine Gt (Ah LJ rfl) ?_
   refine AS (AK AP.l1 rfl rfl rfl DB rfl (.t (.t .h))) ?_
   refine AR (AB (.t7 2 4 8 9 18 19 20) ?_)
   refine AV (AV (AA (AJ ?_)))
   refine Gt (Aw rfl rfl (IntWalk.i64_in _ (by omega))) ?_
   refine Gm rfl ?_
   refine AR (AB (.t7 2 4 8 9 18 19 20) ?_)
   refine CJ (.c (.t .h) (.c .h (.c (.t .h) (.c (.t .h) (.c .h (.c .h (.c .h .n))))))) ?_
   refine Cc ?_
   refine CS _ _ _ _ _ _ _ _ ?_ ?_ (.t7 20 2 4 8 9 18 19) (.refl _)
   · exact⟨hI11.next (by omega) (by simp only [AP.step,c1,c2,c3,c5,c9,↓reduceIte,Bool.false_eq_true]) (by simp only [AP.step,c1,c2,c3,c5,c9,List.append_nil,↓reduceIte,Bool.false_eq_true]) (by simp only [AP.step,c1,c2,c3,c5,c9,List.append_nil,↓reduceIte,Bool.false_eq_true]),by assumption,by assumption,by assumption,by assumption,by assumption,by assumption⟩
   · omega
  have c9p:=kz c9
  refine Gs (Gt (Aj rfl rfl) (Ga rfl (Gn (.t11 2 4 8 9 11 12 18 19 20 27 62) ?_)))
  refine Gc (fun c10=>?_) (fun c10=>?_)
  ·
   have c10p:=kz c10
   refine Gs (Gm rfl (Gt (Aj rfl rfl) (Gn (.t9 2 4 8 9 11 18 19 20 65) ?_)))
   refine Gc (fun c11=>?_) (fun c11=>?_)
   ·
    have c11p:=kz c11
    refine AJ (Gt (Ah Fq rfl) ?_)
    refine AS (AK AP.l0 rfl rfl rfl DB rfl (.t (.t (.t (.t .h))))) ?_
    refine AR (AB (.t7 2 4 8 9 18 19 20) ?_)
    refine AV (AV (AA (AJ ?_)))
    refine Gt (Aw rfl rfl (IntWalk.i64_in _ (by omega))) ?_
    refine Gm rfl ?_
    refine AR (AB (.t7 2 4 8 9 18 19 20) ?_)
    refine CS _ _ _ _ _ _ _ _ ?_ ?_ (.t7 20 2 4 8 9 18 19) (.refl _)
    · exact⟨hI11.next (by omega) (by simp only [AP.step,c1,c2,c3,c5,c9,c10,c11,↓reduceIte,Bool.false_eq_true]) (by simp only [AP.step,c1,c2,c3,c5,c9,c10,c11,List.append_nil,↓reduceIte,Bool.false_eq_true]) (by simp only [AP.step,c1,c2,c3,c5,c9,c10,c11,List.append_nil,↓reduceIte,Bool.false_eq_true]),by assumption,by assumption,by assumption,by assumption,by assumption,by assumption⟩
    · omega
   have c11p:=kz c11
   refine AJ (Gm rfl ?_)
   refine Ai rfl bM (.c rfl (.c rfl .n)) (.c (.t (.t (.t (.t .h)))) .n) (G5 _ _ _ (by first | assumption | omega)) (fun v21 B hv=>?_)
   obtain⟨rfl,rfl⟩:=hv
   refine AR (AB (.t7 2 4 8 9 18 19 20) ?_)
   refine AV (AV (AA (AJ ?_)))
   refine Gt (Aw rfl rfl (IntWalk.i64_in _ (by omega))) ?_
   refine Gm rfl ?_
   refine AR (AB (.t7 2 4 8 9 18 19 20) ?_)
   refine CJ (.c (.t .h) (.c (.t .h) (.c (.t .h) (.c (.t .h) (.c .h (.c .h (.c .h .n))))))) ?_
   refine Cc ?_
   refine CS _ _ _ _ _ _ _ _ ?_ ?_ (.t7 20 2 4 8 9 18 19) (.refl _)
   · exact⟨hI11.next (by omega) (by simp only [AP.step,c1,c2,c3,c5,c9,c10,c11,↓reduceIte,Bool.false_eq_true]) (by simp only [AP.step,c1,c2,c3,c5,c9,c10,c11,List.append_nil,↓reduceIte,Bool.false_eq_true]) (by simp only [AP.step,c1,c2,c3,c5,c9,c10,c11,List.append_nil,↓reduceIte,Bool.false_eq_true]),by assumption,by assumption,by assumption,by assumption,by assumption,by assumption⟩
   · omega
  have c10p:=kz c10
  refine Gs (Gt (Aj rfl rfl) (Ga rfl (Gn (.t10 2 4 8 9 11 12 18 19 20 69) ?_)))
  refine Gc (fun c12=>?_) (fun c12=>?_)
  ·
   have c12p:=kz c12
   refine Gs (Gm rfl (Gn (.t10 2 4 8 9 11 12 18 19 20 71) (Ae (Gs (Gt (Aj rfl rfl) (Ga rfl (Gn (.t10 2 4 8 9 11 12 18 19 20 77) ?_)))))))
   refine Gc (fun c13=>?_) (fun c13=>?_)
   ·
    have c13p:=kz c13
    refine Gs (Gt (Ah Fq rfl) ?_)
    refine AS (AK AP.l0 rfl rfl rfl DB rfl (.t (.t (.t (.t .h))))) ?_
    refine Gn (.t8 2 4 8 9 11 18 19 20) (AJ (Gm rfl ?_))
    refine Ai rfl bM (.c rfl (.c rfl .n)) (.c (.t (.t (.t (.t .h)))) .n) (G5 _ _ _ (by first | assumption | omega)) (fun v22 B hv=>?_)
    obtain⟨rfl,rfl⟩:=hv
    refine AR (AB (.t7 2 4 8 9 18 19 20) ?_)
    refine AV (AV (AV (AA (AJ ?_))))
    refine Gt (Aw rfl rfl (IntWalk.i64_in _ (by omega))) ?_
    refine Gm rfl ?_
    refine AR (AB (.t7 2 4 8 9 18 19 20) ?_)
    refine CJ (.c (.t .h) (.c (.t .h) (.c (.t .h) (.c (.t .h) (.c .h (.c .h (.c .h .n))))))) ?_
    refine Cc ?_
    refine CS _ _ _ _ _ _ _ _ ?_ ?_ (.t7 20 2 4 8 9 18 19) (.refl _)
    · exact⟨hI11.next (by omega) (by simp only [AP.step,c1,c2,c3,c5,c9,c10,c12,c13,↓reduceIte,Bool.false_eq_true]) (by simp only [AP.step,c1,c2,c3,c5,c9,c10,c12,c13,List.append_nil,↓reduceIte,Bool.false_eq_true]) (by simp only [AP.step,c1,c2,c3,c5,c9,c10,c12,c13,List.append_nil,↓reduceIte,Bool.false_eq_true]),by assumption,by assumption,by assumption,by assumption,by assumption,by assumption⟩
    · omega
   have c13p:=kz c13
   refine CB (Gm rfl (Gt (Aj rfl rfl) (Gn (.t8 2 4 8 9 18 19 20 73) ?_)))
   refine Gc (fun c14=>?_) (fun c14=>?_)
   ·
    have c14p:=kz c14
    refine AJ ?_
    refine Ai rfl df (.c rfl .n) (.c (.t (.t (.t (.t .h)))) .n) (KZ _ _) (fun v23 B hv=>?_)
    obtain⟨rfl,rfl⟩:=hv
    refine Gn (.t7 2 4 8 9 18 19 20) (AJ (Gt (Ah Fq rfl) ?_))
    refine AS (AK AP.l0 rfl rfl rfl DB rfl .h) ?_
    refine Gt (Ah Gw rfl) ?_
    refine AS (AK AP.l2 rfl rfl rfl Em rfl .h) ?_
    refine AR (AB (.t7 2 4 8 9 18 19 20) ?_)
    refine AV (AV (AV (AA (AJ ?_))))
    refine Gt (Aw rfl rfl (IntWalk.i64_in _ (by omega))) ?_
    refine Gm rfl ?_
    refine AR (AB (.t7 2 4 8 9 18 19 20) ?_)
    refine CJ (.c (.t .h) (.c (.t .h) (.c (.t .h) (.c (.t .h) (.c .h (.c .h (.c .h .n))))))) ?_
    refine Cc ?_
    refine CS _ _ _ _ _ _ _ _ ?_ ?_ (.t7 20 2 4 8 9 18 19) (.refl _)
    · exact⟨hI11.next (by omega) (by simp only [AP.step,c1,c2,c3,c5,c9,c10,c12,c13,c14,↓reduceIte,Bool.false_eq_true]) (by simp only [AP.step,c1,c2,c3,c5,c9,c10,c12,c13,c14,List.append_nil,↓reduceIte,Bool.false_eq_true]) (by simp only [AP.step,c1,c2,c3,c5,c9,c10,c12,c13,c14,List.append_nil,↓reduceIte,Bool.false_eq_true]),by assumption,by assumption,by assumption,by assumption,by assumption,by assumption⟩
    · omega
   have c14p:=kz c14
   refine Aa ?_
   refine AB (.t7 2 4 8 9 18 19 20) ?_
   refine AA (AJ (Gt (Ah Fq rfl) ?_))
   refine AS (AK AP.l0 rfl rfl rfl DB rfl (.t (.t (.t (.t .h))))) ?_
   refine Gt (Ah Gw rfl) ?_
   refine AS (AK AP.l2 rfl rfl rfl Em rfl (.t (.t (.t (.t .h))))) ?_
   refine AR (AB (.t7 2 4 8 9 18 19 20) ?_)
   refine AV (AV (AV (AA (AJ ?_))))
   refine Gt (Aw rfl rfl (IntWalk.i64_in _ (by omega))) ?_
   refine Gm rfl ?_
   refine AR (AB (.t7 2 4 8 9 18 19 20) ?_)
   refine CS _ _ _ _ _ _ _ _ ?_ ?_ (.t7 20 2 4 8 9 18 19) (.refl _)
   · exact⟨hI11.next (by omega) (by simp only [AP.step,c1,c2,c3,c5,c9,c10,c12,c13,c14,↓reduceIte,Bool.false_eq_true]) (by simp only [AP.step,c1,c2,c3,c5,c9,c10,c12,c13,c14,List.append_nil,↓reduceIte,Bool.false_eq_true]) (by simp only [AP.step,c1,c2,c3,c5,c9,c10,c12,c13,c14,List.append_nil,↓reduceIte,Bool.false_eq_true]),by assumption,by assumption,by assumption,by assumption,by assumption,by assumption⟩
   · omega
  have c12p:=kz c12
  refine Aa ?_
  refine AB (.t7 2 4 8 9 18 19 20) ?_
  refine AV (AV (AA (AJ ?_)))
  refine Gt (Aw rfl rfl (IntWalk.i64_in _ (by omega))) ?_
  refine Gm rfl ?_
  refine AR (AB (.t7 2 4 8 9 18 19 20) ?_)
  refine CS _ _ _ _ _ _ _ _ ?_ ?_ (.t7 20 2 4 8 9 18 19) (.refl _)
  · exact⟨hI11.next (by omega) (by simp only [AP.step,c1,c2,c3,c5,c9,c10,c12,↓reduceIte,Bool.false_eq_true]) (by simp only [AP.step,c1,c2,c3,c5,c9,c10,c12,List.append_nil,↓reduceIte,Bool.false_eq_true]) (by simp only [AP.step,c1,c2,c3,c5,c9,c10,c12,List.append_nil,↓reduceIte,Bool.false_eq_true]),by assumption,by assumption,by assumption,by assumption,by assumption,by assumption⟩
  · omega
 have c2p:=kz c2
 refine Ba (AW (AW (Af ?_)))
 refine AB (.t4 2 4 8 9) ?_
 refine AA (Ap ?_)
 refine BE (N:=7) [0,0,2,7,15,31,63] mix (by kernel_rfl) rfl ?_
 refine Pf 0 rfl (AY rfl D5 .m4 (AU.id AP.fl.len AP.fl.one) rfl) ?_
 refine An 1 rfl (by kernel_rfl) ?_
 refine Ai rfl YF (.c rfl .n) (.c (.t (.t (.t .h))) (.c (.t (.t .h)) .n)) (Cv _ _ _ _ (by assumption) (by assumption) (by omega)) (fun v24 B hv=>?_)
 obtain⟨rfl,rfl⟩:=hv
 refine Bp rfl ⟨?_,?_⟩
 · exact(Po rfl (AY rfl D5 .m3 (AU.id AP.fl.len AP.fl.one) rfl) rfl rfl Ar)
 refine An 2 rfl (by kernel_rfl) ?_
 refine Ai rfl YF (.c rfl .n) (.c (.t (.t .h)) (.c (.t .h) .n)) (Cv _ _ _ _ (by assumption) (by assumption) (by omega)) (fun v25 B hv=>?_)
 obtain⟨rfl,rfl⟩:=hv
 refine Bp rfl ⟨?_,?_⟩
 · exact(Po rfl (AY rfl D5 .m2 (AU.id AP.fl.len AP.fl.one) rfl) rfl rfl Ar)
 refine An 3 rfl (by kernel_rfl) ?_
 refine AS (AK (AU.id AP.fl.len AP.fl.one) rfl rfl rfl Ka rfl (.t (.t (.t (.t .h))))) ?_
 refine BO rfl ⟨?_,?_⟩
 · exact(Pk Ar)
 refine Pf 4 rfl (A0 rfl) (Pf 5 rfl (A0 rfl) (Pf 6 rfl (A0 rfl) ?_))
 refine A4 (by kernel_rfl) ?_
 refine AB (.t4 4 5 6 7) ?_
 refine AA (Ab ?_)
 refine AZ rfl (.cell rfl .m4 (.inl ⟨(by rw [AP.fl.len];exact D5),rfl⟩) (.tmp rfl (.tmp rfl (.tmp rfl .n)))) ?_
 intro w1 hS;refine⟨?_,hS.Am⟩;rw [show X.Df u=_ from AX c1,hI11.done (by omega)];rfl
theorem Nf {t0:Nat}(l:BG)(qs:List Aq)(u:Aq)(hu:u.length≤9000000000000000000):FK Tryz.prog 63 #[.agg l.enc.toArray,BU u] [] (fun w=>Rd w l.queue t0 1 (qs.flatMap A7)) (fun v B=>(Bg.Bb l qs=false∧v = .tuple #[.agg l.enc.toArray, .int .i64 0, .int .i64 2]∧B = [])∨(Bg.Bb l qs=true∧∃ h':Hd,v = .tuple #[.agg (BG.enc ⟨(Bg.feed (Bg.start l qs) u).now,(Bg.feed (Bg.start l qs) u).Cq,(Bg.feed (Bg.start l qs) u).ret,h'⟩).toArray, .int .i64 (Bg.feed (Bg.start l qs) u).lost, .int .i64 0]∧h'.len=(Bg.feed (Bg.start l qs) u).queue.length∧B = [Ac.own h' 9 1 ((Bg.feed (Bg.start l qs) u).queue.flatMap A7)])):=by
 intro w hS0 hH
 have r0:=hH
 have hl0:=r0.Mw DZ (by decide)
 refine Ak _ _ Tryz.func63 rfl rfl rfl (hS0) ?_
 refine Gs ?_
 refine B5 rfl rfl rfl (fun b1=>?_)
 refine BD rfl YY rfl (fun b2=>?_)
 refine Ga rfl (Ga rfl (Gn (.t3 1 2 4) (CB (Gt (AY rfl Hu .m1 (AU.id BG.fl.len BG.fl.one) rfl) ?_))))
 refine BA rfl ah (.c rfl .n) (fun w hS=>Ja _ _ w ((Kn.I0 r0) w hS)) ?_
 refine Gt (BQ rfl) (Gn (.t4 1 2 4 14) ?_)
 refine Gc (fun c1=>?_) (fun c1=>?_)
 ·
  refine Gs (Gt (AY rfl Hu .m1 (AU.id BG.fl.len BG.fl.one) rfl) ?_)
  refine AS (AK (AU.id BG.fl.len BG.fl.one) rfl rfl rfl MS rfl .h) ?_
  refine Ga rfl (Ga rfl (Gn (.t3 4 5 6) (Ab (AD ?_))))
  refine AZ rfl (.cell rfl .m0 (.inl ⟨(by rw [BG.fl.len];exact Hu),rfl⟩) (.tmp rfl (.tmp rfl .n))) ?_
  intro w1 hS
  have hS:=(hS.perm (Ax.perm .n)).A1
  exact⟨_, .inl ⟨by simpa using c1,rfl,rfl⟩,hS⟩
 have c1p:=kz c1
 have hgd:Bg.Bb l qs=true:=by simpa using c1
 have hh:=Bg.Vy hgd
 have hq6:qs.length≤17592186044416:=by omega
 refine Aa ?_
 refine AB (.t3 1 2 4) ?_
 refine AA (Gs (Gt (Ah FN rfl) (Gt (AG rfl FW .m1 BG.l3 rfl rfl) ?_)))
 refine BF rfl Ut (.c rfl .n) .n (Bv _ _ (by first | assumption | omega)) (fun w hS=>(Kn.I0 r0) w hS) (fun v1 B hv=>?_)
 obtain⟨y2,rfl,y3,rfl⟩:=hv
 refine Gt (Ah FN rfl) ?_
 refine AS (AK BG.l3 rfl rfl rfl MO rfl (.t (.t .h))) ?_
 refine Gn (.t3 1 2 4) (Gs (Ga rfl (AR (AA (Gs (Gt (Ah JZ rfl) (Gt (AG rfl CP .m2 BG.l0 rfl rfl) ?_)))))))
 refine O2 rfl Tryz.underlying9 Tryz.underlying105 Tryz.underlying5 rfl (fun h5 h5l=>?_)
 refine Ga rfl (Gn (.t5 1 2 4 7 8) (CB (Gm rfl (Gt (BH rfl Tryz.underlying9 rfl) (Gm rfl (Gn (.t7 1 2 4 7 8 24 25) (Ae ?_)))))))
 refine Bo (.t7 7 8 25 1 2 4 24) ?_
 refine Bh (.t (.t (.t .h))) ?_
 refine Bh (.t (.t .h)) ?_
 refine Bh (.t (.t .h)) ?_
 refine Rx (fun(k:Int) (now:Aq) (Cq:Bool) (ret:Bool) (queue:List Aq) (lost:Int) (h:Hd) (g:Hd)=>Bg.I (Bg.start l qs) u k ⟨now,Cq,ret,queue,lost⟩∧h.len=now.length∧g.len=queue.length) (fun(k:Int) (now:Aq) (Cq:Bool) (ret:Bool) (queue:List Aq) (lost:Int) (h:Hd) (g:Hd)=>((u.length:Int) - k).toNat) (fun(k:Int) (now:Aq) (Cq:Bool) (ret:Bool) (queue:List Aq) (lost:Int) (h:Hd) (g:Hd)=> [(7, .int .i64 lost),(8,h.val),(25, .int .i64 k)]) (fun(k:Int) (now:Aq) (Cq:Bool) (ret:Bool) (queue:List Aq) (lost:Int) (h:Hd) (g:Hd)=> [Ac.own h 5 1 (now.flatMap DR),Ac.own g 9 1 (queue.flatMap A7),Ac.box b1 75 (BG.enc ⟨l.now,Cq,ret,g⟩)]) (0) (l.now) (l.Cq) (l.ret) (qs) (0) (_) (_) ?_ rfl rfl (fun k now Cq ret queue lost h g hI1=>?_)
 · exact⟨Bg.I.start hh.1 (show qs.length≤6 by omega) rfl,by assumption,by assumption⟩
 obtain⟨hI11,hl,hg⟩:=hI1;have hk0:=hI11.k0;have hk1:=hI11.k1;have hn:now.length≤60:=hI11.now;have hq:queue.length≤6:=hI11.queue;have hlo:0≤lost∧lost≤k:=hI11.lost
 refine Gs (Gt (A8 rfl rfl) (AR (AA (Ap ?_))))
 refine Gc (fun c2=>?_) (fun c2=>?_)
 ·
  have c2p:=kz c2
  refine Aa ?_
  refine AB (.t7 1 2 4 7 8 24 25) ?_
  refine AA (Ap (Ae (Gs (Gm rfl (Ga rfl (Gn (.t8 1 2 4 7 8 9 24 25) (Gs ?_)))))))
  refine Gm rfl (Gm rfl ?_)
  refine Gt (Bm Tryz.underlying9 rfl rfl (by omega) (by omega)) ?_
  refine Ga rfl (Gn (.t8 1 2 4 7 8 10 24 25) (Gs (Gt (Ah NU rfl) (Gt (AG rfl DN .m2 BG.l2 rfl rfl) (Ga rfl (Gn (.t9 1 2 4 7 8 10 11 24 25) (Gs ?_)))))))
  refine Gt (Ah NU rfl) ?_
  refine AS (AK BG.l2 rfl rfl rfl J8 rfl (.t (.t .h))) ?_
  refine Gn (.t9 1 2 4 7 8 10 11 24 25) (Ae (Gs (Gm rfl (Gm rfl (Bl 40 rfl rfl (fun q=>AE rfl) (Bl 40 rfl rfl (fun q=>Aj (Bf rfl q) rfl) (Bl 40 rfl rfl (fun q=>AE (Bf rfl q)) ?_)))))))
  refine C3 (t:=43) rfl rfl rfl (fun qc q=>AE rfl) ?_
  refine C3 (t:=43) rfl rfl rfl (fun qc q=>Aj (Bf rfl (by rw [qc,q];rfl)) rfl) ?_
  refine Bl 40 rfl rfl (fun q=>BS (Bf rfl q) rfl (fun h=>by rw [q,h];rfl)) ?_
  refine Gt (BJ rfl rfl (fun h=>h)) (Ga rfl (Gn (.t9 1 2 4 7 8 10 24 25 38) ?_))
  refine Gc (fun c3=>?_) (fun c3=>?_)
  ·
   have c3p:=kz c3
   refine Aa ?_
   refine AB (.t7 1 2 4 7 8 24 25) ?_
   refine AV (AV (AA (AJ ?_)))
   refine Gt (Aw rfl rfl (IntWalk.i64_in _ (by omega))) ?_
   refine Gm rfl ?_
   refine AR (AB (.t7 1 2 4 7 8 24 25) ?_)
   refine CS (k+1) _ _ _ _ _ _ _ ?_ ?_ (.t7 7 8 25 1 2 4 24) (.refl _)
   · exact⟨hI11.next (by omega) (by simp only [Bg.step,hl,c1,c2,c3,↓reduceIte,Bool.false_eq_true]),(by(try dsimp only at *)<;>(try simp only [List.length_append,List.length_take,List.length_cons,List.length_nil])<;>omega),(by(try dsimp only at *)<;>(try simp only [List.length_append,List.length_cons,List.length_nil])<;>omega)⟩
   · omega
  have c3p:=kz c3
  refine Gs (Gm rfl (Gt (Aj rfl rfl) (Gm rfl (BZ 51 rfl rfl (fun q=>AE rfl) (BZ 51 rfl rfl (fun q=>Aj (cF rfl q) rfl) ?_)))))
  refine Gt (BS rfl rfl (fun h=>by rw [h];rfl)) ?_
  refine Ga rfl (Gn (.t9 1 2 4 7 8 10 24 25 48) ?_)
  refine Gc (fun c4=>?_) (fun c4=>?_)
  ·
   have c4p:=kz c4
   refine CB (Gt (Ah FN rfl) (Gt (AG rfl FW .m2 BG.l3 rfl rfl) (Gt (Av rfl Tryz.underlying52 rfl) (Gt (A8 rfl rfl) (Gn (.t9 1 2 4 7 8 10 24 25 58) ?_)))))
   refine Gc (fun c5=>?_) (fun c5=>?_)
   ·
    have c5p:=kz c5
    rw [hg] at c5
    refine AJ (Gt (Ah FN rfl) (Gt (AG rfl FW .m2 BG.l3 rfl rfl) (Gm rfl (Gt (KH Tryz.underlying105 Tryz.underlying9 Tryz.underlying5 rfl (Kn.own .m0)) ?_))))
    refine Fv A7 DZ rfl Tryz.underlying52 Em RX rfl (by decide) (by decide) rfl rfl (fun b3=>?_)
    refine Cd DZ rfl Tryz.underlying52 Em RX rfl Ws (by decide) (by decide) rfl rfl (fun w hS=>Src.Dz Tryz.underlying52 ((Kn.own .m0) w hS)) (by(try dsimp only);omega) (fun _=>(.t (.t .h))) (fun h6 h6l h6z=>?_)
    refine Gt (Ah FN rfl) ?_
    refine AS (AK BG.l3 rfl rfl rfl MO rfl (.t (.t (.t .h)))) ?_
    refine Gn (.t7 1 2 4 7 10 24 25) (AJ (Gm rfl (Gt (Aj rfl rfl) (Ga rfl (Gt (Ah NZ rfl) ?_)))))
    refine AS (AK BG.l1 rfl rfl rfl J8 rfl (.t (.t (.t .h)))) ?_
    refine Gt (Ah NU rfl) ?_
    refine AS (AK BG.l2 rfl rfl rfl J8 rfl (.t (.t (.t .h)))) ?_
    refine AR (AB (.t7 1 2 4 7 8 24 25) ?_)
    refine AV (AV (AA (AJ ?_)))
    refine Gt (Aw rfl rfl (IntWalk.i64_in _ (by omega))) ?_
    refine Gm rfl ?_
    refine AR (AB (.t7 1 2 4 7 8 24 25) ?_)
    refine Un DR 5 1 ?_
    refine CJ (.c .h (.c (.t (.t .h)) (.c (.t (.t .h)) (.c (.t (.t .h)) .n)))) ?_
    refine Cc ?_
    refine CS (k+1) _ _ _ _ _ _ _ ?_ ?_ (.t7 7 8 25 1 2 4 24) (.refl _)
    · exact⟨hI11.next (by omega) (by simp only [Bg.step,hl,c1,c2,c3,c4,c5,↓reduceIte,Bool.false_eq_true]),(by(try dsimp only at *)<;>(try simp only [List.length_append,List.length_take,List.length_cons,List.length_nil])<;>omega),(by(try dsimp only at *)<;>(try simp only [List.length_append,List.length_cons,List.length_nil])<;>omega)⟩
    · omega
   have c5p:=kz c5
   rw [hg] at c5
   refine AJ (Gm rfl ?_)
   refine Gt (Aw rfl rfl (IntWalk.i64_in _ (by omega))) ?_
   refine Ga rfl (Gn (.t7 1 2 4 7 10 24 25) (AJ (Gm rfl (Gt (Aj rfl rfl) (Ga rfl (Gt (Ah NZ rfl) ?_))))))
   refine AS (AK BG.l1 rfl rfl rfl J8 rfl (.t (.t .h))) ?_
   refine Gt (Ah NU rfl) ?_
   refine AS (AK BG.l2 rfl rfl rfl J8 rfl (.t (.t .h))) ?_
   refine AR (AB (.t7 1 2 4 7 8 24 25) ?_)
   refine AV (AV (AA (AJ ?_)))
   refine Gt (Aw rfl rfl (IntWalk.i64_in _ (by omega))) ?_
   refine Gm rfl ?_
   refine AR (AB (.t7 1 2 4 7 8 24 25) ?_)
   refine Un DR 5 1 ?_
   refine CJ (.c .h (.c (.t .h) (.c (.t .h) (.c (.t .h) .n)))) ?_
   refine Cc ?_
   refine CS (k+1) _ _ _ _ _ _ _ ?_ ?_ (.t7 7 8 25 1 2 4 24) (.refl _)
   · exact⟨hI11.next (by omega) (by simp only [Bg.step,hl,c1,c2,c3,c4,c5,↓reduceIte,Bool.false_eq_true]),(by(try dsimp only at *)<;>(try simp only [List.length_append,List.length_take,List.length_cons,List.length_nil])<;>omega),(by(try dsimp only at *)<;>(try simp only [List.length_append,List.length_cons,List.length_nil])<;>omega)⟩
   · omega
  have c4p:=kz c4
  refine Gs (Gm rfl (Gt (Aj rfl rfl) (Gm rfl (BZ 75 rfl rfl (fun q=>AE rfl) (BZ 75 rfl rfl (fun q=>Aj (cF rfl q) rfl) ?_)))))
  refine Gt (BS rfl rfl (fun h=>by rw [h];rfl)) ?_
  refine Ga rfl (Gn (.t9 1 2 4 7 8 10 24 25 72) ?_)
  refine Gc (fun c6=>?_) (fun c6=>?_)
  ·
   have c6p:=kz c6
   refine Gs (Gm rfl (Gt (Av rfl Tryz.underlying105 rfl) (Gt (Ck rfl rfl) (Gn (.t8 1 2 4 7 8 24 25 81) ?_))))
   refine Gc (fun c7=>?_) (fun c7=>?_)
   ·
    have c7p:=kz c7
    rw [hl] at c7
    refine AJ (Gm rfl (Gm rfl (Gt (Av rfl Tryz.underlying105 rfl) ?_)))
    refine Gt (FR rfl rfl (IntWalk.i64_in _ (by omega))) ?_
    refine KQ WA rfl Tryz.underlying105 Vt rfl rfl (by omega) (by omega) (fun _=> .h) ?_
    refine Ga rfl ?_
    refine AR (AB (.t7 1 2 4 7 8 24 25) ?_)
    refine AV (AV (AA (AJ ?_)))
    refine Gt (Aw rfl rfl (IntWalk.i64_in _ (by omega))) ?_
    refine Gm rfl ?_
    refine AR (AB (.t7 1 2 4 7 8 24 25) ?_)
    refine CS (k+1) _ _ _ _ _ _ _ ?_ ?_ (.t7 7 8 25 1 2 4 24) (.refl _)
    · exact⟨hI11.next (by omega) (by simp only [Bg.step,hl,c1,c2,c3,c4,c6,c7,↓reduceIte,Bool.false_eq_true]),(by(try dsimp only at *)<;>(try simp only [List.length_append,List.length_take,List.length_cons,List.length_nil])<;>omega),(by(try dsimp only at *)<;>(try simp only [List.length_append,List.length_cons,List.length_nil])<;>omega)⟩
    · omega
   have c7p:=kz c7
   rw [hl] at c7
   refine Aa ?_
   refine AB (.t7 1 2 4 7 8 24 25) ?_
   refine AV (AV (AA (AJ ?_)))
   refine Gt (Aw rfl rfl (IntWalk.i64_in _ (by omega))) ?_
   refine Gm rfl ?_
   refine AR (AB (.t7 1 2 4 7 8 24 25) ?_)
   refine CS (k+1) _ _ _ _ _ _ _ ?_ ?_ (.t7 7 8 25 1 2 4 24) (.refl _)
   · exact⟨hI11.next (by omega) (by simp only [Bg.step,hl,c1,c2,c3,c4,c6,c7,↓reduceIte,Bool.false_eq_true]),(by(try dsimp only at *)<;>(try simp only [List.length_append,List.length_take,List.length_cons,List.length_nil])<;>omega),(by(try dsimp only at *)<;>(try simp only [List.length_append,List.length_cons,List.length_nil])<;>omega)⟩
   · omega
  have c6p:=kz c6
  refine Gs (Gm rfl ?_)
  refine BA rfl Zs (.c rfl .n) (fun w hS=>Gv _ w) ?_
  refine Gt (BQ rfl) (Ga rfl (Gn (.t9 1 2 4 7 8 10 24 25 87) ?_))
  refine Gc (fun c8=>?_) (fun c8=>?_)
  ·
   have c8p:=kz c8
   refine Aa ?_
   refine AB (.t7 1 2 4 7 8 24 25) ?_
   refine AV (AV (AA (AJ ?_)))
   refine Gt (Aw rfl rfl (IntWalk.i64_in _ (by omega))) ?_
   refine Gm rfl ?_
   refine AR (AB (.t7 1 2 4 7 8 24 25) ?_)
   refine CS (k+1) _ _ _ _ _ _ _ ?_ ?_ (.t7 7 8 25 1 2 4 24) (.refl _)
   · exact⟨hI11.next (by omega) (by simp only [Bg.step,hl,c1,c2,c3,c4,c6,c8,↓reduceIte,Bool.false_eq_true]),(by(try dsimp only at *)<;>(try simp only [List.length_append,List.length_take,List.length_cons,List.length_nil])<;>omega),(by(try dsimp only at *)<;>(try simp only [List.length_append,List.length_cons,List.length_nil])<;>omega)⟩
   · omega
  have c8p:=kz c8
  refine Gs (Gm rfl (Gt (Av rfl Tryz.underlying105 rfl) (Gt (CI rfl rfl) (Ga rfl (Gn (.t9 1 2 4 7 8 10 24 25 91) ?_)))))
  refine Gc (fun c9=>?_) (fun c9=>?_)
  ·
   have c9p:=kz c9
   rw [hl] at c9
   refine AJ (Gt (Ah NZ rfl) ?_)
   refine AS (AK BG.l1 rfl rfl rfl J8 rfl (.t (.t .h))) ?_
   refine AR (AB (.t7 1 2 4 7 8 24 25) ?_)
   refine AV (AV (AA (AJ ?_)))
   refine Gt (Aw rfl rfl (IntWalk.i64_in _ (by omega))) ?_
   refine Gm rfl ?_
   refine AR (AB (.t7 1 2 4 7 8 24 25) ?_)
   refine CS (k+1) _ _ _ _ _ _ _ ?_ ?_ (.t7 7 8 25 1 2 4 24) (.refl _)
   · exact⟨hI11.next (by omega) (by simp only [Bg.step,hl,c1,c2,c3,c4,c6,c8,c9,↓reduceIte,Bool.false_eq_true]),(by(try dsimp only at *)<;>(try simp only [List.length_append,List.length_take,List.length_cons,List.length_nil])<;>omega),(by(try dsimp only at *)<;>(try simp only [List.length_append,List.length_cons,List.length_nil])<;>omega)⟩
   · omega
  have c9p:=kz c9
  rw [hl] at c9
  refine AJ (Gm rfl (Gm rfl ?_))
  refine Fv DR WA rfl Tryz.underlying105 Vt Z2 rfl (by decide) (by decide) rfl rfl (fun b4=>?_)
  refine Cd WA rfl Tryz.underlying105 Vt Z2 rfl dZ (by decide) (by decide) rfl rfl (fun w hS=>Src.Dz Tryz.underlying105 ((Kn.own .m0) w hS)) (by(try dsimp only);omega) (fun _=>(.t .h)) (fun h9 h9l h9z=>?_)
  refine Ga rfl ?_
  refine AR (AB (.t7 1 2 4 7 8 24 25) ?_)
  refine AV (AV (AA (AJ ?_)))
  refine Gt (Aw rfl rfl (IntWalk.i64_in _ (by omega))) ?_
  refine Gm rfl ?_
  refine AR (AB (.t7 1 2 4 7 8 24 25) ?_)
  refine CS (k+1) _ _ _ _ _ _ _ ?_ ?_ (.t7 7 8 25 1 2 4 24) (.cons _ (.refl _))
  · exact⟨hI11.next (by omega) (by simp only [Bg.step,hl,c1,c2,c3,c4,c6,c8,c9,↓reduceIte,Bool.false_eq_true]),(by(try dsimp only at *)<;>(try simp only [List.length_append,List.length_take,List.length_cons,List.length_nil])<;>omega),(by(try dsimp only at *)<;>(try simp only [List.length_append,List.length_cons,List.length_nil])<;>omega)⟩
  · omega
 have c2p:=kz c2
 refine Ba (AW (AW (Af ?_)))
 refine AB (.t4 2 4 7 8) ?_
 refine AA (Gs (Gm rfl (Gt (KH Tryz.underlying105 Tryz.underlying9 Tryz.underlying5 rfl (Kn.own .m0)) (Gt (Ah JZ rfl) ?_))))
 refine AS (AK BG.l0 rfl rfl rfl Em rfl (.t (.t .h))) ?_
 refine Gn (.t3 2 4 7) (Gs (Gt (AY rfl Hu .m2 (AU.id BG.fl.len BG.fl.one) rfl) (Gm rfl ?_)))
 refine AS (AK (AU.id BG.fl.len BG.fl.one) rfl rfl rfl MS rfl (.t (.t (.t .h)))) ?_
 refine Ga rfl (Ga rfl (Gn (.t3 4 5 6) (Ab ?_)))
 refine AZ rfl (.cell rfl .m3 (.inl ⟨(by rw [BG.fl.len];exact Hu),rfl⟩) (.tmp rfl (.tmp rfl .n))) ?_
 intro w1 hS
 have hS:=(hS.perm (Ax.perm (.c (.t .h) .n))).A1
 have e:=hI11.done (by omega)
 exact⟨_, .inr ⟨hgd,_,by rw [e];rfl,by rw [e];exact hg,by rw [e]⟩,hS⟩
theorem M6 (p:As)(n:Int)(w:World):Eh Tryz.prog 66 #[.agg p.enc.toArray, .int .i64 n] w fun v w'=>v = .tuple #[.agg (As.enc ⟨p.wait,p.shown,p.B6,p.ring.drop (max 0 (min n (p.ring.length:Int))).toNat,p.cut⟩).toArray,BU (p.ring.take (max 0 (min n (p.ring.length:Int))).toNat)]∧CA w w':=by
 refine Ak [] [] Tryz.func66 rfl rfl rfl (St.start w []) ?_
 refine Gs ?_
 refine B5 rfl rfl rfl (fun b1=>?_)
 refine BD rfl Tl rfl (fun b2=>?_)
 refine Ga rfl (Gn (.t3 1 2 4) (Gs (Gm rfl (Gt (Ah Js rfl) (Gt (AG rfl CP .m1 As.l3 rfl rfl) (Gt (BH rfl Tryz.underlying9 rfl) (Gt (L5 rfl rfl) ?_)))))))
 refine Gt (Li rfl rfl) (Ga rfl (Gn (.t3 1 2 4) (Gs (Gt (Ah Js rfl) (Gt (AG rfl CP .m1 As.l3 rfl rfl) (Gm rfl ?_))))))
 refine Gt (IW Tryz.underlying9 rfl rfl (by omega) (by omega)) ?_
 refine Ga rfl (Gn (.t4 1 2 4 6) (Gs (Gt (Ah Js rfl) (Gt (AG rfl CP .m1 As.l3 rfl rfl) (Gm rfl ?_)))))
 refine Gt (Gg Tryz.underlying9 rfl rfl (by omega) (by omega)) ?_
 refine Gt (Ah Js rfl) ?_
 refine AS (AK As.l3 rfl rfl rfl Em rfl (.t .h)) ?_
 refine Gn (.t3 2 4 6) (Gs (Gt (AY rfl Cr .m1 (AU.id As.fl.len As.fl.one) rfl) (Gm rfl ?_)))
 refine AS (AK (AU.id As.fl.len As.fl.one) rfl rfl rfl FO rfl .h) ?_
 refine Ga rfl (Gn (.t2 4 5) (Ab ?_))
 refine AZ rfl (.cell rfl .m0 (.inl ⟨(by rw [As.fl.len];exact Cr),rfl⟩) (.tmp rfl .n)) ?_
 intro w1 hS;refine⟨?_,hS.Am⟩;rfl
theorem JC (b:Nat)(V:AL)(ls:Vector BI 4)(ev:List Ing.Event)(a:B0)(hL:AI.Live (A3 V ls ev))(hu:a.bytes.length≤140737488351232):FK Tryz.prog 38 #[.pointer (some ⟨b,0,none⟩), .agg a.enc.toArray] [Ac.box b 101 (AL.enc V),Ac.Dv (CG 9 (AL.Ao V) ls),Ac.own (AL.last V) 56 16 ((ev).flatMap Ing.Event.enc)] (fun w=>(GV 2 Fo w∧2 ∉ Cf [Ac.box b 101 (AL.enc V),Ac.Dv (CG 9 (AL.Ao V) ls),Ac.own (AL.last V) 56 16 ((ev).flatMap Ing.Event.enc)])∧(GV 0 AH.DG w∧0 ∉ Cf [Ac.box b 101 (AL.enc V),Ac.Dv (CG 9 (AL.Ao V) ls),Ac.own (AL.last V) 56 16 ((ev).flatMap Ing.Event.enc)])∧(Gu 7 w∧7 ∉ Cf [Ac.box b 101 (AL.enc V),Ac.Dv (CG 9 (AL.Ao V) ls),Ac.own (AL.last V) 56 16 ((ev).flatMap Ing.Event.enc)])∧(Gu 8 w∧8 ∉ Cf [Ac.box b 101 (AL.enc V),Ac.Dv (CG 9 (AL.Ao V) ls),Ac.own (AL.last V) 56 16 ((ev).flatMap Ing.Event.enc)])) (fun v B=>∃ V' ls' ev',v = .agg (Bn.enc (AI.act (A3 V ls ev) a).2).toArray∧A3 V' ls' ev'=(AI.act (A3 V ls ev) a).1∧B = [Ac.box b 101 (AL.enc V'),Ac.Dv (CG 9 (AL.Ao V') ls'),Ac.own (AL.last V') 56 16 ((ev').flatMap Ing.Event.enc)]):=by
 intro w hS0 hH
 obtain⟨⟨gl0,gm0⟩,⟨gl1,gm1⟩,⟨gl2,gm2⟩,⟨gl3,gm3⟩⟩:=hH
 obtain⟨n,m,hF⟩:=hL.fits
 have hc:0≤V.CW:=hL.CW
 refine Ak _ _ Tryz.func38 rfl rfl rfl (hS0) ?_
 refine Gs ?_
 refine B5 rfl rfl rfl (fun b1=>?_)
 refine BD rfl KU rfl (fun b2=>?_)
 refine Gn (.t3 0 3 4) (Ap (Ae (Gs (Gm rfl (Gt (EM Tryz.underlying37 rfl) (Ga rfl (Gn (.t4 0 3 4 11) ?_)))))))
 refine DD rfl rfl ?_
 refine Gs (Gm rfl (Gt (BV rfl) (Gt (Ah Qr rfl) (Gt (AG rfl A5 .m2 AL.l2 rfl rfl) (Gt (CI rfl rfl) (Ga rfl (Gn (.t4 0 3 4 15) ?_)))))))
 refine Gc (fun c1=>?_) (fun c1=>?_)
 ·
  refine Gs (Gt (BC M0 KU rfl (.cons Bn.l0 rfl rfl rfl .nil)) ?_)
  refine AS (AK (AU.id Bn.fl.len Bn.fl.one) rfl rfl rfl KV rfl .h) ?_
  refine Gn (.t1 4) (Ab (AT (AD ?_)))
  refine AZ rfl (.cell rfl .m0 (.inl ⟨(by rw [Bn.fl.len];exact IP),rfl⟩) .n) ?_
  intro w1 hS
  have hS:=(hS.perm (Ax.perm (.c (.t (.t .h)) (.c (.t (.t .h)) (.c (.t (.t .h)) .n))))).A1
  have hq:(AI.act (A3 V ls ev) a)=((A3 V ls ev),⟨4,[]⟩):=BB c1
  refine⟨_,⟨V,ls,ev,?gv1,?ga1,rfl⟩,hS⟩
  case gv1=>rw [hq];rfl
  case ga1=>rw [hq]
 have c1p:=kz c1
 refine Aa ?_
 refine AB (.t3 0 3 4) ?_
 refine AV (AA (Gs (Gm rfl (Gt (BV rfl) (Gt (Ah Qr rfl) (Gt (AG rfl A5 .m2 AL.l2 rfl rfl) ?_))))))
 refine Gt (Aw rfl rfl (IntWalk.i64_in _ (by first | omega | exact hi.1 | exact hi.2 | exact hs.1 | exact hs.2))) ?_
 refine Gt (BV rfl) (Gt (Ah Qr rfl) ?_)
 refine AS (AK AL.l2 rfl rfl rfl DB rfl (.t (.t .h))) ?_
 refine Gn (.t3 0 3 4) (Gs (Gm rfl (Gt (BV rfl) (Gt (Ah Qq rfl) ?_))))
 refine AS (AK (Y:=⟨none,0,0⟩) AL.l3 rfl rfl rfl SX rfl (.t (.t .h))) ?_
 refine Gn (.t3 0 3 4) (Ap (Ap ?_))
 refine E0 Ing.Event.enc 56 16 ?_
 refine EJ (.c (.t (.t (.t .h))) (.c (.t (.t (.t .h))) (.c .h .n))) ?_
 refine AJ (Gm rfl (AR (AA (Ae ?_))))
 refine Bo (.t4 32 0 3 4) ?_
 refine Bh (.t (.t .h)) ?_
 refine Bh (.t (.t .h)) ?_
 refine Bh (.t (.t .h)) ?_
 refine HS (fun(i:Int) (V1:AL) (ls1:Vector BI 4) (ev1:List Ing.Event)=>0≤i∧i≤4∧(A3 V1 ls1 ev1)=AI.Ec ({ (A3 V ls ev) with CW:=((A3 V ls ev)).CW+1,last:= [] }:AI) i.toNat) (fun(i:Int) (V1:AL) (ls1:Vector BI 4) (ev1:List Ing.Event)=>(4 - i).toNat) (fun(i:Int) (V1:AL) (ls1:Vector BI 4) (ev1:List Ing.Event)=> [(32, .int .i64 i)]) (fun(i:Int) (V1:AL) (ls1:Vector BI 4) (ev1:List Ing.Event)=> [Ac.box b 101 (AL.enc V1),Ac.Dv (CG 9 (AL.Ao V1) ls1),Ac.own (AL.last V1) 56 16 (ev1.flatMap Ing.Event.enc)]) (0) (_) (ls) ([]) ?_ rfl rfl (fun i V1 ls1 ev1 hI1=>?_)
 · exact⟨by omega,by omega,rfl⟩
 obtain⟨hI11,hI12,hI13⟩:=hI1
 refine Gs (Gt (A8 rfl rfl) (AR (AA (Ap ?_))))
 refine Gc (fun c2=>?_) (fun c2=>?_)
 ·
  have c2p:=kz c2
  have hi:0≤i∧i < 4:=⟨by omega,by omega⟩
  refine Aa ?_
  refine AB (.t4 0 3 4 32) ?_
  refine AA (Ap (Ae (Gs (Gm rfl (Ga rfl (Gn (.t5 0 3 4 5 32) ?_))))))
  refine E4 (k:=i) hi.1 hi.2 (fun sv sl hsv hlv hln=>?_)
  refine AJ (Gm rfl (Gm rfl (Gt (BV rfl) (Gt (Ah Ft rfl) ?_))))
  refine Gt (AQ NX rfl rfl (by first | omega | exact hi.1 | exact hi.2 | exact hs.1 | exact hs.2) (by first | omega | exact hi.1 | exact hi.2 | exact hs.1 | exact hs.2)) ?_
  refine Gt (Ah Qf rfl) ?_
  refine AS (AK (Y:=⟨none,0,0⟩) ((AU.BL V1 hi.1 hi.2).comp A2.l5) rfl rfl rfl MO rfl (.t (.t (.t .h)))) ?_
  refine AR (AB (.t4 0 3 4 32) ?_)
  refine AV (AA ?_)
  refine E0 A7 9 1 ?_
  refine EJ (.c (.t .h) (.c (.t .h) (.c .h (.c (.t .h) (.c (.t .h) .n))))) ?_
  refine HA hi.1 hi.2 (by rfl) (by rfl) (by rfl) ?_
  refine AJ ?_
  refine Gt (Aw rfl rfl (IntWalk.i64_in _ (by first | omega | exact hi.1 | exact hi.2 | exact hs.1 | exact hs.2))) ?_
  refine Gm rfl ?_
  refine AR (AB (.t4 0 3 4 32) ?_)
  refine CJ (.c .h (.c .h (.c (.t .h) (.c (.t .h) (.c (.t .h) (.c (.t .h) .n)))))) ?_
  refine Cc ?_
  refine Cy (i+1) _ _ _ ?_ ?_ (.t4 32 0 3 4) (.refl _)
  · exact⟨by omega,by omega,(Ek hi.1 hi.2 hsv hlv (f:=fun x=>{ x with told:= [] }) rfl).trans (by rw [hI13];exact(AI.RL hI11).symm)⟩
  · omega
 have c2p:=kz c2
 obtain rfl:i=4:=by omega
 have hX:(A3 V1 ls1 ev1)=(AI.begun (A3 V ls ev)):=hI13
 have hF0:AI.Fit (A3 V1 ls1 ev1) 0 0:=by rw [hX];exact hF.begun
 refine Ba (AW (AW (Af ?_)))
 refine AB (.t3 0 3 4) ?_
 refine AA (CB (Gt (Ah Na rfl) (Gt (AG rfl A5 .m4 B0.l0 rfl rfl) (Gt (Aj rfl rfl) (Gn (.t4 0 3 4 44) ?_)))))
 refine Gc (fun c3=>?_) (fun c3=>?_)
 ·
  have c3p:=kz c3
  refine Gs (Gm rfl (Gt (Ah X0 rfl) (Gt (AG rfl A5 .m4 B0.l2 rfl rfl) ?_)))
  refine BF rfl cx (.c rfl (.c rfl .n)) (.c .h (.c .h (.c .h .n))) (PF _ V1 ls1 ev1 a.n 0 0 hF0 (by omega) (by omega)) (fun w hS=>⟨gl0.pull gm0 hS (.c .h (.c .h (.c .h .n))),gl1.pull gm1 hS (.c .h (.c .h (.c .h .n))),gl2.pull gm2 hS (.c .h (.c .h (.c .h .n))),gl3.pull gm3 hS (.c .h (.c .h (.c .h .n)))⟩) (fun v2 B hv=>?_)
  obtain⟨y3,y4,y5,rfl,y6,rfl⟩:=hv
  refine Gn (.t1 4) (Gs (Gt (BC M0 KU rfl .nil) ?_))
  refine AS (AK (AU.id Bn.fl.len Bn.fl.one) rfl rfl rfl KV rfl (.t (.t (.t .h)))) ?_
  refine Gn (.t1 4) (Ab (AD ?_))
  refine AZ rfl (.cell rfl .m3 (.inl ⟨(by rw [Bn.fl.len];exact IP),rfl⟩) .n) ?_
  intro w1 hS
  have hS:=(hS.perm (Ax.perm (.c .h (.c .h (.c .h .n))))).A1
  have hq0:AI.Dy (A3 V1 ls1 ev1) a=_:=(BB c3)
  have hq:(AI.act (A3 V ls ev) a)=_:=(AI.G3 c1 a).trans ((congrArg (fun X=>AI.Dy X a) hX.symm).trans hq0)
  refine⟨_,⟨y3,y4,y5,?gv2,?ga2,rfl⟩,hS⟩
  case gv2=>rw [hq];rfl
  case ga2=>rw [hq];dsimp only;exact y6
 have c3p:=kz c3
 refine Aa ?_
 refine AB (.t3 0 3 4) ?_
 refine AA (CB (Gt (Ah Na rfl) (Gt (AG rfl A5 .m4 B0.l0 rfl rfl) (Gt (A8 rfl rfl) (Gm rfl (BZ 53 rfl rfl (fun q=>Ah Na rfl) (BZ 53 rfl rfl (fun q=>AG (cF rfl q) A5 .m4 B0.l0 rfl rfl) ?_)))))))
 refine BZ 53 rfl rfl (fun q=>Ck (cF rfl q) rfl) ?_
 refine Gt (BS rfl rfl (fun h=>by rw [h];rfl)) ?_
 refine Gn (.t4 0 3 4 57) ?_
 refine Gc (fun c4=>?_) (fun c4=>?_)
 ·
  refine Gs (Gt (BC M0 KU rfl (.cons Bn.l0 rfl rfl rfl .nil)) ?_)
  refine AS (AK (AU.id Bn.fl.len Bn.fl.one) rfl rfl rfl KV rfl (.t (.t (.t .h)))) ?_
  refine Gn (.t1 4) (Ab (AD ?_))
  refine AZ rfl (.cell rfl .m3 (.inl ⟨(by rw [Bn.fl.len];exact IP),rfl⟩) .n) ?_
  intro w1 hS
  have hS:=(hS.perm (Ax.perm (.c .h (.c .h (.c .h .n))))).A1
  have hq0:AI.Dy (A3 V1 ls1 ev1) a=_:=((AX c3).trans (BB c4))
  have hq:(AI.act (A3 V ls ev) a)=_:=(AI.G3 c1 a).trans ((congrArg (fun X=>AI.Dy X a) hX.symm).trans hq0)
  refine⟨_,⟨V1,ls1,ev1,?gv3,?ga3,rfl⟩,hS⟩
  case gv3=>rw [hq];rfl
  case ga3=>rw [hq]
 have c4p:=kz c4
 refine Aa ?_
 refine AB (.t3 0 3 4) ?_
 refine AA (CB (Gt (Ah Sj rfl) (Gt (AG rfl A5 .m4 B0.l1 rfl rfl) (Gt (A8 rfl rfl) (Gm rfl (BZ 62 rfl rfl (fun q=>Ah Sj rfl) (BZ 62 rfl rfl (fun q=>AG (cF rfl q) A5 .m4 B0.l1 rfl rfl) ?_)))))))
 refine BZ 62 rfl rfl (fun q=>CI (cF rfl q) rfl) ?_
 refine Gt (BS rfl rfl (fun h=>by rw [h];rfl)) ?_
 refine Gn (.t4 0 3 4 66) ?_
 refine Gc (fun c5=>?_) (fun c5=>?_)
 ·
  refine Gs (Gt (BC M0 KU rfl (.cons Bn.l0 rfl rfl rfl .nil)) ?_)
  refine AS (AK (AU.id Bn.fl.len Bn.fl.one) rfl rfl rfl KV rfl (.t (.t (.t .h)))) ?_
  refine Gn (.t1 4) (Ab (AD ?_))
  refine AZ rfl (.cell rfl .m3 (.inl ⟨(by rw [Bn.fl.len];exact IP),rfl⟩) .n) ?_
  intro w1 hS
  have hS:=(hS.perm (Ax.perm (.c .h (.c .h (.c .h .n))))).A1
  have hq0:AI.Dy (A3 V1 ls1 ev1) a=_:=((AX c3).trans ((AX c4).trans (BB c5)))
  have hq:(AI.act (A3 V ls ev) a)=_:=(AI.G3 c1 a).trans ((congrArg (fun X=>AI.Dy X a) hX.symm).trans hq0)
  refine⟨_,⟨V1,ls1,ev1,?gv4,?ga4,rfl⟩,hS⟩
  case gv4=>rw [hq];rfl
  case ga4=>rw [hq]
 have c5p:=kz c5
 have hs:0≤a.BL∧a.BL < 4:=⟨by omega,by omega⟩
 refine Aa ?_
 refine AB (.t3 0 3 4) ?_
 refine AA (Ap ?_)
 refine BE (N:=7) [0,0,2,1,9,31,63] mix (by kernel_rfl) rfl ?_
 refine Pf 0 rfl (AE rfl) (Pf 1 rfl (Ah Sj rfl) (Pf 2 rfl (AG rfl A5 .m4 B0.l1 rfl rfl) (Pf 3 rfl (BV rfl) (Pf 4 rfl (Ah Ft rfl) ?_))))
 refine Pf 5 rfl (AQ NX rfl rfl (by first | omega | exact hi.1 | exact hi.2 | exact hs.1 | exact hs.2) (by first | omega | exact hi.1 | exact hi.2 | exact hs.1 | exact hs.2)) ?_
 refine Pf 6 rfl (A0 rfl) ?_
 refine A4 (by kernel_rfl) ?_
 refine AB (.t4 0 3 4 6) ?_
 refine AA (Ap (Ap ?_))
 refine BE (N:=9) [0,1,3,7,15,0,32,96,255] mix (by kernel_rfl) rfl ?_
 refine Pf 0 rfl (AE rfl) (Pf 1 rfl (BV rfl) (Pf 2 rfl (Ah JK rfl) ?_))
 refine Pf 3 rfl (AG rfl A5 .m0 ((AL.l1.comp (AU.ar (n:=4) A2.fl (by first | omega | exact hi | exact hs))).comp A2.l0) rfl rfl) ?_
 refine Pf 4 rfl (Aj rfl rfl) (Pf 5 rfl (Ah Na rfl) (Pf 6 rfl (AG rfl A5 .m4 B0.l0 rfl rfl) (Pf 7 rfl (Aj rfl rfl) (Pf 8 rfl (Jw Tryz.underlying4 rfl rfl) ?_))))
 refine A4 (by kernel_rfl) ?_
 refine AB (.t5 0 3 4 6 82) ?_
 refine AA ?_
 refine Gc (fun c6=>?_) (fun c6=>?_)
 ·
  refine Gs (Gt (BC M0 KU rfl (.cons Bn.l0 rfl rfl rfl .nil)) ?_)
  refine AS (AK (AU.id Bn.fl.len Bn.fl.one) rfl rfl rfl KV rfl (.t (.t (.t .h)))) ?_
  refine Gn (.t1 4) (Ab (AD ?_))
  refine AZ rfl (.cell rfl .m3 (.inl ⟨(by rw [Bn.fl.len];exact IP),rfl⟩) .n) ?_
  intro w1 hS
  have hS:=(hS.perm (Ax.perm (.c .h (.c .h (.c .h .n))))).A1
  have hq0:AI.Dy (A3 V1 ls1 ev1) a=_:=((AX c3).trans ((AX c4).trans ((AX c5).trans (BB (show(decide ((AI.at_ (A3 V1 ls1 ev1) a.BL).state=0) != decide (a.kind=1))=true by rw [Gq V1 ls1 ev1 hs.1 hs.2];exact c6)))))
  have hq:(AI.act (A3 V ls ev) a)=_:=(AI.G3 c1 a).trans ((congrArg (fun X=>AI.Dy X a) hX.symm).trans hq0)
  refine⟨_,⟨V1,ls1,ev1,?gv5,?ga5,rfl⟩,hS⟩
  case gv5=>rw [hq];rfl
  case ga5=>rw [hq]
 have c6p:=kz c6
 refine Aa ?_
 refine AB (.t4 0 3 4 6) ?_
 refine AA (CB (Gt (Ah Na rfl) (Gt (AG rfl A5 .m4 B0.l0 rfl rfl) (Gn (.t5 0 3 4 6 85) (Ae (Gs (Gt (Aj rfl rfl) ?_)))))))
 refine Ga rfl (Gn (.t6 0 3 4 6 85 86) ?_)
 refine Gc (fun c7=>?_) (fun c7=>?_)
 ·
  have c7p:=kz c7
  refine AJ (Gm rfl (Gm rfl ?_))
  refine BF rfl cz (.c rfl (.c rfl .n)) (.c .h (.c .h (.c .h .n))) (Qv _ V1 ls1 ev1 a.BL 0 0 hs hF0 (by omega) (by omega)) (fun w hS=>⟨gl0.pull gm0 hS (.c .h (.c .h (.c .h .n))),gl1.pull gm1 hS (.c .h (.c .h (.c .h .n))),gl2.pull gm2 hS (.c .h (.c .h (.c .h .n))),gl3.pull gm3 hS (.c .h (.c .h (.c .h .n)))⟩) (fun v7 B hv=>?_)
  obtain⟨y8,y9,y10,rfl,y11,rfl⟩:=hv
  refine AR (AB (.t1 4) ?_)
  refine AV (AA (Gs (Gt (BC M0 KU rfl .nil) ?_)))
  refine AS (AK (AU.id Bn.fl.len Bn.fl.one) rfl rfl rfl KV rfl (.t (.t (.t .h)))) ?_
  refine Gn (.t1 4) (Ab ?_)
  refine AZ rfl (.cell rfl .m3 (.inl ⟨(by rw [Bn.fl.len];exact IP),rfl⟩) .n) ?_
  intro w1 hS
  have hS:=(hS.perm (Ax.perm (.c .h (.c .h (.c .h .n))))).A1
  have hq0:AI.Dy (A3 V1 ls1 ev1) a=_:=((AX c3).trans ((AX c4).trans ((AX c5).trans ((AX (show(decide ((AI.at_ (A3 V1 ls1 ev1) a.BL).state=0) != decide (a.kind=1))=false by rw [Gq V1 ls1 ev1 hs.1 hs.2];exact c6)).trans (BB c7)))))
  have hq:(AI.act (A3 V ls ev) a)=_:=(AI.G3 c1 a).trans ((congrArg (fun X=>AI.Dy X a) hX.symm).trans hq0)
  refine⟨_,⟨y8,y9,y10,?gv6,?ga6,rfl⟩,hS⟩
  case gv6=>rw [hq];rfl
  case ga6=>rw [hq];dsimp only;exact y11
 have c7p:=kz c7
 refine Gs (Gt (Aj rfl rfl) (Ga rfl (Gn (.t6 0 3 4 6 85 91) ?_)))
 refine Gc (fun c8=>?_) (fun c8=>?_)
 ·
  have c8p:=kz c8
  refine Gs (Ga rfl (Ga rfl (Gn (.t4 0 3 4 6) (Ap ?_))))
  refine E4 (k:=a.BL) hs.1 hs.2 (fun sv sl hsv hlv hln=>?_)
  refine BE (N:=18) [0,0,2,6,14,0,32,126,254,510,510,510,510,1023,9215,25599,59391,126975] mix (by kernel_rfl) rfl ?_
  refine Pf 0 rfl (AE rfl) (Pf 1 rfl (AE rfl) (Pf 2 rfl (BV rfl) (Pf 3 rfl (Ah K2 rfl) (Pf 4 rfl (AY rfl D5 .m3 ((AU.BL V1 hs.1 hs.2).comp A2.l2) rfl) (Pf 5 rfl (Ah Z9 rfl) (Pf 6 rfl (AG rfl CP .m7 B0.l3 rfl rfl) ?_))))))
  refine BN 7 rfl rfl (by kernel_rfl) (Lj (K4 (D7 dF (.c rfl (.c rfl .n)) (fun w hS=>MU _ _ (by omega) w)))) ?_
  refine Pf 8 rfl (AE rfl) (Pf 9 rfl (AN rfl rfl) (Pf 10 rfl (AN rfl rfl) (Pf 11 rfl (AN rfl rfl) (Pf 12 rfl (AN rfl rfl) (Pf 13 rfl (BV rfl) (Pf 14 rfl (Ah K2 rfl) ?_))))))
  refine An 15 rfl (by kernel_rfl) ?_
  refine AS (AK ((AU.BL V1 hs.1 hs.2).comp A2.l2) rfl rfl rfl Ka rfl (.t (.t (.t .h)))) ?_
  refine BO rfl ⟨?_,?_⟩
  · exact(Pk (Pk (Po rfl (AN rfl rfl) rfl rfl (Po rfl (AN rfl rfl) rfl rfl (Po rfl (AN rfl rfl) rfl rfl (Pk (Pk (Pk (Pk (Pk (Pk (Pk (Pk (Pk (Pk Ar)))))))))))))))
  refine Pf 16 rfl (A0 rfl) (Pf 17 rfl (A0 rfl) ?_)
  refine A4 (by kernel_rfl) ?_
  refine AB (.t5 0 4 6 7 8) ?_
  refine AA (Gs (Gm rfl (Gm rfl (Gt (BV rfl) (Gt (Ah Dn rfl) (Gt (AY rfl Cr .m3 ((AU.BL V1 hs.1 hs.2).comp A2.l4) rfl) (Gm rfl ?_)))))))
  refine BA rfl WH (.c rfl (.c rfl .n)) (fun w hS=>ES _ _ (by have h:=AP.U1 sv.Dw a.bytes;omega) w) ?_
  refine Gm rfl (Gt (AN rfl rfl) (Gt (AN rfl rfl) (Gt (BV rfl) (Gt (Ah Dn rfl) ?_))))
  refine AS (AK ((AU.BL V1 hs.1 hs.2).comp A2.l4) rfl rfl rfl FO rfl (.t (.t (.t .h)))) ?_
  refine Gn (.t4 0 4 6 7) (Gs (Ga rfl (Gn (.t4 0 4 6 7) (CB (Gm rfl (Gm rfl (Gt (BV rfl) ?_)))))))
  refine Gt (Ah Ku rfl) (Gt (AY rfl Hu .m3 ((AU.BL V1 hs.1 hs.2).comp A2.l3) rfl) (Gm rfl ?_))
  refine BF rfl dY (.c rfl (.c rfl .n)) .n (Nf _ _ _ (by have h:=Va sv.Dw a.bytes;omega)) (fun w hS=>(Kn.own .m0) w hS) (fun v12 B hv=>?_)
  rcases hv with ⟨y13,rfl,rfl⟩ | ⟨y14,y15,rfl,y16,rfl⟩
  ·
   refine Gm rfl (Gt (AN rfl rfl) (Gt (AN rfl rfl) (Gt (AN rfl rfl) (Gt (BV rfl) (Gt (Ah Ku rfl) ?_)))))
   refine AS (AK ((AU.BL V1 hs.1 hs.2).comp A2.l3) rfl rfl rfl MS rfl (.t (.t (.t .h)))) ?_
   refine Ga rfl (Gn (.t4 0 4 6 9) (Ap ?_))
   refine EJ (.c .h (.c .h (.c .h (.c .h (.c .h .n))))) ?_
   refine HA hs.1 hs.2 (by rfl) (by rfl) (by rfl) ?_
   refine AJ (Gm rfl (Gt (Ck rfl rfl) (Gn (.t4 0 4 6 134) ?_)))
   refine Gc (fun c9=>?_) (fun c9=>?_)
   ·
    have c9p:=kz c9
    refine AJ (Gm rfl (Gm rfl ?_))
    refine Ai rfl Sl (.c rfl (.c rfl (.c rfl .n))) (.c .h (.c .h (.c .h .n))) (EI _ (AL.BL V1 a.BL (heard sv a.bytes)) (ls1.put a.BL ⟨sl.queue,sl.wait,sl.told⟩) ev1 a.BL _ hs (Nat.le_trans (Gj (Iq hs.1 hs.2 (E9 (V:=V1) (ls:=ls1) (ev:=ev1) hs.1 hs.2 hsv hlv (HL (u:=a.bytes) hln.2.1 hln.1 y13)) hF0) a.BL hs.1 hs.2) (by omega))) (fun v18 B hv=>?_)
    obtain⟨y19,y20,y21,rfl,y22,rfl⟩:=hv
    refine Gn (.t2 0 4) (AJ (Gm rfl ?_))
    refine BF rfl SO (.c rfl .n) (.c .h (.c .h (.c .h .n))) (Ds _ y19 y20 y21 1 0 (by rw [y22];exact(Iq hs.1 hs.2 (E9 (V:=V1) (ls:=ls1) (ev:=ev1) hs.1 hs.2 hsv hlv (HL (u:=a.bytes) hln.2.1 hln.1 y13)) hF0).tell hs.1 hs.2 (show AI.N9.length≤_ by decide)) (by omega) (by omega)) (fun w hS=>⟨gl0.pull gm0 hS (.c .h (.c .h (.c .h .n))),gl1.pull gm1 hS (.c .h (.c .h (.c .h .n))),gl2.pull gm2 hS (.c .h (.c .h (.c .h .n))),gl3.pull gm3 hS (.c .h (.c .h (.c .h .n)))⟩) (fun v23 B hv=>?_)
    obtain⟨y24,y25,y26,rfl,y27,rfl⟩:=hv
    refine AR (AB (.t1 4) ?_)
    refine AV (AA (Gs (Gt (BC M0 KU rfl .nil) ?_)))
    refine AS (AK (AU.id Bn.fl.len Bn.fl.one) rfl rfl rfl KV rfl (.t (.t (.t .h)))) ?_
    refine Gn (.t1 4) (Ab ?_)
    refine AZ rfl (.cell rfl .m3 (.inl ⟨(by rw [Bn.fl.len];exact IP),rfl⟩) .n) ?_
    intro w1 hS
    have hS:=(hS.perm (Ax.perm (.c .h (.c .h (.c .h .n))))).A1
    have hq0:AI.Dy (A3 V1 ls1 ev1) a=_:=((AX c3).trans ((AX c4).trans ((AX c5).trans ((AX (show(decide ((AI.at_ (A3 V1 ls1 ev1) a.BL).state=0) != decide (a.kind=1))=false by rw [Gq V1 ls1 ev1 hs.1 hs.2];exact c6)).trans ((AX c7).trans (BB c8))))))
    have hq:(AI.act (A3 V ls ev) a)=_:=(AI.G3 c1 a).trans ((congrArg (fun X=>AI.Dy X a) hX.symm).trans hq0)
    refine⟨_,⟨y24,y25,y26,?gv7,?ga7,rfl⟩,hS⟩
    case gv7=>rw [hq];rfl
    case ga7=>rw [hq];dsimp only;exact(Le hs.1 hs.2 (E9 (V:=V1) (ls:=ls1) (ev:=ev1) hs.1 hs.2 hsv hlv (HL (u:=a.bytes) hln.2.1 hln.1 y13)) (.inl ⟨c9,y22⟩) y27)
   have c9p:=kz c9
   refine Aa ?_
   refine AB (.t2 0 4) ?_
   refine AA (AJ (Gm rfl ?_))
   refine BF rfl SO (.c rfl .n) (.c .h (.c .h (.c .h .n))) (Ds _ (AL.BL V1 a.BL (heard sv a.bytes)) (ls1.put a.BL ⟨sl.queue,sl.wait,sl.told⟩) ev1 0 0 (Iq hs.1 hs.2 (E9 (V:=V1) (ls:=ls1) (ev:=ev1) hs.1 hs.2 hsv hlv (HL (u:=a.bytes) hln.2.1 hln.1 y13)) hF0) (by omega) (by omega)) (fun w hS=>⟨gl0.pull gm0 hS (.c .h (.c .h (.c .h .n))),gl1.pull gm1 hS (.c .h (.c .h (.c .h .n))),gl2.pull gm2 hS (.c .h (.c .h (.c .h .n))),gl3.pull gm3 hS (.c .h (.c .h (.c .h .n)))⟩) (fun v28 B hv=>?_)
   obtain⟨y29,y30,y31,rfl,y32,rfl⟩:=hv
   refine AR (AB (.t1 4) ?_)
   refine AV (AA (Gs (Gt (BC M0 KU rfl .nil) ?_)))
   refine AS (AK (AU.id Bn.fl.len Bn.fl.one) rfl rfl rfl KV rfl (.t (.t (.t .h)))) ?_
   refine Gn (.t1 4) (Ab ?_)
   refine AZ rfl (.cell rfl .m3 (.inl ⟨(by rw [Bn.fl.len];exact IP),rfl⟩) .n) ?_
   intro w1 hS
   have hS:=(hS.perm (Ax.perm (.c .h (.c .h (.c .h .n))))).A1
   have hq0:AI.Dy (A3 V1 ls1 ev1) a=_:=((AX c3).trans ((AX c4).trans ((AX c5).trans ((AX (show(decide ((AI.at_ (A3 V1 ls1 ev1) a.BL).state=0) != decide (a.kind=1))=false by rw [Gq V1 ls1 ev1 hs.1 hs.2];exact c6)).trans ((AX c7).trans (BB c8))))))
   have hq:(AI.act (A3 V ls ev) a)=_:=(AI.G3 c1 a).trans ((congrArg (fun X=>AI.Dy X a) hX.symm).trans hq0)
   refine⟨_,⟨y29,y30,y31,?gv8,?ga8,rfl⟩,hS⟩
   case gv8=>rw [hq];rfl
   case ga8=>rw [hq];dsimp only;exact(Le hs.1 hs.2 (E9 (V:=V1) (ls:=ls1) (ev:=ev1) hs.1 hs.2 hsv hlv (HL (u:=a.bytes) hln.2.1 hln.1 y13)) (.inr ⟨c9,rfl⟩) y32)
  refine Gm rfl (Gt (AN rfl rfl) (Gt (AN rfl rfl) (Gt (AN rfl rfl) (Gt (BV rfl) (Gt (Ah Ku rfl) ?_)))))
  refine AS (AK ((AU.BL V1 hs.1 hs.2).comp A2.l3) rfl rfl rfl MS rfl (.t (.t (.t (.t .h))))) ?_
  refine Ga rfl (Gn (.t4 0 4 6 9) (Ap ?_))
  refine EJ (.c .h (.c (.t .h) (.c (.t .h) (.c (.t .h) (.c (.t .h) .n))))) ?_
  refine HA hs.1 hs.2 (by rfl) (by rfl) (by rfl) ?_
  refine AJ (Gm rfl (Gt (Ck rfl rfl) (Gn (.t4 0 4 6 134) ?_)))
  refine Gc (fun c10=>?_) (fun c10=>?_)
  ·
   have c10p:=kz c10
   refine AJ (Gm rfl (Gm rfl ?_))
   refine Ai rfl Sl (.c rfl (.c rfl (.c rfl .n))) (.c .h (.c .h (.c (.t .h) .n))) (EI _ (AL.BL V1 a.BL { heard sv a.bytes with EE:=⟨(Bg.feed (Bg.start sv.EE sl.queue) (sv.Dw.Df a.bytes).2.1).now,(Bg.feed (Bg.start sv.EE sl.queue) (sv.Dw.Df a.bytes).2.1).Cq,(Bg.feed (Bg.start sv.EE sl.queue) (sv.Dw.Df a.bytes).2.1).ret,y15⟩ }) (ls1.put a.BL ⟨(Bg.feed (Bg.start sv.EE sl.queue) (sv.Dw.Df a.bytes).2.1).queue,sl.wait,sl.told⟩) ev1 a.BL _ hs (Nat.le_trans (Gj (Iq hs.1 hs.2 (E9 (V:=V1) (ls:=ls1) (ev:=ev1) hs.1 hs.2 hsv hlv (Im (u:=a.bytes) hln.2.1 hln.1 y14 y15)) hF0) a.BL hs.1 hs.2) (by omega))) (fun v33 B hv=>?_)
   obtain⟨y34,y35,y36,rfl,y37,rfl⟩:=hv
   refine Gn (.t2 0 4) (AJ (Gm rfl ?_))
   refine BF rfl SO (.c rfl .n) (.c .h (.c .h (.c .h .n))) (Ds _ y34 y35 y36 1 0 (by rw [y37];exact(Iq hs.1 hs.2 (E9 (V:=V1) (ls:=ls1) (ev:=ev1) hs.1 hs.2 hsv hlv (Im (u:=a.bytes) hln.2.1 hln.1 y14 y15)) hF0).tell hs.1 hs.2 (show AI.N9.length≤_ by decide)) (by omega) (by omega)) (fun w hS=>⟨gl0.pull gm0 hS (.c .h (.c .h (.c .h .n))),gl1.pull gm1 hS (.c .h (.c .h (.c .h .n))),gl2.pull gm2 hS (.c .h (.c .h (.c .h .n))),gl3.pull gm3 hS (.c .h (.c .h (.c .h .n)))⟩) (fun v38 B hv=>?_)
   obtain⟨y39,y40,y41,rfl,y42,rfl⟩:=hv
   refine AR (AB (.t1 4) ?_)
   refine AV (AA (Gs (Gt (BC M0 KU rfl .nil) ?_)))
   refine AS (AK (AU.id Bn.fl.len Bn.fl.one) rfl rfl rfl KV rfl (.t (.t (.t (.t .h))))) ?_
   refine Gn (.t1 4) (Ab ?_)
   refine AZ rfl (.cell rfl .m4 (.inl ⟨(by rw [Bn.fl.len];exact IP),rfl⟩) .n) ?_
   intro w1 hS
   have hS:=(hS.perm (Ax.perm (.c .h (.c .h (.c .h .n))))).A1
   have hq0:AI.Dy (A3 V1 ls1 ev1) a=_:=((AX c3).trans ((AX c4).trans ((AX c5).trans ((AX (show(decide ((AI.at_ (A3 V1 ls1 ev1) a.BL).state=0) != decide (a.kind=1))=false by rw [Gq V1 ls1 ev1 hs.1 hs.2];exact c6)).trans ((AX c7).trans (BB c8))))))
   have hq:(AI.act (A3 V ls ev) a)=_:=(AI.G3 c1 a).trans ((congrArg (fun X=>AI.Dy X a) hX.symm).trans hq0)
   refine⟨_,⟨y39,y40,y41,?gv9,?ga9,rfl⟩,hS⟩
   case gv9=>rw [hq];rfl
   case ga9=>rw [hq];dsimp only;exact(Le hs.1 hs.2 (E9 (V:=V1) (ls:=ls1) (ev:=ev1) hs.1 hs.2 hsv hlv (Im (u:=a.bytes) hln.2.1 hln.1 y14 y15)) (.inl ⟨c10,y37⟩) y42)
  have c10p:=kz c10
  refine Aa ?_
  refine AB (.t2 0 4) ?_
  refine AA (AJ (Gm rfl ?_))
  refine BF rfl SO (.c rfl .n) (.c .h (.c .h (.c (.t .h) .n))) (Ds _ (AL.BL V1 a.BL { heard sv a.bytes with EE:=⟨(Bg.feed (Bg.start sv.EE sl.queue) (sv.Dw.Df a.bytes).2.1).now,(Bg.feed (Bg.start sv.EE sl.queue) (sv.Dw.Df a.bytes).2.1).Cq,(Bg.feed (Bg.start sv.EE sl.queue) (sv.Dw.Df a.bytes).2.1).ret,y15⟩ }) (ls1.put a.BL ⟨(Bg.feed (Bg.start sv.EE sl.queue) (sv.Dw.Df a.bytes).2.1).queue,sl.wait,sl.told⟩) ev1 0 0 (Iq hs.1 hs.2 (E9 (V:=V1) (ls:=ls1) (ev:=ev1) hs.1 hs.2 hsv hlv (Im (u:=a.bytes) hln.2.1 hln.1 y14 y15)) hF0) (by omega) (by omega)) (fun w hS=>⟨gl0.pull gm0 hS (.c .h (.c .h (.c (.t .h) .n))),gl1.pull gm1 hS (.c .h (.c .h (.c (.t .h) .n))),gl2.pull gm2 hS (.c .h (.c .h (.c (.t .h) .n))),gl3.pull gm3 hS (.c .h (.c .h (.c (.t .h) .n)))⟩) (fun v43 B hv=>?_)
  obtain⟨y44,y45,y46,rfl,y47,rfl⟩:=hv
  refine AR (AB (.t1 4) ?_)
  refine AV (AA (Gs (Gt (BC M0 KU rfl .nil) ?_)))
  refine AS (AK (AU.id Bn.fl.len Bn.fl.one) rfl rfl rfl KV rfl (.t (.t (.t (.t .h))))) ?_
  refine Gn (.t1 4) (Ab ?_)
  refine AZ rfl (.cell rfl .m4 (.inl ⟨(by rw [Bn.fl.len];exact IP),rfl⟩) .n) ?_
  intro w1 hS
  have hS:=(hS.perm (Ax.perm (.c .h (.c .h (.c .h .n))))).A1
  have hq0:AI.Dy (A3 V1 ls1 ev1) a=_:=((AX c3).trans ((AX c4).trans ((AX c5).trans ((AX (show(decide ((AI.at_ (A3 V1 ls1 ev1) a.BL).state=0) != decide (a.kind=1))=false by rw [Gq V1 ls1 ev1 hs.1 hs.2];exact c6)).trans ((AX c7).trans (BB c8))))))
  have hq:(AI.act (A3 V ls ev) a)=_:=(AI.G3 c1 a).trans ((congrArg (fun X=>AI.Dy X a) hX.symm).trans hq0)
  refine⟨_,⟨y44,y45,y46,?gv10,?ga10,rfl⟩,hS⟩
  case gv10=>rw [hq];rfl
  case ga10=>rw [hq];dsimp only;exact(Le hs.1 hs.2 (E9 (V:=V1) (ls:=ls1) (ev:=ev1) hs.1 hs.2 hsv hlv (Im (u:=a.bytes) hln.2.1 hln.1 y14 y15)) (.inr ⟨c10,rfl⟩) y47)
 have c8p:=kz c8
 refine Gs (Gt (Aj rfl rfl) (Ga rfl (Gn (.t6 0 3 4 6 85 140) ?_)))
 refine Gc (fun c11=>?_) (fun c11=>?_)
 ·
  have c11p:=kz c11
  refine Gs (Ga rfl (Gn (.t4 0 3 4 6) (Ap ?_)))
  refine E4 (k:=a.BL) hs.1 hs.2 (fun sv sl hsv hlv hln=>?_)
  refine BE (N:=15) [0,0,2,6,14,0,32,126,254,510,510,1023,3071,7167,16383] mix (by kernel_rfl) rfl ?_
  refine Pf 0 rfl (AE rfl) (Pf 1 rfl (AE rfl) (Pf 2 rfl (BV rfl) (Pf 3 rfl (Ah Dn rfl) (Pf 4 rfl (AY rfl Cr .m3 ((AU.BL V1 hs.1 hs.2).comp A2.l4) rfl) (Pf 5 rfl (Ah X0 rfl) (Pf 6 rfl (AG rfl A5 .m7 B0.l2 rfl rfl) ?_))))))
  refine BN 7 rfl rfl (by kernel_rfl) (Lj (K4 (D7 dG (.c rfl (.c rfl .n)) (fun w hS=>M6 _ _ w)))) ?_
  refine Pf 8 rfl (AE rfl) (Pf 9 rfl (AN rfl rfl) (Pf 10 rfl (AN rfl rfl) (Pf 11 rfl (BV rfl) (Pf 12 rfl (Ah Dn rfl) ?_))))
  refine An 13 rfl (by kernel_rfl) ?_
  refine AS (AK ((AU.BL V1 hs.1 hs.2).comp A2.l4) rfl rfl rfl FO rfl (.t (.t (.t .h)))) ?_
  refine BO rfl ⟨?_,?_⟩
  · exact(Pk (Pk (Po rfl (AN rfl rfl) rfl rfl (Pk (Pk (Pk (Pk (Pk (Pk (Pk (Pk (Pk (Pk Ar)))))))))))))
  refine Pf 14 rfl (A0 rfl) ?_
  refine A4 (by kernel_rfl) ?_
  refine AB (.t3 0 4 10) ?_
  refine AA (Ap ?_)
  refine EJ (.c .h (.c .h (.c .h (.c .h (.c .h .n))))) ?_
  refine HA hs.1 hs.2 (by rfl) (by rfl) (by rfl) ?_
  refine AJ (Gm rfl ?_)
  refine BF rfl SO (.c rfl .n) (.c .h (.c .h (.c .h .n))) (Ds _ (AL.BL V1 a.BL { sv with out:=⟨sv.out.wait,sv.out.shown,sv.out.B6,sv.out.ring.drop (max 0 (min a.n (sv.out.ring.length:Int))).toNat,sv.out.cut⟩ }) (ls1.put a.BL ⟨sl.queue,sl.wait,sl.told⟩) ev1 0 0 (by rw [(show A3 (AL.BL V1 a.BL { sv with out:=⟨sv.out.wait,sv.out.shown,sv.out.B6,sv.out.ring.drop (max 0 (min a.n (sv.out.ring.length:Int))).toNat,sv.out.cut⟩ }) (ls1.put a.BL ⟨sl.queue,sl.wait,sl.told⟩) ev1=AI.set (A3 V1 ls1 ev1) a.BL ((AI.at_ (A3 V1 ls1 ev1) a.BL).HO a.n) from Ek hs.1 hs.2 hsv hlv (f:=fun x=>x.HO a.n) rfl)];exact hF0.HO hs.1 hs.2 a.n) (by omega) (by omega)) (fun w hS=>⟨gl0.pull gm0 hS (.c .h (.c .h (.c .h .n))),gl1.pull gm1 hS (.c .h (.c .h (.c .h .n))),gl2.pull gm2 hS (.c .h (.c .h (.c .h .n))),gl3.pull gm3 hS (.c .h (.c .h (.c .h .n)))⟩) (fun v48 B hv=>?_)
  obtain⟨y49,y50,y51,rfl,y52,rfl⟩:=hv
  refine Gn (.t2 4 10) (Gs (Gm rfl (Gt (BC M0 KU rfl (.cons Bn.l1 rfl rfl rfl .nil)) ?_)))
  refine AS (AK (AU.id Bn.fl.len Bn.fl.one) rfl rfl rfl KV rfl (.t (.t (.t .h)))) ?_
  refine Gn (.t1 4) (Ab (AT (AD ?_)))
  refine AZ rfl (.cell rfl .m3 (.inl ⟨(by rw [Bn.fl.len];exact IP),rfl⟩) .n) ?_
  intro w1 hS
  have hS:=(hS.perm (Ax.perm (.c .h (.c .h (.c .h .n))))).A1
  have hq0:AI.Dy (A3 V1 ls1 ev1) a=_:=((AX c3).trans ((AX c4).trans ((AX c5).trans ((AX (show(decide ((AI.at_ (A3 V1 ls1 ev1) a.BL).state=0) != decide (a.kind=1))=false by rw [Gq V1 ls1 ev1 hs.1 hs.2];exact c6)).trans ((AX c7).trans ((AX c8).trans (BB c11)))))))
  have hq:(AI.act (A3 V ls ev) a)=_:=(AI.G3 c1 a).trans ((congrArg (fun X=>AI.Dy X a) hX.symm).trans hq0)
  refine⟨_,⟨y49,y50,y51,?gv11,?ga11,rfl⟩,hS⟩
  case gv11=>rw [hq];exact congrArg (fun x=>Value.agg (Bn.enc ⟨0,x⟩).toArray) (XB V1 ls1 ev1 hs.1 hs.2 hsv a.n)
  case ga11=>rw [hq];dsimp only;exact y52.trans (congrArg AI.Be (show A3 (AL.BL V1 a.BL { sv with out:=⟨sv.out.wait,sv.out.shown,sv.out.B6,sv.out.ring.drop (max 0 (min a.n (sv.out.ring.length:Int))).toNat,sv.out.cut⟩ }) (ls1.put a.BL ⟨sl.queue,sl.wait,sl.told⟩) ev1=AI.set (A3 V1 ls1 ev1) a.BL ((AI.at_ (A3 V1 ls1 ev1) a.BL).HO a.n) from Ek hs.1 hs.2 hsv hlv (f:=fun x=>x.HO a.n) rfl))
 have c11p:=kz c11
 refine Gs (Gt (Aj rfl rfl) (Ga rfl (Gn (.t4 0 4 6 159) ?_)))
 refine G4 rfl (decide_eq_true (by omega)) ?_
 refine Gs (Gm rfl (Gm rfl ?_))
 refine BF rfl ZT (.c rfl (.c rfl .n)) (.c .h (.c .h (.c .h .n))) (IF _ V1 ls1 ev1 a.BL 0 0 hs hF0 (by omega) (by omega)) (fun w hS=>⟨gl0.pull gm0 hS (.c .h (.c .h (.c .h .n))),gl1.pull gm1 hS (.c .h (.c .h (.c .h .n))),gl2.pull gm2 hS (.c .h (.c .h (.c .h .n))),gl3.pull gm3 hS (.c .h (.c .h (.c .h .n)))⟩) (fun v53 B hv=>?_)
 obtain⟨y54,y55,y56,rfl,y57,rfl⟩:=hv
 refine Gn (.t2 0 4) (AJ (Gm rfl ?_))
 refine BF rfl SO (.c rfl .n) (.c .h (.c .h (.c .h .n))) (Ds _ y54 y55 y56 11 11 (by rw [y57];exact hF0.leave hs.1 hs.2) (by omega) (by omega)) (fun w hS=>⟨gl0.pull gm0 hS (.c .h (.c .h (.c .h .n))),gl1.pull gm1 hS (.c .h (.c .h (.c .h .n))),gl2.pull gm2 hS (.c .h (.c .h (.c .h .n))),gl3.pull gm3 hS (.c .h (.c .h (.c .h .n)))⟩) (fun v58 B hv=>?_)
 obtain⟨y59,y60,y61,rfl,y62,rfl⟩:=hv
 refine AR (AB (.t1 4) ?_)
 refine AV (AA (Gs (Gt (BC M0 KU rfl .nil) ?_)))
 refine AS (AK (AU.id Bn.fl.len Bn.fl.one) rfl rfl rfl KV rfl (.t (.t (.t .h)))) ?_
 refine Gn (.t1 4) (Ab ?_)
 refine AZ rfl (.cell rfl .m3 (.inl ⟨(by rw [Bn.fl.len];exact IP),rfl⟩) .n) ?_
 intro w1 hS
 have hS:=(hS.perm (Ax.perm (.c .h (.c .h (.c .h .n))))).A1
 have hq0:AI.Dy (A3 V1 ls1 ev1) a=_:=((AX c3).trans ((AX c4).trans ((AX c5).trans ((AX (show(decide ((AI.at_ (A3 V1 ls1 ev1) a.BL).state=0) != decide (a.kind=1))=false by rw [Gq V1 ls1 ev1 hs.1 hs.2];exact c6)).trans ((AX c7).trans ((AX c8).trans (AX c11)))))))
 have hq:(AI.act (A3 V ls ev) a)=_:=(AI.G3 c1 a).trans ((congrArg (fun X=>AI.Dy X a) hX.symm).trans hq0)
 refine⟨_,⟨y59,y60,y61,?gv12,?ga12,rfl⟩,hS⟩
 case gv12=>rw [hq];rfl
 case ga12=>rw [hq];dsimp only;exact y62.trans (congrArg AI.Be y57)
theorem QQ (b:Nat)(V:AL)(ls:Vector BI 4)(i:Int)(hi:0≤i∧i < 4)(hl:(ls.at i).told.length≤1000000):JO Tryz.prog 24 #[.pointer (some ⟨b,0,none⟩), .int .i64 i] [Ac.box b 101 (AL.enc V),Ac.Dv (CG 9 (AL.Ao V) ls)] (fun v B=>∃ h':Hd,v=h'.val∧h'.len=(ls.at i).told.length∧B = [Ac.box b 101 (AL.enc V),Ac.Dv (CG 9 (AL.Ao V) ls),Ac.own h' 9 1 ((ls.at i).told.flatMap A7)]):=by
 intro w hS0
 refine Ak _ _ Tryz.func24 rfl rfl rfl (hS0) ?_
 refine Gs (Ga rfl (Gn (.t2 0 1) (CB (Gm rfl (Gt (EM Tryz.underlying37 rfl) (Gm rfl ?_))))))
 refine C7 (t:=7) rfl rfl rfl (AE rfl) ?_
 refine C7 (t:=7) rfl rfl rfl (A8 rfl rfl) ?_
 refine Gt (Cm rfl rfl) (Gm rfl (BZ 11 rfl rfl (fun q=>AE rfl) (BZ 11 rfl rfl (fun q=>CI (cF rfl q) rfl) ?_)))
 refine Gt (BS rfl rfl (fun h=>by rw [h];rfl)) ?_
 refine Gn (.t3 0 1 14) ?_
 refine DD rfl (by rw [Bool.or_eq_false_iff,decide_eq_false_iff_not,decide_eq_false_iff_not];omega) ?_
 refine Aa ?_
 refine AB (.t2 0 1) ?_
 refine AA (Ap ?_)
 refine E4 (k:=i) hi.1 hi.2 (fun sv sl hsv hlv hln=>?_)
 have hl2:=hl
 rw [hlv] at hl2
 refine AJ (Gm rfl (Gm rfl (Gt (BV rfl) (Gt (Ah Ft rfl) ?_))))
 refine Gt (AQ NX rfl rfl (by first | omega | exact hi.1 | exact hi.2) (by first | omega | exact hi.1 | exact hi.2)) ?_
 refine Gt (Ah Qf rfl) (Gt (AG rfl FW .m3 ((AU.BL V hi.1 hi.2).comp A2.l5) rfl rfl) ?_)
 refine DU A7 9 1 ?_
 refine JD (e:=A7) rfl Tryz.underlying52 Em RX rfl Ws (by decide) rfl rfl (fun w hS=>Src.Dz Tryz.underlying52 ((Kn.own .m3) w hS)) rfl rfl (by omega) (fun _=> .h) (fun h1 h1l=>?_)
 refine Ga rfl (Gn (.t1 4) (Ab ?_))
 refine AZ rfl (.tmp rfl .n) ?_
 intro w1 hS
 have hS:=(hS.perm (Ax.perm (.c (.t .h) (.c (.t .h) (.c (.t .h) (.c (.t .h) (.c (.t .h) (.c .h .n)))))))).A1
 have e1:V.BL i sv=V:=by rw [← hsv];exact V.KP hi.1 hi.2
 have e2:ls.put i ⟨sl.queue,sl.wait,sl.told⟩=ls:=by rw [← hlv];exact Vector.Lp ls hi.1 hi.2
 have hS:=St.close' (s:=sv) (qs:=sl.queue) (ws:=sl.wait) (ts:=sl.told) hi.1 hi.2 rfl rfl rfl hS
 rw [e1,e2] at hS
 try rw [hsv]
 rw [hlv]
 refine⟨_,⟨_,rfl,?gl,rfl⟩,hS⟩
 case gl=>(try simp only [List.length_append,List.length_nil] at *);omega
theorem Ou  (w:World)(gl0:GV 2 Fo w)(gl1:GV 0 AH.DG w)(gl2:Gu 7 w)(gl3:Gu 8 w):Eh Tryz.prog 33 #[] w fun v w'=>v = .bool true∧CA w w':=by
 refine Ak [] [] Tryz.func33 rfl rfl rfl (St.start w []) ?_
 refine Gs (Ga rfl (Gn (.nil _) (Gs ?_)))
 refine Ai rfl bt .n .n (Jj ) (fun v1 B hv=>?_)
 obtain⟨y2,y3,y4,y5,rfl,y6,rfl⟩:=hv
 refine Ga rfl (Gn (.t1 1) (CB (Gm rfl (Gt (EM Tryz.underlying37 rfl) (Gn (.t2 1 8) ?_)))))
 refine DD rfl rfl ?_
 refine Aa ?_
 refine AB (.t1 1) ?_
 refine AA (Gs (Gm rfl (Gt (BC Zd ZY rfl (.cons B0.l0 rfl rfl rfl (.cons B0.l1 rfl rfl rfl .nil))) ?_)))
 refine BF rfl Yb (.c rfl (.c rfl .n)) (.c .h (.c .h (.c .h .n))) (JC y2 y3 y4 y5 AI.QL (by rw [y6];exact AI.dp) (by decide)) (fun w hS=>⟨gl0.pull (by simp) hS (.c .h (.c .h (.c .h .n))),gl1.pull (by simp) hS (.c .h (.c .h (.c .h .n))),gl2.pull (by simp) hS (.c .h (.c .h (.c .h .n))),gl3.pull (by simp) hS (.c .h (.c .h (.c .h .n)))⟩) (fun v8 B hv=>?_)
 obtain⟨y9,y10,y11,rfl,y12,rfl⟩:=hv
 refine BD rfl KU rfl (fun b1=>?_)
 refine AS (AK (AU.id Bn.fl.len Bn.fl.one) rfl rfl rfl KV rfl .h) ?_
 refine Gn (.t2 1 2) (Gs (Gm rfl (Gt (BC Zd ZY rfl (.cons B0.l0 rfl rfl rfl (.cons B0.l1 rfl rfl rfl (.cons B0.l3 rfl rfl rfl .nil)))) ?_)))
 refine BF rfl Yb (.c rfl (.c rfl .n)) (.c (.t .h) (.c (.t .h) (.c (.t .h) .n))) (JC y2 y9 y10 y11 AI.type2 (by rw [y12,y6];exact AI.dt) (by decide)) (fun w hS=>⟨gl0.pull (by simp) hS (.c (.t .h) (.c (.t .h) (.c (.t .h) .n))),gl1.pull (by simp) hS (.c (.t .h) (.c (.t .h) (.c (.t .h) .n))),gl2.pull (by simp) hS (.c (.t .h) (.c (.t .h) (.c (.t .h) .n))),gl3.pull (by simp) hS (.c (.t .h) (.c (.t .h) (.c (.t .h) .n)))⟩) (fun v13 B hv=>?_)
 obtain⟨y14,y15,y16,rfl,y17,rfl⟩:=hv
 refine Gn (.t2 1 2) (Gs (Gm rfl (Gt (BC Zd ZY rfl (.cons B0.l0 rfl rfl rfl .nil)) ?_)))
 refine BF rfl Yb (.c rfl (.c rfl .n)) (.c .h (.c .h (.c .h .n))) (JC y2 y14 y15 y16 AI.TX (by rw [y17,y12,y6];exact AI.dr) (by decide)) (fun w hS=>⟨gl0.pull (by simp) hS (.c .h (.c .h (.c .h .n))),gl1.pull (by simp) hS (.c .h (.c .h (.c .h .n))),gl2.pull (by simp) hS (.c .h (.c .h (.c .h .n))),gl3.pull (by simp) hS (.c .h (.c .h (.c .h .n)))⟩) (fun v18 B hv=>?_)
 obtain⟨y19,y20,y21,rfl,y22,rfl⟩:=hv
 refine BD rfl KU rfl (fun b2=>?_)
 refine AS (AK (AU.id Bn.fl.len Bn.fl.one) rfl rfl rfl KV rfl .h) ?_
 refine Gn (.t3 1 2 3) (Ap ?_)
 have hA:A3 y19 y20 y21=AI.cW:=by rw [y22,y17,y12,y6];rfl
 have hA3:(A3 y19 y20 y21).Live:=by rw [hA];exact AI.XA
 refine AJ (Gm rfl ?_)
 refine Ai rfl bc (.c rfl (.c rfl .n)) (.c (.t .h) .n) (Ke y2 y19 2 (by decide)) (fun v23 B hv=>?_)
 obtain⟨rfl,rfl⟩:=hv
 refine Gm rfl (Gt (AN rfl rfl) (Gt (AN rfl rfl) (Ga rfl (Ga rfl (Gn (.t5 1 2 3 4 5) (Gs (Gt (Ah WI rfl) ?_)))))))
 refine Gt (AG rfl Y2 .m4 Bn.l0 rfl rfl) (Gt (Aj rfl rfl) (Gm rfl (Bl 26 rfl rfl (fun q=>Ah WI rfl) (Bl 26 rfl rfl (fun q=>AG (Bf rfl q) Y2 .m1 Bn.l0 rfl rfl) (Bl 26 rfl rfl (fun q=>Aj (Bf rfl q) rfl) (Gt (BJ rfl rfl (fun h=>h)) (Gm rfl ?_)))))))
 refine Bl 31 rfl rfl (fun q=>AE rfl) (Bl 31 rfl rfl (fun q=>Aj (Bf rfl q) rfl) (Gt (BJ rfl rfl (fun h=>h)) (Gm rfl (Bl 35 rfl rfl (fun q=>AE rfl) (Bl 35 rfl rfl (fun q=>Aj (Bf rfl q) rfl) (Gt (BJ rfl rfl (fun h=>h)) (Gm rfl ?_)))))))
 refine Bl 39 rfl rfl (fun q=>AE rfl) ?_
 refine Q8 39 rfl (fun c1=>?_) (fun c1=>?_)
 ·
  refine Kt (t:=39) rfl (by first | rfl | exact cY rfl c1) rfl dj (.c (Bf rfl c1) (.c rfl .n)) (.c .h (.c (.t .h) .n)) (QQ y2 y19 y20 2 (by decide) (hA3.told (by decide) (by decide))) (fun v24 B hv=>?_)
  obtain⟨y25,rfl,y26,rfl⟩:=hv
  refine C7 (t:=39) rfl rfl rfl (Av rfl Tryz.underlying52 rfl) ?_
  refine C7 (t:=39) rfl rfl rfl (Ck rfl rfl) ?_
  refine Gt (DV rfl rfl) (Ga rfl (Gn (.t1 0) (Ab ?_)))
  refine AZ rfl (.tmp rfl .n) ?_
  intro w1 hS;refine⟨?_,hS.Am⟩;have hd:=AI.dK
  rw [← hA,B4 _ _ _ (by decide) (by decide)] at hd
  exact congrArg Value.bool (by rw [y26];exact hd)
 refine DA (t:=39) rfl rfl rfl rfl ?_
 refine DA (t:=39) rfl rfl rfl rfl ?_
 refine DA (t:=39) rfl rfl rfl rfl ?_
 refine Gt (Cm rfl rfl) (Ga rfl (Gn (.t1 0) (Ab ?_)))
 refine AZ rfl (.tmp rfl .n) ?_
 intro w1 hS;refine⟨?_,hS.Am⟩;have hs:=Qe y19 y20 y21 (show(0:Int)≤2 by decide) (by decide)
 rw [hA,AI.dW] at hs
 have hc:=c1
 rw [hs,y6,AI.dh,y17,y12,y6,AI.dT] at hc
 cases hc
theorem PG {t0:Nat}(f:Hd)(l:List B0)(hu:∀ a∈l,a.bytes.length≤140737488351232):FK Tryz.prog 16 #[f.val, .func (.func 42) #[] #[]] [] (fun w=>cw w (Cf []) f t0 4 (l.flatMap B0.enc)∧(GV 2 Fo w∧2 ∉ Cf [])∧(GV 0 AH.DG w∧0 ∉ Cf [])∧(Gu 7 w∧7 ∉ Cf [])∧(Gu 8 w∧8 ∉ Cf [])) (fun v B=>∃ p:Option Addr,v = .tuple #[.pointer p, .bool true]∧B = []):=by
 intro w hS0 hH
 obtain⟨r0,⟨gl0,gm0⟩,⟨gl1,gm1⟩,⟨gl2,gm2⟩,⟨gl3,gm3⟩⟩:=hH
 have hfl:=r0.1.Mw B0.fl (by decide)
 refine Ak _ _ Tryz.func16 rfl rfl rfl (hS0) ?_
 refine Gs (Ga rfl (Ga rfl (Gn (.t2 0 1) (CB ?_))))
 refine BA rfl dL .n (fun w hS=>Ou w (gl0.stM gm0 hS) (gl1.stM gm1 hS) (gl2.stM gm2 hS) (gl3.stM gm3 hS)) ?_
 refine Gt (BQ rfl) (Gn (.t3 0 1 10) ?_)
 refine DD rfl rfl ?_
 refine Aa ?_
 refine AB (.t2 0 1) ?_
 refine AA (Gs ?_)
 refine Ai rfl bt .n .n (Jj ) (fun v1 B hv=>?_)
 obtain⟨y2,y3,y4,y5,rfl,y6,rfl⟩:=hv
 refine Ga rfl (Gn (.t3 0 1 6) (CB (Ga rfl (AR (AA (Ae ?_))))))
 refine Bo (.t4 7 0 1 6) ?_
 refine Bh (.t (.t .h)) ?_
 refine Bh (.t (.t .h)) ?_
 refine Bh (.t (.t .h)) ?_
 refine HS (fun(k:Int) (V1:AL) (ls1:Vector BI 4) (ev1:List Ing.Event)=>0≤k∧k≤150∧k≤(l.length:Int)∧A3 V1 ls1 ev1=(AI.new.run (l.take k.toNat)).1) (fun(k:Int) (V1:AL) (ls1:Vector BI 4) (ev1:List Ing.Event)=>(150 - k).toNat) (fun(k:Int) (V1:AL) (ls1:Vector BI 4) (ev1:List Ing.Event)=> [(7, .int .i64 k)]) (fun(k:Int) (V1:AL) (ls1:Vector BI 4) (ev1:List Ing.Event)=> [Ac.box y2 101 (AL.enc V1),Ac.Dv (CG 9 (AL.Ao V1) ls1),Ac.own (AL.last V1) 56 16 (ev1.flatMap Ing.Event.enc)]) (0) (y3) (y4) (y5) ?_ rfl rfl (fun k V1 ls1 ev1 hI1=>?_)
 · exact⟨by omega,by omega,by omega,y6⟩
 obtain⟨hI11,hI12,hI13,hI14⟩:=hI1
 refine CB (Gm rfl (Gm rfl (Gt (Av rfl Tryz.underlying22 rfl) (Gt (A8 rfl rfl) (Gm rfl (Bl 16 rfl rfl (fun q=>AE rfl) (Bl 16 rfl rfl (fun q=>A8 (Bf rfl q) rfl) ?_)))))))
 refine Gt (BJ rfl rfl (fun h=>h)) (Gn (.t5 0 1 6 7 19) ?_)
 refine Gc (fun c1=>?_) (fun c1=>?_)
 ·
  have c1p:=kz c1
  refine Aa ?_
  refine AB (.t4 0 1 6 7) ?_
  refine AA (Ap (Ae (Gs (Gm rfl (Gm rfl (Gm rfl ?_))))))
  refine Gt (Br ax (by decide) (Kn.Yi r0) rfl rfl (by omega) (by omega)) ?_
  refine Gt (OG rfl Y3 (by decide) B0.fl (Kn.Yi r0) (by omega)) ?_
  refine BF rfl Yb (.c rfl (.c rfl .n)) (.c .h (.c .h (.c .h .n))) (JC y2 V1 ls1 ev1 (l.getD k.toNat default) (by rw [hI14];exact AI.Live.run _ AI.Oa) (hu _ (P3 (d:=default) (xs:=l) (i:=k.toNat) (by omega)))) (fun w hS=>⟨gl0.pull gm0 hS (.c .h (.c .h (.c .h .n))),gl1.pull gm1 hS (.c .h (.c .h (.c .h .n))),gl2.pull gm2 hS (.c .h (.c .h (.c .h .n))),gl3.pull gm3 hS (.c .h (.c .h (.c .h .n)))⟩) (fun v8 B hv=>?_)
  obtain⟨y9,y10,y11,rfl,y12,rfl⟩:=hv
  refine BD rfl KU rfl (fun b1=>?_)
  refine AS (AK (AU.id Bn.fl.len Bn.fl.one) rfl rfl rfl KV rfl .h) ?_
  refine Gn (.t5 0 1 6 7 8) (Ap ?_)
  refine BE (N:=9) [0,0,0,0,12,28,0,127,255] mix (by kernel_rfl) rfl ?_
  refine Pf 0 rfl (AE rfl) (Pf 1 rfl (AE rfl) (Pf 2 rfl (AE rfl) (Pf 3 rfl (AE rfl) ?_)))
  refine Pf 4 rfl (Br ax (by decide) (Kn.Yi r0) rfl rfl (by omega) (by omega)) ?_
  refine Pf 5 rfl (OG rfl Y3 (by decide) B0.fl (Kn.Yi r0) (by omega)) ?_
  refine Pf 6 rfl (AY rfl IP .m0 (AU.id Bn.fl.len Bn.fl.one) rfl) ?_
  refine An 7 rfl (by kernel_rfl) ?_
  refine DL rfl ch rfl (.c rfl (.c rfl (.c rfl .n))) (.c (.t .h) (.c (.t .h) .n)) (Ki y2 y9 y10 y11 _ _ (by rw [y12,hI14];exact(AI.IH.run _ AI.XS).act _)) (fun v13 B hv=>?_)
  obtain⟨rfl,rfl⟩:=hv
  refine Bp rfl ⟨?_,?_⟩
  · exact(Pk (Pk (Pk (Pk (Pk (Pk (Pk Ar)))))))
  refine Pf 8 rfl (BQ rfl) ?_
  refine A4 (by kernel_rfl) ?_
  refine AB (.t5 0 1 6 7 36) ?_
  refine AA ?_
  refine DD rfl rfl ?_
  refine Aa ?_
  refine AB (.t4 0 1 6 7) ?_
  refine AV (AA (AJ (Gm rfl ?_)))
  refine Gt (Aw rfl rfl (IntWalk.i64_in _ (by omega))) ?_
  refine Ga rfl ?_
  refine AR (AB (.t4 0 1 6 7) ?_)
  refine CJ (.c .h (.c .h (.c (.t .h) .n))) ?_
  refine Cc ?_
  refine Cy (k+1) _ _ _ ?_ ?_ (.t4 7 0 1 6) (.refl _)
  · exact⟨by omega,by omega,by omega,by rw [AI.XC hI11 (by omega),← hI14];exact y12⟩
  · omega
 refine Ba (AW (AW (Af ?_)))
 refine AB (.t1 6) ?_
 refine AA (Gs (Gm rfl (Ga rfl (Ga rfl (Gn (.t2 4 5) (Ab ?_))))))
 refine AZ rfl (.tmp rfl (.tmp rfl .n)) ?_
 intro w1 hS
 have hS:=(hS.perm (Ax.perm .n)).A1
 exact⟨_,⟨_,rfl,rfl⟩,hS⟩
end Go.Proofs.YtoidpggbbfncpaaGreatDoor

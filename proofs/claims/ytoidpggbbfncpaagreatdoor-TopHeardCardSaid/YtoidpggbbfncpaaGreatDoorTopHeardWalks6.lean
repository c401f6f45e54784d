/- What the functions that the law TopHeard reaches compute: walks, part 6. No condition. -/
import Derived.Test.YtoidpggbbfncpaaGreatDoorCards
import Derived.Test.YtoidpggbbfncpaaGreatDoorTie
import Derived.Deep.DeepHandedRow
import Derived.Test.YtoidpggbbfncpaaGreatDoorRows
import Derived.Test.YtoidpggbbfncpaaGreatDoorTopHeardEc3
import Derived.Test.YtoidpggbbfncpaaGreatDoorTopHeardRa1
import Derived.Test.YtoidpggbbfncpaaGreatDoorTopHeardRb1
import Derived.Test.YtoidpggbbfncpaaGreatDoorTopHeardRc1
import Derived.Test.YtoidpggbbfncpaaGreatDoorTopHeardWalks
import Derived.Test.YtoidpggbbfncpaaGreatDoorTopHeardWalks2
import Derived.Test.YtoidpggbbfncpaaGreatDoorTopHeardWalks3
import Derived.Test.YtoidpggbbfncpaaGreatDoorTopHeardWalks4
import Derived.Test.YtoidpggbbfncpaaGreatDoorTopHeardWalks5
set_option linter.unusedSimpArgs false
set_option linter.unusedVariables false
set_option maxRecDepth 100000
set_option maxHeartbeats 1000000
namespace Go.Proofs.YtoidpggbbfncpaaGreatDoor
open Go Go.Ing Go.RowKit Go.ChangeShapes Go.WideShapes Go.ChangeAt
theorem Mo (X:AP)(u:Ao)(hu:u.length≤140737488351232)(w:World):Ej Tryz.prog 29 #[.agg X.enc.toArray,BU u] w fun v w'=>v = .tuple #[.agg (X.Di u).1.enc.toArray,BU (X.Di u).2.1,BU (X.Di u).2.2.1, .int .i64 (X.Di u).2.2.2]∧CB w w':=by
 refine Al [] [] Tryz.func29 rfl rfl rfl (St.start w []) ?_
 refine Gs ?_
 refine B5 rfl rfl rfl (fun b1=>?_)
 refine BH rfl cA rfl (fun b2=>?_)
 refine Ga rfl (Ga rfl (Ga rfl (Gn (.t3 1 2 4) (CD (Gt (AZ rfl D6 .m1 (AU.id AP.fl.len AP.fl.one) rfl) ?_)))))
 refine BA rfl cL (.c rfl .n) (fun w hS=>GK _ w) ?_
 refine Gt (BT rfl) (Gn (.t4 1 2 4 15) ?_)
 refine Gc (fun c1=>?_) (fun c1=>?_)
 ·
  refine Gs (Gt (AZ rfl D6 .m1 (AU.id AP.fl.len AP.fl.one) rfl) ?_)
  refine AT (AK (AU.id AP.fl.len AP.fl.one) rfl rfl rfl Ki rfl .h) ?_
  refine Ga rfl (Ga rfl (Ga rfl (Gn (.t4 4 5 6 7) (Ab (AD ?_)))))
  refine AY rfl (.cell rfl .m0 (.inl ⟨(by rw [AP.fl.len];exact D6),rfl⟩) (.tmp rfl (.tmp rfl (.tmp rfl .n)))) ?_
  intro w1 hS;refine⟨?_,hS.Ak⟩;rw [show X.Di u=_ from BB c1];rfl
 have c1p:=kz c1
 have hg:X.Bh=true:=by simpa using c1
 refine Aa ?_
 refine AB (.t3 1 2 4) ?_
 refine AA (Gs ?_)
 refine BH rfl Ug rfl (fun b3=>?_)
 refine Dp DV 5 1 ?_
 refine BH rfl Ug rfl (fun b4=>?_)
 refine Dp DV 5 1 ?_
 refine AQ (AA (CD (Gm rfl ?_)))
 refine PJ rfl Tryz.underlying9 Tryz.underlying105 Tryz.underlying5 rfl (fun h1 h1l=>?_)
 refine Gt (Ar rfl Tryz.underlying105 rfl) (Gm rfl (Gn (.t7 2 4 8 9 18 19 20) (Ae ?_)))
 refine Bl (.t7 20 2 4 8 9 18 19) ?_
 refine Bf (.t (.t (.t (.t (.t (.t .h)))))) ?_
 refine Bf (.t (.t (.t (.t (.t .h))))) ?_
 refine Bf (.t (.t (.t (.t (.t .h))))) ?_
 refine Bf (.t (.t (.t (.t (.t .h))))) ?_
 refine Bf (.t (.t (.t (.t (.t .h))))) ?_
 refine SQ (fun(k:Int) (t:AP) (x:Ao) (y:Ao) (p:Option Addr) (h:Hd) (q:Option Addr) (g:Hd)=>AP.Jk X u k t x y∧(p=none∨p=some ⟨b3,0,none⟩)∧h.Z∧h.len=x.length∧(q=none∨q=some ⟨b4,0,none⟩)∧g.Z∧g.len=y.length) (fun(k:Int) (t:AP) (x:Ao) (y:Ao) (p:Option Addr) (h:Hd) (q:Option Addr) (g:Hd)=>((u.length:Int) - k).toNat) (fun(k:Int) (t:AP) (x:Ao) (y:Ao) (p:Option Addr) (h:Hd) (q:Option Addr) (g:Hd)=> [(20, .int .i64 k)]) (fun(k:Int) (t:AP) (x:Ao) (y:Ao) (p:Option Addr) (h:Hd) (q:Option Addr) (g:Hd)=> [Ac.own g 5 1 (y.flatMap DV),Ac.box b4 107 (Db.enc ⟨q,g⟩),Ac.own h 5 1 (x.flatMap DV),Ac.box b3 107 (Db.enc ⟨p,h⟩),Ac.box b1 69 (AP.enc t)]) (0) (X) ([]) ([]) (none) (⟨none,0,0⟩) (none) (⟨none,0,0⟩) ?_ rfl rfl (fun k t x y p h q g hI1=>?_)
 · exact⟨AP.Jk.start (AP.Xj hg), .inl rfl,Hd.UZ,rfl, .inl rfl,Hd.UZ,rfl⟩
 obtain⟨hI11,hp,hz,hl,hq,hzg,hlg⟩:=hI1;have hk0:=hI11.k0;have hk1:=hI11.k1;have hsub:=hI11.sub;have hxl:=hI11.xl;have hyl:=hI11.yl;have hc8:=(u.getD k.toNat 0).toNat_lt;have hyb:=hI11.yb
 refine Gs (Gt (A8 rfl rfl) (AQ (AA (Ap ?_))))
 refine Gc (fun c2=>?_) (fun c2=>?_)
 ·
  have c2p:=kz c2
  refine Aa ?_
  refine AB (.t7 2 4 8 9 18 19 20) ?_
  refine AA (Ap (Ae (Gs ?_)))
  refine Gt (Bp XQ (by decide) (Kn.own .m5) rfl rfl (by omega) (by omega)) ?_
  refine Gt (Y9 rfl cm (Kn.own .m5) (by omega)) ?_
  refine Ga rfl (Gn (.t8 2 4 8 9 11 18 19 20) (Gs (Gm rfl (Gt (Th Tryz.underlying3 Tryz.underlying5 rfl) (Ga rfl (Gn (.t9 2 4 8 9 11 12 18 19 20) (Gs ?_)))))))
  refine Gt (Ai F1 rfl) (Gt (AH rfl A4 .m4 AP.l0 rfl rfl) (Gn (.t10 2 4 8 9 11 12 18 19 20 27) (Ae (Gs (Gt (Ag rfl rfl) (Ga rfl (Gn (.t11 2 4 8 9 11 12 18 19 20 27 28) ?_)))))))
  refine Gc (fun c3=>?_) (fun c3=>?_)
  ·
   have c3p:=kz c3
   refine Gs (Gm rfl (Gt (Ag rfl rfl) (Gn (.t9 2 4 8 9 11 18 19 20 31) ?_)))
   refine Gc (fun c4=>?_) (fun c4=>?_)
   ·
    have c4p:=kz c4
    refine AJ (Gt (Ai F1 rfl) ?_)
    refine AT (AK AP.l0 rfl rfl rfl DB rfl (.t (.t (.t (.t .h))))) ?_
    refine AQ (AB (.t7 2 4 8 9 18 19 20) ?_)
    refine AW (AW (AA (AJ ?_)))
    refine Gt (Av rfl rfl (IntWalk.i64_in _ (by omega))) ?_
    refine Gm rfl ?_
    refine AQ (AB (.t7 2 4 8 9 18 19 20) ?_)
    refine CS _ _ _ _ _ _ _ _ ?_ ?_ (.t7 20 2 4 8 9 18 19) (.refl _)
    · exact⟨hI11.next (by omega) (by simp only [AP.step,c1,c2,c3,c4,↓reduceIte,Bool.false_eq_true]) (by simp only [AP.step,c1,c2,c3,c4,List.append_nil,↓reduceIte,Bool.false_eq_true]) (by simp only [AP.step,c1,c2,c3,c4,List.append_nil,↓reduceIte,Bool.false_eq_true]),by assumption,by assumption,by assumption,by assumption,by assumption,by assumption⟩
    · omega
   have c4p:=kz c4
   refine AJ (Gm rfl ?_)
   refine Ah rfl ZO (.c rfl (.c rfl .n)) (.c (.t (.t (.t .h))) (.c (.t (.t .h)) .n)) (Ck _ _ _ _ (by assumption) (by assumption) (by assumption) _ (by omega)) (fun v2 B hv=>?_)
   obtain⟨y3,y4,rfl,y5,y6,y7,rfl⟩:=hv
   refine AQ (AB (.t7 2 4 8 9 18 19 20) ?_)
   refine AW (AW (AA (AJ ?_)))
   refine Gt (Av rfl rfl (IntWalk.i64_in _ (by omega))) ?_
   refine Gm rfl ?_
   refine AQ (AB (.t7 2 4 8 9 18 19 20) ?_)
   refine CI (.c (.t (.t .h)) (.c (.t (.t .h)) (.c (.t .h) (.c .h (.c .h (.c .h (.c .h .n))))))) ?_
   refine Cf ?_
   refine CS _ _ _ _ _ _ _ _ ?_ ?_ (.t7 20 2 4 8 9 18 19) (.refl _)
   · exact⟨hI11.next (by omega) (by simp only [AP.step,c1,c2,c3,c4,↓reduceIte,Bool.false_eq_true]) (by simp only [AP.step,c1,c2,c3,c4,List.append_nil,↓reduceIte,Bool.false_eq_true]) (by simp only [AP.step,c1,c2,c3,c4,List.append_nil,↓reduceIte,Bool.false_eq_true]),by assumption,by assumption,by assumption,by assumption,by assumption,by assumption⟩
   · omega
  have c3p:=kz c3
  refine Gs (Gt (Ag rfl rfl) (Ga rfl (Gn (.t11 2 4 8 9 11 12 18 19 20 27 35) ?_)))
  refine Gc (fun c5=>?_) (fun c5=>?_)
  ·
   have c5p:=kz c5
   refine Gs (Gt (Ai F1 rfl) ?_)
   refine AT (AK AP.l0 rfl rfl rfl DB rfl (.t (.t (.t (.t .h))))) ?_
   refine Gn (.t9 2 4 8 9 11 12 18 19 20) (Ae (Gs (Gm rfl (Gt (Ag rfl rfl) (Ga rfl (Gn (.t10 2 4 8 9 11 12 18 19 20 38) ?_))))))
   refine Gc (fun c6=>?_) (fun c6=>?_)
   ·
    have c6p:=kz c6
    refine AJ (Gm rfl ?_)
    refine Ah rfl ZO (.c rfl (.c rfl .n)) (.c (.t (.t (.t .h))) (.c (.t (.t .h)) .n)) (Ck _ _ _ _ (by assumption) (by assumption) (by assumption) _ (by omega)) (fun v8 B hv=>?_)
    obtain⟨y9,y10,rfl,y11,y12,y13,rfl⟩:=hv
    refine AQ (AB (.t7 2 4 8 9 18 19 20) ?_)
    refine AW (AW (AW (AA (AJ ?_))))
    refine Gt (Av rfl rfl (IntWalk.i64_in _ (by omega))) ?_
    refine Gm rfl ?_
    refine AQ (AB (.t7 2 4 8 9 18 19 20) ?_)
    refine CI (.c (.t (.t .h)) (.c (.t (.t .h)) (.c (.t .h) (.c .h (.c .h (.c .h (.c .h .n))))))) ?_
    refine Cf ?_
    refine CS _ _ _ _ _ _ _ _ ?_ ?_ (.t7 20 2 4 8 9 18 19) (.refl _)
    · exact⟨hI11.next (by omega) (by simp only [AP.step,c1,c2,c3,c5,c6,↓reduceIte,Bool.false_eq_true]) (by simp only [AP.step,c1,c2,c3,c5,c6,List.append_nil,↓reduceIte,Bool.false_eq_true]) (by simp only [AP.step,c1,c2,c3,c5,c6,List.append_nil,↓reduceIte,Bool.false_eq_true]),by assumption,by assumption,by assumption,by assumption,by assumption,by assumption⟩
    · omega
   have c6p:=kz c6
   refine Gs (Gm rfl (Gt (Ag rfl rfl) (Ga rfl (Gn (.t9 2 4 8 9 12 18 19 20 43) ?_))))
   refine Gc (fun c7=>?_) (fun c7=>?_)
   ·
    have c7p:=kz c7
    refine AJ (Gt (Ai F1 rfl) ?_)
    refine AT (AK AP.l0 rfl rfl rfl DB rfl (.t (.t (.t (.t .h))))) ?_
    refine AQ (AB (.t7 2 4 8 9 18 19 20) ?_)
    refine AW (AW (AW (AA (AJ ?_))))
    refine Gt (Av rfl rfl (IntWalk.i64_in _ (by omega))) ?_
    refine Gm rfl ?_
    refine AQ (AB (.t7 2 4 8 9 18 19 20) ?_)
    refine CS _ _ _ _ _ _ _ _ ?_ ?_ (.t7 20 2 4 8 9 18 19) (.refl _)
    · exact⟨hI11.next (by omega) (by simp only [AP.step,c1,c2,c3,c5,c6,c7,↓reduceIte,Bool.false_eq_true]) (by simp only [AP.step,c1,c2,c3,c5,c6,c7,List.append_nil,↓reduceIte,Bool.false_eq_true]) (by simp only [AP.step,c1,c2,c3,c5,c6,c7,List.append_nil,↓reduceIte,Bool.false_eq_true]),by assumption,by assumption,by assumption,by assumption,by assumption,by assumption⟩
    · omega
   have c7p:=kz c7
   refine Gs (Gm rfl (Gt (CV rfl rfl) (Ga rfl (Gn (.t9 2 4 8 9 12 18 19 20 47) ?_))))
   refine Gc (fun c8=>?_) (fun c8=>?_)
   ·
    have c8p:=kz c8
    refine AJ (Gm rfl (Gt (Ai F1 rfl) ?_))
    refine AT (AK AP.l0 rfl rfl rfl DB rfl (.t (.t (.t (.t .h))))) ?_
    refine Gt (Ai LI rfl) ?_
    refine AT (AK AP.l1 rfl rfl rfl DB rfl (.t (.t (.t (.t .h))))) ?_
    refine AQ (AB (.t7 2 4 8 9 18 19 20) ?_)
    refine AW (AW (AW (AA (AJ ?_))))
    refine Gt (Av rfl rfl (IntWalk.i64_in _ (by omega))) ?_
    refine Gm rfl ?_
    refine AQ (AB (.t7 2 4 8 9 18 19 20) ?_)
    refine CS _ _ _ _ _ _ _ _ ?_ ?_ (.t7 20 2 4 8 9 18 19) (.refl _)
    · exact⟨hI11.next (by omega) (by simp only [AP.step,c1,c2,c3,c5,c6,c7,c8,↓reduceIte,Bool.false_eq_true]) (by simp only [AP.step,c1,c2,c3,c5,c6,c7,c8,List.append_nil,↓reduceIte,Bool.false_eq_true]) (by simp only [AP.step,c1,c2,c3,c5,c6,c7,c8,List.append_nil,↓reduceIte,Bool.false_eq_true]),by assumption,by assumption,by assumption,by assumption,by assumption,by assumption⟩
    · omega
   have c8p:=kz c8
   refine Aa ?_
   refine AB (.t7 2 4 8 9 18 19 20) ?_
   refine AW (AW (AW (AA (AJ ?_))))
   refine Gt (Av rfl rfl (IntWalk.i64_in _ (by omega))) ?_
   refine Gm rfl ?_
   refine AQ (AB (.t7 2 4 8 9 18 19 20) ?_)
   refine CS _ _ _ _ _ _ _ _ ?_ ?_ (.t7 20 2 4 8 9 18 19) (.refl _)
   · exact⟨hI11.next (by omega) (by simp only [AP.step,c1,c2,c3,c5,c6,c7,c8,↓reduceIte,Bool.false_eq_true]) (by simp only [AP.step,c1,c2,c3,c5,c6,c7,c8,List.append_nil,↓reduceIte,Bool.false_eq_true]) (by simp only [AP.step,c1,c2,c3,c5,c6,c7,c8,List.append_nil,↓reduceIte,Bool.false_eq_true]),by assumption,by assumption,by assumption,by assumption,by assumption,by assumption⟩
   · omega
  have c5p:=kz c5
  refine Gs (Gt (Ag rfl rfl) (Ga rfl (Gn (.t11 2 4 8 9 11 12 18 19 20 27 53) ?_)))
  refine Gc (fun c9=>?_) (fun c9=>?_)
  ·
   have c9p:=kz c9
   refine Gs (Gt (Ai LI rfl) (Gt (AH rfl A4 .m4 AP.l1 rfl rfl) (Gm rfl ?_)))
   refine Ah rfl ey (.c rfl (.c rfl (.c rfl .n))) (.c (.t (.t (.t (.t .h)))) .n) (Ja _ _ _ _ (by first | assumption | omega)) (fun v14 B hv=>?_)
   obtain⟨rfl,rfl⟩:=hv
   refine Ah rfl Pq (.c rfl (.c rfl .n)) (.c (.t (.t .h)) (.c (.t .h) .n)) (BL _ _ _ _ (by assumption) (by assumption) (by assumption) _ (by have:=AP.IL t t.verb ((u.getD k.toNat 0).toNat:Int);omega)) (fun v15 B hv=>?_)
   obtain⟨y16,y17,rfl,y18,y19,y20,rfl⟩:=hv
   refine Gn (.t7 2 4 8 9 18 19 20) (AJ (Gt (Ai F1 rfl) ?_))
   refine AT (AK AP.l0 rfl rfl rfl DB rfl (.t (.t .h))) ?_
   refine Gt (Ai LI rfl) ?_
   refine AT (AK AP.l1 rfl rfl rfl DB rfl (.t (.t .h))) ?_
   refine AQ (AB (.t7 2 4 8 9 18 19 20) ?_)
   refine AW (AW (AA (AJ ?_)))
   refine Gt (Av rfl rfl (IntWalk.i64_in _ (by omega))) ?_
   refine Gm rfl ?_
   refine AQ (AB (.t7 2 4 8 9 18 19 20) ?_)
   refine CI (.c (.t .h) (.c .h (.c (.t .h) (.c (.t .h) (.c .h (.c .h (.c .h .n))))))) ?_
   refine Cf ?_
   refine CS _ _ _ _ _ _ _ _ ?_ ?_ (.t7 20 2 4 8 9 18 19) (.refl _)
   · exact⟨hI11.next (by omega) (by simp only [AP.step,c1,c2,c3,c5,c9,↓reduceIte,Bool.false_eq_true]) (by simp only [AP.step,c1,c2,c3,c5,c9,List.append_nil,↓reduceIte,Bool.false_eq_true]) (by simp only [AP.step,c1,c2,c3,c5,c9,List.append_nil,↓reduceIte,Bool.false_eq_true]),by assumption,by assumption,by assumption,by assumption,by assumption,by assumption⟩
   · omega
  have c9p:=kz c9
  refine Gs (Gt (Ag rfl rfl) (Ga rfl (Gn (.t11 2 4 8 9 11 12 18 19 20 27 62) ?_)))
  refine Gc (fun c10=>?_) (fun c10=>?_)
  ·
   have c10p:=kz c10
   refine Gs (Gm rfl (Gt (Ag rfl rfl) (Gn (.t9 2 4 8 9 11 18 19 20 65) ?_)))
   refine Gc (fun c11=>?_) (fun c11=>?_)
   ·
    have c11p:=kz c11
    refine AJ (Gt (Ai F1 rfl) ?_)
    refine AT (AK AP.l0 rfl rfl rfl DB rfl (.t (.t (.t (.t .h))))) ?_
    refine AQ (AB (.t7 2 4 8 9 18 19 20) ?_)
    refine AW (AW (AA (AJ ?_)))
    refine Gt (Av rfl rfl (IntWalk.i64_in _ (by omega))) ?_
    refine Gm rfl ?_
    refine AQ (AB (.t7 2 4 8 9 18 19 20) ?_)
    refine CS _ _ _ _ _ _ _ _ ?_ ?_ (.t7 20 2 4 8 9 18 19) (.refl _)
    · exact⟨hI11.next (by omega) (by simp only [AP.step,c1,c2,c3,c5,c9,c10,c11,↓reduceIte,Bool.false_eq_true]) (by simp only [AP.step,c1,c2,c3,c5,c9,c10,c11,List.append_nil,↓reduceIte,Bool.false_eq_true]) (by simp only [AP.step,c1,c2,c3,c5,c9,c10,c11,List.append_nil,↓reduceIte,Bool.false_eq_true]),by assumption,by assumption,by assumption,by assumption,by assumption,by assumption⟩
    · omega
   have c11p:=kz c11
   refine AJ (Gm rfl ?_)
   refine Ah rfl cu (.c rfl (.c rfl .n)) (.c (.t (.t (.t (.t .h)))) .n) (HD _ _ _ (by first | assumption | omega)) (fun v21 B hv=>?_)
   obtain⟨rfl,rfl⟩:=hv
   refine AQ (AB (.t7 2 4 8 9 18 19 20) ?_)
   refine AW (AW (AA (AJ ?_)))
   refine Gt (Av rfl rfl (IntWalk.i64_in _ (by omega))) ?_
   refine Gm rfl ?_
   refine AQ (AB (.t7 2 4 8 9 18 19 20) ?_)
   refine CI (.c (.t .h) (.c (.t .h) (.c (.t .h) (.c (.t .h) (.c .h (.c .h (.c .h .n))))))) ?_
   refine Cf ?_
   refine CS _ _ _ _ _ _ _ _ ?_ ?_ (.t7 20 2 4 8 9 18 19) (.refl _)
   · exact⟨hI11.next (by omega) (by simp only [AP.step,c1,c2,c3,c5,c9,c10,c11,↓reduceIte,Bool.false_eq_true]) (by simp only [AP.step,c1,c2,c3,c5,c9,c10,c11,List.append_nil,↓reduceIte,Bool.false_eq_true]) (by simp only [AP.step,c1,c2,c3,c5,c9,c10,c11,List.append_nil,↓reduceIte,Bool.false_eq_true]),by assumption,by assumption,by assumption,by assumption,by assumption,by assumption⟩
   · omega
  have c10p:=kz c10
  refine Gs (Gt (Ag rfl rfl) (Ga rfl (Gn (.t10 2 4 8 9 11 12 18 19 20 69) ?_)))
  refine Gc (fun c12=>?_) (fun c12=>?_)
  ·
   have c12p:=kz c12
   refine Gs (Gm rfl (Gn (.t10 2 4 8 9 11 12 18 19 20 71) (Ae (Gs (Gt (Ag rfl rfl) (Ga rfl (Gn (.t10 2 4 8 9 11 12 18 19 20 77) ?_)))))))
   refine Gc (fun c13=>?_) (fun c13=>?_)
   ·
    have c13p:=kz c13
    refine Gs (Gt (Ai F1 rfl) ?_)
    refine AT (AK AP.l0 rfl rfl rfl DB rfl (.t (.t (.t (.t .h))))) ?_
    refine Gn (.t8 2 4 8 9 11 18 19 20) (AJ (Gm rfl ?_))
    refine Ah rfl cu (.c rfl (.c rfl .n)) (.c (.t (.t (.t (.t .h)))) .n) (HD _ _ _ (by first | assumption | omega)) (fun v22 B hv=>?_)
    obtain⟨rfl,rfl⟩:=hv
    refine AQ (AB (.t7 2 4 8 9 18 19 20) ?_)
    refine AW (AW (AW (AA (AJ ?_))))
    refine Gt (Av rfl rfl (IntWalk.i64_in _ (by omega))) ?_
    refine Gm rfl ?_
    refine AQ (AB (.t7 2 4 8 9 18 19 20) ?_)
    refine CI (.c (.t .h) (.c (.t .h) (.c (.t .h) (.c (.t .h) (.c .h (.c .h (.c .h .n))))))) ?_
    refine Cf ?_
    refine CS _ _ _ _ _ _ _ _ ?_ ?_ (.t7 20 2 4 8 9 18 19) (.refl _)
    · exact⟨hI11.next (by omega) (by simp only [AP.step,c1,c2,c3,c5,c9,c10,c12,c13,↓reduceIte,Bool.false_eq_true]) (by simp only [AP.step,c1,c2,c3,c5,c9,c10,c12,c13,List.append_nil,↓reduceIte,Bool.false_eq_true]) (by simp only [AP.step,c1,c2,c3,c5,c9,c10,c12,c13,List.append_nil,↓reduceIte,Bool.false_eq_true]),by assumption,by assumption,by assumption,by assumption,by assumption,by assumption⟩
    · omega
   have c13p:=kz c13
   refine CD (Gm rfl (Gt (Ag rfl rfl) (Gn (.t8 2 4 8 9 18 19 20 73) ?_)))
   refine Gc (fun c14=>?_) (fun c14=>?_)
   ·
    have c14p:=kz c14
    refine AJ ?_
    refine Ah rfl fO (.c rfl .n) (.c (.t (.t (.t (.t .h)))) .n) (Kc _ _) (fun v23 B hv=>?_)
    obtain⟨rfl,rfl⟩:=hv
    refine Gn (.t7 2 4 8 9 18 19 20) (AJ (Gt (Ai F1 rfl) ?_))
    refine AT (AK AP.l0 rfl rfl rfl DB rfl .h) ?_
    refine Gt (Ai G6 rfl) ?_
    refine AT (AK AP.l2 rfl rfl rfl Em rfl .h) ?_
    refine AQ (AB (.t7 2 4 8 9 18 19 20) ?_)
    refine AW (AW (AW (AA (AJ ?_))))
    refine Gt (Av rfl rfl (IntWalk.i64_in _ (by omega))) ?_
    refine Gm rfl ?_
    refine AQ (AB (.t7 2 4 8 9 18 19 20) ?_)
    refine CI (.c (.t .h) (.c (.t .h) (.c (.t .h) (.c (.t .h) (.c .h (.c .h (.c .h .n))))))) ?_
    refine Cf ?_
    refine CS _ _ _ _ _ _ _ _ ?_ ?_ (.t7 20 2 4 8 9 18 19) (.refl _)
    · exact⟨hI11.next (by omega) (by simp only [AP.step,c1,c2,c3,c5,c9,c10,c12,c13,c14,↓reduceIte,Bool.false_eq_true]) (by simp only [AP.step,c1,c2,c3,c5,c9,c10,c12,c13,c14,List.append_nil,↓reduceIte,Bool.false_eq_true]) (by simp only [AP.step,c1,c2,c3,c5,c9,c10,c12,c13,c14,List.append_nil,↓reduceIte,Bool.false_eq_true]),by assumption,by assumption,by assumption,by assumption,by assumption,by assumption⟩
    · omega
   have c14p:=kz c14
   refine Aa ?_
   refine AB (.t7 2 4 8 9 18 19 20) ?_
   refine AA (AJ (Gt (Ai F1 rfl) ?_))
   refine AT (AK AP.l0 rfl rfl rfl DB rfl (.t (.t (.t (.t .h))))) ?_
   refine Gt (Ai G6 rfl) ?_
   refine AT (AK AP.l2 rfl rfl rfl Em rfl (.t (.t (.t (.t .h))))) ?_
   refine AQ (AB (.t7 2 4 8 9 18 19 20) ?_)
   refine AW (AW (AW (AA (AJ ?_))))
   refine Gt (Av rfl rfl (IntWalk.i64_in _ (by omega))) ?_
   refine Gm rfl ?_
   refine AQ (AB (.t7 2 4 8 9 18 19 20) ?_)
   refine CS _ _ _ _ _ _ _ _ ?_ ?_ (.t7 20 2 4 8 9 18 19) (.refl _)
   · exact⟨hI11.next (by omega) (by simp only [AP.step,c1,c2,c3,c5,c9,c10,c12,c13,c14,↓reduceIte,Bool.false_eq_true]) (by simp only [AP.step,c1,c2,c3,c5,c9,c10,c12,c13,c14,List.append_nil,↓reduceIte,Bool.false_eq_true]) (by simp only [AP.step,c1,c2,c3,c5,c9,c10,c12,c13,c14,List.append_nil,↓reduceIte,Bool.false_eq_true]),by assumption,by assumption,by assumption,by assumption,by assumption,by assumption⟩
   · omega
  have c12p:=kz c12
  refine Aa ?_
  refine AB (.t7 2 4 8 9 18 19 20) ?_
  refine AW (AW (AA (AJ ?_)))
  refine Gt (Av rfl rfl (IntWalk.i64_in _ (by omega))) ?_
  refine Gm rfl ?_
  refine AQ (AB (.t7 2 4 8 9 18 19 20) ?_)
  refine CS _ _ _ _ _ _ _ _ ?_ ?_ (.t7 20 2 4 8 9 18 19) (.refl _)
  · exact⟨hI11.next (by omega) (by simp only [AP.step,c1,c2,c3,c5,c9,c10,c12,↓reduceIte,Bool.false_eq_true]) (by simp only [AP.step,c1,c2,c3,c5,c9,c10,c12,List.append_nil,↓reduceIte,Bool.false_eq_true]) (by simp only [AP.step,c1,c2,c3,c5,c9,c10,c12,List.append_nil,↓reduceIte,Bool.false_eq_true]),by assumption,by assumption,by assumption,by assumption,by assumption,by assumption⟩
  · omega
 have c2p:=kz c2
 refine Ba (AV (AV (Af ?_)))
 refine AB (.t4 2 4 8 9) ?_
 refine AA (Ap ?_)
 refine BD (N:=7) [0,0,2,7,15,31,63] mix (by kernel_rfl) rfl ?_
 refine Pf 0 rfl (AZ rfl D6 .m4 (AU.id AP.fl.len AP.fl.one) rfl) ?_
 refine An 1 rfl (by kernel_rfl) ?_
 refine Ah rfl Z4 (.c rfl .n) (.c (.t (.t (.t .h))) (.c (.t (.t .h)) .n)) (Cv _ _ _ _ (by assumption) (by assumption) (by omega)) (fun v24 B hv=>?_)
 obtain⟨rfl,rfl⟩:=hv
 refine Bu rfl ⟨?_,?_⟩
 · exact(Po rfl (AZ rfl D6 .m3 (AU.id AP.fl.len AP.fl.one) rfl) rfl rfl As)
 refine An 2 rfl (by kernel_rfl) ?_
 refine Ah rfl Z4 (.c rfl .n) (.c (.t (.t .h)) (.c (.t .h) .n)) (Cv _ _ _ _ (by assumption) (by assumption) (by omega)) (fun v25 B hv=>?_)
 obtain⟨rfl,rfl⟩:=hv
 refine Bu rfl ⟨?_,?_⟩
 · exact(Po rfl (AZ rfl D6 .m2 (AU.id AP.fl.len AP.fl.one) rfl) rfl rfl As)
 refine An 3 rfl (by kernel_rfl) ?_
 refine AT (AK (AU.id AP.fl.len AP.fl.one) rfl rfl rfl Ki rfl (.t (.t (.t (.t .h))))) ?_
 refine BO rfl ⟨?_,?_⟩
 · exact(Pk As)
 refine Pf 4 rfl (A0 rfl) (Pf 5 rfl (A0 rfl) (Pf 6 rfl (A0 rfl) ?_))
 refine A3 (by kernel_rfl) ?_
 refine AB (.t4 4 5 6 7) ?_
 refine AA (Ab ?_)
 refine AY rfl (.cell rfl .m4 (.inl ⟨(by rw [AP.fl.len];exact D6),rfl⟩) (.tmp rfl (.tmp rfl (.tmp rfl .n)))) ?_
 intro w1 hS;refine⟨?_,hS.Ak⟩;rw [show X.Di u=_ from AX c1,hI11.done (by omega)];rfl
theorem G5 (b:UInt8)(w:World):Ej Tryz.prog 70 #[.int .u8 (b.toNat:Int)] w fun v w'=>v = .bool (Bg.Fv b)∧CB w w':=by
 refine Al [] [] Tryz.func70 rfl rfl rfl (St.start w []) ?_
 refine Gs (Ga rfl (Gn (.t1 0) (Gs (Gm rfl (Gt (CV rfl rfl) (Gm rfl (Bo 5 rfl rfl (fun q=>AF rfl) ?_)))))))
 refine Bo 5 rfl rfl (fun q=>A8 (Bj rfl q) rfl) (Gt (BK rfl rfl (fun h=>h)) (Ga rfl (Gn (.t1 2) (Ab ?_))))
 refine AY rfl (.tmp rfl .n) ?_
 intro w1 hS;refine⟨?_,hS.Ak⟩;rfl
theorem OA {t0:Nat}(l:BN)(qs:List Ao)(w:World)(r0:Rd w l.queue t0 1 (qs.flatMap A7)):Ej Tryz.prog 45 #[.agg l.enc.toArray] w fun v w'=>v = .bool (Bg.Bh l qs)∧CB w w':=by
 have hl:=r0.LO DO (by decide)
 refine Al [] [] Tryz.func45 rfl rfl rfl (St.start w []) ?_
 refine Gs ?_
 refine B5 rfl rfl rfl (fun b1=>?_)
 refine Ga rfl (Gn (.t1 1) (CD (Gt (Ai Jt rfl) (Gt (AH rfl CO .m0 BN.l0 rfl rfl) (Gt (BF rfl Tryz.underlying9 rfl) (Gt (Cn rfl rfl) (Gm rfl ?_)))))))
 refine Bc 10 rfl rfl (fun q=>Ai GP rfl) (Bc 10 rfl rfl (fun q=>AH (cF rfl q) F9 .m0 BN.l3 rfl rfl) (Bc 10 rfl rfl (fun q=>Ar rfl Tryz.underlying52 (cF rfl q)) (Bc 10 rfl rfl (fun q=>Cn (cF rfl q) rfl) ?_)))
 refine Gt (BR rfl rfl (fun h=>by rw [h];rfl)) ?_
 refine Gm rfl (Bc 16 rfl rfl (fun q=>Ai Pc rfl) (Bc 16 rfl rfl (fun q=>AH (cF rfl q) Dr .m0 BN.l1 rfl rfl) (Bc 16 rfl rfl (fun q=>AF (cF rfl q)) ?_)))
 refine DT (t:=19) rfl rfl rfl (fun qc q=>Ai Jt rfl) ?_
 refine DT (t:=19) rfl rfl rfl (fun qc q=>AH (Bj rfl (by rw [qc,q];rfl)) CO .m0 BN.l0 rfl rfl) ?_
 refine DT (t:=19) rfl rfl rfl (fun qc q=>BF rfl Tryz.underlying9 (Bj rfl (by rw [qc,q];rfl))) ?_
 refine DT (t:=19) rfl rfl rfl (fun qc q=>Cn (Bj rfl (by rw [qc,q];rfl)) rfl) ?_
 refine Bc 16 rfl rfl (fun q=>BK (cF rfl q) rfl (fun h=>by rw [q,h];rfl)) ?_
 refine Gt (BR rfl rfl (fun h=>by rw [h];rfl)) ?_
 refine Gm rfl (Bc 26 rfl rfl (fun q=>Ai PM rfl) (Bc 26 rfl rfl (fun q=>AH (cF rfl q) Dr .m0 BN.l2 rfl rfl) (Bc 26 rfl rfl (fun q=>AF (cF rfl q)) ?_)))
 refine DT (t:=29) rfl rfl rfl (fun qc q=>Ai Jt rfl) ?_
 refine DT (t:=29) rfl rfl rfl (fun qc q=>AH (Bj rfl (by rw [qc,q];rfl)) CO .m0 BN.l0 rfl rfl) ?_
 refine DT (t:=29) rfl rfl rfl (fun qc q=>Dl (Bj rfl (by rw [qc,q];rfl)) rfl) ?_
 refine DT (t:=29) rfl rfl rfl (fun qc q=>AF (Bj rfl (by rw [qc,q];rfl))) ?_
 refine C5 (t:=33) rfl rfl rfl (fun qc q=>Ai Pc rfl) ?_
 refine C5 (t:=33) rfl rfl rfl (fun qc q=>AH (Bj rfl (by rw [qc,q];rfl)) Dr .m0 BN.l1 rfl rfl) ?_
 refine DT (t:=29) rfl rfl rfl (fun qc q=>BR (Bj rfl (by rw [qc,q];rfl)) rfl (fun h=>by rw [qc,q,h];rfl)) ?_
 refine Bc 26 rfl rfl (fun q=>BK (cF rfl q) rfl (fun h=>by rw [q,h];rfl)) ?_
 refine Gt (BR rfl rfl (fun h=>by rw [h];rfl)) ?_
 refine Gn (.t2 1 38) ?_
 refine Gc (fun c1=>?_) (fun c1=>?_)
 ·
  refine Gs (Ga rfl (Gn (.t1 2) (Ab (AD ?_))))
  refine AY rfl (.tmp rfl .n) ?_
  intro w1 hS;refine⟨congrArg Value.bool ?_,hS.Ak⟩;rw [Bg.Bh,show Bg.JT l=true from c1];rfl
 have c1p:=kz c1
 have hq:(l.queue.len:Int)≤6:=by omega
 refine Aa ?_
 refine AB (.t1 1) ?_
 refine AA (Ap (Ap ?_))
 refine BD (N:=9) [0,1,3,0,8,24,63,127,0] mix (by kernel_rfl) rfl ?_
 refine Pf 0 rfl (Ai GP rfl) (Pf 1 rfl (AH rfl F9 .m0 BN.l3 rfl rfl) (Pf 3 rfl (Ai Jt rfl) (Pf 4 rfl (AH rfl CO .m0 BN.l0 rfl rfl) (Pf 8 rfl (AF rfl) ?_))))
 refine J7 2 5 rfl rfl (by kernel_rfl) ?_ ?_
 ·
  refine BE rfl VN (.c rfl .n) .n (Bz _ _ (by first | assumption | omega)) (fun w hS=>(Kn.IX r0) w hS) (fun v1 B hv=>?_)
  obtain⟨y2,rfl,y3,rfl⟩:=hv
  refine Bu rfl ⟨?_,?_⟩
  · exact(Po rfl (AF rfl) rfl rfl (Po rfl (AH rfl CO .m1 BN.l0 rfl rfl) rfl rfl (Po rfl (Ai Jt rfl) rfl rfl (Pk (Pk As)))))
  refine An 5 rfl (by kernel_rfl) ?_
  refine E2 A7 DO rfl Tryz.underlying52 Em Qw rfl (by decide) (by decide) rfl rfl (fun b2=>?_)
  refine Bu rfl ⟨?_,?_⟩
  · exact(Po rfl (AF rfl) rfl rfl (Pk (Pk (Po rfl (AH rfl F9 .m2 BN.l3 rfl rfl) rfl rfl (Po rfl (Ai GP rfl) rfl rfl As)))))
  refine An 6 rfl (by kernel_rfl) ?_
  refine CM DO rfl Tryz.underlying52 Em Qw rfl XE (by decide) (by decide) rfl rfl (fun w hS=>Src.Dq Tryz.underlying52 ((Kn.own .m0) w hS)) (by(try dsimp only);omega) (fun _=>(.t .h)) (fun h5 h5l h5z=>?_)
  refine Bu rfl ⟨?_,?_⟩
  · exact(Po rfl (AF rfl) rfl rfl (Pk (Pk (Pk (Pk As)))))
  refine Pf 7 rfl (Ar rfl Tryz.underlying52 rfl) ?_
  refine A3 (by kernel_rfl) ?_
  refine AB (.t3 45 46 47) ?_
  refine AA (Ae ?_)
  refine Bl (.t3 47 45 46) ?_
  refine Ce (fun(k:Int)=>0≤k∧k≤((qs ++ [l.now]).length:Int)∧Bg.Bh l qs=((qs ++ [l.now]).drop k.toNat).all Bg.F8) (fun(k:Int)=>(((qs ++ [l.now]).length:Int) - k).toNat) (fun(k:Int)=> [(47, .int .i64 k)]) (fun(k:Int)=> []) (0) ?_ rfl rfl (fun k hI1=>?_)
  · exact⟨by omega,by omega,by rw [Bg.Bh,show Bg.JT l=false from c1];rfl⟩
  obtain⟨hI11,hI12,hI13⟩:=hI1
  refine Gs (Gt (A8 rfl rfl) (AQ (AA (Ap ?_))))
  refine Gc (fun c2=>?_) (fun c2=>?_)
  ·
   have c2p:=kz c2
   have hk:k < ((qs ++ [l.now]).length:Int):=by simp only [List.length_append,List.length_cons,List.length_nil] at *;omega
   have hk7:((qs ++ [l.now]).length:Int)≤7:=by simp only [List.length_append,List.length_cons,List.length_nil] at *;omega
   refine Aa ?_
   refine AB (.t3 45 46 47) ?_
   refine AA (Ap (Ae (Gs ?_)))
   refine Gt (Bp IM (by decide) (Kn.own .m1) rfl rfl (by omega) (by simp only [List.length_append,List.length_cons,List.length_nil] at *;omega)) ?_
   refine Gt (C9 rfl CO (Kn.own .m1) (by omega)) ?_
   refine Ga rfl (Gn (.t4 4 45 46 47) (CD (Gm rfl (Gt (BF rfl Tryz.underlying9 rfl) (Gt (Cn rfl rfl) (Gn (.t5 4 45 46 47 53) ?_))))))
   refine Gc (fun c3=>?_) (fun c3=>?_)
   ·
    refine Gs (Ga rfl (Gn (.t1 2) (Ab (AD (AR (AD (AD ?_)))))))
    refine AR (AD ?_)
    refine AY rfl (.tmp rfl .n) ?_
    intro w1 hS;refine⟨congrArg Value.bool ?_,hS.Ak⟩;rw [hI13,Bg.FK (d:= []) hI11 hk,Bg.F8,c3];rfl
   have c3p:=kz c3
   refine Aa ?_
   refine AB (.t4 4 45 46 47) ?_
   refine AA (Gs (Gm rfl (Gt (BF rfl Tryz.underlying9 rfl) (Gm rfl (Gn (.t6 4 45 46 47 55 56) (Ae ?_))))))
   refine Bl (.t6 56 4 45 46 47 55) ?_
   refine Ce (fun(i:Int)=>0≤i∧i≤(((qs ++ [l.now]).getD k.toNat []).length:Int)∧Bg.F8 ((qs ++ [l.now]).getD k.toNat [])=(((qs ++ [l.now]).getD k.toNat []).drop i.toNat).all Bg.Fv) (fun(i:Int)=>((((qs ++ [l.now]).getD k.toNat []).length:Int) - i).toNat) (fun(i:Int)=> [(56, .int .i64 i)]) (fun(i:Int)=> []) (0) ?_ rfl rfl (fun i hI2=>?_)
   · exact⟨by omega,by omega,by rw [Bg.F8,c3];rfl⟩
   obtain⟨hI21,hI22,hI23⟩:=hI2
   refine Gs (Gt (A8 rfl rfl) (AQ (AA (Ap ?_))))
   refine Gc (fun c4=>?_) (fun c4=>?_)
   ·
    have c4p:=kz c4
    refine Aa ?_
    refine AB (.t6 4 45 46 47 55 56) ?_
    refine AA (Ap (Ae (Gs (Gm rfl (Ga rfl (Gn (.t7 4 5 45 46 47 55 56) (Gs ?_)))))))
    refine Gm rfl (Gm rfl ?_)
    refine Gt (Br Tryz.underlying9 rfl rfl (by omega) (by omega)) ?_
    refine BA rfl bC (.c rfl .n) (fun w hS=>G5 _ w) ?_
    refine Gt (BT rfl) (Gn (.t7 4 45 46 47 55 56 63) ?_)
    refine Gc (fun c5=>?_) (fun c5=>?_)
    ·
     have c5p:=kz c5
     refine Gs (Ga rfl (Gn (.t1 2) (Ab (AR (AD (AD (AR ?_)))))))
     refine AR (AD (AD (AR (AD ?_))))
     refine AY rfl (.tmp rfl .n) ?_
     intro w1 hS;refine⟨congrArg Value.bool ?_,hS.Ak⟩;rw [hI13,Bg.FK (d:= []) hI11 hk,hI23,Bg.FK (d:=0) hI21 (by omega),show Bg.Fv _=false from by simpa using c5];rfl
    have c5p:=kz c5
    refine Aa ?_
    refine AB (.t6 4 45 46 47 55 56) ?_
    refine AW (AA (AJ ?_))
    refine Gt (Av rfl rfl (IntWalk.i64_in _ (by omega))) ?_
    refine Gm rfl ?_
    refine AQ (AB (.t6 4 45 46 47 55 56) ?_)
    refine B6 (i+1) ?_ ?_ (.t6 56 4 45 46 47 55) (.refl _)
    · exact⟨by omega,by omega,by rw [hI23,Bg.FK (d:=0) hI21 (by omega),show Bg.Fv _=true from by simpa using c5];rfl⟩
    · omega
   have c4p:=kz c4
   refine Ba (AV (AV (Af ?_)))
   refine AB (.t3 45 46 47) ?_
   refine AW (AA (AJ ?_))
   refine Gt (Av rfl rfl (IntWalk.i64_in _ (by omega))) ?_
   refine Gm rfl ?_
   refine AQ (AB (.t3 45 46 47) ?_)
   refine B6 (k+1) ?_ ?_ (.t3 47 45 46) (.refl _)
   · exact⟨by omega,by omega,by rw [hI13,Bg.FK (d:= []) hI11 hk,hI23,show i.toNat=((qs ++ [l.now]).getD k.toNat []).length from by omega,List.drop_length];rfl⟩
   · omega
  have c2p:=kz c2
  have hk:¬ k < ((qs ++ [l.now]).length:Int):=by simp only [List.length_append,List.length_cons,List.length_nil] at *;omega
  refine Ba (AV (AV (Af ?_)))
  refine AB (.nil _) ?_
  refine AA (Gs (Ga rfl (AQ (AA (Ab ?_)))))
  refine AY rfl (.tmp rfl .n) ?_
  intro w1 hS;refine⟨congrArg Value.bool ?_,hS.Ak⟩;rw [hI13,show k.toNat=(qs ++ [l.now]).length from by omega,List.drop_length];rfl
 ·
  refine E2 A7 DO rfl Tryz.underlying52 Em Qw rfl (by decide) (by decide) rfl rfl (fun b3=>?_)
  refine Bu rfl ⟨?_,?_⟩
  · exact(Po rfl (AF rfl) rfl rfl (Pk (Pk (Po rfl (AH rfl F9 .m1 BN.l3 rfl rfl) rfl rfl (Po rfl (Ai GP rfl) rfl rfl As)))))
  refine An 2 rfl (by kernel_rfl) ?_
  refine BE rfl VN (.c rfl .n) .n (Bz _ _ (by first | assumption | omega)) (fun w hS=>(Kn.IX r0) w hS) (fun v6 B hv=>?_)
  obtain⟨y7,rfl,y8,rfl⟩:=hv
  refine Bu rfl ⟨?_,?_⟩
  · exact(Po rfl (AF rfl) rfl rfl (Po rfl (AH rfl CO .m2 BN.l0 rfl rfl) rfl rfl (Po rfl (Ai Jt rfl) rfl rfl (Pk (Pk As)))))
  refine An 6 rfl (by kernel_rfl) ?_
  refine CM DO rfl Tryz.underlying52 Em Qw rfl XE (by decide) (by decide) rfl rfl (fun w hS=>Src.Dq Tryz.underlying52 ((Kn.own .m1) w hS)) (by(try dsimp only);omega) (fun _=> .h) (fun h10 h10l h10z=>?_)
  refine Bu rfl ⟨?_,?_⟩
  · exact(Po rfl (AF rfl) rfl rfl (Pk (Pk (Pk (Pk As)))))
  refine Pf 7 rfl (Ar rfl Tryz.underlying52 rfl) ?_
  refine A3 (by kernel_rfl) ?_
  refine AB (.t3 45 46 47) ?_
  refine AA (Ae ?_)
  refine Bl (.t3 47 45 46) ?_
  refine Ce (fun(k:Int)=>0≤k∧k≤((qs ++ [l.now]).length:Int)∧Bg.Bh l qs=((qs ++ [l.now]).drop k.toNat).all Bg.F8) (fun(k:Int)=>(((qs ++ [l.now]).length:Int) - k).toNat) (fun(k:Int)=> [(47, .int .i64 k)]) (fun(k:Int)=> []) (0) ?_ rfl rfl (fun k hI1=>?_)
  · exact⟨by omega,by omega,by rw [Bg.Bh,show Bg.JT l=false from c1];rfl⟩
  obtain⟨hI11,hI12,hI13⟩:=hI1
  refine Gs (Gt (A8 rfl rfl) (AQ (AA (Ap ?_))))
  refine Gc (fun c6=>?_) (fun c6=>?_)
  ·
   have c6p:=kz c6
   have hk:k < ((qs ++ [l.now]).length:Int):=by simp only [List.length_append,List.length_cons,List.length_nil] at *;omega
   have hk7:((qs ++ [l.now]).length:Int)≤7:=by simp only [List.length_append,List.length_cons,List.length_nil] at *;omega
   refine Aa ?_
   refine AB (.t3 45 46 47) ?_
   refine AA (Ap (Ae (Gs ?_)))
   refine Gt (Bp IM (by decide) (Kn.own .m0) rfl rfl (by omega) (by simp only [List.length_append,List.length_cons,List.length_nil] at *;omega)) ?_
   refine Gt (C9 rfl CO (Kn.own .m0) (by omega)) ?_
   refine Ga rfl (Gn (.t4 4 45 46 47) (CD (Gm rfl (Gt (BF rfl Tryz.underlying9 rfl) (Gt (Cn rfl rfl) (Gn (.t5 4 45 46 47 53) ?_))))))
   refine Gc (fun c7=>?_) (fun c7=>?_)
   ·
    refine Gs (Ga rfl (Gn (.t1 2) (Ab (AD (AR (AD (AD ?_)))))))
    refine AR (AD ?_)
    refine AY rfl (.tmp rfl .n) ?_
    intro w1 hS;refine⟨congrArg Value.bool ?_,hS.Ak⟩;rw [hI13,Bg.FK (d:= []) hI11 hk,Bg.F8,c7];rfl
   have c7p:=kz c7
   refine Aa ?_
   refine AB (.t4 4 45 46 47) ?_
   refine AA (Gs (Gm rfl (Gt (BF rfl Tryz.underlying9 rfl) (Gm rfl (Gn (.t6 4 45 46 47 55 56) (Ae ?_))))))
   refine Bl (.t6 56 4 45 46 47 55) ?_
   refine Ce (fun(i:Int)=>0≤i∧i≤(((qs ++ [l.now]).getD k.toNat []).length:Int)∧Bg.F8 ((qs ++ [l.now]).getD k.toNat [])=(((qs ++ [l.now]).getD k.toNat []).drop i.toNat).all Bg.Fv) (fun(i:Int)=>((((qs ++ [l.now]).getD k.toNat []).length:Int) - i).toNat) (fun(i:Int)=> [(56, .int .i64 i)]) (fun(i:Int)=> []) (0) ?_ rfl rfl (fun i hI2=>?_)
   · exact⟨by omega,by omega,by rw [Bg.F8,c7];rfl⟩
   obtain⟨hI21,hI22,hI23⟩:=hI2
   refine Gs (Gt (A8 rfl rfl) (AQ (AA (Ap ?_))))
   refine Gc (fun c8=>?_) (fun c8=>?_)
   ·
    have c8p:=kz c8
    refine Aa ?_
    refine AB (.t6 4 45 46 47 55 56) ?_
    refine AA (Ap (Ae (Gs (Gm rfl (Ga rfl (Gn (.t7 4 5 45 46 47 55 56) (Gs ?_)))))))
    refine Gm rfl (Gm rfl ?_)
    refine Gt (Br Tryz.underlying9 rfl rfl (by omega) (by omega)) ?_
    refine BA rfl bC (.c rfl .n) (fun w hS=>G5 _ w) ?_
    refine Gt (BT rfl) (Gn (.t7 4 45 46 47 55 56 63) ?_)
    refine Gc (fun c9=>?_) (fun c9=>?_)
    ·
     have c9p:=kz c9
     refine Gs (Ga rfl (Gn (.t1 2) (Ab (AR (AD (AD (AR ?_)))))))
     refine AR (AD (AD (AR (AD ?_))))
     refine AY rfl (.tmp rfl .n) ?_
     intro w1 hS;refine⟨congrArg Value.bool ?_,hS.Ak⟩;rw [hI13,Bg.FK (d:= []) hI11 hk,hI23,Bg.FK (d:=0) hI21 (by omega),show Bg.Fv _=false from by simpa using c9];rfl
    have c9p:=kz c9
    refine Aa ?_
    refine AB (.t6 4 45 46 47 55 56) ?_
    refine AW (AA (AJ ?_))
    refine Gt (Av rfl rfl (IntWalk.i64_in _ (by omega))) ?_
    refine Gm rfl ?_
    refine AQ (AB (.t6 4 45 46 47 55 56) ?_)
    refine B6 (i+1) ?_ ?_ (.t6 56 4 45 46 47 55) (.refl _)
    · exact⟨by omega,by omega,by rw [hI23,Bg.FK (d:=0) hI21 (by omega),show Bg.Fv _=true from by simpa using c9];rfl⟩
    · omega
   have c8p:=kz c8
   refine Ba (AV (AV (Af ?_)))
   refine AB (.t3 45 46 47) ?_
   refine AW (AA (AJ ?_))
   refine Gt (Av rfl rfl (IntWalk.i64_in _ (by omega))) ?_
   refine Gm rfl ?_
   refine AQ (AB (.t3 45 46 47) ?_)
   refine B6 (k+1) ?_ ?_ (.t3 47 45 46) (.refl _)
   · exact⟨by omega,by omega,by rw [hI13,Bg.FK (d:= []) hI11 hk,hI23,show i.toNat=((qs ++ [l.now]).getD k.toNat []).length from by omega,List.drop_length];rfl⟩
   · omega
  have c6p:=kz c6
  have hk:¬ k < ((qs ++ [l.now]).length:Int):=by simp only [List.length_append,List.length_cons,List.length_nil] at *;omega
  refine Ba (AV (AV (Af ?_)))
  refine AB (.nil _) ?_
  refine AA (Gs (Ga rfl (AQ (AA (Ab ?_)))))
  refine AY rfl (.tmp rfl .n) ?_
  intro w1 hS;refine⟨congrArg Value.bool ?_,hS.Ak⟩;rw [hI13,show k.toNat=(qs ++ [l.now]).length from by omega,List.drop_length];rfl
theorem Oj {t0:Nat}(l:BN)(qs:List Ao)(u:Ao)(hu:u.length≤9000000000000000000):FC Tryz.prog 63 #[.agg l.enc.toArray,BU u] [] (fun w=>Rd w l.queue t0 1 (qs.flatMap A7)) (fun v B=>(Bg.Bh l qs=false∧v = .tuple #[.agg l.enc.toArray, .int .i64 0, .int .i64 2]∧B = [])∨(Bg.Bh l qs=true∧∃ h':Hd,v = .tuple #[.agg (BN.enc ⟨(Bg.feed (Bg.start l qs) u).now,(Bg.feed (Bg.start l qs) u).Cy,(Bg.feed (Bg.start l qs) u).ret,h'⟩).toArray, .int .i64 (Bg.feed (Bg.start l qs) u).lost, .int .i64 0]∧h'.len=(Bg.feed (Bg.start l qs) u).queue.length∧B = [Ac.own h' 9 1 ((Bg.feed (Bg.start l qs) u).queue.flatMap A7)])):=by
 intro w hS0 hH
 have r0:=hH
 have hl0:=r0.LO DO (by decide)
 refine Al _ _ Tryz.func63 rfl rfl rfl (hS0) ?_
 refine Gs ?_
 refine B5 rfl rfl rfl (fun b1=>?_)
 refine BH rfl ca rfl (fun b2=>?_)
 refine Ga rfl (Ga rfl (Gn (.t3 1 2 4) (CD (Gt (AZ rfl J8 .m1 (AU.id BN.fl.len BN.fl.one) rfl) ?_))))
 refine BA rfl fa (.c rfl .n) (fun w hS=>OA _ _ w ((Kn.IX r0) w hS)) ?_
 refine Gt (BT rfl) (Gn (.t4 1 2 4 14) ?_)
 refine Gc (fun c1=>?_) (fun c1=>?_)
 ·
  refine Gs (Gt (AZ rfl J8 .m1 (AU.id BN.fl.len BN.fl.one) rfl) ?_)
  refine AT (AK (AU.id BN.fl.len BN.fl.one) rfl rfl rfl Nx rfl .h) ?_
  refine Ga rfl (Ga rfl (Gn (.t3 4 5 6) (Ab (AD ?_))))
  refine AY rfl (.cell rfl .m0 (.inl ⟨(by rw [BN.fl.len];exact J8),rfl⟩) (.tmp rfl (.tmp rfl .n))) ?_
  intro w1 hS
  have hS:=(hS.perm (Ay.perm .n)).A1
  exact⟨_, .inl ⟨by simpa using c1,rfl,rfl⟩,hS⟩
 have c1p:=kz c1
 have hgd:Bg.Bh l qs=true:=by simpa using c1
 have hh:=Bg.VX hgd
 have hq6:qs.length≤17592186044416:=by omega
 refine Aa ?_
 refine AB (.t3 1 2 4) ?_
 refine AA (Gs (Gt (Ai GP rfl) (Gt (AH rfl F9 .m1 BN.l3 rfl rfl) ?_)))
 refine BE rfl VN (.c rfl .n) .n (Bz _ _ (by first | assumption | omega)) (fun w hS=>(Kn.IX r0) w hS) (fun v1 B hv=>?_)
 obtain⟨y2,rfl,y3,rfl⟩:=hv
 refine Gt (Ai GP rfl) ?_
 refine AT (AK BN.l3 rfl rfl rfl N1 rfl (.t (.t .h))) ?_
 refine Gn (.t3 1 2 4) (Gs (Ga rfl (AQ (AA (Gs (Gt (Ai Jt rfl) (Gt (AH rfl CO .m2 BN.l0 rfl rfl) ?_)))))))
 refine PJ rfl Tryz.underlying9 Tryz.underlying105 Tryz.underlying5 rfl (fun h5 h5l=>?_)
 refine Ga rfl (Gn (.t5 1 2 4 7 8) (CD (Gm rfl (Gt (BF rfl Tryz.underlying9 rfl) (Gm rfl (Gn (.t7 1 2 4 7 8 24 25) (Ae ?_)))))))
 refine Bl (.t7 7 8 25 1 2 4 24) ?_
 refine Bf (.t (.t (.t .h))) ?_
 refine Bf (.t (.t .h)) ?_
 refine Bf (.t (.t .h)) ?_
 refine SQ (fun(k:Int) (now:Ao) (Cy:Bool) (ret:Bool) (queue:List Ao) (lost:Int) (h:Hd) (g:Hd)=>Bg.I (Bg.start l qs) u k ⟨now,Cy,ret,queue,lost⟩∧h.len=now.length∧g.len=queue.length) (fun(k:Int) (now:Ao) (Cy:Bool) (ret:Bool) (queue:List Ao) (lost:Int) (h:Hd) (g:Hd)=>((u.length:Int) - k).toNat) (fun(k:Int) (now:Ao) (Cy:Bool) (ret:Bool) (queue:List Ao) (lost:Int) (h:Hd) (g:Hd)=> [(7, .int .i64 lost),(8,h.val),(25, .int .i64 k)]) (fun(k:Int) (now:Ao) (Cy:Bool) (ret:Bool) (queue:List Ao) (lost:Int) (h:Hd) (g:Hd)=> [Ac.own h 5 1 (now.flatMap DV),Ac.own g 9 1 (queue.flatMap A7),Ac.box b1 75 (BN.enc ⟨l.now,Cy,ret,g⟩)]) (0) (l.now) (l.Cy) (l.ret) (qs) (0) (_) (_) ?_ rfl rfl (fun k now Cy ret queue lost h g hI1=>?_)
 · exact⟨Bg.I.start hh.1 (show qs.length≤6 by omega) rfl,by assumption,by assumption⟩
 obtain⟨hI11,hl,hg⟩:=hI1;have hk0:=hI11.k0;have hk1:=hI11.k1;have hn:now.length≤60:=hI11.now;have hq:queue.length≤6:=hI11.queue;have hlo:0≤lost∧lost≤k:=hI11.lost
 refine Gs (Gt (A8 rfl rfl) (AQ (AA (Ap ?_))))
 refine Gc (fun c2=>?_) (fun c2=>?_)
 ·
  have c2p:=kz c2
  refine Aa ?_
  refine AB (.t7 1 2 4 7 8 24 25) ?_
  refine AA (Ap (Ae (Gs (Gm rfl (Ga rfl (Gn (.t8 1 2 4 7 8 9 24 25) (Gs ?_)))))))
  refine Gm rfl (Gm rfl ?_)
  refine Gt (Br Tryz.underlying9 rfl rfl (by omega) (by omega)) ?_
  refine Ga rfl (Gn (.t8 1 2 4 7 8 10 24 25) (Gs (Gt (Ai PM rfl) (Gt (AH rfl Dr .m2 BN.l2 rfl rfl) (Ga rfl (Gn (.t9 1 2 4 7 8 10 11 24 25) (Gs ?_)))))))
  refine Gt (Ai PM rfl) ?_
  refine AT (AK BN.l2 rfl rfl rfl Kd rfl (.t (.t .h))) ?_
  refine Gn (.t9 1 2 4 7 8 10 11 24 25) (Ae (Gs (Gm rfl (Gm rfl (Bo 40 rfl rfl (fun q=>AF rfl) (Bo 40 rfl rfl (fun q=>Ag (Bj rfl q) rfl) (Bo 40 rfl rfl (fun q=>AF (Bj rfl q)) ?_)))))))
  refine C5 (t:=43) rfl rfl rfl (fun qc q=>AF rfl) ?_
  refine C5 (t:=43) rfl rfl rfl (fun qc q=>Ag (Bj rfl (by rw [qc,q];rfl)) rfl) ?_
  refine Bo 40 rfl rfl (fun q=>BR (Bj rfl q) rfl (fun h=>by rw [q,h];rfl)) ?_
  refine Gt (BK rfl rfl (fun h=>h)) (Ga rfl (Gn (.t9 1 2 4 7 8 10 24 25 38) ?_))
  refine Gc (fun c3=>?_) (fun c3=>?_)
  ·
   have c3p:=kz c3
   refine Aa ?_
   refine AB (.t7 1 2 4 7 8 24 25) ?_
   refine AW (AW (AA (AJ ?_)))
   refine Gt (Av rfl rfl (IntWalk.i64_in _ (by omega))) ?_
   refine Gm rfl ?_
   refine AQ (AB (.t7 1 2 4 7 8 24 25) ?_)
   refine CS (k+1) _ _ _ _ _ _ _ ?_ ?_ (.t7 7 8 25 1 2 4 24) (.refl _)
   · exact⟨hI11.next (by omega) (by simp only [Bg.step,hl,c1,c2,c3,↓reduceIte,Bool.false_eq_true]),(by(try dsimp only at *)<;>(try simp only [List.length_append,List.length_take,List.length_cons,List.length_nil])<;>omega),(by(try dsimp only at *)<;>(try simp only [List.length_append,List.length_cons,List.length_nil])<;>omega)⟩
   · omega
  have c3p:=kz c3
  refine Gs (Gm rfl (Gt (Ag rfl rfl) (Gm rfl (Bc 51 rfl rfl (fun q=>AF rfl) (Bc 51 rfl rfl (fun q=>Ag (cF rfl q) rfl) ?_)))))
  refine Gt (BR rfl rfl (fun h=>by rw [h];rfl)) ?_
  refine Ga rfl (Gn (.t9 1 2 4 7 8 10 24 25 48) ?_)
  refine Gc (fun c4=>?_) (fun c4=>?_)
  ·
   have c4p:=kz c4
   refine CD (Gt (Ai GP rfl) (Gt (AH rfl F9 .m2 BN.l3 rfl rfl) (Gt (Ar rfl Tryz.underlying52 rfl) (Gt (A8 rfl rfl) (Gn (.t9 1 2 4 7 8 10 24 25 58) ?_)))))
   refine Gc (fun c5=>?_) (fun c5=>?_)
   ·
    have c5p:=kz c5
    rw [hg] at c5
    refine AJ (Gt (Ai GP rfl) (Gt (AH rfl F9 .m2 BN.l3 rfl rfl) (Gm rfl (Gt (KX Tryz.underlying105 Tryz.underlying9 Tryz.underlying5 rfl (Kn.own .m0)) ?_))))
    refine E2 A7 DO rfl Tryz.underlying52 Em Qw rfl (by decide) (by decide) rfl rfl (fun b3=>?_)
    refine CM DO rfl Tryz.underlying52 Em Qw rfl XE (by decide) (by decide) rfl rfl (fun w hS=>Src.Dq Tryz.underlying52 ((Kn.own .m0) w hS)) (by(try dsimp only);omega) (fun _=>(.t (.t .h))) (fun h6 h6l h6z=>?_)
    refine Gt (Ai GP rfl) ?_
    refine AT (AK BN.l3 rfl rfl rfl N1 rfl (.t (.t (.t .h)))) ?_
    refine Gn (.t7 1 2 4 7 10 24 25) (AJ (Gm rfl (Gt (Ag rfl rfl) (Ga rfl (Gt (Ai Pc rfl) ?_)))))
    refine AT (AK BN.l1 rfl rfl rfl Kd rfl (.t (.t (.t .h)))) ?_
    refine Gt (Ai PM rfl) ?_
    refine AT (AK BN.l2 rfl rfl rfl Kd rfl (.t (.t (.t .h)))) ?_
    refine AQ (AB (.t7 1 2 4 7 8 24 25) ?_)
    refine AW (AW (AA (AJ ?_)))
    refine Gt (Av rfl rfl (IntWalk.i64_in _ (by omega))) ?_
    refine Gm rfl ?_
    refine AQ (AB (.t7 1 2 4 7 8 24 25) ?_)
    refine Uc DV 5 1 ?_
    refine CI (.c .h (.c (.t (.t .h)) (.c (.t (.t .h)) (.c (.t (.t .h)) .n)))) ?_
    refine Cf ?_
    refine CS (k+1) _ _ _ _ _ _ _ ?_ ?_ (.t7 7 8 25 1 2 4 24) (.refl _)
    · exact⟨hI11.next (by omega) (by simp only [Bg.step,hl,c1,c2,c3,c4,c5,↓reduceIte,Bool.false_eq_true]),(by(try dsimp only at *)<;>(try simp only [List.length_append,List.length_take,List.length_cons,List.length_nil])<;>omega),(by(try dsimp only at *)<;>(try simp only [List.length_append,List.length_cons,List.length_nil])<;>omega)⟩
    · omega
   have c5p:=kz c5
   rw [hg] at c5
   refine AJ (Gm rfl ?_)
   refine Gt (Av rfl rfl (IntWalk.i64_in _ (by omega))) ?_
   refine Ga rfl (Gn (.t7 1 2 4 7 10 24 25) (AJ (Gm rfl (Gt (Ag rfl rfl) (Ga rfl (Gt (Ai Pc rfl) ?_))))))
   refine AT (AK BN.l1 rfl rfl rfl Kd rfl (.t (.t .h))) ?_
   refine Gt (Ai PM rfl) ?_
   refine AT (AK BN.l2 rfl rfl rfl Kd rfl (.t (.t .h))) ?_
   refine AQ (AB (.t7 1 2 4 7 8 24 25) ?_)
   refine AW (AW (AA (AJ ?_)))
   refine Gt (Av rfl rfl (IntWalk.i64_in _ (by omega))) ?_
   refine Gm rfl ?_
   refine AQ (AB (.t7 1 2 4 7 8 24 25) ?_)
   refine Uc DV 5 1 ?_
   refine CI (.c .h (.c (.t .h) (.c (.t .h) (.c (.t .h) .n)))) ?_
   refine Cf ?_
   refine CS (k+1) _ _ _ _ _ _ _ ?_ ?_ (.t7 7 8 25 1 2 4 24) (.refl _)
   · exact⟨hI11.next (by omega) (by simp only [Bg.step,hl,c1,c2,c3,c4,c5,↓reduceIte,Bool.false_eq_true]),(by(try dsimp only at *)<;>(try simp only [List.length_append,List.length_take,List.length_cons,List.length_nil])<;>omega),(by(try dsimp only at *)<;>(try simp only [List.length_append,List.length_cons,List.length_nil])<;>omega)⟩
   · omega
  have c4p:=kz c4
  refine Gs (Gm rfl (Gt (Ag rfl rfl) (Gm rfl (Bc 75 rfl rfl (fun q=>AF rfl) (Bc 75 rfl rfl (fun q=>Ag (cF rfl q) rfl) ?_)))))
  refine Gt (BR rfl rfl (fun h=>by rw [h];rfl)) ?_
  refine Ga rfl (Gn (.t9 1 2 4 7 8 10 24 25 72) ?_)
  refine Gc (fun c6=>?_) (fun c6=>?_)
  ·
   have c6p:=kz c6
   refine Gs (Gm rfl (Gt (Ar rfl Tryz.underlying105 rfl) (Gt (Cn rfl rfl) (Gn (.t8 1 2 4 7 8 24 25 81) ?_))))
   refine Gc (fun c7=>?_) (fun c7=>?_)
   ·
    have c7p:=kz c7
    rw [hl] at c7
    refine AJ (Gm rfl (Gm rfl (Gt (Ar rfl Tryz.underlying105 rfl) ?_)))
    refine Gt (FX rfl rfl (IntWalk.i64_in _ (by omega))) ?_
    refine KO W4 rfl Tryz.underlying105 VO rfl rfl (by omega) (by omega) (fun _=> .h) ?_
    refine Ga rfl ?_
    refine AQ (AB (.t7 1 2 4 7 8 24 25) ?_)
    refine AW (AW (AA (AJ ?_)))
    refine Gt (Av rfl rfl (IntWalk.i64_in _ (by omega))) ?_
    refine Gm rfl ?_
    refine AQ (AB (.t7 1 2 4 7 8 24 25) ?_)
    refine CS (k+1) _ _ _ _ _ _ _ ?_ ?_ (.t7 7 8 25 1 2 4 24) (.refl _)
    · exact⟨hI11.next (by omega) (by simp only [Bg.step,hl,c1,c2,c3,c4,c6,c7,↓reduceIte,Bool.false_eq_true]),(by(try dsimp only at *)<;>(try simp only [List.length_append,List.length_take,List.length_cons,List.length_nil])<;>omega),(by(try dsimp only at *)<;>(try simp only [List.length_append,List.length_cons,List.length_nil])<;>omega)⟩
    · omega
   have c7p:=kz c7
   rw [hl] at c7
   refine Aa ?_
   refine AB (.t7 1 2 4 7 8 24 25) ?_
   refine AW (AW (AA (AJ ?_)))
   refine Gt (Av rfl rfl (IntWalk.i64_in _ (by omega))) ?_
   refine Gm rfl ?_
   refine AQ (AB (.t7 1 2 4 7 8 24 25) ?_)
   refine CS (k+1) _ _ _ _ _ _ _ ?_ ?_ (.t7 7 8 25 1 2 4 24) (.refl _)
   · exact⟨hI11.next (by omega) (by simp only [Bg.step,hl,c1,c2,c3,c4,c6,c7,↓reduceIte,Bool.false_eq_true]),(by(try dsimp only at *)<;>(try simp only [List.length_append,List.length_take,List.length_cons,List.length_nil])<;>omega),(by(try dsimp only at *)<;>(try simp only [List.length_append,List.length_cons,List.length_nil])<;>omega)⟩
   · omega
  have c6p:=kz c6
  refine Gs (Gm rfl ?_)
  refine BA rfl bC (.c rfl .n) (fun w hS=>G5 _ w) ?_
  refine Gt (BT rfl) (Ga rfl (Gn (.t9 1 2 4 7 8 10 24 25 87) ?_))
  refine Gc (fun c8=>?_) (fun c8=>?_)
  ·
   have c8p:=kz c8
   refine Aa ?_
   refine AB (.t7 1 2 4 7 8 24 25) ?_
   refine AW (AW (AA (AJ ?_)))
   refine Gt (Av rfl rfl (IntWalk.i64_in _ (by omega))) ?_
   refine Gm rfl ?_
   refine AQ (AB (.t7 1 2 4 7 8 24 25) ?_)
   refine CS (k+1) _ _ _ _ _ _ _ ?_ ?_ (.t7 7 8 25 1 2 4 24) (.refl _)
   · exact⟨hI11.next (by omega) (by simp only [Bg.step,hl,c1,c2,c3,c4,c6,c8,↓reduceIte,Bool.false_eq_true]),(by(try dsimp only at *)<;>(try simp only [List.length_append,List.length_take,List.length_cons,List.length_nil])<;>omega),(by(try dsimp only at *)<;>(try simp only [List.length_append,List.length_cons,List.length_nil])<;>omega)⟩
   · omega
  have c8p:=kz c8
  refine Gs (Gm rfl (Gt (Ar rfl Tryz.underlying105 rfl) (Gt (CV rfl rfl) (Ga rfl (Gn (.t9 1 2 4 7 8 10 24 25 91) ?_)))))
  refine Gc (fun c9=>?_) (fun c9=>?_)
  ·
   have c9p:=kz c9
   rw [hl] at c9
   refine AJ (Gt (Ai Pc rfl) ?_)
   refine AT (AK BN.l1 rfl rfl rfl Kd rfl (.t (.t .h))) ?_
   refine AQ (AB (.t7 1 2 4 7 8 24 25) ?_)
   refine AW (AW (AA (AJ ?_)))
   refine Gt (Av rfl rfl (IntWalk.i64_in _ (by omega))) ?_
   refine Gm rfl ?_
   refine AQ (AB (.t7 1 2 4 7 8 24 25) ?_)
   refine CS (k+1) _ _ _ _ _ _ _ ?_ ?_ (.t7 7 8 25 1 2 4 24) (.refl _)
   · exact⟨hI11.next (by omega) (by simp only [Bg.step,hl,c1,c2,c3,c4,c6,c8,c9,↓reduceIte,Bool.false_eq_true]),(by(try dsimp only at *)<;>(try simp only [List.length_append,List.length_take,List.length_cons,List.length_nil])<;>omega),(by(try dsimp only at *)<;>(try simp only [List.length_append,List.length_cons,List.length_nil])<;>omega)⟩
   · omega
  have c9p:=kz c9
  rw [hl] at c9
  refine AJ (Gm rfl (Gm rfl ?_))
  refine E2 DV W4 rfl Tryz.underlying105 VO bL rfl (by decide) (by decide) rfl rfl (fun b4=>?_)
  refine CM W4 rfl Tryz.underlying105 VO bL rfl ew (by decide) (by decide) rfl rfl (fun w hS=>Src.Dq Tryz.underlying105 ((Kn.own .m0) w hS)) (by(try dsimp only);omega) (fun _=>(.t .h)) (fun h9 h9l h9z=>?_)
  refine Ga rfl ?_
  refine AQ (AB (.t7 1 2 4 7 8 24 25) ?_)
  refine AW (AW (AA (AJ ?_)))
  refine Gt (Av rfl rfl (IntWalk.i64_in _ (by omega))) ?_
  refine Gm rfl ?_
  refine AQ (AB (.t7 1 2 4 7 8 24 25) ?_)
  refine CS (k+1) _ _ _ _ _ _ _ ?_ ?_ (.t7 7 8 25 1 2 4 24) (.cons _ (.refl _))
  · exact⟨hI11.next (by omega) (by simp only [Bg.step,hl,c1,c2,c3,c4,c6,c8,c9,↓reduceIte,Bool.false_eq_true]),(by(try dsimp only at *)<;>(try simp only [List.length_append,List.length_take,List.length_cons,List.length_nil])<;>omega),(by(try dsimp only at *)<;>(try simp only [List.length_append,List.length_cons,List.length_nil])<;>omega)⟩
  · omega
 have c2p:=kz c2
 refine Ba (AV (AV (Af ?_)))
 refine AB (.t4 2 4 7 8) ?_
 refine AA (Gs (Gm rfl (Gt (KX Tryz.underlying105 Tryz.underlying9 Tryz.underlying5 rfl (Kn.own .m0)) (Gt (Ai Jt rfl) ?_))))
 refine AT (AK BN.l0 rfl rfl rfl Em rfl (.t (.t .h))) ?_
 refine Gn (.t3 2 4 7) (Gs (Gt (AZ rfl J8 .m2 (AU.id BN.fl.len BN.fl.one) rfl) (Gm rfl ?_)))
 refine AT (AK (AU.id BN.fl.len BN.fl.one) rfl rfl rfl Nx rfl (.t (.t (.t .h)))) ?_
 refine Ga rfl (Ga rfl (Gn (.t3 4 5 6) (Ab ?_)))
 refine AY rfl (.cell rfl .m3 (.inl ⟨(by rw [BN.fl.len];exact J8),rfl⟩) (.tmp rfl (.tmp rfl .n))) ?_
 intro w1 hS
 have hS:=(hS.perm (Ay.perm (.c (.t .h) .n))).A1
 have e:=hI11.done (by omega)
 exact⟨_, .inr ⟨hgd,_,by rw [e];rfl,by rw [e];exact hg,by rw [e]⟩,hS⟩
theorem NI (p:Az)(n:Int)(w:World):Ej Tryz.prog 66 #[.agg p.enc.toArray, .int .i64 n] w fun v w'=>v = .tuple #[.agg (Az.enc ⟨p.wait,p.shown,p.CC,p.ring.drop (max 0 (min n (p.ring.length:Int))).toNat,p.cut⟩).toArray,BU (p.ring.take (max 0 (min n (p.ring.length:Int))).toNat)]∧CB w w':=by
 refine Al [] [] Tryz.func66 rfl rfl rfl (St.start w []) ?_
 refine Gs ?_
 refine B5 rfl rfl rfl (fun b1=>?_)
 refine BH rfl Y2 rfl (fun b2=>?_)
 refine Ga rfl (Gn (.t3 1 2 4) (Gs (Gm rfl (Gt (Ai Ji rfl) (Gt (AH rfl CO .m1 Az.l3 rfl rfl) (Gt (BF rfl Tryz.underlying9 rfl) (Gt (Lb rfl rfl) ?_)))))))
 refine Gt (L8 rfl rfl) (Ga rfl (Gn (.t3 1 2 4) (Gs (Gt (Ai Ji rfl) (Gt (AH rfl CO .m1 Az.l3 rfl rfl) (Gm rfl ?_))))))
 refine Gt (Ix Tryz.underlying9 rfl rfl (by omega) (by omega)) ?_
 refine Ga rfl (Gn (.t4 1 2 4 6) (Gs (Gt (Ai Ji rfl) (Gt (AH rfl CO .m1 Az.l3 rfl rfl) (Gm rfl ?_)))))
 refine Gt (Gx Tryz.underlying9 rfl rfl (by omega) (by omega)) ?_
 refine Gt (Ai Ji rfl) ?_
 refine AT (AK Az.l3 rfl rfl rfl Em rfl (.t .h)) ?_
 refine Gn (.t3 2 4 6) (Gs (Gt (AZ rfl C3 .m1 (AU.id Az.fl.len Az.fl.one) rfl) (Gm rfl ?_)))
 refine AT (AK (AU.id Az.fl.len Az.fl.one) rfl rfl rfl Fw rfl .h) ?_
 refine Ga rfl (Gn (.t2 4 5) (Ab ?_))
 refine AY rfl (.cell rfl .m0 (.inl ⟨(by rw [Az.fl.len];exact C3),rfl⟩) (.tmp rfl .n)) ?_
 intro w1 hS;refine⟨?_,hS.Ak⟩;rfl
theorem JQ (b:Nat)(V:AL)(ls:Vector BG 4)(ev:List Ing.Event)(a:Bx)(hL:AI.Live (A5 V ls ev))(hu:a.bytes.length≤140737488351232):FC Tryz.prog 38 #[.pointer (some ⟨b,0,none⟩), .agg a.enc.toArray] [Ac.box b 101 (AL.enc V),Ac.D7 (CJ 9 (AL.Ax V) ls),Ac.own (AL.last V) 56 16 ((ev).flatMap Ing.Event.enc)] (fun w=>(GV 2 Fa w∧2 ∉ Cc [Ac.box b 101 (AL.enc V),Ac.D7 (CJ 9 (AL.Ax V) ls),Ac.own (AL.last V) 56 16 ((ev).flatMap Ing.Event.enc)])∧(GV 0 AG.DE w∧0 ∉ Cc [Ac.box b 101 (AL.enc V),Ac.D7 (CJ 9 (AL.Ax V) ls),Ac.own (AL.last V) 56 16 ((ev).flatMap Ing.Event.enc)])∧(G0 7 w∧7 ∉ Cc [Ac.box b 101 (AL.enc V),Ac.D7 (CJ 9 (AL.Ax V) ls),Ac.own (AL.last V) 56 16 ((ev).flatMap Ing.Event.enc)])∧(G0 8 w∧8 ∉ Cc [Ac.box b 101 (AL.enc V),Ac.D7 (CJ 9 (AL.Ax V) ls),Ac.own (AL.last V) 56 16 ((ev).flatMap Ing.Event.enc)])) (fun v B=>∃ V' ls' ev',v = .agg (Bq.enc (AI.act (A5 V ls ev) a).2).toArray∧A5 V' ls' ev'=(AI.act (A5 V ls ev) a).1∧B = [Ac.box b 101 (AL.enc V'),Ac.D7 (CJ 9 (AL.Ax V') ls'),Ac.own (AL.last V') 56 16 ((ev').flatMap Ing.Event.enc)]):=by
 intro w hS0 hH
 obtain⟨⟨gl0,gm0⟩,⟨gl1,gm1⟩,⟨gl2,gm2⟩,⟨gl3,gm3⟩⟩:=hH
 obtain⟨n,m,hF⟩:=hL.fits
 have hc:0≤V.B7:=hL.B7
 refine Al _ _ Tryz.func38 rfl rfl rfl (hS0) ?_
 refine Gs ?_
 refine B5 rfl rfl rfl (fun b1=>?_)
 refine BH rfl Kj rfl (fun b2=>?_)
 refine Gn (.t3 0 3 4) (Ap (Ae (Gs (Gm rfl (Gt (FZ Tryz.underlying37 rfl) (Ga rfl (Gn (.t4 0 3 4 11) ?_)))))))
 refine EP rfl rfl ?_
 refine Gs (Gm rfl (Gt (BV rfl) (Gt (Ai Q0 rfl) (Gt (AH rfl A4 .m2 AL.l2 rfl rfl) (Gt (CV rfl rfl) (Ga rfl (Gn (.t4 0 3 4 15) ?_)))))))
 refine Gc (fun c1=>?_) (fun c1=>?_)
 ·
  refine Gs (Gt (BC NP Kj rfl (.cons Bq.l0 rfl rfl rfl .nil)) ?_)
  refine AT (AK (AU.id Bq.fl.len Bq.fl.one) rfl rfl rfl Ka rfl .h) ?_
  refine Gn (.t1 4) (Ab (AR (AD ?_)))
  refine AY rfl (.cell rfl .m0 (.inl ⟨(by rw [Bq.fl.len];exact I2),rfl⟩) .n) ?_
  intro w1 hS
  have hS:=(hS.perm (Ay.perm (.c (.t (.t .h)) (.c (.t (.t .h)) (.c (.t (.t .h)) .n))))).A1
  have hq:(AI.act (A5 V ls ev) a)=((A5 V ls ev),⟨4,[]⟩):=BB c1
  refine⟨_,⟨V,ls,ev,?gv1,?ga1,rfl⟩,hS⟩
  case gv1=>rw [hq];rfl
  case ga1=>rw [hq]
 have c1p:=kz c1
 refine Aa ?_
 refine AB (.t3 0 3 4) ?_
 refine AW (AA (Gs (Gm rfl (Gt (BV rfl) (Gt (Ai Q0 rfl) (Gt (AH rfl A4 .m2 AL.l2 rfl rfl) ?_))))))
 refine Gt (Av rfl rfl (IntWalk.i64_in _ (by first | omega | exact hi.1 | exact hi.2 | exact hs.1 | exact hs.2))) ?_
 refine Gt (BV rfl) (Gt (Ai Q0 rfl) ?_)
 refine AT (AK AL.l2 rfl rfl rfl DB rfl (.t (.t .h))) ?_
 refine Gn (.t3 0 3 4) (Gs (Gm rfl (Gt (BV rfl) (Gt (Ai Na rfl) ?_))))
 refine AT (AK (Y:=⟨none,0,0⟩) AL.l3 rfl rfl rfl S9 rfl (.t (.t .h))) ?_
 refine Gn (.t3 0 3 4) (Ap (Ap ?_))
 refine Eb Ing.Event.enc 56 16 ?_
 refine Eu (.c (.t (.t (.t .h))) (.c (.t (.t (.t .h))) (.c .h .n))) ?_
 refine AJ (Gm rfl (AQ (AA (Ae ?_))))
 refine Bl (.t4 32 0 3 4) ?_
 refine Bf (.t (.t .h)) ?_
 refine Bf (.t (.t .h)) ?_
 refine Bf (.t (.t .h)) ?_
 refine Il (fun(i:Int) (V1:AL) (ls1:Vector BG 4) (ev1:List Ing.Event)=>0≤i∧i≤4∧(A5 V1 ls1 ev1)=AI.Ef ({ (A5 V ls ev) with B7:=((A5 V ls ev)).B7+1,last:= [] }:AI) i.toNat) (fun(i:Int) (V1:AL) (ls1:Vector BG 4) (ev1:List Ing.Event)=>(4 - i).toNat) (fun(i:Int) (V1:AL) (ls1:Vector BG 4) (ev1:List Ing.Event)=> [(32, .int .i64 i)]) (fun(i:Int) (V1:AL) (ls1:Vector BG 4) (ev1:List Ing.Event)=> [Ac.box b 101 (AL.enc V1),Ac.D7 (CJ 9 (AL.Ax V1) ls1),Ac.own (AL.last V1) 56 16 (ev1.flatMap Ing.Event.enc)]) (0) (_) (ls) ([]) ?_ rfl rfl (fun i V1 ls1 ev1 hI1=>?_)
 · exact⟨by omega,by omega,rfl⟩
 obtain⟨hI11,hI12,hI13⟩:=hI1
 refine Gs (Gt (A8 rfl rfl) (AQ (AA (Ap ?_))))
 refine Gc (fun c2=>?_) (fun c2=>?_)
 ·
  have c2p:=kz c2
  have hi:0≤i∧i < 4:=⟨by omega,by omega⟩
  refine Aa ?_
  refine AB (.t4 0 3 4 32) ?_
  refine AA (Ap (Ae (Gs (Gm rfl (Ga rfl (Gn (.t5 0 3 4 5 32) ?_))))))
  refine Ft (k:=i) hi.1 hi.2 (fun sv sl hsv hlv hln=>?_)
  refine AJ (Gm rfl (Gm rfl (Gt (BV rfl) (Gt (Ai HI rfl) ?_))))
  refine Gt (AS RV rfl rfl (by first | omega | exact hi.1 | exact hi.2 | exact hs.1 | exact hs.2) (by first | omega | exact hi.1 | exact hi.2 | exact hs.1 | exact hs.2)) ?_
  refine Gt (Ai Rf rfl) ?_
  refine AT (AK (Y:=⟨none,0,0⟩) ((AU.BM V1 hi.1 hi.2).comp A2.l5) rfl rfl rfl N1 rfl (.t (.t (.t .h)))) ?_
  refine AQ (AB (.t4 0 3 4 32) ?_)
  refine AW (AA ?_)
  refine Eb A7 9 1 ?_
  refine Eu (.c (.t .h) (.c (.t .h) (.c .h (.c (.t .h) (.c (.t .h) .n))))) ?_
  refine HG hi.1 hi.2 (by rfl) (by rfl) (by rfl) ?_
  refine AJ ?_
  refine Gt (Av rfl rfl (IntWalk.i64_in _ (by first | omega | exact hi.1 | exact hi.2 | exact hs.1 | exact hs.2))) ?_
  refine Gm rfl ?_
  refine AQ (AB (.t4 0 3 4 32) ?_)
  refine CI (.c .h (.c .h (.c (.t .h) (.c (.t .h) (.c (.t .h) (.c (.t .h) .n)))))) ?_
  refine Cf ?_
  refine DC (i+1) _ _ _ ?_ ?_ (.t4 32 0 3 4) (.refl _)
  · exact⟨by omega,by omega,(En hi.1 hi.2 hsv hlv (f:=fun x=>{ x with told:= [] }) rfl).trans (by rw [hI13];exact(AI.RG hI11).symm)⟩
  · omega
 have c2p:=kz c2
 obtain rfl:i=4:=by omega
 have hX:(A5 V1 ls1 ev1)=(AI.begun (A5 V ls ev)):=hI13
 have hF0:AI.Fit (A5 V1 ls1 ev1) 0 0:=by rw [hX];exact hF.begun
 refine Ba (AV (AV (Af ?_)))
 refine AB (.t3 0 3 4) ?_
 refine AA (CD (Gt (Ai Of rfl) (Gt (AH rfl A4 .m4 Bx.l0 rfl rfl) (Gt (Ag rfl rfl) (Gn (.t4 0 3 4 44) ?_)))))
 refine Gc (fun c3=>?_) (fun c3=>?_)
 ·
  have c3p:=kz c3
  refine Gs (Gm rfl (Gt (Ai Yg rfl) (Gt (AH rfl A4 .m4 Bx.l2 rfl rfl) ?_)))
  refine BE rfl eu (.c rfl (.c rfl .n)) (.c .h (.c .h (.c .h .n))) (Pv _ V1 ls1 ev1 a.n 0 0 hF0 (by omega) (by omega)) (fun w hS=>⟨gl0.pull gm0 hS (.c .h (.c .h (.c .h .n))),gl1.pull gm1 hS (.c .h (.c .h (.c .h .n))),gl2.pull gm2 hS (.c .h (.c .h (.c .h .n))),gl3.pull gm3 hS (.c .h (.c .h (.c .h .n)))⟩) (fun v2 B hv=>?_)
  obtain⟨y3,y4,y5,rfl,y6,rfl⟩:=hv
  refine Gn (.t1 4) (Gs (Gt (BC NP Kj rfl .nil) ?_))
  refine AT (AK (AU.id Bq.fl.len Bq.fl.one) rfl rfl rfl Ka rfl (.t (.t (.t .h)))) ?_
  refine Gn (.t1 4) (Ab (AD ?_))
  refine AY rfl (.cell rfl .m3 (.inl ⟨(by rw [Bq.fl.len];exact I2),rfl⟩) .n) ?_
  intro w1 hS
  have hS:=(hS.perm (Ay.perm (.c .h (.c .h (.c .h .n))))).A1
  have hq0:AI.D0 (A5 V1 ls1 ev1) a=_:=(BB c3)
  have hq:(AI.act (A5 V ls ev) a)=_:=(AI.GI c1 a).trans ((congrArg (fun X=>AI.D0 X a) hX.symm).trans hq0)
  refine⟨_,⟨y3,y4,y5,?gv2,?ga2,rfl⟩,hS⟩
  case gv2=>rw [hq];rfl
  case ga2=>rw [hq];dsimp only;exact y6
 have c3p:=kz c3
 refine Aa ?_
 refine AB (.t3 0 3 4) ?_
 refine AA (CD (Gt (Ai Of rfl) (Gt (AH rfl A4 .m4 Bx.l0 rfl rfl) (Gt (A8 rfl rfl) (Gm rfl (Bc 53 rfl rfl (fun q=>Ai Of rfl) (Bc 53 rfl rfl (fun q=>AH (cF rfl q) A4 .m4 Bx.l0 rfl rfl) ?_)))))))
 refine Bc 53 rfl rfl (fun q=>Cn (cF rfl q) rfl) ?_
 refine Gt (BR rfl rfl (fun h=>by rw [h];rfl)) ?_
 refine Gn (.t4 0 3 4 57) ?_
 refine Gc (fun c4=>?_) (fun c4=>?_)
 ·
  refine Gs (Gt (BC NP Kj rfl (.cons Bq.l0 rfl rfl rfl .nil)) ?_)
  refine AT (AK (AU.id Bq.fl.len Bq.fl.one) rfl rfl rfl Ka rfl (.t (.t (.t .h)))) ?_
  refine Gn (.t1 4) (Ab (AD ?_))
  refine AY rfl (.cell rfl .m3 (.inl ⟨(by rw [Bq.fl.len];exact I2),rfl⟩) .n) ?_
  intro w1 hS
  have hS:=(hS.perm (Ay.perm (.c .h (.c .h (.c .h .n))))).A1
  have hq0:AI.D0 (A5 V1 ls1 ev1) a=_:=((AX c3).trans (BB c4))
  have hq:(AI.act (A5 V ls ev) a)=_:=(AI.GI c1 a).trans ((congrArg (fun X=>AI.D0 X a) hX.symm).trans hq0)
  refine⟨_,⟨V1,ls1,ev1,?gv3,?ga3,rfl⟩,hS⟩
  case gv3=>rw [hq];rfl
  case ga3=>rw [hq]
 have c4p:=kz c4
 refine Aa ?_
 refine AB (.t3 0 3 4) ?_
 refine AA (CD (Gt (Ai Tn rfl) (Gt (AH rfl A4 .m4 Bx.l1 rfl rfl) (Gt (A8 rfl rfl) (Gm rfl (Bc 62 rfl rfl (fun q=>Ai Tn rfl) (Bc 62 rfl rfl (fun q=>AH (cF rfl q) A4 .m4 Bx.l1 rfl rfl) ?_)))))))
 refine Bc 62 rfl rfl (fun q=>CV (cF rfl q) rfl) ?_
 refine Gt (BR rfl rfl (fun h=>by rw [h];rfl)) ?_
 refine Gn (.t4 0 3 4 66) ?_
 refine Gc (fun c5=>?_) (fun c5=>?_)
 ·
  refine Gs (Gt (BC NP Kj rfl (.cons Bq.l0 rfl rfl rfl .nil)) ?_)
  refine AT (AK (AU.id Bq.fl.len Bq.fl.one) rfl rfl rfl Ka rfl (.t (.t (.t .h)))) ?_
  refine Gn (.t1 4) (Ab (AD ?_))
  refine AY rfl (.cell rfl .m3 (.inl ⟨(by rw [Bq.fl.len];exact I2),rfl⟩) .n) ?_
  intro w1 hS
  have hS:=(hS.perm (Ay.perm (.c .h (.c .h (.c .h .n))))).A1
  have hq0:AI.D0 (A5 V1 ls1 ev1) a=_:=((AX c3).trans ((AX c4).trans (BB c5)))
  have hq:(AI.act (A5 V ls ev) a)=_:=(AI.GI c1 a).trans ((congrArg (fun X=>AI.D0 X a) hX.symm).trans hq0)
  refine⟨_,⟨V1,ls1,ev1,?gv4,?ga4,rfl⟩,hS⟩
  case gv4=>rw [hq];rfl
  case ga4=>rw [hq]
 have c5p:=kz c5
 have hs:0≤a.BM∧a.BM < 4:=⟨by omega,by omega⟩
 refine Aa ?_
 refine AB (.t3 0 3 4) ?_
 refine AA (Ap ?_)
 refine BD (N:=7) [0,0,2,1,9,31,63] mix (by kernel_rfl) rfl ?_
 refine Pf 0 rfl (AF rfl) (Pf 1 rfl (Ai Tn rfl) (Pf 2 rfl (AH rfl A4 .m4 Bx.l1 rfl rfl) (Pf 3 rfl (BV rfl) (Pf 4 rfl (Ai HI rfl) ?_))))
 refine Pf 5 rfl (AS RV rfl rfl (by first | omega | exact hi.1 | exact hi.2 | exact hs.1 | exact hs.2) (by first | omega | exact hi.1 | exact hi.2 | exact hs.1 | exact hs.2)) ?_
 refine Pf 6 rfl (A0 rfl) ?_
 refine A3 (by kernel_rfl) ?_
 refine AB (.t4 0 3 4 6) ?_
 refine AA (Ap (Ap ?_))
 refine BD (N:=9) [0,1,3,7,15,0,32,96,255] mix (by kernel_rfl) rfl ?_
 refine Pf 0 rfl (AF rfl) (Pf 1 rfl (BV rfl) (Pf 2 rfl (Ai JF rfl) ?_))
 refine Pf 3 rfl (AH rfl A4 .m0 ((AL.l1.comp (AU.ar (n:=4) A2.fl (by first | omega | exact hi | exact hs))).comp A2.l0) rfl rfl) ?_
 refine Pf 4 rfl (Ag rfl rfl) (Pf 5 rfl (Ai Of rfl) (Pf 6 rfl (AH rfl A4 .m4 Bx.l0 rfl rfl) (Pf 7 rfl (Ag rfl rfl) (Pf 8 rfl (J1 Tryz.underlying4 rfl rfl) ?_))))
 refine A3 (by kernel_rfl) ?_
 refine AB (.t5 0 3 4 6 82) ?_
 refine AA ?_
 refine Gc (fun c6=>?_) (fun c6=>?_)
 ·
  refine Gs (Gt (BC NP Kj rfl (.cons Bq.l0 rfl rfl rfl .nil)) ?_)
  refine AT (AK (AU.id Bq.fl.len Bq.fl.one) rfl rfl rfl Ka rfl (.t (.t (.t .h)))) ?_
  refine Gn (.t1 4) (Ab (AD ?_))
  refine AY rfl (.cell rfl .m3 (.inl ⟨(by rw [Bq.fl.len];exact I2),rfl⟩) .n) ?_
  intro w1 hS
  have hS:=(hS.perm (Ay.perm (.c .h (.c .h (.c .h .n))))).A1
  have hq0:AI.D0 (A5 V1 ls1 ev1) a=_:=((AX c3).trans ((AX c4).trans ((AX c5).trans (BB (show(decide ((AI.at_ (A5 V1 ls1 ev1) a.BM).state=0) != decide (a.kind=1))=true by rw [Gf V1 ls1 ev1 hs.1 hs.2];exact c6)))))
  have hq:(AI.act (A5 V ls ev) a)=_:=(AI.GI c1 a).trans ((congrArg (fun X=>AI.D0 X a) hX.symm).trans hq0)
  refine⟨_,⟨V1,ls1,ev1,?gv5,?ga5,rfl⟩,hS⟩
  case gv5=>rw [hq];rfl
  case ga5=>rw [hq]
 have c6p:=kz c6
 refine Aa ?_
 refine AB (.t4 0 3 4 6) ?_
 refine AA (CD (Gt (Ai Of rfl) (Gt (AH rfl A4 .m4 Bx.l0 rfl rfl) (Gn (.t5 0 3 4 6 85) (Ae (Gs (Gt (Ag rfl rfl) ?_)))))))
 refine Ga rfl (Gn (.t6 0 3 4 6 85 86) ?_)
 refine Gc (fun c7=>?_) (fun c7=>?_)
 ·
  have c7p:=kz c7
  refine AJ (Gm rfl (Gm rfl ?_))
  refine BE rfl fB (.c rfl (.c rfl .n)) (.c .h (.c .h (.c .h .n))) (Rj _ V1 ls1 ev1 a.BM 0 0 hs hF0 (by omega) (by omega)) (fun w hS=>⟨gl0.pull gm0 hS (.c .h (.c .h (.c .h .n))),gl1.pull gm1 hS (.c .h (.c .h (.c .h .n))),gl2.pull gm2 hS (.c .h (.c .h (.c .h .n))),gl3.pull gm3 hS (.c .h (.c .h (.c .h .n)))⟩) (fun v7 B hv=>?_)
  obtain⟨y8,y9,y10,rfl,y11,rfl⟩:=hv
  refine AQ (AB (.t1 4) ?_)
  refine AW (AA (Gs (Gt (BC NP Kj rfl .nil) ?_)))
  refine AT (AK (AU.id Bq.fl.len Bq.fl.one) rfl rfl rfl Ka rfl (.t (.t (.t .h)))) ?_
  refine Gn (.t1 4) (Ab ?_)
  refine AY rfl (.cell rfl .m3 (.inl ⟨(by rw [Bq.fl.len];exact I2),rfl⟩) .n) ?_
  intro w1 hS
  have hS:=(hS.perm (Ay.perm (.c .h (.c .h (.c .h .n))))).A1
  have hq0:AI.D0 (A5 V1 ls1 ev1) a=_:=((AX c3).trans ((AX c4).trans ((AX c5).trans ((AX (show(decide ((AI.at_ (A5 V1 ls1 ev1) a.BM).state=0) != decide (a.kind=1))=false by rw [Gf V1 ls1 ev1 hs.1 hs.2];exact c6)).trans (BB c7)))))
  have hq:(AI.act (A5 V ls ev) a)=_:=(AI.GI c1 a).trans ((congrArg (fun X=>AI.D0 X a) hX.symm).trans hq0)
  refine⟨_,⟨y8,y9,y10,?gv6,?ga6,rfl⟩,hS⟩
  case gv6=>rw [hq];rfl
  case ga6=>rw [hq];dsimp only;exact y11
 have c7p:=kz c7
 refine Gs (Gt (Ag rfl rfl) (Ga rfl (Gn (.t6 0 3 4 6 85 91) ?_)))
 refine Gc (fun c8=>?_) (fun c8=>?_)
 ·
  have c8p:=kz c8
  refine Gs (Ga rfl (Ga rfl (Gn (.t4 0 3 4 6) (Ap ?_))))
  refine Ft (k:=a.BM) hs.1 hs.2 (fun sv sl hsv hlv hln=>?_)
  refine BD (N:=18) [0,0,2,6,14,0,32,126,254,510,510,510,510,1023,9215,25599,59391,126975] mix (by kernel_rfl) rfl ?_
  refine Pf 0 rfl (AF rfl) (Pf 1 rfl (AF rfl) (Pf 2 rfl (BV rfl) (Pf 3 rfl (Ai Ku rfl) (Pf 4 rfl (AZ rfl D6 .m3 ((AU.BM V1 hs.1 hs.2).comp A2.l2) rfl) (Pf 5 rfl (Ai bd rfl) (Pf 6 rfl (AH rfl CO .m7 Bx.l3 rfl rfl) ?_))))))
  refine Bb 7 rfl rfl (by kernel_rfl) (L9 (K9 (EB fi (.c rfl (.c rfl .n)) (fun w hS=>Mo _ _ (by omega) w)))) ?_
  refine Pf 8 rfl (AF rfl) (Pf 9 rfl (AM rfl rfl) (Pf 10 rfl (AM rfl rfl) (Pf 11 rfl (AM rfl rfl) (Pf 12 rfl (AM rfl rfl) (Pf 13 rfl (BV rfl) (Pf 14 rfl (Ai Ku rfl) ?_))))))
  refine An 15 rfl (by kernel_rfl) ?_
  refine AT (AK ((AU.BM V1 hs.1 hs.2).comp A2.l2) rfl rfl rfl Ki rfl (.t (.t (.t .h)))) ?_
  refine BO rfl ⟨?_,?_⟩
  · exact(Pk (Pk (Po rfl (AM rfl rfl) rfl rfl (Po rfl (AM rfl rfl) rfl rfl (Po rfl (AM rfl rfl) rfl rfl (Pk (Pk (Pk (Pk (Pk (Pk (Pk (Pk (Pk (Pk As)))))))))))))))
  refine Pf 16 rfl (A0 rfl) (Pf 17 rfl (A0 rfl) ?_)
  refine A3 (by kernel_rfl) ?_
  refine AB (.t5 0 4 6 7 8) ?_
  refine AA (Gs (Gm rfl (Gm rfl (Gt (BV rfl) (Gt (Ai D2 rfl) (Gt (AZ rfl C3 .m3 ((AU.BM V1 hs.1 hs.2).comp A2.l4) rfl) (Gm rfl ?_)))))))
  refine BA rfl XY (.c rfl (.c rfl .n)) (fun w hS=>EU _ _ (by have h:=AP.WW sv.Ds a.bytes;omega) w) ?_
  refine Gm rfl (Gt (AM rfl rfl) (Gt (AM rfl rfl) (Gt (BV rfl) (Gt (Ai D2 rfl) ?_))))
  refine AT (AK ((AU.BM V1 hs.1 hs.2).comp A2.l4) rfl rfl rfl Fw rfl (.t (.t (.t .h)))) ?_
  refine Gn (.t4 0 4 6 7) (Gs (Ga rfl (Gn (.t4 0 4 6 7) (CD (Gm rfl (Gm rfl (Gt (BV rfl) ?_)))))))
  refine Gt (Ai Mx rfl) (Gt (AZ rfl J8 .m3 ((AU.BM V1 hs.1 hs.2).comp A2.l3) rfl) (Gm rfl ?_))
  refine BE rfl fA (.c rfl (.c rfl .n)) .n (Oj _ _ _ (by have h:=V0 sv.Ds a.bytes;omega)) (fun w hS=>(Kn.own .m0) w hS) (fun v12 B hv=>?_)
  rcases hv with ⟨y13,rfl,rfl⟩ | ⟨y14,y15,rfl,y16,rfl⟩
  ·
   refine Gm rfl (Gt (AM rfl rfl) (Gt (AM rfl rfl) (Gt (AM rfl rfl) (Gt (BV rfl) (Gt (Ai Mx rfl) ?_)))))
   refine AT (AK ((AU.BM V1 hs.1 hs.2).comp A2.l3) rfl rfl rfl Nx rfl (.t (.t (.t .h)))) ?_
   refine Ga rfl (Gn (.t4 0 4 6 9) (Ap ?_))
   refine Eu (.c .h (.c .h (.c .h (.c .h (.c .h .n))))) ?_
   refine HG hs.1 hs.2 (by rfl) (by rfl) (by rfl) ?_
   refine AJ (Gm rfl (Gt (Cn rfl rfl) (Gn (.t4 0 4 6 134) ?_)))
   refine Gc (fun c9=>?_) (fun c9=>?_)
   ·
    have c9p:=kz c9
    refine AJ (Gm rfl (Gm rfl ?_))
    refine Ah rfl UR (.c rfl (.c rfl (.c rfl .n))) (.c .h (.c .h (.c .h .n))) (EO _ (AL.BM V1 a.BM (heard sv a.bytes)) (ls1.put a.BM ⟨sl.queue,sl.wait,sl.told⟩) ev1 a.BM _ hs (Nat.le_trans (Gp (I3 hs.1 hs.2 (FG (V:=V1) (ls:=ls1) (ev:=ev1) hs.1 hs.2 hsv hlv (Hl (u:=a.bytes) hln.2.1 hln.1 y13)) hF0) a.BM hs.1 hs.2) (by omega))) (fun v18 B hv=>?_)
    obtain⟨y19,y20,y21,rfl,y22,rfl⟩:=hv
    refine Gn (.t2 0 4) (AJ (Gm rfl ?_))
    refine BE rfl SC (.c rfl .n) (.c .h (.c .h (.c .h .n))) (Dz _ y19 y20 y21 1 0 (by rw [y22];exact(I3 hs.1 hs.2 (FG (V:=V1) (ls:=ls1) (ev:=ev1) hs.1 hs.2 hsv hlv (Hl (u:=a.bytes) hln.2.1 hln.1 y13)) hF0).tell hs.1 hs.2 (show AI.Md.length≤_ by decide)) (by omega) (by omega)) (fun w hS=>⟨gl0.pull gm0 hS (.c .h (.c .h (.c .h .n))),gl1.pull gm1 hS (.c .h (.c .h (.c .h .n))),gl2.pull gm2 hS (.c .h (.c .h (.c .h .n))),gl3.pull gm3 hS (.c .h (.c .h (.c .h .n)))⟩) (fun v23 B hv=>?_)
    obtain⟨y24,y25,y26,rfl,y27,rfl⟩:=hv
    refine AQ (AB (.t1 4) ?_)
    refine AW (AA (Gs (Gt (BC NP Kj rfl .nil) ?_)))
    refine AT (AK (AU.id Bq.fl.len Bq.fl.one) rfl rfl rfl Ka rfl (.t (.t (.t .h)))) ?_
    refine Gn (.t1 4) (Ab ?_)
    refine AY rfl (.cell rfl .m3 (.inl ⟨(by rw [Bq.fl.len];exact I2),rfl⟩) .n) ?_
    intro w1 hS
    have hS:=(hS.perm (Ay.perm (.c .h (.c .h (.c .h .n))))).A1
    have hq0:AI.D0 (A5 V1 ls1 ev1) a=_:=((AX c3).trans ((AX c4).trans ((AX c5).trans ((AX (show(decide ((AI.at_ (A5 V1 ls1 ev1) a.BM).state=0) != decide (a.kind=1))=false by rw [Gf V1 ls1 ev1 hs.1 hs.2];exact c6)).trans ((AX c7).trans (BB c8))))))
    have hq:(AI.act (A5 V ls ev) a)=_:=(AI.GI c1 a).trans ((congrArg (fun X=>AI.D0 X a) hX.symm).trans hq0)
    refine⟨_,⟨y24,y25,y26,?gv7,?ga7,rfl⟩,hS⟩
    case gv7=>rw [hq];rfl
    case ga7=>rw [hq];dsimp only;exact(Ld hs.1 hs.2 (FG (V:=V1) (ls:=ls1) (ev:=ev1) hs.1 hs.2 hsv hlv (Hl (u:=a.bytes) hln.2.1 hln.1 y13)) (.inl ⟨c9,y22⟩) y27)
   have c9p:=kz c9
   refine Aa ?_
   refine AB (.t2 0 4) ?_
   refine AA (AJ (Gm rfl ?_))
   refine BE rfl SC (.c rfl .n) (.c .h (.c .h (.c .h .n))) (Dz _ (AL.BM V1 a.BM (heard sv a.bytes)) (ls1.put a.BM ⟨sl.queue,sl.wait,sl.told⟩) ev1 0 0 (I3 hs.1 hs.2 (FG (V:=V1) (ls:=ls1) (ev:=ev1) hs.1 hs.2 hsv hlv (Hl (u:=a.bytes) hln.2.1 hln.1 y13)) hF0) (by omega) (by omega)) (fun w hS=>⟨gl0.pull gm0 hS (.c .h (.c .h (.c .h .n))),gl1.pull gm1 hS (.c .h (.c .h (.c .h .n))),gl2.pull gm2 hS (.c .h (.c .h (.c .h .n))),gl3.pull gm3 hS (.c .h (.c .h (.c .h .n)))⟩) (fun v28 B hv=>?_)
   obtain⟨y29,y30,y31,rfl,y32,rfl⟩:=hv
   refine AQ (AB (.t1 4) ?_)
   refine AW (AA (Gs (Gt (BC NP Kj rfl .nil) ?_)))
   refine AT (AK (AU.id Bq.fl.len Bq.fl.one) rfl rfl rfl Ka rfl (.t (.t (.t .h)))) ?_
   refine Gn (.t1 4) (Ab ?_)
   refine AY rfl (.cell rfl .m3 (.inl ⟨(by rw [Bq.fl.len];exact I2),rfl⟩) .n) ?_
   intro w1 hS
   have hS:=(hS.perm (Ay.perm (.c .h (.c .h (.c .h .n))))).A1
   have hq0:AI.D0 (A5 V1 ls1 ev1) a=_:=((AX c3).trans ((AX c4).trans ((AX c5).trans ((AX (show(decide ((AI.at_ (A5 V1 ls1 ev1) a.BM).state=0) != decide (a.kind=1))=false by rw [Gf V1 ls1 ev1 hs.1 hs.2];exact c6)).trans ((AX c7).trans (BB c8))))))
   have hq:(AI.act (A5 V ls ev) a)=_:=(AI.GI c1 a).trans ((congrArg (fun X=>AI.D0 X a) hX.symm).trans hq0)
   refine⟨_,⟨y29,y30,y31,?gv8,?ga8,rfl⟩,hS⟩
   case gv8=>rw [hq];rfl
   case ga8=>rw [hq];dsimp only;exact(Ld hs.1 hs.2 (FG (V:=V1) (ls:=ls1) (ev:=ev1) hs.1 hs.2 hsv hlv (Hl (u:=a.bytes) hln.2.1 hln.1 y13)) (.inr ⟨c9,rfl⟩) y32)
  refine Gm rfl (Gt (AM rfl rfl) (Gt (AM rfl rfl) (Gt (AM rfl rfl) (Gt (BV rfl) (Gt (Ai Mx rfl) ?_)))))
  refine AT (AK ((AU.BM V1 hs.1 hs.2).comp A2.l3) rfl rfl rfl Nx rfl (.t (.t (.t (.t .h))))) ?_
  refine Ga rfl (Gn (.t4 0 4 6 9) (Ap ?_))
  refine Eu (.c .h (.c (.t .h) (.c (.t .h) (.c (.t .h) (.c (.t .h) .n))))) ?_
  refine HG hs.1 hs.2 (by rfl) (by rfl) (by rfl) ?_
  refine AJ (Gm rfl (Gt (Cn rfl rfl) (Gn (.t4 0 4 6 134) ?_)))
  refine Gc (fun c10=>?_) (fun c10=>?_)
  ·
   have c10p:=kz c10
   refine AJ (Gm rfl (Gm rfl ?_))
   refine Ah rfl UR (.c rfl (.c rfl (.c rfl .n))) (.c .h (.c .h (.c (.t .h) .n))) (EO _ (AL.BM V1 a.BM { heard sv a.bytes with Eg:=⟨(Bg.feed (Bg.start sv.Eg sl.queue) (sv.Ds.Di a.bytes).2.1).now,(Bg.feed (Bg.start sv.Eg sl.queue) (sv.Ds.Di a.bytes).2.1).Cy,(Bg.feed (Bg.start sv.Eg sl.queue) (sv.Ds.Di a.bytes).2.1).ret,y15⟩ }) (ls1.put a.BM ⟨(Bg.feed (Bg.start sv.Eg sl.queue) (sv.Ds.Di a.bytes).2.1).queue,sl.wait,sl.told⟩) ev1 a.BM _ hs (Nat.le_trans (Gp (I3 hs.1 hs.2 (FG (V:=V1) (ls:=ls1) (ev:=ev1) hs.1 hs.2 hsv hlv (Iu (u:=a.bytes) hln.2.1 hln.1 y14 y15)) hF0) a.BM hs.1 hs.2) (by omega))) (fun v33 B hv=>?_)
   obtain⟨y34,y35,y36,rfl,y37,rfl⟩:=hv
   refine Gn (.t2 0 4) (AJ (Gm rfl ?_))
   refine BE rfl SC (.c rfl .n) (.c .h (.c .h (.c .h .n))) (Dz _ y34 y35 y36 1 0 (by rw [y37];exact(I3 hs.1 hs.2 (FG (V:=V1) (ls:=ls1) (ev:=ev1) hs.1 hs.2 hsv hlv (Iu (u:=a.bytes) hln.2.1 hln.1 y14 y15)) hF0).tell hs.1 hs.2 (show AI.Md.length≤_ by decide)) (by omega) (by omega)) (fun w hS=>⟨gl0.pull gm0 hS (.c .h (.c .h (.c .h .n))),gl1.pull gm1 hS (.c .h (.c .h (.c .h .n))),gl2.pull gm2 hS (.c .h (.c .h (.c .h .n))),gl3.pull gm3 hS (.c .h (.c .h (.c .h .n)))⟩) (fun v38 B hv=>?_)
   obtain⟨y39,y40,y41,rfl,y42,rfl⟩:=hv
   refine AQ (AB (.t1 4) ?_)
   refine AW (AA (Gs (Gt (BC NP Kj rfl .nil) ?_)))
   refine AT (AK (AU.id Bq.fl.len Bq.fl.one) rfl rfl rfl Ka rfl (.t (.t (.t (.t .h))))) ?_
   refine Gn (.t1 4) (Ab ?_)
   refine AY rfl (.cell rfl .m4 (.inl ⟨(by rw [Bq.fl.len];exact I2),rfl⟩) .n) ?_
   intro w1 hS
   have hS:=(hS.perm (Ay.perm (.c .h (.c .h (.c .h .n))))).A1
   have hq0:AI.D0 (A5 V1 ls1 ev1) a=_:=((AX c3).trans ((AX c4).trans ((AX c5).trans ((AX (show(decide ((AI.at_ (A5 V1 ls1 ev1) a.BM).state=0) != decide (a.kind=1))=false by rw [Gf V1 ls1 ev1 hs.1 hs.2];exact c6)).trans ((AX c7).trans (BB c8))))))
   have hq:(AI.act (A5 V ls ev) a)=_:=(AI.GI c1 a).trans ((congrArg (fun X=>AI.D0 X a) hX.symm).trans hq0)
   refine⟨_,⟨y39,y40,y41,?gv9,?ga9,rfl⟩,hS⟩
   case gv9=>rw [hq];rfl
   case ga9=>rw [hq];dsimp only;exact(Ld hs.1 hs.2 (FG (V:=V1) (ls:=ls1) (ev:=ev1) hs.1 hs.2 hsv hlv (Iu (u:=a.bytes) hln.2.1 hln.1 y14 y15)) (.inl ⟨c10,y37⟩) y42)
  have c10p:=kz c10
  refine Aa ?_
  refine AB (.t2 0 4) ?_
  refine AA (AJ (Gm rfl ?_))
  refine BE rfl SC (.c rfl .n) (.c .h (.c .h (.c (.t .h) .n))) (Dz _ (AL.BM V1 a.BM { heard sv a.bytes with Eg:=⟨(Bg.feed (Bg.start sv.Eg sl.queue) (sv.Ds.Di a.bytes).2.1).now,(Bg.feed (Bg.start sv.Eg sl.queue) (sv.Ds.Di a.bytes).2.1).Cy,(Bg.feed (Bg.start sv.Eg sl.queue) (sv.Ds.Di a.bytes).2.1).ret,y15⟩ }) (ls1.put a.BM ⟨(Bg.feed (Bg.start sv.Eg sl.queue) (sv.Ds.Di a.bytes).2.1).queue,sl.wait,sl.told⟩) ev1 0 0 (I3 hs.1 hs.2 (FG (V:=V1) (ls:=ls1) (ev:=ev1) hs.1 hs.2 hsv hlv (Iu (u:=a.bytes) hln.2.1 hln.1 y14 y15)) hF0) (by omega) (by omega)) (fun w hS=>⟨gl0.pull gm0 hS (.c .h (.c .h (.c (.t .h) .n))),gl1.pull gm1 hS (.c .h (.c .h (.c (.t .h) .n))),gl2.pull gm2 hS (.c .h (.c .h (.c (.t .h) .n))),gl3.pull gm3 hS (.c .h (.c .h (.c (.t .h) .n)))⟩) (fun v43 B hv=>?_)
  obtain⟨y44,y45,y46,rfl,y47,rfl⟩:=hv
  refine AQ (AB (.t1 4) ?_)
  refine AW (AA (Gs (Gt (BC NP Kj rfl .nil) ?_)))
  refine AT (AK (AU.id Bq.fl.len Bq.fl.one) rfl rfl rfl Ka rfl (.t (.t (.t (.t .h))))) ?_
  refine Gn (.t1 4) (Ab ?_)
  refine AY rfl (.cell rfl .m4 (.inl ⟨(by rw [Bq.fl.len];exact I2),rfl⟩) .n) ?_
  intro w1 hS
  have hS:=(hS.perm (Ay.perm (.c .h (.c .h (.c .h .n))))).A1
  have hq0:AI.D0 (A5 V1 ls1 ev1) a=_:=((AX c3).trans ((AX c4).trans ((AX c5).trans ((AX (show(decide ((AI.at_ (A5 V1 ls1 ev1) a.BM).state=0) != decide (a.kind=1))=false by rw [Gf V1 ls1 ev1 hs.1 hs.2];exact c6)).trans ((AX c7).trans (BB c8))))))
  have hq:(AI.act (A5 V ls ev) a)=_:=(AI.GI c1 a).trans ((congrArg (fun X=>AI.D0 X a) hX.symm).trans hq0)
  refine⟨_,⟨y44,y45,y46,?gv10,?ga10,rfl⟩,hS⟩
  case gv10=>rw [hq];rfl
  case ga10=>rw [hq];dsimp only;exact(Ld hs.1 hs.2 (FG (V:=V1) (ls:=ls1) (ev:=ev1) hs.1 hs.2 hsv hlv (Iu (u:=a.bytes) hln.2.1 hln.1 y14 y15)) (.inr ⟨c10,rfl⟩) y47)
 have c8p:=kz c8
 refine Gs (Gt (Ag rfl rfl) (Ga rfl (Gn (.t6 0 3 4 6 85 140) ?_)))
 refine Gc (fun c11=>?_) (fun c11=>?_)
 ·
  have c11p:=kz c11
  refine Gs (Ga rfl (Gn (.t4 0 3 4 6) (Ap ?_)))
  refine Ft (k:=a.BM) hs.1 hs.2 (fun sv sl hsv hlv hln=>?_)
  refine BD (N:=15) [0,0,2,6,14,0,32,126,254,510,510,1023,3071,7167,16383] mix (by kernel_rfl) rfl ?_
  refine Pf 0 rfl (AF rfl) (Pf 1 rfl (AF rfl) (Pf 2 rfl (BV rfl) (Pf 3 rfl (Ai D2 rfl) (Pf 4 rfl (AZ rfl C3 .m3 ((AU.BM V1 hs.1 hs.2).comp A2.l4) rfl) (Pf 5 rfl (Ai Yg rfl) (Pf 6 rfl (AH rfl A4 .m7 Bx.l2 rfl rfl) ?_))))))
  refine Bb 7 rfl rfl (by kernel_rfl) (L9 (K9 (EB ek (.c rfl (.c rfl .n)) (fun w hS=>NI _ _ w)))) ?_
  refine Pf 8 rfl (AF rfl) (Pf 9 rfl (AM rfl rfl) (Pf 10 rfl (AM rfl rfl) (Pf 11 rfl (BV rfl) (Pf 12 rfl (Ai D2 rfl) ?_))))
  refine An 13 rfl (by kernel_rfl) ?_
  refine AT (AK ((AU.BM V1 hs.1 hs.2).comp A2.l4) rfl rfl rfl Fw rfl (.t (.t (.t .h)))) ?_
  refine BO rfl ⟨?_,?_⟩
  · exact(Pk (Pk (Po rfl (AM rfl rfl) rfl rfl (Pk (Pk (Pk (Pk (Pk (Pk (Pk (Pk (Pk (Pk As)))))))))))))
  refine Pf 14 rfl (A0 rfl) ?_
  refine A3 (by kernel_rfl) ?_
  refine AB (.t3 0 4 10) ?_
  refine AA (Ap ?_)
  refine Eu (.c .h (.c .h (.c .h (.c .h (.c .h .n))))) ?_
  refine HG hs.1 hs.2 (by rfl) (by rfl) (by rfl) ?_
  refine AJ (Gm rfl ?_)
  refine BE rfl SC (.c rfl .n) (.c .h (.c .h (.c .h .n))) (Dz _ (AL.BM V1 a.BM { sv with out:=⟨sv.out.wait,sv.out.shown,sv.out.CC,sv.out.ring.drop (max 0 (min a.n (sv.out.ring.length:Int))).toNat,sv.out.cut⟩ }) (ls1.put a.BM ⟨sl.queue,sl.wait,sl.told⟩) ev1 0 0 (by rw [(show A5 (AL.BM V1 a.BM { sv with out:=⟨sv.out.wait,sv.out.shown,sv.out.CC,sv.out.ring.drop (max 0 (min a.n (sv.out.ring.length:Int))).toNat,sv.out.cut⟩ }) (ls1.put a.BM ⟨sl.queue,sl.wait,sl.told⟩) ev1=AI.set (A5 V1 ls1 ev1) a.BM ((AI.at_ (A5 V1 ls1 ev1) a.BM).G3 a.n) from En hs.1 hs.2 hsv hlv (f:=fun x=>x.G3 a.n) rfl)];exact hF0.G3 hs.1 hs.2 a.n) (by omega) (by omega)) (fun w hS=>⟨gl0.pull gm0 hS (.c .h (.c .h (.c .h .n))),gl1.pull gm1 hS (.c .h (.c .h (.c .h .n))),gl2.pull gm2 hS (.c .h (.c .h (.c .h .n))),gl3.pull gm3 hS (.c .h (.c .h (.c .h .n)))⟩) (fun v48 B hv=>?_)
  obtain⟨y49,y50,y51,rfl,y52,rfl⟩:=hv
  refine Gn (.t2 4 10) (Gs (Gm rfl (Gt (BC NP Kj rfl (.cons Bq.l1 rfl rfl rfl .nil)) ?_)))
  refine AT (AK (AU.id Bq.fl.len Bq.fl.one) rfl rfl rfl Ka rfl (.t (.t (.t .h)))) ?_
  refine Gn (.t1 4) (Ab (AR (AD ?_)))
  refine AY rfl (.cell rfl .m3 (.inl ⟨(by rw [Bq.fl.len];exact I2),rfl⟩) .n) ?_
  intro w1 hS
  have hS:=(hS.perm (Ay.perm (.c .h (.c .h (.c .h .n))))).A1
  have hq0:AI.D0 (A5 V1 ls1 ev1) a=_:=((AX c3).trans ((AX c4).trans ((AX c5).trans ((AX (show(decide ((AI.at_ (A5 V1 ls1 ev1) a.BM).state=0) != decide (a.kind=1))=false by rw [Gf V1 ls1 ev1 hs.1 hs.2];exact c6)).trans ((AX c7).trans ((AX c8).trans (BB c11)))))))
  have hq:(AI.act (A5 V ls ev) a)=_:=(AI.GI c1 a).trans ((congrArg (fun X=>AI.D0 X a) hX.symm).trans hq0)
  refine⟨_,⟨y49,y50,y51,?gv11,?ga11,rfl⟩,hS⟩
  case gv11=>rw [hq];exact congrArg (fun x=>Value.agg (Bq.enc ⟨0,x⟩).toArray) (YT V1 ls1 ev1 hs.1 hs.2 hsv a.n)
  case ga11=>rw [hq];dsimp only;exact y52.trans (congrArg AI.BX (show A5 (AL.BM V1 a.BM { sv with out:=⟨sv.out.wait,sv.out.shown,sv.out.CC,sv.out.ring.drop (max 0 (min a.n (sv.out.ring.length:Int))).toNat,sv.out.cut⟩ }) (ls1.put a.BM ⟨sl.queue,sl.wait,sl.told⟩) ev1=AI.set (A5 V1 ls1 ev1) a.BM ((AI.at_ (A5 V1 ls1 ev1) a.BM).G3 a.n) from En hs.1 hs.2 hsv hlv (f:=fun x=>x.G3 a.n) rfl))
 have c11p:=kz c11
 refine Gs (Gt (Ag rfl rfl) (Ga rfl (Gn (.t4 0 4 6 159) ?_)))
 refine HA rfl (decide_eq_true (by omega)) ?_
 refine Gs (Gm rfl (Gm rfl ?_))
 refine BE rfl cE (.c rfl (.c rfl .n)) (.c .h (.c .h (.c .h .n))) (Ia _ V1 ls1 ev1 a.BM 0 0 hs hF0 (by omega) (by omega)) (fun w hS=>⟨gl0.pull gm0 hS (.c .h (.c .h (.c .h .n))),gl1.pull gm1 hS (.c .h (.c .h (.c .h .n))),gl2.pull gm2 hS (.c .h (.c .h (.c .h .n))),gl3.pull gm3 hS (.c .h (.c .h (.c .h .n)))⟩) (fun v53 B hv=>?_)
 obtain⟨y54,y55,y56,rfl,y57,rfl⟩:=hv
 refine Gn (.t2 0 4) (AJ (Gm rfl ?_))
 refine BE rfl SC (.c rfl .n) (.c .h (.c .h (.c .h .n))) (Dz _ y54 y55 y56 11 11 (by rw [y57];exact hF0.leave hs.1 hs.2) (by omega) (by omega)) (fun w hS=>⟨gl0.pull gm0 hS (.c .h (.c .h (.c .h .n))),gl1.pull gm1 hS (.c .h (.c .h (.c .h .n))),gl2.pull gm2 hS (.c .h (.c .h (.c .h .n))),gl3.pull gm3 hS (.c .h (.c .h (.c .h .n)))⟩) (fun v58 B hv=>?_)
 obtain⟨y59,y60,y61,rfl,y62,rfl⟩:=hv
 refine AQ (AB (.t1 4) ?_)
 refine AW (AA (Gs (Gt (BC NP Kj rfl .nil) ?_)))
 refine AT (AK (AU.id Bq.fl.len Bq.fl.one) rfl rfl rfl Ka rfl (.t (.t (.t .h)))) ?_
 refine Gn (.t1 4) (Ab ?_)
 refine AY rfl (.cell rfl .m3 (.inl ⟨(by rw [Bq.fl.len];exact I2),rfl⟩) .n) ?_
 intro w1 hS
 have hS:=(hS.perm (Ay.perm (.c .h (.c .h (.c .h .n))))).A1
 have hq0:AI.D0 (A5 V1 ls1 ev1) a=_:=((AX c3).trans ((AX c4).trans ((AX c5).trans ((AX (show(decide ((AI.at_ (A5 V1 ls1 ev1) a.BM).state=0) != decide (a.kind=1))=false by rw [Gf V1 ls1 ev1 hs.1 hs.2];exact c6)).trans ((AX c7).trans ((AX c8).trans (AX c11)))))))
 have hq:(AI.act (A5 V ls ev) a)=_:=(AI.GI c1 a).trans ((congrArg (fun X=>AI.D0 X a) hX.symm).trans hq0)
 refine⟨_,⟨y59,y60,y61,?gv12,?ga12,rfl⟩,hS⟩
 case gv12=>rw [hq];rfl
 case ga12=>rw [hq];dsimp only;exact y62.trans (congrArg AI.BX y57)
theorem N5  (w:World)(gl0:GV 2 Fa w)(gl1:GV 0 AG.DE w)(gl2:G0 7 w)(gl3:G0 8 w):Ej Tryz.prog 33 #[] w fun v w'=>v = .bool true∧CB w w':=by
 refine Al [] [] Tryz.func33 rfl rfl rfl (St.start w []) ?_
 refine Gs (Ga rfl (Gn (.nil _) (Gs ?_)))
 refine Ah rfl dF .n .n (Jp ) (fun v1 B hv=>?_)
 obtain⟨y2,y3,y4,y5,rfl,y6,rfl⟩:=hv
 refine Ga rfl (Gn (.t1 1) (CD (Gm rfl (Gt (FZ Tryz.underlying37 rfl) (Gn (.t2 1 8) ?_)))))
 refine EP rfl rfl ?_
 refine Aa ?_
 refine AB (.t1 1) ?_
 refine AA (Gs (Gm rfl (Gt (BC cC bj rfl (.cons Bx.l0 rfl rfl rfl (.cons Bx.l1 rfl rfl rfl .nil))) ?_)))
 refine BE rfl Z1 (.c rfl (.c rfl .n)) (.c .h (.c .h (.c .h .n))) (JQ y2 y3 y4 y5 AI.P4 (by rw [y6];exact AI.gB) (by decide)) (fun w hS=>⟨gl0.pull (by simp) hS (.c .h (.c .h (.c .h .n))),gl1.pull (by simp) hS (.c .h (.c .h (.c .h .n))),gl2.pull (by simp) hS (.c .h (.c .h (.c .h .n))),gl3.pull (by simp) hS (.c .h (.c .h (.c .h .n)))⟩) (fun v8 B hv=>?_)
 obtain⟨y9,y10,y11,rfl,y12,rfl⟩:=hv
 refine BH rfl Kj rfl (fun b1=>?_)
 refine AT (AK (AU.id Bq.fl.len Bq.fl.one) rfl rfl rfl Ka rfl .h) ?_
 refine Gn (.t2 1 2) (Gs (Gm rfl (Gt (BC cC bj rfl (.cons Bx.l0 rfl rfl rfl (.cons Bx.l1 rfl rfl rfl (.cons Bx.l3 rfl rfl rfl .nil)))) ?_)))
 refine BE rfl Z1 (.c rfl (.c rfl .n)) (.c (.t .h) (.c (.t .h) (.c (.t .h) .n))) (JQ y2 y9 y10 y11 AI.type2 (by rw [y12,y6];exact AI.gI) (by decide)) (fun w hS=>⟨gl0.pull (by simp) hS (.c (.t .h) (.c (.t .h) (.c (.t .h) .n))),gl1.pull (by simp) hS (.c (.t .h) (.c (.t .h) (.c (.t .h) .n))),gl2.pull (by simp) hS (.c (.t .h) (.c (.t .h) (.c (.t .h) .n))),gl3.pull (by simp) hS (.c (.t .h) (.c (.t .h) (.c (.t .h) .n)))⟩) (fun v13 B hv=>?_)
 obtain⟨y14,y15,y16,rfl,y17,rfl⟩:=hv
 refine Gn (.t2 1 2) (Gs (Gm rfl (Gt (BC cC bj rfl (.cons Bx.l0 rfl rfl rfl .nil)) ?_)))
 refine BE rfl Z1 (.c rfl (.c rfl .n)) (.c .h (.c .h (.c .h .n))) (JQ y2 y14 y15 y16 AI.UE (by rw [y17,y12,y6];exact AI.gD) (by decide)) (fun w hS=>⟨gl0.pull (by simp) hS (.c .h (.c .h (.c .h .n))),gl1.pull (by simp) hS (.c .h (.c .h (.c .h .n))),gl2.pull (by simp) hS (.c .h (.c .h (.c .h .n))),gl3.pull (by simp) hS (.c .h (.c .h (.c .h .n)))⟩) (fun v18 B hv=>?_)
 obtain⟨y19,y20,y21,rfl,y22,rfl⟩:=hv
 refine BH rfl Kj rfl (fun b2=>?_)
 refine AT (AK (AU.id Bq.fl.len Bq.fl.one) rfl rfl rfl Ka rfl .h) ?_
 refine Gn (.t3 1 2 3) (Ap ?_)
 have hA:A5 y19 y20 y21=AI.ef:=by rw [y22,y17,y12,y6];rfl
 have hA3:(A5 y19 y20 y21).Live:=by rw [hA];exact AI.XG
 refine AJ (Gm rfl ?_)
 refine Ah rfl cr (.c rfl (.c rfl .n)) (.c (.t .h) .n) (Kp y2 y19 2 (by decide)) (fun v23 B hv=>?_)
 obtain⟨rfl,rfl⟩:=hv
 refine Gm rfl (Gt (AM rfl rfl) (Gt (AM rfl rfl) (Ga rfl (Ga rfl (Gn (.t5 1 2 3 4 5) (Gs (Gt (Ai XH rfl) ?_)))))))
 refine Gt (AH rfl af .m4 Bq.l0 rfl rfl) (Gt (Ag rfl rfl) (Gm rfl (Bo 26 rfl rfl (fun q=>Ai XH rfl) (Bo 26 rfl rfl (fun q=>AH (Bj rfl q) af .m1 Bq.l0 rfl rfl) (Bo 26 rfl rfl (fun q=>Ag (Bj rfl q) rfl) (Gt (BK rfl rfl (fun h=>h)) (Gm rfl ?_)))))))
 refine Bo 31 rfl rfl (fun q=>AF rfl) (Bo 31 rfl rfl (fun q=>Ag (Bj rfl q) rfl) (Gt (BK rfl rfl (fun h=>h)) (Gm rfl (Bo 35 rfl rfl (fun q=>AF rfl) (Bo 35 rfl rfl (fun q=>Ag (Bj rfl q) rfl) (Gt (BK rfl rfl (fun h=>h)) (Gm rfl ?_)))))))
 refine Bo 39 rfl rfl (fun q=>AF rfl) ?_
 refine ZR 39 rfl (fun c1=>?_) (fun c1=>?_)
 ·
  refine TY (t:=39) rfl (by first | rfl | exact gP rfl c1) rfl eK (.c (Bj rfl c1) (.c rfl .n)) (.c .h (.c (.t .h) .n)) (L0 y2 y19 y20 2 (by decide) (hA3.told (by decide) (by decide))) (fun v24 B hv=>?_)
  obtain⟨y25,rfl,y26,rfl⟩:=hv
  refine ER (t:=39) rfl rfl rfl (Ar rfl Tryz.underlying52 rfl) ?_
  refine ER (t:=39) rfl rfl rfl (Cn rfl rfl) ?_
  refine Gt (De rfl rfl) (Ga rfl (Gn (.t1 0) (Ab ?_)))
  refine AY rfl (.tmp rfl .n) ?_
  intro w1 hS;refine⟨?_,hS.Ak⟩;have hd:=AI.fu
  rw [← hA,CY _ _ _ (by decide) (by decide)] at hd
  exact congrArg Value.bool (by rw [y26];exact hd)
 refine DH (t:=39) rfl rfl rfl rfl ?_
 refine DH (t:=39) rfl rfl rfl rfl ?_
 refine DH (t:=39) rfl rfl rfl rfl ?_
 refine Gt (D3 rfl rfl) (Ga rfl (Gn (.t1 0) (Ab ?_)))
 refine AY rfl (.tmp rfl .n) ?_
 intro w1 hS;refine⟨?_,hS.Ak⟩;have hs:=LW y19 y20 y21 (show(0:Int)≤2 by decide) (by decide)
 rw [hA,AI.gA] at hs
 have hc:=c1
 rw [hs,y6,AI.fX,y17,y12,y6,AI.fH] at hc
 cases hc
theorem Ps {t0:Nat}(c:Nat)(T:Vector Int 4)(hT:∀ j:Int,0≤j→j < 4→T.at j=-1)(f:Hd)(l:List Bx)(hu:∀ a∈l,a.bytes.length≤140737488351232):FC Tryz.prog 16 #[f.val, .func (.func 20) #[] #[.pointer (some ⟨c,0,none⟩)]] [Ac.box c 49 (B3 (n:=4) Aw T)] (fun w=>fP w (Cc [Ac.box c 49 (B3 (n:=4) Aw T)]) f t0 4 (l.flatMap Bx.enc)∧(GV 2 Fa w∧2 ∉ Cc [Ac.box c 49 (B3 (n:=4) Aw T)])∧(GV 0 AG.DE w∧0 ∉ Cc [Ac.box c 49 (B3 (n:=4) Aw T)])∧(G0 7 w∧7 ∉ Cc [Ac.box c 49 (B3 (n:=4) Aw T)])∧(G0 8 w∧8 ∉ Cc [Ac.box c 49 (B3 (n:=4) Aw T)])) (fun v B=>∃ p:Option Addr,v = .tuple #[.pointer p, .bool true]∧B = []):=by
 intro w hS0 hH
 obtain⟨r0,⟨gl0,gm0⟩,⟨gl1,gm1⟩,⟨gl2,gm2⟩,⟨gl3,gm3⟩⟩:=hH
 have hfl:=r0.1.LO Bx.fl (by decide)
 refine Al _ _ Tryz.func16 rfl rfl rfl (hS0) ?_
 refine Gs (Ga rfl (Ga rfl (Gn (.t2 0 1) (CD ?_))))
 refine BA rfl fo .n (fun w hS=>N5 w (gl0.stM gm0 hS) (gl1.stM gm1 hS) (gl2.stM gm2 hS) (gl3.stM gm3 hS)) ?_
 refine Gt (BT rfl) (Gn (.t3 0 1 10) ?_)
 refine EP rfl rfl ?_
 refine Aa ?_
 refine AB (.t2 0 1) ?_
 refine AA (Gs ?_)
 refine Ah rfl dF .n .n (Jp ) (fun v1 B hv=>?_)
 obtain⟨y2,y3,y4,y5,rfl,y6,rfl⟩:=hv
 refine Ga rfl (Gn (.t3 0 1 6) (CD (Ga rfl (AQ (AA (Ae ?_))))))
 refine Bl (.t4 7 0 1 6) ?_
 refine Bf (.t (.t (.t .h))) ?_
 refine Bf (.t (.t (.t .h))) ?_
 refine Bf (.t (.t (.t .h))) ?_
 refine Bf (.t (.t (.t .h))) ?_
 refine N4 (fun(k:Int) (V1:AL) (ls1:Vector BG 4) (ev1:List Ing.Event) (W1:Vector Int 4)=>0≤k∧k≤150∧k≤(l.length:Int)∧A5 V1 ls1 ev1=(AI.new.run (l.take k.toNat)).1∧(∀ j:Int,0≤j→j < 4→W1.at j=(((AI.new.run (l.take k.toNat)).1).DR j).2)) (fun(k:Int) (V1:AL) (ls1:Vector BG 4) (ev1:List Ing.Event) (W1:Vector Int 4)=>(150 - k).toNat) (fun(k:Int) (V1:AL) (ls1:Vector BG 4) (ev1:List Ing.Event) (W1:Vector Int 4)=> [(7, .int .i64 k)]) (fun(k:Int) (V1:AL) (ls1:Vector BG 4) (ev1:List Ing.Event) (W1:Vector Int 4)=> [Ac.box y2 101 (AL.enc V1),Ac.D7 (CJ 9 (AL.Ax V1) ls1),Ac.own (AL.last V1) 56 16 (ev1.flatMap Ing.Event.enc),Ac.box c 49 (B3 (n:=4) Aw W1)]) (0) (y3) (y4) (y5) (T) ?_ rfl rfl (fun k V1 ls1 ev1 W1 hI1=>?_)
 · exact⟨by omega,by omega,by omega,y6,(fun j j0 j1=>(ZZ hT j j0 j1).1)⟩
 obtain⟨hI11,hI12,hI13,hI14,hI15⟩:=hI1
 refine CD (Gm rfl (Gm rfl (Gt (Ar rfl Tryz.underlying22 rfl) (Gt (A8 rfl rfl) (Gm rfl (Bo 16 rfl rfl (fun q=>AF rfl) (Bo 16 rfl rfl (fun q=>A8 (Bj rfl q) rfl) ?_)))))))
 refine Gt (BK rfl rfl (fun h=>h)) (Gn (.t5 0 1 6 7 19) ?_)
 refine Gc (fun c1=>?_) (fun c1=>?_)
 ·
  have c1p:=kz c1
  refine Aa ?_
  refine AB (.t4 0 1 6 7) ?_
  refine AA (Ap (Ae (Gs (Gm rfl (Gm rfl (Gm rfl ?_))))))
  refine Gt (Bp eV (by decide) (Kn.Zt r0) rfl rfl (by omega) (by omega)) ?_
  refine Gt (MX rfl aa (by decide) Bx.fl (Kn.Zt r0) (by omega)) ?_
  refine BE rfl Z1 (.c rfl (.c rfl .n)) (.c .h (.c .h (.c .h .n))) (JQ y2 V1 ls1 ev1 (l.getD k.toNat default) (by rw [hI14];exact AI.Live.run _ AI.Lu) (hu _ (Mu (d:=default) (xs:=l) (i:=k.toNat) (by omega)))) (fun w hS=>⟨gl0.pull gm0 hS (.c .h (.c .h (.c .h .n))),gl1.pull gm1 hS (.c .h (.c .h (.c .h .n))),gl2.pull gm2 hS (.c .h (.c .h (.c .h .n))),gl3.pull gm3 hS (.c .h (.c .h (.c .h .n)))⟩) (fun v8 B hv=>?_)
  obtain⟨y9,y10,y11,rfl,y12,rfl⟩:=hv
  refine BH rfl Kj rfl (fun b1=>?_)
  refine AT (AK (AU.id Bq.fl.len Bq.fl.one) rfl rfl rfl Ka rfl .h) ?_
  refine Gn (.t5 0 1 6 7 8) (Ap ?_)
  refine BD (N:=9) [0,0,0,0,12,28,0,127,255] mix (by kernel_rfl) rfl ?_
  refine Pf 0 rfl (AF rfl) (Pf 1 rfl (AF rfl) (Pf 2 rfl (AF rfl) (Pf 3 rfl (AF rfl) ?_)))
  refine Pf 4 rfl (Bp eV (by decide) (Kn.Zt r0) rfl rfl (by omega) (by omega)) ?_
  refine Pf 5 rfl (MX rfl aa (by decide) Bx.fl (Kn.Zt r0) (by omega)) ?_
  refine Pf 6 rfl (AZ rfl I2 .m0 (AU.id Bq.fl.len Bq.fl.one) rfl) ?_
  refine An 7 rfl (by kernel_rfl) ?_
  refine Wa rfl fx rfl (.c rfl (.c rfl (.c rfl .n))) (.c (.t .h) (.c (.t .h) (.c (.t .h) (.c (.t .h) .n)))) (Ke y2 y9 y10 y11 _ _ c W1 (by rw [y12,hI14];exact(AI.Live.run _ AI.Lu).act _) (YO (AI.Iw.run (l.take k.toNat) AI.XS) (by rw [AI.Sj _ (by show(0:Int)+_≤400;rw [List.length_take];omega)];show(0:Int)+_ < 400;rw [List.length_take];omega) (by rw [y12,hI14]) hI15)) (fun w hS=>⟨gl0.pull gm0 hS (.c (.t .h) (.c (.t .h) (.c (.t .h) (.c (.t .h) .n)))),gl1.pull gm1 hS (.c (.t .h) (.c (.t .h) (.c (.t .h) (.c (.t .h) .n))))⟩) (fun v13 B hv=>?_)
  obtain⟨y14,rfl,y15,rfl⟩:=hv
  refine Bu rfl ⟨?_,?_⟩
  · exact(Pk (Pk (Pk (Pk (Pk (Pk (Pk As)))))))
  refine Pf 8 rfl (BT rfl) ?_
  refine A3 (by kernel_rfl) ?_
  refine AB (.t5 0 1 6 7 36) ?_
  refine AA ?_
  refine EP rfl rfl ?_
  refine Aa ?_
  refine AB (.t4 0 1 6 7) ?_
  refine AW (AA (AJ (Gm rfl ?_)))
  refine Gt (Av rfl rfl (IntWalk.i64_in _ (by omega))) ?_
  refine Ga rfl ?_
  refine AQ (AB (.t4 0 1 6 7) ?_)
  refine CI (.c .h (.c .h (.c .h (.c .h .n)))) ?_
  refine Cf ?_
  refine Ih (k+1) _ _ _ _ ?_ ?_ (.t4 7 0 1 6) (.refl _)
  · exact⟨by omega,by omega,by omega,by rw [AI.SK hI11 (by omega),← hI14];exact y12,(by rw [AI.SK hI11 (by omega),← hI14,← y12];exact TG y15)⟩
  · omega
 refine Ba (AV (AV (Af ?_)))
 refine AB (.t1 6) ?_
 refine AA (Gs (Gm rfl (Ga rfl (Ga rfl (Gn (.t2 4 5) (Ab ?_))))))
 refine AY rfl (.tmp rfl (.tmp rfl .n)) ?_
 intro w1 hS
 have hS:=(hS.perm (Ay.perm .n)).A1
 exact⟨_,⟨_,rfl,rfl⟩,hS⟩
end Go.Proofs.YtoidpggbbfncpaaGreatDoor

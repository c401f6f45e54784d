/- What the functions that the law HouseRuns reaches compute: walks, part 6. No condition. -/
import Derived.Test.YtlmmdjaoikaceaaGreatDoorCards
import Derived.Test.YtlmmdjaoikaceaaGreatDoorTie
import Derived.Deep.DeepHandedRow
import Derived.Test.YtlmmdjaoikaceaaGreatDoorRows
import Derived.Test.YtlmmdjaoikaceaaGreatDoorHouseRunsEc3
import Derived.Test.YtlmmdjaoikaceaaGreatDoorHouseRunsRa1
import Derived.Test.YtlmmdjaoikaceaaGreatDoorHouseRunsRb1
import Derived.Test.YtlmmdjaoikaceaaGreatDoorHouseRunsRc1
import Derived.Test.YtlmmdjaoikaceaaGreatDoorHouseRunsRd1
import Derived.Test.YtlmmdjaoikaceaaGreatDoorHouseRunsWalks
import Derived.Test.YtlmmdjaoikaceaaGreatDoorHouseRunsWalks2
import Derived.Test.YtlmmdjaoikaceaaGreatDoorHouseRunsWalks5
set_option linter.unusedSimpArgs false
set_option linter.unusedVariables false
set_option maxRecDepth 100000
set_option maxHeartbeats 4000000
namespace Go.Proofs.YtlmmdjaoikaceaaGreatDoor
open Go Go.Ing Go.RowKit Go.ChangeShapes Go.WideShapes Go.ChangeAt
theorem Ek {α:Type}{ea:α→List Value}{o:Nat}{g:α→Int}{st:α→Int→α}(b V:Nat)(Y:α)(on:Bool)(opt yes no:Int)(h0:0≤yes∧yes≤255)(h1:0≤no∧no≤255)(h2:0≤opt∧opt≤255)(ln:Ab ea AT o 1 g st):Gv Tryz.prog 120 #[.pointer (some ⟨b,o,none⟩), .bool on, .int .i64 opt, .int .i64 yes, .int .i64 no] [AJ.box b V (ea Y)] (fun v B=>v=Ae (AI.D7 (g Y) on opt yes no)∧B = [AJ.box b V (ea (st Y (AI.QD on)))]):=by
 intro w hS0
 refine AU _ _ Tryz.func120 J J J (hS0) ?_
 refine W ?_
 refine⟨fun c1 c1p=>?_,fun c1 c1p=>?_⟩
 ·
  refine W ?_
  refine⟨fun c2 c2p=>?_,fun c2 c2p=>?_⟩
  ·
   refine W ?_
   intro w1 hS
   have hS:=(hS.perm (AK.perm (.c .h .n))).AM
   exact⟨_,⟨by clear hS;simp_all [AI.D7,Uv],by simp only [AI.QD,ln.Ks,c1,c2,↓reduceIte,Bool.false_eq_true]⟩,hS⟩
  refine W ?_
  refine⟨fun c3 c3p=>?_,fun c3 c3p=>?_⟩
  ·
   refine W ?_
   intro w1 hS
   have hS:=(hS.perm (AK.perm (.c .h .n))).AM
   exact⟨_,⟨by clear hS;simp_all [AI.D7,Uv],by simp only [AI.QD,ln.Ks,c1,c2,c3,↓reduceIte,Bool.false_eq_true]⟩,hS⟩
  refine W ?_
  intro w1 hS
  have hS:=(hS.perm (AK.perm (.c .h .n))).AM
  exact⟨_,⟨by clear hS;simp_all [AI.D7,Uv],by simp only [AI.QD,ln.Ks,c1,c2,c3,↓reduceIte,Bool.false_eq_true]⟩,hS⟩
 refine W ?_
 refine⟨fun c4 c4p=>?_,fun c4 c4p=>?_⟩
 ·
  refine W ?_
  intro w1 hS
  have hS:=(hS.perm (AK.perm (.c .h .n))).AM
  exact⟨_,⟨by clear hS;simp_all [AI.D7,Uv],by simp only [AI.QD,ln.Ks,c1,c4,↓reduceIte,Bool.false_eq_true]⟩,hS⟩
 refine W ?_
 intro w1 hS
 have hS:=(hS.perm (AK.perm (.c .h .n))).AM
 exact⟨_,⟨by clear hS;simp_all [AI.D7,Uv],by simp only [AI.QD,ln.Ks,c1,c4,↓reduceIte,Bool.false_eq_true]⟩,hS⟩
theorem Jz (b:Nat)(X:AI)(verb opt:Int)(h0:0≤opt∧opt≤255):Gv Tryz.prog 72 #[.pointer (some ⟨b,0,none⟩), .int .i64 verb, .int .i64 opt] [AJ.box b 55 X.enc] (fun v B=>v=Ae (X.Aj verb opt).2∧B = [AJ.box b 55 (X.Aj verb opt).1.enc]):=by
 intro w hS0
 refine AU _ _ Tryz.func72 J J J (hS0) ?_
 refine W ?_
 refine⟨fun c1 c1p=>?_,fun c1 c1p=>?_⟩
 ·
  refine W ?_
  refine⟨fun c2 c2p=>?_,fun c2 c2p=>?_⟩
  ·
   refine W ?_
   intro w1 hS
   have hS:=(hS.perm (AK.perm (.c .h .n))).AM
   exact⟨_,⟨by simp only [AI.Aj,c1,c2,↓reduceIte,Bool.false_eq_true]<;>rfl,by simp only [AI.Aj,c1,c2,↓reduceIte,Bool.false_eq_true]<;>rfl⟩,hS⟩
  have hk:=AI.PT (opt:=opt) (by simpa using c2)
  have hk1:0≤(AI.place opt).1∧(AI.place opt).1 < 3:=by rcases hk with ⟨_,e⟩ | ⟨_,e⟩<;>rw [e]<;>decide
  refine W ?_
  refine Cl (.c .h .n) (Ek _ _ _ _ _ _ _ (by first | assumption | omega) (by first | assumption | omega) (by first | assumption | omega) (AI.l3.comp (Ab.ar (n:=3) Bo (by omega)))) (fun v1 B hv=>?_)
  obtain⟨rfl,rfl⟩:=hv
  refine W ?_
  intro w1 hS
  have hS:=(hS.perm (AK.perm (.c .h .n))).AM
  exact⟨_,⟨by simp only [AI.Aj,c1,c2,↓reduceIte,Bool.false_eq_true]<;>rfl,by simp only [AI.Aj,c1,c2,↓reduceIte,Bool.false_eq_true]<;>rfl⟩,hS⟩
 refine W ?_
 refine⟨fun c3 c3p=>?_,fun c3 c3p=>?_⟩
 ·
  refine W ?_
  refine⟨fun c4 c4p=>?_,fun c4 c4p=>?_⟩
  ·
   have hk:=AI.PT (opt:=opt) (by simpa using c4)
   have hk1:0≤(AI.place opt).1∧(AI.place opt).1 < 3:=by rcases hk with ⟨_,e⟩ | ⟨_,e⟩<;>rw [e]<;>decide
   refine W ?_
   refine Cl (.c .h .n) (Ek _ _ _ _ _ _ _ (by first | assumption | omega) (by first | assumption | omega) (by first | assumption | omega) (AI.l3.comp (Ab.ar (n:=3) Bo (by omega)))) (fun v2 B hv=>?_)
   obtain⟨rfl,rfl⟩:=hv
   refine W ?_
   intro w1 hS
   have hS:=(hS.perm (AK.perm (.c .h .n))).AM
   exact⟨_,⟨by simp only [AI.Aj,c1,c3,c4,↓reduceIte,Bool.false_eq_true]<;>rfl,by simp only [AI.Aj,c1,c3,c4,↓reduceIte,Bool.false_eq_true]<;>rfl⟩,hS⟩
  refine W ?_
  intro w1 hS
  have hS:=(hS.perm (AK.perm (.c .h .n))).AM
  exact⟨_,⟨by simp only [AI.Aj,c1,c3,c4,↓reduceIte,Bool.false_eq_true]<;>rfl,by simp only [AI.Aj,c1,c3,c4,↓reduceIte,Bool.false_eq_true]<;>rfl⟩,hS⟩
 refine W ?_
 refine⟨fun c5 c5p=>?_,fun c5 c5p=>?_⟩
 ·
  refine W ?_
  refine⟨fun c6 c6p=>?_,fun c6 c6p=>?_⟩
  ·
   refine W ?_
   intro w1 hS
   have hS:=(hS.perm (AK.perm (.c .h .n))).AM
   exact⟨_,⟨by simp only [AI.Aj,c1,c3,c5,c6,↓reduceIte,Bool.false_eq_true]<;>rfl,by simp only [AI.Aj,c1,c3,c5,c6,↓reduceIte,Bool.false_eq_true]<;>rfl⟩,hS⟩
  have hk:=AI.Lk (opt:=opt) (by simpa using c6)
  have hk1:0≤(AI.place opt).1∧(AI.place opt).1 < 3:=by rcases hk with ⟨_,e⟩ | ⟨_,e⟩<;>rw [e]<;>decide
  refine W ?_
  refine Cl (.c .h .n) (Ek _ _ _ _ _ _ _ (by first | assumption | omega) (by first | assumption | omega) (by first | assumption | omega) (AI.l4.comp (Ab.ar (n:=3) Bo (by omega)))) (fun v3 B hv=>?_)
  obtain⟨rfl,rfl⟩:=hv
  refine W ?_
  intro w1 hS
  have hS:=(hS.perm (AK.perm (.c .h .n))).AM
  exact⟨_,⟨by simp only [AI.Aj,c1,c3,c5,c6,↓reduceIte,Bool.false_eq_true]<;>rfl,by simp only [AI.Aj,c1,c3,c5,c6,↓reduceIte,Bool.false_eq_true]<;>rfl⟩,hS⟩
 refine W ?_
 refine⟨fun c7 c7p=>?_,fun c7 c7p=>?_⟩
 ·
  refine W ?_
  refine⟨fun c8 c8p=>?_,fun c8 c8p=>?_⟩
  ·
   have hk:=AI.Lk (opt:=opt) (by simpa using c8)
   have hk1:0≤(AI.place opt).1∧(AI.place opt).1 < 3:=by rcases hk with ⟨_,e⟩ | ⟨_,e⟩<;>rw [e]<;>decide
   refine W ?_
   refine Cl (.c .h .n) (Ek _ _ _ _ _ _ _ (by first | assumption | omega) (by first | assumption | omega) (by first | assumption | omega) (AI.l4.comp (Ab.ar (n:=3) Bo (by omega)))) (fun v4 B hv=>?_)
   obtain⟨rfl,rfl⟩:=hv
   refine W ?_
   intro w1 hS
   have hS:=(hS.perm (AK.perm (.c .h .n))).AM
   exact⟨_,⟨by simp only [AI.Aj,c1,c3,c5,c7,c8,↓reduceIte,Bool.false_eq_true]<;>rfl,by simp only [AI.Aj,c1,c3,c5,c7,c8,↓reduceIte,Bool.false_eq_true]<;>rfl⟩,hS⟩
  refine W ?_
  intro w1 hS
  have hS:=(hS.perm (AK.perm (.c .h .n))).AM
  exact⟨_,⟨by simp only [AI.Aj,c1,c3,c5,c7,c8,↓reduceIte,Bool.false_eq_true]<;>rfl,by simp only [AI.Aj,c1,c3,c5,c7,c8,↓reduceIte,Bool.false_eq_true]<;>rfl⟩,hS⟩
 refine W ?_
 intro w1 hS
 have hS:=(hS.perm (AK.perm (.c .h .n))).AM
 exact⟨_,⟨by simp only [AI.Aj,c1,c3,c5,c7,↓reduceIte,Bool.false_eq_true]<;>rfl,by simp only [AI.Aj,c1,c3,c5,c7,↓reduceIte,Bool.false_eq_true]<;>rfl⟩,hS⟩
theorem G5 (b:Nat)(X:AI)(c:UInt8)(h0:X.sub.length≤16):Gv Tryz.prog 73 #[.pointer (some ⟨b,0,none⟩), .int .u8 (c.toNat:Int)] [AJ.box b 55 X.enc] (fun v B=>v = .tuple #[]∧B = [AJ.box b 55 (X.collect c).enc]):=by
 intro w hS0
 refine AU _ _ Tryz.func73 J J J (hS0) ?_
 refine W ?_
 refine⟨fun c1 c1p=>?_,fun c1 c1p=>?_⟩
 ·
  refine W ?_
  refine Mg J Tryz.underlying122 QI Uu J (by decide) (by decide) J J J (fun b1=>?_)
  refine W ?_
  refine Gt (HJ (s:= [c]) J Tryz.underlying122 Tryz.underlying9 Tryz.underlying5 J (Kn.own .m0)) ?_
  refine W ?_
  intro w1 hS
  have hS:=(hS.perm (AK.perm (.c (.t .h) .n))).AM
  exact⟨_,⟨J,by simp only [AI.collect,c1,↓reduceIte,Bool.false_eq_true]⟩,hS⟩
 refine W ?_
 intro w1 hS
 have hS:=(hS.perm (AK.perm (.c .h .n))).AM
 exact⟨_,⟨J,by simp only [AI.collect,c1,↓reduceIte,Bool.false_eq_true]⟩,hS⟩
theorem K3 (b:Nat)(X:AI):Gv Tryz.prog 74 #[.pointer (some ⟨b,0,none⟩)] [AJ.box b 55 X.enc] (fun v B=>v = .tuple #[]∧B = [AJ.box b 55 X.measure.enc]):=by
 intro w hS0
 refine AU _ _ Tryz.func74 J J J (hS0) ?_
 refine W ?_
 refine⟨fun c1 c1p=>?_,fun c1 c1p=>?_⟩
 ·
  refine W ?_
  intro w1 hS
  have hS:=(hS.perm (AK.perm (.c .h .n))).AM
  exact⟨_,⟨J,by rw [show X.measure=_ from AN c1];rfl⟩,hS⟩
 refine W ?_
 intro w1 hS
 have hS:=(hS.perm (AK.perm (.c .h .n))).AM
 exact⟨_,⟨J,by rw [show X.measure=_ from AB c1]⟩,hS⟩
theorem I3 (X:AI)(u:AL)(hu:u.length≤140737488351232)(w:World):Ck Tryz.prog 36 #[.agg X.enc.toArray,Ae u] w fun v w'=>v = .tuple #[.agg (X.CM u).1.enc.toArray,Ae (X.CM u).2.1,Ae (X.CM u).2.2.1, .int .i64 (X.CM u).2.2.2]∧BG w w':=by
 refine Rb Tryz.func36 ?_
 refine W ?_
 intro b1 b2
 refine⟨fun c1 c1p=>?_,fun c1 c1p=>?_⟩
 ·
  refine W ?_
  rw [show X.CM u=_ from AN c1];rfl
 have hg:X.A3=true:=by simpa using c1
 refine W ?_
 intro b3 b4
 refine GJ J Tryz.underlying9 Tryz.underlying122 Tryz.underlying5 J (fun h1 h1l=>?_)
 refine W ?_
 refine Ag (.t7 20 2 4 8 9 18 19) ?_
 refine AX (.t (.t (.t (.t (.t (.t .h)))))) ?_
 refine AX (.t (.t (.t (.t (.t .h))))) ?_
 refine AX (.t (.t (.t (.t (.t .h))))) ?_
 refine AX (.t (.t (.t (.t (.t .h))))) ?_
 refine AX (.t (.t (.t (.t (.t .h))))) ?_
 refine Si (fun(k:Int) (t:AI) (x:AL) (y:AL) (p:Option Addr) (h:Hd) (q:Option Addr) (g:Hd)=>AI.FL X u k t x y∧(p=none∨p=some ⟨b3,0,none⟩)∧h.Z∧h.len=x.length∧(q=none∨q=some ⟨b4,0,none⟩)∧g.Z∧g.len=y.length) (fun(k:Int) (t:AI) (x:AL) (y:AL) (p:Option Addr) (h:Hd) (q:Option Addr) (g:Hd)=>((u.length:Int) - k).toNat) (fun(k:Int) (t:AI) (x:AL) (y:AL) (p:Option Addr) (h:Hd) (q:Option Addr) (g:Hd)=> [(20, .int .i64 k)]) (fun(k:Int) (t:AI) (x:AL) (y:AL) (p:Option Addr) (h:Hd) (q:Option Addr) (g:Hd)=> [AJ.own g 5 1 (y.flatMap CH),AJ.box b4 136 (D2.enc ⟨q,g⟩),AJ.own h 5 1 (x.flatMap CH),AJ.box b3 136 (D2.enc ⟨p,h⟩),AJ.box b1 55 (AI.enc t)]) (0) (X) ([]) ([]) (none) (⟨none,0,0⟩) (none) (⟨none,0,0⟩) ?_ J J (fun k t x y p h q g hI1=>?_)
 · exact⟨AI.FL.start (AI.TX hg), .inl J,Hd.WK,J, .inl J,Hd.WK,J⟩
 obtain⟨hI11,hp,hz,hl,hq,hzg,hlg⟩:=hI1;have hk0:=hI11.k0;have hk1:=hI11.k1;have hsub:=hI11.sub;have hxl:=hI11.xl;have hyl:=hI11.yl;have hc8:=(u.getD k.toNat 0).toNat_lt;have hyb:=hI11.yb
 refine W ?_
 refine⟨fun c2 c2p=>?_,fun c2 c2p=>?_⟩
 ·
  refine W ?_
  refine⟨fun c3 c3p=>?_,fun c3 c3p=>?_⟩
  ·
   refine W ?_
   refine⟨fun c4 c4p=>?_,fun c4 c4p=>?_⟩
   ·
    refine W ?_
    refine Bu _ _ _ _ _ _ _ _ ?_ ?_ (.t7 20 2 4 8 9 18 19) (.refl _)
    · exact⟨hI11.next (by omega) (by simp only [AI.step,c1,c2,c3,c4,↓reduceIte,Bool.false_eq_true]) (by simp only [AI.step,c1,c2,c3,c4,List.append_nil,↓reduceIte,Bool.false_eq_true]) (by simp only [AI.step,c1,c2,c3,c4,List.append_nil,↓reduceIte,Bool.false_eq_true]),by assumption,by assumption,by assumption,by assumption,by assumption,by assumption⟩
    · omega
   refine W ?_
   refine Cl (.c (.t (.t (.t .h))) (.c (.t (.t .h)) .n)) (B8 _ _ _ _ (by assumption) (by assumption) (by assumption) _ (by omega)) (fun v2 B hv=>?_)
   obtain⟨y3,y4,rfl,y5,y6,y7,rfl⟩:=hv
   refine W ?_
   refine As (.c (.t (.t .h)) (.c (.t (.t .h)) (.c (.t .h) (.c .h (.c .h (.c .h (.c .h .n))))))) ?_
   refine Ax ?_
   refine Bu _ _ _ _ _ _ _ _ ?_ ?_ (.t7 20 2 4 8 9 18 19) (.refl _)
   · exact⟨hI11.next (by omega) (by simp only [AI.step,c1,c2,c3,c4,↓reduceIte,Bool.false_eq_true]) (by simp only [AI.step,c1,c2,c3,c4,List.append_nil,↓reduceIte,Bool.false_eq_true]) (by simp only [AI.step,c1,c2,c3,c4,List.append_nil,↓reduceIte,Bool.false_eq_true]),by assumption,by assumption,by assumption,by assumption,by assumption,by assumption⟩
   · omega
  refine W ?_
  refine⟨fun c5 c5p=>?_,fun c5 c5p=>?_⟩
  ·
   refine W ?_
   refine⟨fun c6 c6p=>?_,fun c6 c6p=>?_⟩
   ·
    refine W ?_
    refine Cl (.c (.t (.t (.t .h))) (.c (.t (.t .h)) .n)) (B8 _ _ _ _ (by assumption) (by assumption) (by assumption) _ (by omega)) (fun v8 B hv=>?_)
    obtain⟨y9,y10,rfl,y11,y12,y13,rfl⟩:=hv
    refine W ?_
    refine As (.c (.t (.t .h)) (.c (.t (.t .h)) (.c (.t .h) (.c .h (.c .h (.c .h (.c .h .n))))))) ?_
    refine Ax ?_
    refine Bu _ _ _ _ _ _ _ _ ?_ ?_ (.t7 20 2 4 8 9 18 19) (.refl _)
    · exact⟨hI11.next (by omega) (by simp only [AI.step,c1,c2,c3,c5,c6,↓reduceIte,Bool.false_eq_true]) (by simp only [AI.step,c1,c2,c3,c5,c6,List.append_nil,↓reduceIte,Bool.false_eq_true]) (by simp only [AI.step,c1,c2,c3,c5,c6,List.append_nil,↓reduceIte,Bool.false_eq_true]),by assumption,by assumption,by assumption,by assumption,by assumption,by assumption⟩
    · omega
   refine W ?_
   refine⟨fun c7 c7p=>?_,fun c7 c7p=>?_⟩
   ·
    refine W ?_
    refine Bu _ _ _ _ _ _ _ _ ?_ ?_ (.t7 20 2 4 8 9 18 19) (.refl _)
    · exact⟨hI11.next (by omega) (by simp only [AI.step,c1,c2,c3,c5,c6,c7,↓reduceIte,Bool.false_eq_true]) (by simp only [AI.step,c1,c2,c3,c5,c6,c7,List.append_nil,↓reduceIte,Bool.false_eq_true]) (by simp only [AI.step,c1,c2,c3,c5,c6,c7,List.append_nil,↓reduceIte,Bool.false_eq_true]),by assumption,by assumption,by assumption,by assumption,by assumption,by assumption⟩
    · omega
   refine W ?_
   refine⟨fun c8 c8p=>?_,fun c8 c8p=>?_⟩
   ·
    refine W ?_
    refine Bu _ _ _ _ _ _ _ _ ?_ ?_ (.t7 20 2 4 8 9 18 19) (.refl _)
    · exact⟨hI11.next (by omega) (by simp only [AI.step,c1,c2,c3,c5,c6,c7,c8,↓reduceIte,Bool.false_eq_true]) (by simp only [AI.step,c1,c2,c3,c5,c6,c7,c8,List.append_nil,↓reduceIte,Bool.false_eq_true]) (by simp only [AI.step,c1,c2,c3,c5,c6,c7,c8,List.append_nil,↓reduceIte,Bool.false_eq_true]),by assumption,by assumption,by assumption,by assumption,by assumption,by assumption⟩
    · omega
   refine W ?_
   refine Bu _ _ _ _ _ _ _ _ ?_ ?_ (.t7 20 2 4 8 9 18 19) (.refl _)
   · exact⟨hI11.next (by omega) (by simp only [AI.step,c1,c2,c3,c5,c6,c7,c8,↓reduceIte,Bool.false_eq_true]) (by simp only [AI.step,c1,c2,c3,c5,c6,c7,c8,List.append_nil,↓reduceIte,Bool.false_eq_true]) (by simp only [AI.step,c1,c2,c3,c5,c6,c7,c8,List.append_nil,↓reduceIte,Bool.false_eq_true]),by assumption,by assumption,by assumption,by assumption,by assumption,by assumption⟩
   · omega
  refine W ?_
  refine⟨fun c9 c9p=>?_,fun c9 c9p=>?_⟩
  ·
   refine W ?_
   refine Cl (.c (.t (.t (.t (.t .h)))) .n) (Jz _ _ _ _ (by first | assumption | omega)) (fun v14 B hv=>?_)
   obtain⟨rfl,rfl⟩:=hv
   refine W ?_
   refine Cl (.c (.t (.t .h)) (.c (.t .h) .n)) (Av _ _ _ _ (by assumption) (by assumption) (by assumption) _ (by have:=AI.IU t t.verb ((u.getD k.toNat 0).toNat:Int);omega)) (fun v15 B hv=>?_)
   obtain⟨y16,y17,rfl,y18,y19,y20,rfl⟩:=hv
   refine W ?_
   refine As (.c (.t .h) (.c .h (.c (.t .h) (.c (.t .h) (.c .h (.c .h (.c .h .n))))))) ?_
   refine Ax ?_
   refine Bu _ _ _ _ _ _ _ _ ?_ ?_ (.t7 20 2 4 8 9 18 19) (.refl _)
   · exact⟨hI11.next (by omega) (by simp only [AI.step,c1,c2,c3,c5,c9,↓reduceIte,Bool.false_eq_true]) (by simp only [AI.step,c1,c2,c3,c5,c9,List.append_nil,↓reduceIte,Bool.false_eq_true]) (by simp only [AI.step,c1,c2,c3,c5,c9,List.append_nil,↓reduceIte,Bool.false_eq_true]),by assumption,by assumption,by assumption,by assumption,by assumption,by assumption⟩
   · omega
  refine W ?_
  refine⟨fun c10 c10p=>?_,fun c10 c10p=>?_⟩
  ·
   refine W ?_
   refine⟨fun c11 c11p=>?_,fun c11 c11p=>?_⟩
   ·
    refine W ?_
    refine Bu _ _ _ _ _ _ _ _ ?_ ?_ (.t7 20 2 4 8 9 18 19) (.refl _)
    · exact⟨hI11.next (by omega) (by simp only [AI.step,c1,c2,c3,c5,c9,c10,c11,↓reduceIte,Bool.false_eq_true]) (by simp only [AI.step,c1,c2,c3,c5,c9,c10,c11,List.append_nil,↓reduceIte,Bool.false_eq_true]) (by simp only [AI.step,c1,c2,c3,c5,c9,c10,c11,List.append_nil,↓reduceIte,Bool.false_eq_true]),by assumption,by assumption,by assumption,by assumption,by assumption,by assumption⟩
    · omega
   refine W ?_
   refine Cl (.c (.t (.t (.t (.t .h)))) .n) (G5 _ _ _ (by first | assumption | omega)) (fun v21 B hv=>?_)
   obtain⟨rfl,rfl⟩:=hv
   refine W ?_
   refine As (.c (.t .h) (.c (.t .h) (.c (.t .h) (.c (.t .h) (.c .h (.c .h (.c .h .n))))))) ?_
   refine Ax ?_
   refine Bu _ _ _ _ _ _ _ _ ?_ ?_ (.t7 20 2 4 8 9 18 19) (.refl _)
   · exact⟨hI11.next (by omega) (by simp only [AI.step,c1,c2,c3,c5,c9,c10,c11,↓reduceIte,Bool.false_eq_true]) (by simp only [AI.step,c1,c2,c3,c5,c9,c10,c11,List.append_nil,↓reduceIte,Bool.false_eq_true]) (by simp only [AI.step,c1,c2,c3,c5,c9,c10,c11,List.append_nil,↓reduceIte,Bool.false_eq_true]),by assumption,by assumption,by assumption,by assumption,by assumption,by assumption⟩
   · omega
  refine W ?_
  refine⟨fun c12 c12p=>?_,fun c12 c12p=>?_⟩
  ·
   refine W ?_
   refine⟨fun c13 c13p=>?_,fun c13 c13p=>?_⟩
   ·
    refine W ?_
    refine Cl (.c (.t (.t (.t (.t .h)))) .n) (G5 _ _ _ (by first | assumption | omega)) (fun v22 B hv=>?_)
    obtain⟨rfl,rfl⟩:=hv
    refine W ?_
    refine As (.c (.t .h) (.c (.t .h) (.c (.t .h) (.c (.t .h) (.c .h (.c .h (.c .h .n))))))) ?_
    refine Ax ?_
    refine Bu _ _ _ _ _ _ _ _ ?_ ?_ (.t7 20 2 4 8 9 18 19) (.refl _)
    · exact⟨hI11.next (by omega) (by simp only [AI.step,c1,c2,c3,c5,c9,c10,c12,c13,↓reduceIte,Bool.false_eq_true]) (by simp only [AI.step,c1,c2,c3,c5,c9,c10,c12,c13,List.append_nil,↓reduceIte,Bool.false_eq_true]) (by simp only [AI.step,c1,c2,c3,c5,c9,c10,c12,c13,List.append_nil,↓reduceIte,Bool.false_eq_true]),by assumption,by assumption,by assumption,by assumption,by assumption,by assumption⟩
    · omega
   refine W ?_
   refine⟨fun c14 c14p=>?_,fun c14 c14p=>?_⟩
   ·
    refine W ?_
    refine Cl (.c (.t (.t (.t (.t .h)))) .n) (K3 _ _) (fun v23 B hv=>?_)
    obtain⟨rfl,rfl⟩:=hv
    refine W ?_
    refine As (.c (.t .h) (.c (.t .h) (.c (.t .h) (.c (.t .h) (.c .h (.c .h (.c .h .n))))))) ?_
    refine Ax ?_
    refine Bu _ _ _ _ _ _ _ _ ?_ ?_ (.t7 20 2 4 8 9 18 19) (.refl _)
    · exact⟨hI11.next (by omega) (by simp only [AI.step,c1,c2,c3,c5,c9,c10,c12,c13,c14,↓reduceIte,Bool.false_eq_true]) (by simp only [AI.step,c1,c2,c3,c5,c9,c10,c12,c13,c14,List.append_nil,↓reduceIte,Bool.false_eq_true]) (by simp only [AI.step,c1,c2,c3,c5,c9,c10,c12,c13,c14,List.append_nil,↓reduceIte,Bool.false_eq_true]),by assumption,by assumption,by assumption,by assumption,by assumption,by assumption⟩
    · omega
   refine W ?_
   refine Bu _ _ _ _ _ _ _ _ ?_ ?_ (.t7 20 2 4 8 9 18 19) (.refl _)
   · exact⟨hI11.next (by omega) (by simp only [AI.step,c1,c2,c3,c5,c9,c10,c12,c13,c14,↓reduceIte,Bool.false_eq_true]) (by simp only [AI.step,c1,c2,c3,c5,c9,c10,c12,c13,c14,List.append_nil,↓reduceIte,Bool.false_eq_true]) (by simp only [AI.step,c1,c2,c3,c5,c9,c10,c12,c13,c14,List.append_nil,↓reduceIte,Bool.false_eq_true]),by assumption,by assumption,by assumption,by assumption,by assumption,by assumption⟩
   · omega
  refine W ?_
  refine Bu _ _ _ _ _ _ _ _ ?_ ?_ (.t7 20 2 4 8 9 18 19) (.refl _)
  · exact⟨hI11.next (by omega) (by simp only [AI.step,c1,c2,c3,c5,c9,c10,c12,↓reduceIte,Bool.false_eq_true]) (by simp only [AI.step,c1,c2,c3,c5,c9,c10,c12,List.append_nil,↓reduceIte,Bool.false_eq_true]) (by simp only [AI.step,c1,c2,c3,c5,c9,c10,c12,List.append_nil,↓reduceIte,Bool.false_eq_true]),by assumption,by assumption,by assumption,by assumption,by assumption,by assumption⟩
  · omega
 refine W ?_
 refine Cl (.c (.t (.t (.t .h))) (.c (.t (.t .h)) .n)) (CP _ _ _ _ (by assumption) (by assumption) (by omega)) (fun v24 B hv=>?_)
 obtain⟨rfl,rfl⟩:=hv
 refine W ?_
 refine Cl (.c (.t (.t .h)) (.c (.t .h) .n)) (CP _ _ _ _ (by assumption) (by assumption) (by omega)) (fun v25 B hv=>?_)
 obtain⟨rfl,rfl⟩:=hv
 refine W ?_
 rw [show X.CM u=_ from AB c1,hI11.done (by omega)];rfl
instance:DY Tryz.prog 36 (type_of% @I3):=⟨@I3⟩
theorem Ji (b:UInt8)(w:World):Ck Tryz.prog 79 #[.int .u8 (b.toNat:Int)] w fun v w'=>v = .bool (Aa.EU b)∧BG w w':=by
 refine Rb Tryz.func79 ?_
 refine W ?_
 rfl
instance:DY Tryz.prog 79 (type_of% @Ji):=⟨@Ji⟩
theorem KG {t0:Nat}(l:BO)(qs:List AL)(w:World)(r0:Rd w l.queue t0 1 (qs.flatMap Ac)):Ck Tryz.prog 77 #[.agg l.enc.toArray] w fun v w'=>v = .bool (Aa.A3 l qs)∧BG w w':=by
 have hl:=r0.HQ Ct (by decide)
 refine Rb Tryz.func77 ?_
 refine W ?_
 intro b1
 refine⟨fun c1 c1p=>?_,fun c1 c1p=>?_⟩
 ·
  refine W ?_
  refine congrArg Value.bool ?_;rw [Aa.A3,show Aa.Hq l=true from c1];rfl
 have hq:(l.queue.len:Int)≤6:=by omega
 refine W ?_
 refine Et 2 5 J J (by kernel_rfl) ?_ ?_
 ·
  refine W ?_
  refine Cm .n (BR _ _ (by first | assumption | omega)) (fun v1 B hv=>?_) (fun _=>(fun w hS=>(Kn.IW r0) w hS))
  obtain⟨y2,rfl,y3,rfl⟩:=hv
  refine W ?_
  intro b2 h5 h5l h5z
  refine Ag (.t3 47 45 46) ?_
  refine A8 (fun(k:Int)=>0≤k∧k≤((qs ++ [l.now]).length:Int)∧Aa.A3 l qs=((qs ++ [l.now]).drop k.toNat).all Aa.Ey) (fun(k:Int)=>(((qs ++ [l.now]).length:Int) - k).toNat) (fun(k:Int)=> [(47, .int .i64 k)]) (fun(k:Int)=> []) (0) ?_ J J (fun k hI1=>?_)
  · exact⟨by omega,by omega,by rw [Aa.A3,show Aa.Hq l=false from c1];rfl⟩
  obtain⟨hI11,hI12,hI13⟩:=hI1
  refine W ?_
  refine⟨fun c2 c2p=>?_,fun c2 c2p=>?_⟩
  ·
   have hk:k < ((qs ++ [l.now]).length:Int):=by simp only [List.length_append,List.length_cons,List.length_nil] at *;omega
   have hk7:((qs ++ [l.now]).length:Int)≤7:=by simp only [List.length_append,List.length_cons,List.length_nil] at *;omega
   refine W ?_
   refine⟨fun c3 c3p=>?_,fun c3 c3p=>?_⟩
   ·
    refine W ?_
    refine congrArg Value.bool ?_;rw [hI13,Aa.DI (d:= []) hI11 hk,Aa.Ey,c3];rfl
   refine W ?_
   refine Ag (.t6 56 4 45 46 47 55) ?_
   refine A8 (fun(i:Int)=>0≤i∧i≤(((qs ++ [l.now]).getD k.toNat []).length:Int)∧Aa.Ey ((qs ++ [l.now]).getD k.toNat [])=(((qs ++ [l.now]).getD k.toNat []).drop i.toNat).all Aa.EU) (fun(i:Int)=>((((qs ++ [l.now]).getD k.toNat []).length:Int) - i).toNat) (fun(i:Int)=> [(56, .int .i64 i)]) (fun(i:Int)=> []) (0) ?_ J J (fun i hI2=>?_)
   · exact⟨by omega,by omega,by rw [Aa.Ey,c3];rfl⟩
   obtain⟨hI21,hI22,hI23⟩:=hI2
   refine W ?_
   refine⟨fun c4 c4p=>?_,fun c4 c4p=>?_⟩
   ·
    refine W ?_
    refine⟨fun c5 c5p=>?_,fun c5 c5p=>?_⟩
    ·
     refine W ?_
     refine congrArg Value.bool ?_;rw [hI13,Aa.DI (d:= []) hI11 hk,hI23,Aa.DI (d:=0) hI21 (by omega),show Aa.EU _=false from by simpa using c5];rfl
    refine W ?_
    refine Az (i+1) ?_ ?_ (.t6 56 4 45 46 47 55) (.refl _)
    · exact⟨by omega,by omega,by rw [hI23,Aa.DI (d:=0) hI21 (by omega),show Aa.EU _=true from by simpa using c5];rfl⟩
    · omega
   refine W ?_
   refine Az (k+1) ?_ ?_ (.t3 47 45 46) (.refl _)
   · exact⟨by omega,by omega,by rw [hI13,Aa.DI (d:= []) hI11 hk,hI23,show i.toNat=((qs ++ [l.now]).getD k.toNat []).length from by omega,List.drop_length];rfl⟩
   · omega
  have hk:¬ k < ((qs ++ [l.now]).length:Int):=by simp only [List.length_append,List.length_cons,List.length_nil] at *;omega
  refine W ?_
  refine congrArg Value.bool ?_;rw [hI13,show k.toNat=(qs ++ [l.now]).length from by omega,List.drop_length];rfl
 ·
  refine W ?_
  intro b3
  refine Cm .n (BR _ _ (by first | assumption | omega)) (fun v6 B hv=>?_) (fun _=>(fun w hS=>(Kn.IW r0) w hS))
  obtain⟨y7,rfl,y8,rfl⟩:=hv
  refine W ?_
  intro h10 h10l h10z
  refine Ag (.t3 47 45 46) ?_
  refine A8 (fun(k:Int)=>0≤k∧k≤((qs ++ [l.now]).length:Int)∧Aa.A3 l qs=((qs ++ [l.now]).drop k.toNat).all Aa.Ey) (fun(k:Int)=>(((qs ++ [l.now]).length:Int) - k).toNat) (fun(k:Int)=> [(47, .int .i64 k)]) (fun(k:Int)=> []) (0) ?_ J J (fun k hI1=>?_)
  · exact⟨by omega,by omega,by rw [Aa.A3,show Aa.Hq l=false from c1];rfl⟩
  obtain⟨hI11,hI12,hI13⟩:=hI1
  refine W ?_
  refine⟨fun c6 c6p=>?_,fun c6 c6p=>?_⟩
  ·
   have hk:k < ((qs ++ [l.now]).length:Int):=by simp only [List.length_append,List.length_cons,List.length_nil] at *;omega
   have hk7:((qs ++ [l.now]).length:Int)≤7:=by simp only [List.length_append,List.length_cons,List.length_nil] at *;omega
   refine W ?_
   refine⟨fun c7 c7p=>?_,fun c7 c7p=>?_⟩
   ·
    refine W ?_
    refine congrArg Value.bool ?_;rw [hI13,Aa.DI (d:= []) hI11 hk,Aa.Ey,c7];rfl
   refine W ?_
   refine Ag (.t6 56 4 45 46 47 55) ?_
   refine A8 (fun(i:Int)=>0≤i∧i≤(((qs ++ [l.now]).getD k.toNat []).length:Int)∧Aa.Ey ((qs ++ [l.now]).getD k.toNat [])=(((qs ++ [l.now]).getD k.toNat []).drop i.toNat).all Aa.EU) (fun(i:Int)=>((((qs ++ [l.now]).getD k.toNat []).length:Int) - i).toNat) (fun(i:Int)=> [(56, .int .i64 i)]) (fun(i:Int)=> []) (0) ?_ J J (fun i hI2=>?_)
   · exact⟨by omega,by omega,by rw [Aa.Ey,c7];rfl⟩
   obtain⟨hI21,hI22,hI23⟩:=hI2
   refine W ?_
   refine⟨fun c8 c8p=>?_,fun c8 c8p=>?_⟩
   ·
    refine W ?_
    refine⟨fun c9 c9p=>?_,fun c9 c9p=>?_⟩
    ·
     refine W ?_
     refine congrArg Value.bool ?_;rw [hI13,Aa.DI (d:= []) hI11 hk,hI23,Aa.DI (d:=0) hI21 (by omega),show Aa.EU _=false from by simpa using c9];rfl
    refine W ?_
    refine Az (i+1) ?_ ?_ (.t6 56 4 45 46 47 55) (.refl _)
    · exact⟨by omega,by omega,by rw [hI23,Aa.DI (d:=0) hI21 (by omega),show Aa.EU _=true from by simpa using c9];rfl⟩
    · omega
   refine W ?_
   refine Az (k+1) ?_ ?_ (.t3 47 45 46) (.refl _)
   · exact⟨by omega,by omega,by rw [hI13,Aa.DI (d:= []) hI11 hk,hI23,show i.toNat=((qs ++ [l.now]).getD k.toNat []).length from by omega,List.drop_length];rfl⟩
   · omega
  have hk:¬ k < ((qs ++ [l.now]).length:Int):=by simp only [List.length_append,List.length_cons,List.length_nil] at *;omega
  refine W ?_
  refine congrArg Value.bool ?_;rw [hI13,show k.toNat=(qs ++ [l.now]).length from by omega,List.drop_length];rfl
instance:DY Tryz.prog 77 (type_of% @KG):=⟨@KG⟩
theorem PF {t0:Nat}(l:BO)(qs:List AL)(u:AL)(hu:u.length≤9000000000000000000):Cw Tryz.prog 38 #[.agg l.enc.toArray,Ae u] [] (fun w=>Rd w l.queue t0 1 (qs.flatMap Ac)) (fun v B=>(Aa.A3 l qs=false∧v = .tuple #[.agg l.enc.toArray, .int .i64 0, .int .i64 2]∧B = [])∨(Aa.A3 l qs=true∧∃ h':Hd,v = .tuple #[.agg (BO.enc ⟨(Aa.feed (Aa.start l qs) u).now,(Aa.feed (Aa.start l qs) u).long,(Aa.feed (Aa.start l qs) u).ret,h'⟩).toArray, .int .i64 (Aa.feed (Aa.start l qs) u).lost, .int .i64 0]∧h'.len=(Aa.feed (Aa.start l qs) u).queue.length∧B = [AJ.own h' 9 1 ((Aa.feed (Aa.start l qs) u).queue.flatMap Ac)])):=by
 intro w hS0 hH
 have r0:=hH
 have hl0:=r0.HQ Ct (by decide)
 refine AU _ _ Tryz.func38 J J J (hS0) ?_
 refine W ?_
 intro b1 b2
 refine⟨fun c1 c1p=>?_,fun c1 c1p=>?_⟩
 ·
  refine W ?_
  intro w1 hS
  have hS:=(hS.perm (AK.perm .n)).AM
  exact⟨_, .inl ⟨by simpa using c1,rfl,rfl⟩,hS⟩
 have hgd:Aa.A3 l qs=true:=by simpa using c1
 have hh:=Aa.XV hgd
 have hq6:qs.length≤17592186044416:=by omega
 refine W ?_
 refine Cm .n (BR _ _ (by first | assumption | omega)) (fun v1 B hv=>?_) (fun _=>(fun w hS=>(Kn.IW r0) w hS))
 obtain⟨y2,rfl,y3,rfl⟩:=hv
 refine W ?_
 refine GJ J Tryz.underlying9 Tryz.underlying122 Tryz.underlying5 J (fun h5 h5l=>?_)
 refine W ?_
 refine Ag (.t7 7 8 25 1 2 4 24) ?_
 refine AX (.t (.t (.t .h))) ?_
 refine AX (.t (.t .h)) ?_
 refine AX (.t (.t .h)) ?_
 refine Si (fun(k:Int) (now:AL) (long:Bool) (ret:Bool) (queue:List AL) (lost:Int) (h:Hd) (g:Hd)=>Aa.I (Aa.start l qs) u k ⟨now,long,ret,queue,lost⟩∧h.len=now.length∧g.len=queue.length) (fun(k:Int) (now:AL) (long:Bool) (ret:Bool) (queue:List AL) (lost:Int) (h:Hd) (g:Hd)=>((u.length:Int) - k).toNat) (fun(k:Int) (now:AL) (long:Bool) (ret:Bool) (queue:List AL) (lost:Int) (h:Hd) (g:Hd)=> [(7, .int .i64 lost),(8,h.val),(25, .int .i64 k)]) (fun(k:Int) (now:AL) (long:Bool) (ret:Bool) (queue:List AL) (lost:Int) (h:Hd) (g:Hd)=> [AJ.own h 5 1 (now.flatMap CH),AJ.own g 9 1 (queue.flatMap Ac),AJ.box b1 58 (BO.enc ⟨l.now,long,ret,g⟩)]) (0) (l.now) (l.long) (l.ret) (qs) (0) (_) (_) ?_ J J (fun k now long ret queue lost h g hI1=>?_)
 · exact⟨Aa.I.start hh.1 (show qs.length≤6 by omega) rfl,by assumption,by assumption⟩
 obtain⟨hI11,hl,hg⟩:=hI1;have hk0:=hI11.k0;have hk1:=hI11.k1;have hn:now.length≤60:=hI11.now;have hq:queue.length≤6:=hI11.queue;have hlo:0≤lost∧lost≤k:=hI11.lost
 refine W ?_
 refine⟨fun c2 c2p=>?_,fun c2 c2p=>?_⟩
 ·
  refine W ?_
  refine⟨fun c3 c3p=>?_,fun c3 c3p=>?_⟩
  ·
   refine W ?_
   refine Bu (k+1) _ _ _ _ _ _ _ ?_ ?_ (.t7 7 8 25 1 2 4 24) (.refl _)
   · exact⟨hI11.next (by omega) (by simp only [Aa.step,hl,c1,c2,c3,↓reduceIte,Bool.false_eq_true]),(by(try dsimp only at *)<;>(try simp only [List.length_append,List.length_take,List.length_cons,List.length_nil])<;>omega),(by(try dsimp only at *)<;>(try simp only [List.length_append,List.length_cons,List.length_nil])<;>omega)⟩
   · omega
  refine W ?_
  refine⟨fun c4 c4p=>?_,fun c4 c4p=>?_⟩
  ·
   refine W ?_
   refine⟨fun c5 c5p=>?_,fun c5 c5p=>?_⟩
   ·
    rw [hg] at c5
    refine W ?_
    intro b3 h6 h6l h6z
    refine WE CH 5 1 ?_
    refine As (.c .h (.c (.t (.t .h)) (.c (.t (.t .h)) (.c (.t (.t .h)) .n)))) ?_
    refine Ax ?_
    refine Bu (k+1) _ _ _ _ _ _ _ ?_ ?_ (.t7 7 8 25 1 2 4 24) (.refl _)
    · exact⟨hI11.next (by omega) (by simp only [Aa.step,hl,c1,c2,c3,c4,c5,↓reduceIte,Bool.false_eq_true]),(by(try dsimp only at *)<;>(try simp only [List.length_append,List.length_take,List.length_cons,List.length_nil])<;>omega),(by(try dsimp only at *)<;>(try simp only [List.length_append,List.length_cons,List.length_nil])<;>omega)⟩
    · omega
   rw [hg] at c5
   refine W ?_
   refine WE CH 5 1 ?_
   refine As (.c .h (.c (.t .h) (.c (.t .h) (.c (.t .h) .n)))) ?_
   refine Ax ?_
   refine Bu (k+1) _ _ _ _ _ _ _ ?_ ?_ (.t7 7 8 25 1 2 4 24) (.refl _)
   · exact⟨hI11.next (by omega) (by simp only [Aa.step,hl,c1,c2,c3,c4,c5,↓reduceIte,Bool.false_eq_true]),(by(try dsimp only at *)<;>(try simp only [List.length_append,List.length_take,List.length_cons,List.length_nil])<;>omega),(by(try dsimp only at *)<;>(try simp only [List.length_append,List.length_cons,List.length_nil])<;>omega)⟩
   · omega
  refine W ?_
  refine⟨fun c6 c6p=>?_,fun c6 c6p=>?_⟩
  ·
   refine W ?_
   refine⟨fun c7 c7p=>?_,fun c7 c7p=>?_⟩
   ·
    rw [hl] at c7
    refine W ?_
    refine Bu (k+1) _ _ _ _ _ _ _ ?_ ?_ (.t7 7 8 25 1 2 4 24) (.refl _)
    · exact⟨hI11.next (by omega) (by simp only [Aa.step,hl,c1,c2,c3,c4,c6,c7,↓reduceIte,Bool.false_eq_true]),(by(try dsimp only at *)<;>(try simp only [List.length_append,List.length_take,List.length_cons,List.length_nil])<;>omega),(by(try dsimp only at *)<;>(try simp only [List.length_append,List.length_cons,List.length_nil])<;>omega)⟩
    · omega
   rw [hl] at c7
   refine W ?_
   refine Bu (k+1) _ _ _ _ _ _ _ ?_ ?_ (.t7 7 8 25 1 2 4 24) (.refl _)
   · exact⟨hI11.next (by omega) (by simp only [Aa.step,hl,c1,c2,c3,c4,c6,c7,↓reduceIte,Bool.false_eq_true]),(by(try dsimp only at *)<;>(try simp only [List.length_append,List.length_take,List.length_cons,List.length_nil])<;>omega),(by(try dsimp only at *)<;>(try simp only [List.length_append,List.length_cons,List.length_nil])<;>omega)⟩
   · omega
  refine W ?_
  refine⟨fun c8 c8p=>?_,fun c8 c8p=>?_⟩
  ·
   refine W ?_
   refine Bu (k+1) _ _ _ _ _ _ _ ?_ ?_ (.t7 7 8 25 1 2 4 24) (.refl _)
   · exact⟨hI11.next (by omega) (by simp only [Aa.step,hl,c1,c2,c3,c4,c6,c8,↓reduceIte,Bool.false_eq_true]),(by(try dsimp only at *)<;>(try simp only [List.length_append,List.length_take,List.length_cons,List.length_nil])<;>omega),(by(try dsimp only at *)<;>(try simp only [List.length_append,List.length_cons,List.length_nil])<;>omega)⟩
   · omega
  refine W ?_
  refine⟨fun c9 c9p=>?_,fun c9 c9p=>?_⟩
  ·
   rw [hl] at c9
   refine W ?_
   refine Bu (k+1) _ _ _ _ _ _ _ ?_ ?_ (.t7 7 8 25 1 2 4 24) (.refl _)
   · exact⟨hI11.next (by omega) (by simp only [Aa.step,hl,c1,c2,c3,c4,c6,c8,c9,↓reduceIte,Bool.false_eq_true]),(by(try dsimp only at *)<;>(try simp only [List.length_append,List.length_take,List.length_cons,List.length_nil])<;>omega),(by(try dsimp only at *)<;>(try simp only [List.length_append,List.length_cons,List.length_nil])<;>omega)⟩
   · omega
  rw [hl] at c9
  refine W ?_
  refine KX CH Rv J Tryz.underlying122 QI Uu J (by decide) (by decide) J J (fun b4=>?_)
  refine Fo Rv J Tryz.underlying122 QI Uu J fQ (by decide) (by decide) J J (fun w hS=>Src.Gu Tryz.underlying122 ((Kn.own .m0) w hS)) (by(try dsimp only);omega) (fun _=>(.t .h)) (fun h9 h9l h9z=>?_)
  refine W ?_
  refine Bu (k+1) _ _ _ _ _ _ _ ?_ ?_ (.t7 7 8 25 1 2 4 24) (.cons _ (.refl _))
  · exact⟨hI11.next (by omega) (by simp only [Aa.step,hl,c1,c2,c3,c4,c6,c8,c9,↓reduceIte,Bool.false_eq_true]),(by(try dsimp only at *)<;>(try simp only [List.length_append,List.length_take,List.length_cons,List.length_nil])<;>omega),(by(try dsimp only at *)<;>(try simp only [List.length_append,List.length_cons,List.length_nil])<;>omega)⟩
  · omega
 refine W ?_
 intro w1 hS
 have hS:=(hS.perm (AK.perm (.c (.t .h) .n))).AM
 have e:=hI11.done (by omega)
 exact⟨_, .inr ⟨hgd,_,by rw [e];rfl,by rw [e];exact hg,by rw [e]⟩,hS⟩
theorem Jk (p:A7)(n:Int)(w:World):Ck Tryz.prog 41 #[.agg p.enc.toArray, .int .i64 n] w fun v w'=>v = .tuple #[.agg (A7.enc ⟨p.wait,p.shown,p.BS,p.ring.drop (max 0 (min n (p.ring.length:Int))).toNat,p.cut⟩).toArray,Ae (p.ring.take (max 0 (min n (p.ring.length:Int))).toNat)]∧BG w w':=by
 refine Rb Tryz.func41 ?_
 refine W ?_
 intro b1 b2
 rfl
instance:DY Tryz.prog 41 (type_of% @Jk):=⟨@Jk⟩
theorem VY (b:Nat)(V:AE)(ls:Vector Af 4)(ev:List Ing.Event)(a:Ba)(hL:AG.Live (AO V ls ev))(hu:a.bytes.length≤140737488351232):Cw Tryz.prog 9 #[.pointer (some ⟨b,0,none⟩), .agg a.enc.toArray] [AJ.box b 95 (AE.enc V),AJ.CQ (BF 9 (AE.AQ V) ls),AJ.own (AE.last V) 100 16 ((ev).flatMap Ing.Event.enc)] (fun w=>(GV 3 Dw w∧3 ∉ BP [AJ.box b 95 (AE.enc V),AJ.CQ (BF 9 (AE.AQ V) ls),AJ.own (AE.last V) 100 16 ((ev).flatMap Ing.Event.enc)])∧(GV 1 AD.Bf w∧1 ∉ BP [AJ.box b 95 (AE.enc V),AJ.CQ (BF 9 (AE.AQ V) ls),AJ.own (AE.last V) 100 16 ((ev).flatMap Ing.Event.enc)])∧(Ea 8 w∧8 ∉ BP [AJ.box b 95 (AE.enc V),AJ.CQ (BF 9 (AE.AQ V) ls),AJ.own (AE.last V) 100 16 ((ev).flatMap Ing.Event.enc)])∧(Ea 9 w∧9 ∉ BP [AJ.box b 95 (AE.enc V),AJ.CQ (BF 9 (AE.AQ V) ls),AJ.own (AE.last V) 100 16 ((ev).flatMap Ing.Event.enc)])) (fun v B=>∃ V' ls' ev',v = .agg (CC.enc (AG.act (AO V ls ev) a).2).toArray∧AO V' ls' ev'=(AG.act (AO V ls ev) a).1∧B = [AJ.box b 95 (AE.enc V'),AJ.CQ (BF 9 (AE.AQ V') ls'),AJ.own (AE.last V') 100 16 ((ev').flatMap Ing.Event.enc)]):=by
 intro w hS0 hH
 obtain⟨⟨gl0,gm0⟩,⟨gl1,gm1⟩,⟨gl2,gm2⟩,⟨gl3,gm3⟩⟩:=hH
 obtain⟨n,m,hF⟩:=hL.fits
 have hc:0≤V.Bg:=hL.Bg
 refine AU _ _ Tryz.func9 J J J (hS0) ?_
 refine W ?_
 intro b1 b2
 refine⟨fun c1 c1p=>?_,fun c1 c1p=>?_⟩
 ·
  refine W ?_
  intro w1 hS
  have hS:=(hS.perm (AK.perm (.c (.t (.t .h)) (.c (.t (.t .h)) (.c (.t (.t .h)) .n))))).AM
  have hq:(AG.act (AO V ls ev) a)=((AO V ls ev),⟨4,[]⟩):=AN c1
  refine⟨_,⟨V,ls,ev,?gv1,?ga1,J⟩,hS⟩
  case gv1=>rw [hq];rfl
  case ga1=>rw [hq]
 refine Ws 7 ?_
 refine CA Ing.Event.enc 100 16 ?_
 refine B6 (.c (.t (.t (.t .h))) (.c (.t (.t (.t .h))) (.c .h .n))) ?_
 refine W ?_
 refine Ag (.t4 32 0 3 4) ?_
 refine AX (.t (.t .h)) ?_
 refine AX (.t (.t .h)) ?_
 refine AX (.t (.t .h)) ?_
 refine Dd (fun(i:Int) (V1:AE) (ls1:Vector Af 4) (ev1:List Ing.Event)=>0≤i∧i≤4∧(AO V1 ls1 ev1)=AG.D0 ({ (AO V ls ev) with Bg:=((AO V ls ev)).Bg+1,last:= [] }:AG) i.toNat) (fun(i:Int) (V1:AE) (ls1:Vector Af 4) (ev1:List Ing.Event)=>(4 - i).toNat) (fun(i:Int) (V1:AE) (ls1:Vector Af 4) (ev1:List Ing.Event)=> [(32, .int .i64 i)]) (fun(i:Int) (V1:AE) (ls1:Vector Af 4) (ev1:List Ing.Event)=> [AJ.box b 95 (AE.enc V1),AJ.CQ (BF 9 (AE.AQ V1) ls1),AJ.own (AE.last V1) 100 16 (ev1.flatMap Ing.Event.enc)]) (0) (_) (ls) ([]) ?_ J J (fun i V1 ls1 ev1 hI1=>?_)
 · exact⟨by omega,by omega,rfl⟩
 obtain⟨hI11,hI12,hI13⟩:=hI1
 refine W ?_
 refine⟨fun c2 c2p=>?_,fun c2 c2p=>?_⟩
 ·
  have hi:0≤i∧i < 4:=⟨by omega,by omega⟩
  refine Ws 10 ?_
  refine C8 (k:=i) hi.1 hi.2 (fun sv sl hsv hlv hln=>?_)
  refine Ws 11 ?_
  refine CA Ac 9 1 ?_
  refine B6 (.c (.t .h) (.c (.t .h) (.c .h (.c (.t .h) (.c (.t .h) .n))))) ?_
  refine Cr hi.1 hi.2 (by rfl) (by rfl) (by rfl) ?_
  refine W ?_
  refine As (.c .h (.c .h (.c (.t .h) (.c (.t .h) (.c (.t .h) (.c (.t .h) .n)))))) ?_
  refine Ax ?_
  refine BL (i+1) _ _ _ ?_ ?_ (.t4 32 0 3 4) (.refl _)
  · exact⟨by omega,by omega,(B3 hi.1 hi.2 hsv hlv (f:=fun x=>{ x with told:= [] }) rfl).trans (by rw [hI13];exact(AG.Mc hI11).symm)⟩
  · omega
 obtain rfl:i=4:=by omega
 have hX:(AO V1 ls1 ev1)=(AG.begun (AO V ls ev)):=hI13
 have hF0:AG.Fit (AO V1 ls1 ev1) 0 0:=by rw [hX];exact hF.begun
 refine W ?_
 refine⟨fun c3 c3p=>?_,fun c3 c3p=>?_⟩
 ·
  refine W ?_
  refine Cm (.c .h (.c .h (.c .h .n))) (QA _ V1 ls1 ev1 a.n 0 0 hF0 (by omega) (by omega)) (fun v2 B hv=>?_)
  obtain⟨y3,y4,y5,rfl,y6,rfl⟩:=hv
  refine W ?_
  intro w1 hS
  have hS:=(hS.perm (AK.perm (.c .h (.c .h (.c .h .n))))).AM
  have hq0:AG.Eb (AO V1 ls1 ev1) a=_:=(AN c3)
  have hq:(AG.act (AO V ls ev) a)=_:=(AG.Ft c1 a).trans ((congrArg (fun X=>AG.Eb X a) hX.symm).trans hq0)
  refine⟨_,⟨y3,y4,y5,?gv2,?ga2,J⟩,hS⟩
  case gv2=>rw [hq];rfl
  case ga2=>rw [hq];dsimp only;exact y6
 refine W ?_
 refine⟨fun c4 c4p=>?_,fun c4 c4p=>?_⟩
 ·
  refine W ?_
  intro w1 hS
  have hS:=(hS.perm (AK.perm (.c .h (.c .h (.c .h .n))))).AM
  have hq0:AG.Eb (AO V1 ls1 ev1) a=_:=((AB c3).trans (AN c4))
  have hq:(AG.act (AO V ls ev) a)=_:=(AG.Ft c1 a).trans ((congrArg (fun X=>AG.Eb X a) hX.symm).trans hq0)
  refine⟨_,⟨V1,ls1,ev1,?gv3,?ga3,J⟩,hS⟩
  case gv3=>rw [hq];rfl
  case ga3=>rw [hq]
 refine W ?_
 refine⟨fun c5 c5p=>?_,fun c5 c5p=>?_⟩
 ·
  refine W ?_
  intro w1 hS
  have hS:=(hS.perm (AK.perm (.c .h (.c .h (.c .h .n))))).AM
  have hq0:AG.Eb (AO V1 ls1 ev1) a=_:=((AB c3).trans ((AB c4).trans (AN c5)))
  have hq:(AG.act (AO V ls ev) a)=_:=(AG.Ft c1 a).trans ((congrArg (fun X=>AG.Eb X a) hX.symm).trans hq0)
  refine⟨_,⟨V1,ls1,ev1,?gv4,?ga4,J⟩,hS⟩
  case gv4=>rw [hq];rfl
  case ga4=>rw [hq]
 have hs:0≤a.AY∧a.AY < 4:=⟨by omega,by omega⟩
 refine W ?_
 refine⟨fun c6 c6p=>?_,fun c6 c6p=>?_⟩
 ·
  refine W ?_
  intro w1 hS
  have hS:=(hS.perm (AK.perm (.c .h (.c .h (.c .h .n))))).AM
  have hq0:AG.Eb (AO V1 ls1 ev1) a=_:=((AB c3).trans ((AB c4).trans ((AB c5).trans (AN (show(decide ((AG.at_ (AO V1 ls1 ev1) a.AY).state=0) != decide (a.kind=1))=true by rw [DN V1 ls1 ev1 hs.1 hs.2];exact c6)))))
  have hq:(AG.act (AO V ls ev) a)=_:=(AG.Ft c1 a).trans ((congrArg (fun X=>AG.Eb X a) hX.symm).trans hq0)
  refine⟨_,⟨V1,ls1,ev1,?gv5,?ga5,J⟩,hS⟩
  case gv5=>rw [hq];rfl
  case ga5=>rw [hq]
 refine W ?_
 refine⟨fun c7 c7p=>?_,fun c7 c7p=>?_⟩
 ·
  refine W ?_
  refine Cm (.c .h (.c .h (.c .h .n))) (R3 _ V1 ls1 ev1 a.AY 0 0 hs hF0 (by omega) (by omega)) (fun v7 B hv=>?_)
  obtain⟨y8,y9,y10,rfl,y11,rfl⟩:=hv
  refine W ?_
  intro w1 hS
  have hS:=(hS.perm (AK.perm (.c .h (.c .h (.c .h .n))))).AM
  have hq0:AG.Eb (AO V1 ls1 ev1) a=_:=((AB c3).trans ((AB c4).trans ((AB c5).trans ((AB (show(decide ((AG.at_ (AO V1 ls1 ev1) a.AY).state=0) != decide (a.kind=1))=false by rw [DN V1 ls1 ev1 hs.1 hs.2];exact c6)).trans (AN c7)))))
  have hq:(AG.act (AO V ls ev) a)=_:=(AG.Ft c1 a).trans ((congrArg (fun X=>AG.Eb X a) hX.symm).trans hq0)
  refine⟨_,⟨y8,y9,y10,?gv6,?ga6,J⟩,hS⟩
  case gv6=>rw [hq];rfl
  case ga6=>rw [hq];dsimp only;exact y11
 refine W ?_
 refine⟨fun c8 c8p=>?_,fun c8 c8p=>?_⟩
 ·
  refine Ws 27 ?_
  refine C8 (k:=a.AY) hs.1 hs.2 (fun sv sl hsv hlv hln=>?_)
  try have:=AI.QN sv.DZ a.bytes
  refine W ?_
  refine Cm .n (PF _ _ _ (by have h:=QM sv.DZ a.bytes;omega)) (fun v12 B hv=>?_) (fun _=>(fun w hS=>(Kn.own .m0) w hS))
  rcases hv with ⟨y13,rfl,rfl⟩ | ⟨y14,y15,rfl,y16,rfl⟩
  ·
   refine Ws 31 ?_
   refine B6 (.c .h (.c .h (.c .h (.c .h (.c .h .n))))) ?_
   refine Cr hs.1 hs.2 (by rfl) (by rfl) (by rfl) ?_
   refine W ?_
   refine Cm (.c .h (.c .h (.c .h .n))) (Du _ (AE.AY V1 a.AY (heard sv a.bytes)) (ls1.put a.AY ⟨sl.queue,sl.wait,sl.told⟩) ev1 0 0 (GO hs.1 hs.2 (DJ (V:=V1) (ls:=ls1) (ev:=ev1) hs.1 hs.2 hsv hlv (Jc (u:=a.bytes) hln.2.1 hln.1 y13)) hF0) (by omega) (by omega)) (fun v18 B hv=>?_)
   obtain⟨y19,y20,y21,rfl,y22,rfl⟩:=hv
   refine W ?_
   intro w1 hS
   have hS:=(hS.perm (AK.perm (.c .h (.c .h (.c .h .n))))).AM
   have hq0:AG.Eb (AO V1 ls1 ev1) a=_:=((AB c3).trans ((AB c4).trans ((AB c5).trans ((AB (show(decide ((AG.at_ (AO V1 ls1 ev1) a.AY).state=0) != decide (a.kind=1))=false by rw [DN V1 ls1 ev1 hs.1 hs.2];exact c6)).trans ((AB c7).trans (AN c8))))))
   have hq:(AG.act (AO V ls ev) a)=_:=(AG.Ft c1 a).trans ((congrArg (fun X=>AG.Eb X a) hX.symm).trans hq0)
   refine⟨_,⟨y19,y20,y21,?gv7,?ga7,J⟩,hS⟩
   case gv7=>rw [hq];rfl
   case ga7=>rw [hq];dsimp only;exact(Ih hs.1 hs.2 (DJ (V:=V1) (ls:=ls1) (ev:=ev1) hs.1 hs.2 hsv hlv (Jc (u:=a.bytes) hln.2.1 hln.1 y13)) (.inr ⟨(show decide ((0:Int) < 0)=false from rfl),rfl⟩) y22)
  refine Ws 31 ?_
  refine B6 (.c .h (.c (.t .h) (.c (.t .h) (.c (.t .h) (.c (.t .h) .n))))) ?_
  refine Cr hs.1 hs.2 (by rfl) (by rfl) (by rfl) ?_
  refine W ?_
  refine⟨fun c9 c9p=>?_,fun c9 c9p=>?_⟩
  ·
   refine W ?_
   refine Cl (.c .h (.c .h (.c (.t .h) .n))) (Ee _ (AE.AY V1 a.AY { heard sv a.bytes with Ay:=⟨(Aa.feed (Aa.start sv.Ay sl.queue) (sv.DZ.CM a.bytes).2.1).now,(Aa.feed (Aa.start sv.Ay sl.queue) (sv.DZ.CM a.bytes).2.1).long,(Aa.feed (Aa.start sv.Ay sl.queue) (sv.DZ.CM a.bytes).2.1).ret,y15⟩ }) (ls1.put a.AY ⟨(Aa.feed (Aa.start sv.Ay sl.queue) (sv.DZ.CM a.bytes).2.1).queue,sl.wait,sl.told⟩) ev1 a.AY _ hs (Nat.le_trans (Cx (GO hs.1 hs.2 (DJ (V:=V1) (ls:=ls1) (ev:=ev1) hs.1 hs.2 hsv hlv (EC (u:=a.bytes) hln.2.1 hln.1 y14 y15)) hF0) a.AY hs.1 hs.2) (by omega))) (fun v23 B hv=>?_)
   obtain⟨y24,y25,y26,rfl,y27,rfl⟩:=hv
   refine W ?_
   refine Cm (.c .h (.c .h (.c .h .n))) (Du _ y24 y25 y26 1 0 (by rw [y27];exact(GO hs.1 hs.2 (DJ (V:=V1) (ls:=ls1) (ev:=ev1) hs.1 hs.2 hsv hlv (EC (u:=a.bytes) hln.2.1 hln.1 y14 y15)) hF0).tell hs.1 hs.2 (show AG.TK.length≤_ by decide)) (by omega) (by omega)) (fun v28 B hv=>?_)
   obtain⟨y29,y30,y31,rfl,y32,rfl⟩:=hv
   refine W ?_
   intro w1 hS
   have hS:=(hS.perm (AK.perm (.c .h (.c .h (.c .h .n))))).AM
   have hq0:AG.Eb (AO V1 ls1 ev1) a=_:=((AB c3).trans ((AB c4).trans ((AB c5).trans ((AB (show(decide ((AG.at_ (AO V1 ls1 ev1) a.AY).state=0) != decide (a.kind=1))=false by rw [DN V1 ls1 ev1 hs.1 hs.2];exact c6)).trans ((AB c7).trans (AN c8))))))
   have hq:(AG.act (AO V ls ev) a)=_:=(AG.Ft c1 a).trans ((congrArg (fun X=>AG.Eb X a) hX.symm).trans hq0)
   refine⟨_,⟨y29,y30,y31,?gv8,?ga8,J⟩,hS⟩
   case gv8=>rw [hq];rfl
   case ga8=>rw [hq];dsimp only;exact(Ih hs.1 hs.2 (DJ (V:=V1) (ls:=ls1) (ev:=ev1) hs.1 hs.2 hsv hlv (EC (u:=a.bytes) hln.2.1 hln.1 y14 y15)) (.inl ⟨c9,y27⟩) y32)
  refine W ?_
  refine Cm (.c .h (.c .h (.c (.t .h) .n))) (Du _ (AE.AY V1 a.AY { heard sv a.bytes with Ay:=⟨(Aa.feed (Aa.start sv.Ay sl.queue) (sv.DZ.CM a.bytes).2.1).now,(Aa.feed (Aa.start sv.Ay sl.queue) (sv.DZ.CM a.bytes).2.1).long,(Aa.feed (Aa.start sv.Ay sl.queue) (sv.DZ.CM a.bytes).2.1).ret,y15⟩ }) (ls1.put a.AY ⟨(Aa.feed (Aa.start sv.Ay sl.queue) (sv.DZ.CM a.bytes).2.1).queue,sl.wait,sl.told⟩) ev1 0 0 (GO hs.1 hs.2 (DJ (V:=V1) (ls:=ls1) (ev:=ev1) hs.1 hs.2 hsv hlv (EC (u:=a.bytes) hln.2.1 hln.1 y14 y15)) hF0) (by omega) (by omega)) (fun v33 B hv=>?_)
  obtain⟨y34,y35,y36,rfl,y37,rfl⟩:=hv
  refine W ?_
  intro w1 hS
  have hS:=(hS.perm (AK.perm (.c .h (.c .h (.c .h .n))))).AM
  have hq0:AG.Eb (AO V1 ls1 ev1) a=_:=((AB c3).trans ((AB c4).trans ((AB c5).trans ((AB (show(decide ((AG.at_ (AO V1 ls1 ev1) a.AY).state=0) != decide (a.kind=1))=false by rw [DN V1 ls1 ev1 hs.1 hs.2];exact c6)).trans ((AB c7).trans (AN c8))))))
  have hq:(AG.act (AO V ls ev) a)=_:=(AG.Ft c1 a).trans ((congrArg (fun X=>AG.Eb X a) hX.symm).trans hq0)
  refine⟨_,⟨y34,y35,y36,?gv9,?ga9,J⟩,hS⟩
  case gv9=>rw [hq];rfl
  case ga9=>rw [hq];dsimp only;exact(Ih hs.1 hs.2 (DJ (V:=V1) (ls:=ls1) (ev:=ev1) hs.1 hs.2 hsv hlv (EC (u:=a.bytes) hln.2.1 hln.1 y14 y15)) (.inr ⟨c9,rfl⟩) y37)
 refine W ?_
 refine⟨fun c10 c10p=>?_,fun c10 c10p=>?_⟩
 ·
  refine Ws 36 ?_
  refine C8 (k:=a.AY) hs.1 hs.2 (fun sv sl hsv hlv hln=>?_)
  refine Ws 37 ?_
  refine B6 (.c .h (.c .h (.c .h (.c .h (.c .h .n))))) ?_
  refine Cr hs.1 hs.2 (by rfl) (by rfl) (by rfl) ?_
  refine W ?_
  refine Cm (.c .h (.c .h (.c .h .n))) (Du _ (AE.AY V1 a.AY { sv with out:=⟨sv.out.wait,sv.out.shown,sv.out.BS,sv.out.ring.drop (max 0 (min a.n (sv.out.ring.length:Int))).toNat,sv.out.cut⟩ }) (ls1.put a.AY ⟨sl.queue,sl.wait,sl.told⟩) ev1 0 0 (by rw [(show AO (AE.AY V1 a.AY { sv with out:=⟨sv.out.wait,sv.out.shown,sv.out.BS,sv.out.ring.drop (max 0 (min a.n (sv.out.ring.length:Int))).toNat,sv.out.cut⟩ }) (ls1.put a.AY ⟨sl.queue,sl.wait,sl.told⟩) ev1=AG.set (AO V1 ls1 ev1) a.AY ((AG.at_ (AO V1 ls1 ev1) a.AY).Jb a.n) from B3 hs.1 hs.2 hsv hlv (f:=fun x=>x.Jb a.n) rfl)];exact hF0.Jb hs.1 hs.2 a.n) (by omega) (by omega)) (fun v38 B hv=>?_)
  obtain⟨y39,y40,y41,rfl,y42,rfl⟩:=hv
  refine W ?_
  intro w1 hS
  have hS:=(hS.perm (AK.perm (.c .h (.c .h (.c .h .n))))).AM
  have hq0:AG.Eb (AO V1 ls1 ev1) a=_:=((AB c3).trans ((AB c4).trans ((AB c5).trans ((AB (show(decide ((AG.at_ (AO V1 ls1 ev1) a.AY).state=0) != decide (a.kind=1))=false by rw [DN V1 ls1 ev1 hs.1 hs.2];exact c6)).trans ((AB c7).trans ((AB c8).trans (AN c10)))))))
  have hq:(AG.act (AO V ls ev) a)=_:=(AG.Ft c1 a).trans ((congrArg (fun X=>AG.Eb X a) hX.symm).trans hq0)
  refine⟨_,⟨y39,y40,y41,?gv10,?ga10,J⟩,hS⟩
  case gv10=>rw [hq];exact congrArg (fun x=>Value.agg (CC.enc ⟨0,x⟩).toArray) (Uk V1 ls1 ev1 hs.1 hs.2 hsv a.n)
  case ga10=>rw [hq];dsimp only;exact y42.trans (congrArg AG.BJ (show AO (AE.AY V1 a.AY { sv with out:=⟨sv.out.wait,sv.out.shown,sv.out.BS,sv.out.ring.drop (max 0 (min a.n (sv.out.ring.length:Int))).toNat,sv.out.cut⟩ }) (ls1.put a.AY ⟨sl.queue,sl.wait,sl.told⟩) ev1=AG.set (AO V1 ls1 ev1) a.AY ((AG.at_ (AO V1 ls1 ev1) a.AY).Jb a.n) from B3 hs.1 hs.2 hsv hlv (f:=fun x=>x.Jb a.n) rfl))
 refine W ?_
 refine Kt (decide_eq_true (by omega)) ?_
 refine W ?_
 refine Cm (.c .h (.c .h (.c .h .n))) (IT _ V1 ls1 ev1 a.AY 0 0 hs hF0 (by omega) (by omega)) (fun v43 B hv=>?_)
 obtain⟨y44,y45,y46,rfl,y47,rfl⟩:=hv
 refine W ?_
 refine Cm (.c .h (.c .h (.c .h .n))) (Du _ y44 y45 y46 11 11 (by rw [y47];exact hF0.leave hs.1 hs.2) (by omega) (by omega)) (fun v48 B hv=>?_)
 obtain⟨y49,y50,y51,rfl,y52,rfl⟩:=hv
 refine W ?_
 intro w1 hS
 have hS:=(hS.perm (AK.perm (.c .h (.c .h (.c .h .n))))).AM
 have hq0:AG.Eb (AO V1 ls1 ev1) a=_:=((AB c3).trans ((AB c4).trans ((AB c5).trans ((AB (show(decide ((AG.at_ (AO V1 ls1 ev1) a.AY).state=0) != decide (a.kind=1))=false by rw [DN V1 ls1 ev1 hs.1 hs.2];exact c6)).trans ((AB c7).trans ((AB c8).trans (AB c10)))))))
 have hq:(AG.act (AO V ls ev) a)=_:=(AG.Ft c1 a).trans ((congrArg (fun X=>AG.Eb X a) hX.symm).trans hq0)
 refine⟨_,⟨y49,y50,y51,?gv11,?ga11,J⟩,hS⟩
 case gv11=>rw [hq];rfl
 case ga11=>rw [hq];dsimp only;exact y52.trans (congrArg AG.BJ y47)
theorem KB {t0:Nat}(f:Hd)(l:List Ba)(hu:∀ a∈l,a.bytes.length≤140737488351232):Cw Tryz.prog 5 #[f.val] [] (fun w=>Rd w f t0 4 (l.flatMap Ba.enc)∧(GV 3 Dw w∧3 ∉ BP [])∧(GV 1 AD.Bf w∧1 ∉ BP [])∧(Ea 8 w∧8 ∉ BP [])∧(Ea 9 w∧9 ∉ BP [])) (fun v B=>∃ h:Hd,v = .tuple #[h.val, .int .i64 (AG.fC l)]∧h.len=(AG.aE l).length∧B = [AJ.own h 32 2 ((AG.aE l).flatMap CC.enc)]):=by
 intro w hS0 hH
 obtain⟨r0,⟨gl0,gm0⟩,⟨gl1,gm1⟩,⟨gl2,gm2⟩,⟨gl3,gm3⟩⟩:=hH
 have hfl:=r0.HQ Ba.fl (by decide)
 refine AU _ _ Tryz.func5 J J J (hS0) ?_
 refine W ?_
 refine⟨fun c1 c1p=>?_,fun c1 c1p=>?_⟩
 ·
  refine W ?_
  intro w1 hS
  have hS:=hS.BX 32 2
  have hS:=(hS.perm (AK.perm (.c .h .n))).AM
  have hn:400 < l.length:=by omega
  refine⟨_,⟨⟨none,0,0⟩,?gw,?gm,?gC⟩,hS⟩
  case gw=>rw [AG.Wq hn];rfl
  case gm=>rw [AG.SQ hn];rfl
  case gC=>rw [AG.SQ hn];rfl
 have hn:l.length≤400:=by omega
 refine W ?_
 refine Cl .n (O3 ) (fun v2 B hv=>?_)
 obtain⟨y3,y4,y5,y6,rfl,y7,rfl⟩:=hv
 refine W ?_
 refine Ag (.t5 5 14 4 12 13) ?_
 refine CA CC.enc 32 2 ?_
 refine AX (.t (.t (.t .h))) ?_
 refine AX (.t (.t (.t .h))) ?_
 refine AX (.t (.t (.t .h))) ?_
 refine AX (.t (.t (.t .h))) ?_
 refine Ic (fun(k:Int) (V1:AE) (ls1:Vector Af 4) (ev1:List Ing.Event) (g:Hd)=>0≤k∧k≤(l.length:Int)∧AO V1 ls1 ev1=(AG.new.run (l.take k.toNat)).1∧g.len=k.toNat) (fun(k:Int) (V1:AE) (ls1:Vector Af 4) (ev1:List Ing.Event) (g:Hd)=>((l.length:Int) - k).toNat) (fun(k:Int) (V1:AE) (ls1:Vector Af 4) (ev1:List Ing.Event) (g:Hd)=> [(5,g.val),(14, .int .i64 k)]) (fun(k:Int) (V1:AE) (ls1:Vector Af 4) (ev1:List Ing.Event) (g:Hd)=> [AJ.own g 32 2 ((AG.new.run (l.take k.toNat)).2.flatMap CC.enc),AJ.box y3 95 (AE.enc V1),AJ.CQ (BF 9 (AE.AQ V1) ls1),AJ.own (AE.last V1) 100 16 (ev1.flatMap Ing.Event.enc)]) (0) (y4) (y5) (y6) (_) ?_ J J (fun k V1 ls1 ev1 g hI1=>?_)
 · exact⟨by omega,by omega,y7,rfl⟩
 obtain⟨hI11,hI12,hI13,hI14⟩:=hI1
 refine W ?_
 refine⟨fun c2 c2p=>?_,fun c2 c2p=>?_⟩
 ·
  refine W ?_
  intro b1
  refine Cm (.c (.t (.t .h)) (.c (.t (.t .h)) (.c (.t (.t .h)) .n))) (VY y3 V1 ls1 ev1 (l.getD k.toNat default) (by rw [hI13];exact AG.Live.run _ AG.Tt) (hu _ (Ki (d:=default) (xs:=l) (i:=k.toNat) (by omega)))) (fun v9 B hv=>?_)
  obtain⟨y10,y11,y12,rfl,y13,rfl⟩:=hv
  refine W ?_
  intro b2 h14 h14l h14z
  refine As (.c (.t (.t (.t (.t (.t .h))))) (.c (.t .h) (.c (.t .h) (.c (.t .h) .n)))) ?_
  refine Ax ?_
  refine Cq (k+1) _ _ _ _ ?_ ?_ (.t5 5 14 4 12 13) (by rw [AG.Q2 hI11 (by omega),← hI13];exact(.refl _))
  · exact⟨by omega,by omega,by rw [AG.UL hI11 (by omega),← hI13];exact y13,by(try dsimp only at *);omega⟩
  · omega
 obtain rfl:k=(l.length:Int):=by omega
 refine W ?_
 intro w1 hS
 have hS:=(hS.perm (AK.perm (.c .h .n))).AM
 refine⟨_,⟨g,?gv,?gl,?gB⟩,hS⟩
 case gv=>rw [AG.Wt hn];rfl
 case gB=>rw [AG.SR hn,show((l.length:Int)).toNat=l.length by omega,List.take_length]
 case gl=>rw [AG.UH hn];omega
theorem DA (b:Nat)(X:AD)(a d e:Int)(ha:0≤a∧a < 6)(hd:0≤d∧d < 6)(he:0≤e∧e < 6):Gv Tryz.prog 43 #[.int .i64 a, .int .i64 d, .int .i64 e, .pointer (some ⟨b,0,none⟩)] [AJ.box b 52 X.enc] (fun v B=>v = .tuple #[]∧B = [AJ.box b 52 (X.join a d e).enc]):=by
 have hdm:0≤(d+3).tmod 6∧(d+3).tmod 6 < 6:=⟨Int.tmod_nonneg _ (by omega),Int.tmod_lt_of_pos _ (by decide)⟩
 intro w hS0
 refine AU _ _ Tryz.func43 J J J (hS0) ?_
 refine W ?_
 intro w1 hS
 have hS:=(hS.perm (AK.perm (.c .h .n))).AM
 exact⟨_,⟨J,J⟩,hS⟩
theorem Iv  (w:World):Ck Tryz.prog 20 #[] w fun v w'=>v = .agg AD.new.enc.toArray∧BG w w':=by
 refine Rb Tryz.func20 ?_
 refine W ?_
 intro b1 b2
 refine Ib (cs:=BT (n:=6) Ac (Vector.replicate 6 default)) J Tryz.underlying56 QJ fO (by decide) (by decide) (by kernel_rfl) (.cons (Ab.arr (n:=6) (i:=0) Ct (by decide) (by decide)) J J J (.cons (Ab.arr (n:=6) (i:=1) Ct (by decide) (by decide)) J J J (.cons (Ab.arr (n:=6) (i:=2) Ct (by decide) (by decide)) J J J (.cons (Ab.arr (n:=6) (i:=3) Ct (by decide) (by decide)) J J J (.cons (Ab.arr (n:=6) (i:=4) Ct (by decide) (by decide)) J J J (.cons (Ab.arr (n:=6) (i:=5) Ct (by decide) (by decide)) J J J .nil)))))) ((IM Ct).len _) (fun b3=>?_)
 refine W ?_
 refine Ag (.t5 8 0 1 2 7) ?_
 refine AX (.t .h) ?_
 refine A8 (fun(k:Int)=>0≤k∧k≤6) (fun(k:Int)=>(6 - k).toNat) (fun(k:Int)=> [(8, .int .i64 k)]) (fun(k:Int)=> [AJ.box b2 52 (AD.enc (AD.Xp k.toNat))]) (0) ?_ J J (fun k hI1=>?_)
 · exact⟨Int.le_refl _,by omega⟩
 obtain⟨hI11,hI12⟩:=hI1
 refine W ?_
 refine⟨fun c1 c1p=>?_,fun c1 c1p=>?_⟩
 ·
  try dsimp only at c1p
  refine W ?_
  refine Az (k+1) ?_ ?_ (.t5 8 0 1 2 7) (by rw [AD.Xq (by omega)];exact(.refl _))
  · exact⟨by omega,by omega⟩
  · omega
 try dsimp only at c1p
 obtain rfl:k=6:=by omega
 refine W ?_
 refine Cl (.c .h .n) (DA _ _ _ _ _ (by decide) (by decide) (by decide)) (fun v1 B hv=>?_)
 obtain⟨rfl,rfl⟩:=hv
 refine W ?_
 refine Cl (.c .h .n) (DA _ _ _ _ _ (by decide) (by decide) (by decide)) (fun v2 B hv=>?_)
 obtain⟨rfl,rfl⟩:=hv
 refine W ?_
 refine Cl (.c .h .n) (DA _ _ _ _ _ (by decide) (by decide) (by decide)) (fun v3 B hv=>?_)
 obtain⟨rfl,rfl⟩:=hv
 refine W ?_
 refine Cl (.c .h .n) (DA _ _ _ _ _ (by decide) (by decide) (by decide)) (fun v4 B hv=>?_)
 obtain⟨rfl,rfl⟩:=hv
 refine W ?_
 refine Cl (.c .h .n) (DA _ _ _ _ _ (by decide) (by decide) (by decide)) (fun v5 B hv=>?_)
 obtain⟨rfl,rfl⟩:=hv
 refine W ?_
 kernel_rfl
instance:DY Tryz.prog 20 (type_of% @Iv):=⟨@Iv⟩
theorem MN  : Gv Tryz.prog 6 #[] [] (fun v B=>∃(b:Nat) (V:AE) (ls:Vector Af 4) (ev:List Ing.Event),v = .pointer (some ⟨b,0,none⟩)∧AO V ls ev=AG.new∧B = [AJ.box b 65 (AE.enc V),AJ.CQ (BF 9 (AE.AQ V) ls),AJ.own (AE.last V) 100 16 ((ev).flatMap Ing.Event.enc)]):=by
 intro w hS0
 refine AU _ _ Tryz.func6 J J J (hS0) ?_
 refine W ?_
 intro b1
 intro w1 hS
 have hS:=(hS.perm (AK.perm (.c .h .n))).AM
 have h2:=(St.WU hS (l:=BF 9 Kq Kp) (fun r hr=>Tb 9 w1 r hr)).BX 100 16
 refine⟨_,⟨b1,⟨AD.new,Kq,0,⟨none,0,0⟩⟩,Kp,[],J,J,J⟩,h2.perm (Wm _ _ _)⟩
theorem CV (e:Int):Gv Tryz.prog 21 #[.int .i64 e] [] (fun v B=>v = .agg (CC.enc ⟨e,[]⟩).toArray∧B = []):=by
 intro w hS0
 refine AU _ _ Tryz.func21 J J J (hS0) ?_
 refine W ?_
 intro b1
 intro w1 hS
 have hS:=(hS.perm (AK.perm .n)).AM
 exact⟨_,⟨J,J⟩,hS⟩
theorem MO {t0:Nat}(l:BO)(qs:List AL)(hb:qs.length≤17592186044416):Cw Tryz.prog 44 #[.agg l.enc.toArray] [] (fun w=>Rd w l.queue t0 1 (qs.flatMap Ac)∧l.queue.len≤l.queue.cap) (fun v B=>(qs = []∧v = .tuple #[.agg l.enc.toArray,Ae [], .bool false]∧B = [])∨(∃ q r,qs=q :: r∧∃ h':Hd,v = .tuple #[.agg (BO.enc ⟨l.now,l.long,l.ret,h'⟩).toArray,Ae q, .bool true]∧h'.len=r.length∧B = [AJ.own h' 9 1 (r.flatMap Ac)])):=by
 intro w hS0 hH
 obtain⟨r0,k0⟩:=hH
 have hl0:=r0.HQ Ct (by decide)
 refine AU _ _ Tryz.func44 J J J (hS0) ?_
 refine W ?_
 intro b1 b2
 refine⟨fun c1 c1p=>?_,fun c1 c1p=>?_⟩
 ·
  try dsimp only at c1p
  have hq:qs = []:=List.length_eq_zero_iff.1 (by omega)
  refine W ?_
  intro w1 hS
  have hS:=(hS.perm (AK.perm .n)).AM
  exact⟨_, .inl ⟨hq,J,J⟩,hS⟩
 try dsimp only at c1p
 obtain⟨q,r,rfl⟩:=Aa.Nx (qs:=qs) (by omega)
 rw [List.length_cons] at hl0 hb
 refine W ?_
 refine Gt (OO Tryz.underlying56 QJ J J (by decide) (by omega)) ?_
 refine Lw Ac 9 1 ?_
 refine HI (e:=Ac) J Tryz.underlying56 QJ fO J gz (by decide) J J (fun w hS=>Src.Gu Tryz.underlying56 (by have h:=(Kn.cut (l:=1) (r:=l.queue.len) Ct (Kn.IW r0) (by omega) (Nat.le_refl _) (U1.of k0)) w hS;rw [show(((q :: r).take l.queue.len).drop 1)=r from by rw [List.take_of_length_le (by simp;omega)];rfl] at h;exact h)) J J (by dsimp only [Hd.cut];omega) (fun _=> .h) (fun h2 h2l=>?_)
 refine W ?_
 intro w1 hS
 have hS:=(hS.perm (AK.perm (.c .h .n))).AM
 exact⟨_, .inr ⟨q,r,J,_,J,by(try dsimp only [Hd.cut] at *);omega,rfl⟩,hS⟩
end Go.Proofs.YtlmmdjaoikaceaaGreatDoor

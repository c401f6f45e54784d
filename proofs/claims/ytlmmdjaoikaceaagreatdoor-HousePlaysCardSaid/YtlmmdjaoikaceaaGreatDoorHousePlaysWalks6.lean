/- What the functions that the law HousePlays reaches compute: walks, part 6. No condition. -/
import Derived.Test.YtlmmdjaoikaceaaGreatDoorCards
import Derived.Test.YtlmmdjaoikaceaaGreatDoorTie
import Derived.Deep.DeepHandedRow
import Derived.Test.YtlmmdjaoikaceaaGreatDoorRows
import Derived.Test.YtlmmdjaoikaceaaGreatDoorHousePlaysEc3
import Derived.Test.YtlmmdjaoikaceaaGreatDoorHousePlaysRa1
import Derived.Test.YtlmmdjaoikaceaaGreatDoorHousePlaysRb1
import Derived.Test.YtlmmdjaoikaceaaGreatDoorHousePlaysRc1
import Derived.Test.YtlmmdjaoikaceaaGreatDoorHousePlaysRd1
import Derived.Test.YtlmmdjaoikaceaaGreatDoorHousePlaysWalks
import Derived.Test.YtlmmdjaoikaceaaGreatDoorHousePlaysWalks2
import Derived.Test.YtlmmdjaoikaceaaGreatDoorHousePlaysWalks5
set_option linter.unusedSimpArgs false
set_option linter.unusedVariables false
set_option maxRecDepth 100000
set_option maxHeartbeats 4000000
namespace Go.Proofs.YtlmmdjaoikaceaaGreatDoor
open Go Go.Ing Go.RowKit Go.ChangeShapes Go.WideShapes Go.ChangeAt
theorem Em {α:Type}{ea:α→List Value}{o:Nat}{g:α→Int}{st:α→Int→α}(b V:Nat)(Y:α)(on:Bool)(opt yes no:Int)(h0:0≤yes∧yes≤255)(h1:0≤no∧no≤255)(h2:0≤opt∧opt≤255)(ln:Ac ea AT o 1 g st):Fu Tryz.prog 120 #[.pointer (some ⟨b,o,none⟩), .bool on, .int .i64 opt, .int .i64 yes, .int .i64 no] [AJ.box b V (ea Y)] (fun v B=>v=Ag (AI.EP (g Y) on opt yes no)∧B = [AJ.box b V (ea (st Y (AI.RM on)))]):=by
 intro w hS0
 refine AR _ _ Tryz.func120 J J J (hS0) ?_
 refine W ?_
 refine⟨fun c1 c1p=>?_,fun c1 c1p=>?_⟩
 ·
  refine W ?_
  refine⟨fun c2 c2p=>?_,fun c2 c2p=>?_⟩
  ·
   refine W ?_
   intro w1 hS
   have hS:=(hS.perm (AK.perm (.c .h .n))).AM
   exact⟨_,⟨by clear hS;simp_all [AI.EP,WQ],by simp only [AI.RM,ln.MX,c1,c2,↓reduceIte,Bool.false_eq_true]⟩,hS⟩
  refine W ?_
  refine⟨fun c3 c3p=>?_,fun c3 c3p=>?_⟩
  ·
   refine W ?_
   intro w1 hS
   have hS:=(hS.perm (AK.perm (.c .h .n))).AM
   exact⟨_,⟨by clear hS;simp_all [AI.EP,WQ],by simp only [AI.RM,ln.MX,c1,c2,c3,↓reduceIte,Bool.false_eq_true]⟩,hS⟩
  refine W ?_
  intro w1 hS
  have hS:=(hS.perm (AK.perm (.c .h .n))).AM
  exact⟨_,⟨by clear hS;simp_all [AI.EP,WQ],by simp only [AI.RM,ln.MX,c1,c2,c3,↓reduceIte,Bool.false_eq_true]⟩,hS⟩
 refine W ?_
 refine⟨fun c4 c4p=>?_,fun c4 c4p=>?_⟩
 ·
  refine W ?_
  intro w1 hS
  have hS:=(hS.perm (AK.perm (.c .h .n))).AM
  exact⟨_,⟨by clear hS;simp_all [AI.EP,WQ],by simp only [AI.RM,ln.MX,c1,c4,↓reduceIte,Bool.false_eq_true]⟩,hS⟩
 refine W ?_
 intro w1 hS
 have hS:=(hS.perm (AK.perm (.c .h .n))).AM
 exact⟨_,⟨by clear hS;simp_all [AI.EP,WQ],by simp only [AI.RM,ln.MX,c1,c4,↓reduceIte,Bool.false_eq_true]⟩,hS⟩
theorem J8 (b:Nat)(X:AI)(verb opt:Int)(h0:0≤opt∧opt≤255):Fu Tryz.prog 72 #[.pointer (some ⟨b,0,none⟩), .int .i64 verb, .int .i64 opt] [AJ.box b 55 X.enc] (fun v B=>v=Ag (X.Aj verb opt).2∧B = [AJ.box b 55 (X.Aj verb opt).1.enc]):=by
 intro w hS0
 refine AR _ _ Tryz.func72 J J J (hS0) ?_
 refine W ?_
 refine⟨fun c1 c1p=>?_,fun c1 c1p=>?_⟩
 ·
  refine W ?_
  refine⟨fun c2 c2p=>?_,fun c2 c2p=>?_⟩
  ·
   refine W ?_
   intro w1 hS
   have hS:=(hS.perm (AK.perm (.c .h .n))).AM
   exact⟨_,⟨by simp only [AI.Aj,c1,c2,↓reduceIte,Bool.false_eq_true]<;>rfl,by simp only [AI.Aj,c1,c2,↓reduceIte,Bool.false_eq_true]<;>rfl⟩,hS⟩
  have hk:=AI.P3 (opt:=opt) (by simpa using c2)
  have hk1:0≤(AI.place opt).1∧(AI.place opt).1 < 3:=by rcases hk with ⟨_,e⟩ | ⟨_,e⟩<;>rw [e]<;>decide
  refine W ?_
  refine Cl (.c .h .n) (Em _ _ _ _ _ _ _ (by first | assumption | omega) (by first | assumption | omega) (by first | assumption | omega) (AI.l3.comp (Ac.ar (n:=3) Bm (by omega)))) (fun v1 B hv=>?_)
  obtain⟨rfl,rfl⟩:=hv
  refine W ?_
  intro w1 hS
  have hS:=(hS.perm (AK.perm (.c .h .n))).AM
  exact⟨_,⟨by simp only [AI.Aj,c1,c2,↓reduceIte,Bool.false_eq_true]<;>rfl,by simp only [AI.Aj,c1,c2,↓reduceIte,Bool.false_eq_true]<;>rfl⟩,hS⟩
 refine W ?_
 refine⟨fun c3 c3p=>?_,fun c3 c3p=>?_⟩
 ·
  refine W ?_
  refine⟨fun c4 c4p=>?_,fun c4 c4p=>?_⟩
  ·
   have hk:=AI.P3 (opt:=opt) (by simpa using c4)
   have hk1:0≤(AI.place opt).1∧(AI.place opt).1 < 3:=by rcases hk with ⟨_,e⟩ | ⟨_,e⟩<;>rw [e]<;>decide
   refine W ?_
   refine Cl (.c .h .n) (Em _ _ _ _ _ _ _ (by first | assumption | omega) (by first | assumption | omega) (by first | assumption | omega) (AI.l3.comp (Ac.ar (n:=3) Bm (by omega)))) (fun v2 B hv=>?_)
   obtain⟨rfl,rfl⟩:=hv
   refine W ?_
   intro w1 hS
   have hS:=(hS.perm (AK.perm (.c .h .n))).AM
   exact⟨_,⟨by simp only [AI.Aj,c1,c3,c4,↓reduceIte,Bool.false_eq_true]<;>rfl,by simp only [AI.Aj,c1,c3,c4,↓reduceIte,Bool.false_eq_true]<;>rfl⟩,hS⟩
  refine W ?_
  intro w1 hS
  have hS:=(hS.perm (AK.perm (.c .h .n))).AM
  exact⟨_,⟨by simp only [AI.Aj,c1,c3,c4,↓reduceIte,Bool.false_eq_true]<;>rfl,by simp only [AI.Aj,c1,c3,c4,↓reduceIte,Bool.false_eq_true]<;>rfl⟩,hS⟩
 refine W ?_
 refine⟨fun c5 c5p=>?_,fun c5 c5p=>?_⟩
 ·
  refine W ?_
  refine⟨fun c6 c6p=>?_,fun c6 c6p=>?_⟩
  ·
   refine W ?_
   intro w1 hS
   have hS:=(hS.perm (AK.perm (.c .h .n))).AM
   exact⟨_,⟨by simp only [AI.Aj,c1,c3,c5,c6,↓reduceIte,Bool.false_eq_true]<;>rfl,by simp only [AI.Aj,c1,c3,c5,c6,↓reduceIte,Bool.false_eq_true]<;>rfl⟩,hS⟩
  have hk:=AI.L0 (opt:=opt) (by simpa using c6)
  have hk1:0≤(AI.place opt).1∧(AI.place opt).1 < 3:=by rcases hk with ⟨_,e⟩ | ⟨_,e⟩<;>rw [e]<;>decide
  refine W ?_
  refine Cl (.c .h .n) (Em _ _ _ _ _ _ _ (by first | assumption | omega) (by first | assumption | omega) (by first | assumption | omega) (AI.l4.comp (Ac.ar (n:=3) Bm (by omega)))) (fun v3 B hv=>?_)
  obtain⟨rfl,rfl⟩:=hv
  refine W ?_
  intro w1 hS
  have hS:=(hS.perm (AK.perm (.c .h .n))).AM
  exact⟨_,⟨by simp only [AI.Aj,c1,c3,c5,c6,↓reduceIte,Bool.false_eq_true]<;>rfl,by simp only [AI.Aj,c1,c3,c5,c6,↓reduceIte,Bool.false_eq_true]<;>rfl⟩,hS⟩
 refine W ?_
 refine⟨fun c7 c7p=>?_,fun c7 c7p=>?_⟩
 ·
  refine W ?_
  refine⟨fun c8 c8p=>?_,fun c8 c8p=>?_⟩
  ·
   have hk:=AI.L0 (opt:=opt) (by simpa using c8)
   have hk1:0≤(AI.place opt).1∧(AI.place opt).1 < 3:=by rcases hk with ⟨_,e⟩ | ⟨_,e⟩<;>rw [e]<;>decide
   refine W ?_
   refine Cl (.c .h .n) (Em _ _ _ _ _ _ _ (by first | assumption | omega) (by first | assumption | omega) (by first | assumption | omega) (AI.l4.comp (Ac.ar (n:=3) Bm (by omega)))) (fun v4 B hv=>?_)
   obtain⟨rfl,rfl⟩:=hv
   refine W ?_
   intro w1 hS
   have hS:=(hS.perm (AK.perm (.c .h .n))).AM
   exact⟨_,⟨by simp only [AI.Aj,c1,c3,c5,c7,c8,↓reduceIte,Bool.false_eq_true]<;>rfl,by simp only [AI.Aj,c1,c3,c5,c7,c8,↓reduceIte,Bool.false_eq_true]<;>rfl⟩,hS⟩
  refine W ?_
  intro w1 hS
  have hS:=(hS.perm (AK.perm (.c .h .n))).AM
  exact⟨_,⟨by simp only [AI.Aj,c1,c3,c5,c7,c8,↓reduceIte,Bool.false_eq_true]<;>rfl,by simp only [AI.Aj,c1,c3,c5,c7,c8,↓reduceIte,Bool.false_eq_true]<;>rfl⟩,hS⟩
 refine W ?_
 intro w1 hS
 have hS:=(hS.perm (AK.perm (.c .h .n))).AM
 exact⟨_,⟨by simp only [AI.Aj,c1,c3,c5,c7,↓reduceIte,Bool.false_eq_true]<;>rfl,by simp only [AI.Aj,c1,c3,c5,c7,↓reduceIte,Bool.false_eq_true]<;>rfl⟩,hS⟩
theorem HF (b:Nat)(X:AI)(c:UInt8)(h0:X.sub.length≤16):Fu Tryz.prog 73 #[.pointer (some ⟨b,0,none⟩), .int .u8 (c.toNat:Int)] [AJ.box b 55 X.enc] (fun v B=>v = .tuple #[]∧B = [AJ.box b 55 (X.collect c).enc]):=by
 intro w hS0
 refine AR _ _ Tryz.func73 J J J (hS0) ?_
 refine W ?_
 refine⟨fun c1 c1p=>?_,fun c1 c1p=>?_⟩
 ·
  refine W ?_
  refine M0 J Tryz.underlying122 Qk VD J (by decide) (by decide) J J J (fun b1=>?_)
  refine W ?_
  refine Gt (HR (s:= [c]) J Tryz.underlying122 Tryz.underlying9 Tryz.underlying5 J (Kn.own .m0)) ?_
  refine W ?_
  intro w1 hS
  have hS:=(hS.perm (AK.perm (.c (.t .h) .n))).AM
  exact⟨_,⟨J,by simp only [AI.collect,c1,↓reduceIte,Bool.false_eq_true]⟩,hS⟩
 refine W ?_
 intro w1 hS
 have hS:=(hS.perm (AK.perm (.c .h .n))).AM
 exact⟨_,⟨J,by simp only [AI.collect,c1,↓reduceIte,Bool.false_eq_true]⟩,hS⟩
theorem LF (b:Nat)(X:AI):Fu Tryz.prog 74 #[.pointer (some ⟨b,0,none⟩)] [AJ.box b 55 X.enc] (fun v B=>v = .tuple #[]∧B = [AJ.box b 55 X.measure.enc]):=by
 intro w hS0
 refine AR _ _ Tryz.func74 J J J (hS0) ?_
 refine W ?_
 refine⟨fun c1 c1p=>?_,fun c1 c1p=>?_⟩
 ·
  refine W ?_
  intro w1 hS
  have hS:=(hS.perm (AK.perm (.c .h .n))).AM
  exact⟨_,⟨J,by rw [show X.measure=_ from AN c1];rfl⟩,hS⟩
 refine W ?_
 intro w1 hS
 have hS:=(hS.perm (AK.perm (.c .h .n))).AM
 exact⟨_,⟨J,by rw [show X.measure=_ from AB c1]⟩,hS⟩
theorem JD (X:AI)(u:AL)(hu:u.length≤140737488351232)(w:World):Ch Tryz.prog 36 #[.agg X.enc.toArray,Ag u] w fun v w'=>v = .tuple #[.agg (X.CM u).1.enc.toArray,Ag (X.CM u).2.1,Ag (X.CM u).2.2.1, .int .i64 (X.CM u).2.2.2]∧BF w w':=by
 refine Rb Tryz.func36 ?_
 refine W ?_
 intro b1 b2
 refine⟨fun c1 c1p=>?_,fun c1 c1p=>?_⟩
 ·
  refine W ?_
  rw [show X.CM u=_ from AN c1];rfl
 have hg:X.A5=true:=by simpa using c1
 refine W ?_
 intro b3 b4
 refine GY J Tryz.underlying9 Tryz.underlying122 Tryz.underlying5 J (fun h1 h1l=>?_)
 refine W ?_
 refine Af (.t7 20 2 4 8 9 18 19) ?_
 refine AY (.t (.t (.t (.t (.t (.t .h)))))) ?_
 refine AY (.t (.t (.t (.t (.t .h))))) ?_
 refine AY (.t (.t (.t (.t (.t .h))))) ?_
 refine AY (.t (.t (.t (.t (.t .h))))) ?_
 refine AY (.t (.t (.t (.t (.t .h))))) ?_
 refine Oh (fun(k:Int) (t:AI) (x:AL) (y:AL) (p:Option Addr) (h:Hd) (q:Option Addr) (g:Hd)=>AI.FR X u k t x y∧(p=none∨p=some ⟨b3,0,none⟩)∧h.Z∧h.len=x.length∧(q=none∨q=some ⟨b4,0,none⟩)∧g.Z∧g.len=y.length) (fun(k:Int) (t:AI) (x:AL) (y:AL) (p:Option Addr) (h:Hd) (q:Option Addr) (g:Hd)=>((u.length:Int) - k).toNat) (fun(k:Int) (t:AI) (x:AL) (y:AL) (p:Option Addr) (h:Hd) (q:Option Addr) (g:Hd)=> [(20, .int .i64 k)]) (fun(k:Int) (t:AI) (x:AL) (y:AL) (p:Option Addr) (h:Hd) (q:Option Addr) (g:Hd)=> [AJ.own g 5 1 (y.flatMap CE),AJ.box b4 136 (D1.enc ⟨q,g⟩),AJ.own h 5 1 (x.flatMap CE),AJ.box b3 136 (D1.enc ⟨p,h⟩),AJ.box b1 55 (AI.enc t)]) (0) (X) ([]) ([]) (none) (⟨none,0,0⟩) (none) (⟨none,0,0⟩) ?_ J J (fun k t x y p h q g hI1=>?_)
 · exact⟨AI.FR.start (AI.Tx hg), .inl J,Hd.We,J, .inl J,Hd.We,J⟩
 obtain⟨hI11,hp,hz,hl,hq,hzg,hlg⟩:=hI1;have hk0:=hI11.k0;have hk1:=hI11.k1;have hsub:=hI11.sub;have hxl:=hI11.xl;have hyl:=hI11.yl;have hc8:=(u.getD k.toNat 0).toNat_lt;have hyb:=hI11.yb
 refine W ?_
 refine⟨fun c2 c2p=>?_,fun c2 c2p=>?_⟩
 ·
  refine W ?_
  refine⟨fun c3 c3p=>?_,fun c3 c3p=>?_⟩
  ·
   refine W ?_
   refine⟨fun c4 c4p=>?_,fun c4 c4p=>?_⟩
   ·
    refine W ?_
    refine Br _ _ _ _ _ _ _ _ ?_ ?_ (.t7 20 2 4 8 9 18 19) (.refl _)
    · exact⟨hI11.next (by omega) (by simp only [AI.step,c1,c2,c3,c4,↓reduceIte,Bool.false_eq_true]) (by simp only [AI.step,c1,c2,c3,c4,List.append_nil,↓reduceIte,Bool.false_eq_true]) (by simp only [AI.step,c1,c2,c3,c4,List.append_nil,↓reduceIte,Bool.false_eq_true]),by assumption,by assumption,by assumption,by assumption,by assumption,by assumption⟩
    · omega
   refine W ?_
   refine Cl (.c (.t (.t (.t .h))) (.c (.t (.t .h)) .n)) (B7 _ _ _ _ (by assumption) (by assumption) (by assumption) _ (by omega)) (fun v2 B hv=>?_)
   obtain⟨y3,y4,rfl,y5,y6,y7,rfl⟩:=hv
   refine W ?_
   refine Ar (.c (.t (.t .h)) (.c (.t (.t .h)) (.c (.t .h) (.c .h (.c .h (.c .h (.c .h .n))))))) ?_
   refine Az ?_
   refine Br _ _ _ _ _ _ _ _ ?_ ?_ (.t7 20 2 4 8 9 18 19) (.refl _)
   · exact⟨hI11.next (by omega) (by simp only [AI.step,c1,c2,c3,c4,↓reduceIte,Bool.false_eq_true]) (by simp only [AI.step,c1,c2,c3,c4,List.append_nil,↓reduceIte,Bool.false_eq_true]) (by simp only [AI.step,c1,c2,c3,c4,List.append_nil,↓reduceIte,Bool.false_eq_true]),by assumption,by assumption,by assumption,by assumption,by assumption,by assumption⟩
   · omega
  refine W ?_
  refine⟨fun c5 c5p=>?_,fun c5 c5p=>?_⟩
  ·
   refine W ?_
   refine⟨fun c6 c6p=>?_,fun c6 c6p=>?_⟩
   ·
    refine W ?_
    refine Cl (.c (.t (.t (.t .h))) (.c (.t (.t .h)) .n)) (B7 _ _ _ _ (by assumption) (by assumption) (by assumption) _ (by omega)) (fun v8 B hv=>?_)
    obtain⟨y9,y10,rfl,y11,y12,y13,rfl⟩:=hv
    refine W ?_
    refine Ar (.c (.t (.t .h)) (.c (.t (.t .h)) (.c (.t .h) (.c .h (.c .h (.c .h (.c .h .n))))))) ?_
    refine Az ?_
    refine Br _ _ _ _ _ _ _ _ ?_ ?_ (.t7 20 2 4 8 9 18 19) (.refl _)
    · exact⟨hI11.next (by omega) (by simp only [AI.step,c1,c2,c3,c5,c6,↓reduceIte,Bool.false_eq_true]) (by simp only [AI.step,c1,c2,c3,c5,c6,List.append_nil,↓reduceIte,Bool.false_eq_true]) (by simp only [AI.step,c1,c2,c3,c5,c6,List.append_nil,↓reduceIte,Bool.false_eq_true]),by assumption,by assumption,by assumption,by assumption,by assumption,by assumption⟩
    · omega
   refine W ?_
   refine⟨fun c7 c7p=>?_,fun c7 c7p=>?_⟩
   ·
    refine W ?_
    refine Br _ _ _ _ _ _ _ _ ?_ ?_ (.t7 20 2 4 8 9 18 19) (.refl _)
    · exact⟨hI11.next (by omega) (by simp only [AI.step,c1,c2,c3,c5,c6,c7,↓reduceIte,Bool.false_eq_true]) (by simp only [AI.step,c1,c2,c3,c5,c6,c7,List.append_nil,↓reduceIte,Bool.false_eq_true]) (by simp only [AI.step,c1,c2,c3,c5,c6,c7,List.append_nil,↓reduceIte,Bool.false_eq_true]),by assumption,by assumption,by assumption,by assumption,by assumption,by assumption⟩
    · omega
   refine W ?_
   refine⟨fun c8 c8p=>?_,fun c8 c8p=>?_⟩
   ·
    refine W ?_
    refine Br _ _ _ _ _ _ _ _ ?_ ?_ (.t7 20 2 4 8 9 18 19) (.refl _)
    · exact⟨hI11.next (by omega) (by simp only [AI.step,c1,c2,c3,c5,c6,c7,c8,↓reduceIte,Bool.false_eq_true]) (by simp only [AI.step,c1,c2,c3,c5,c6,c7,c8,List.append_nil,↓reduceIte,Bool.false_eq_true]) (by simp only [AI.step,c1,c2,c3,c5,c6,c7,c8,List.append_nil,↓reduceIte,Bool.false_eq_true]),by assumption,by assumption,by assumption,by assumption,by assumption,by assumption⟩
    · omega
   refine W ?_
   refine Br _ _ _ _ _ _ _ _ ?_ ?_ (.t7 20 2 4 8 9 18 19) (.refl _)
   · exact⟨hI11.next (by omega) (by simp only [AI.step,c1,c2,c3,c5,c6,c7,c8,↓reduceIte,Bool.false_eq_true]) (by simp only [AI.step,c1,c2,c3,c5,c6,c7,c8,List.append_nil,↓reduceIte,Bool.false_eq_true]) (by simp only [AI.step,c1,c2,c3,c5,c6,c7,c8,List.append_nil,↓reduceIte,Bool.false_eq_true]),by assumption,by assumption,by assumption,by assumption,by assumption,by assumption⟩
   · omega
  refine W ?_
  refine⟨fun c9 c9p=>?_,fun c9 c9p=>?_⟩
  ·
   refine W ?_
   refine Cl (.c (.t (.t (.t (.t .h)))) .n) (J8 _ _ _ _ (by first | assumption | omega)) (fun v14 B hv=>?_)
   obtain⟨rfl,rfl⟩:=hv
   refine W ?_
   refine Cl (.c (.t (.t .h)) (.c (.t .h) .n)) (Av _ _ _ _ (by assumption) (by assumption) (by assumption) _ (by have:=AI.Ie t t.verb ((u.getD k.toNat 0).toNat:Int);omega)) (fun v15 B hv=>?_)
   obtain⟨y16,y17,rfl,y18,y19,y20,rfl⟩:=hv
   refine W ?_
   refine Ar (.c (.t .h) (.c .h (.c (.t .h) (.c (.t .h) (.c .h (.c .h (.c .h .n))))))) ?_
   refine Az ?_
   refine Br _ _ _ _ _ _ _ _ ?_ ?_ (.t7 20 2 4 8 9 18 19) (.refl _)
   · exact⟨hI11.next (by omega) (by simp only [AI.step,c1,c2,c3,c5,c9,↓reduceIte,Bool.false_eq_true]) (by simp only [AI.step,c1,c2,c3,c5,c9,List.append_nil,↓reduceIte,Bool.false_eq_true]) (by simp only [AI.step,c1,c2,c3,c5,c9,List.append_nil,↓reduceIte,Bool.false_eq_true]),by assumption,by assumption,by assumption,by assumption,by assumption,by assumption⟩
   · omega
  refine W ?_
  refine⟨fun c10 c10p=>?_,fun c10 c10p=>?_⟩
  ·
   refine W ?_
   refine⟨fun c11 c11p=>?_,fun c11 c11p=>?_⟩
   ·
    refine W ?_
    refine Br _ _ _ _ _ _ _ _ ?_ ?_ (.t7 20 2 4 8 9 18 19) (.refl _)
    · exact⟨hI11.next (by omega) (by simp only [AI.step,c1,c2,c3,c5,c9,c10,c11,↓reduceIte,Bool.false_eq_true]) (by simp only [AI.step,c1,c2,c3,c5,c9,c10,c11,List.append_nil,↓reduceIte,Bool.false_eq_true]) (by simp only [AI.step,c1,c2,c3,c5,c9,c10,c11,List.append_nil,↓reduceIte,Bool.false_eq_true]),by assumption,by assumption,by assumption,by assumption,by assumption,by assumption⟩
    · omega
   refine W ?_
   refine Cl (.c (.t (.t (.t (.t .h)))) .n) (HF _ _ _ (by first | assumption | omega)) (fun v21 B hv=>?_)
   obtain⟨rfl,rfl⟩:=hv
   refine W ?_
   refine Ar (.c (.t .h) (.c (.t .h) (.c (.t .h) (.c (.t .h) (.c .h (.c .h (.c .h .n))))))) ?_
   refine Az ?_
   refine Br _ _ _ _ _ _ _ _ ?_ ?_ (.t7 20 2 4 8 9 18 19) (.refl _)
   · exact⟨hI11.next (by omega) (by simp only [AI.step,c1,c2,c3,c5,c9,c10,c11,↓reduceIte,Bool.false_eq_true]) (by simp only [AI.step,c1,c2,c3,c5,c9,c10,c11,List.append_nil,↓reduceIte,Bool.false_eq_true]) (by simp only [AI.step,c1,c2,c3,c5,c9,c10,c11,List.append_nil,↓reduceIte,Bool.false_eq_true]),by assumption,by assumption,by assumption,by assumption,by assumption,by assumption⟩
   · omega
  refine W ?_
  refine⟨fun c12 c12p=>?_,fun c12 c12p=>?_⟩
  ·
   refine W ?_
   refine⟨fun c13 c13p=>?_,fun c13 c13p=>?_⟩
   ·
    refine W ?_
    refine Cl (.c (.t (.t (.t (.t .h)))) .n) (HF _ _ _ (by first | assumption | omega)) (fun v22 B hv=>?_)
    obtain⟨rfl,rfl⟩:=hv
    refine W ?_
    refine Ar (.c (.t .h) (.c (.t .h) (.c (.t .h) (.c (.t .h) (.c .h (.c .h (.c .h .n))))))) ?_
    refine Az ?_
    refine Br _ _ _ _ _ _ _ _ ?_ ?_ (.t7 20 2 4 8 9 18 19) (.refl _)
    · exact⟨hI11.next (by omega) (by simp only [AI.step,c1,c2,c3,c5,c9,c10,c12,c13,↓reduceIte,Bool.false_eq_true]) (by simp only [AI.step,c1,c2,c3,c5,c9,c10,c12,c13,List.append_nil,↓reduceIte,Bool.false_eq_true]) (by simp only [AI.step,c1,c2,c3,c5,c9,c10,c12,c13,List.append_nil,↓reduceIte,Bool.false_eq_true]),by assumption,by assumption,by assumption,by assumption,by assumption,by assumption⟩
    · omega
   refine W ?_
   refine⟨fun c14 c14p=>?_,fun c14 c14p=>?_⟩
   ·
    refine W ?_
    refine Cl (.c (.t (.t (.t (.t .h)))) .n) (LF _ _) (fun v23 B hv=>?_)
    obtain⟨rfl,rfl⟩:=hv
    refine W ?_
    refine Ar (.c (.t .h) (.c (.t .h) (.c (.t .h) (.c (.t .h) (.c .h (.c .h (.c .h .n))))))) ?_
    refine Az ?_
    refine Br _ _ _ _ _ _ _ _ ?_ ?_ (.t7 20 2 4 8 9 18 19) (.refl _)
    · exact⟨hI11.next (by omega) (by simp only [AI.step,c1,c2,c3,c5,c9,c10,c12,c13,c14,↓reduceIte,Bool.false_eq_true]) (by simp only [AI.step,c1,c2,c3,c5,c9,c10,c12,c13,c14,List.append_nil,↓reduceIte,Bool.false_eq_true]) (by simp only [AI.step,c1,c2,c3,c5,c9,c10,c12,c13,c14,List.append_nil,↓reduceIte,Bool.false_eq_true]),by assumption,by assumption,by assumption,by assumption,by assumption,by assumption⟩
    · omega
   refine W ?_
   refine Br _ _ _ _ _ _ _ _ ?_ ?_ (.t7 20 2 4 8 9 18 19) (.refl _)
   · exact⟨hI11.next (by omega) (by simp only [AI.step,c1,c2,c3,c5,c9,c10,c12,c13,c14,↓reduceIte,Bool.false_eq_true]) (by simp only [AI.step,c1,c2,c3,c5,c9,c10,c12,c13,c14,List.append_nil,↓reduceIte,Bool.false_eq_true]) (by simp only [AI.step,c1,c2,c3,c5,c9,c10,c12,c13,c14,List.append_nil,↓reduceIte,Bool.false_eq_true]),by assumption,by assumption,by assumption,by assumption,by assumption,by assumption⟩
   · omega
  refine W ?_
  refine Br _ _ _ _ _ _ _ _ ?_ ?_ (.t7 20 2 4 8 9 18 19) (.refl _)
  · exact⟨hI11.next (by omega) (by simp only [AI.step,c1,c2,c3,c5,c9,c10,c12,↓reduceIte,Bool.false_eq_true]) (by simp only [AI.step,c1,c2,c3,c5,c9,c10,c12,List.append_nil,↓reduceIte,Bool.false_eq_true]) (by simp only [AI.step,c1,c2,c3,c5,c9,c10,c12,List.append_nil,↓reduceIte,Bool.false_eq_true]),by assumption,by assumption,by assumption,by assumption,by assumption,by assumption⟩
  · omega
 refine W ?_
 refine Cl (.c (.t (.t (.t .h))) (.c (.t (.t .h)) .n)) (CP _ _ _ _ (by assumption) (by assumption) (by omega)) (fun v24 B hv=>?_)
 obtain⟨rfl,rfl⟩:=hv
 refine W ?_
 refine Cl (.c (.t (.t .h)) (.c (.t .h) .n)) (CP _ _ _ _ (by assumption) (by assumption) (by omega)) (fun v25 B hv=>?_)
 obtain⟨rfl,rfl⟩:=hv
 refine W ?_
 rw [show X.CM u=_ from AB c1,hI11.done (by omega)];rfl
instance instP36:DI Tryz.prog 36 (type_of% @JD):=⟨@JD⟩
theorem Jr (b:UInt8)(w:World):Ch Tryz.prog 79 #[.int .u8 (b.toNat:Int)] w fun v w'=>v = .bool (Aa.EW b)∧BF w w':=by
 refine Rb Tryz.func79 ?_
 refine W ?_
 rfl
instance instP79:DI Tryz.prog 79 (type_of% @Jr):=⟨@Jr⟩
theorem KP {t0:Nat}(l:BN)(qs:List AL)(w:World)(r0:Rd w l.queue t0 1 (qs.flatMap AX)):Ch Tryz.prog 77 #[.agg l.enc.toArray] w fun v w'=>v = .bool (Aa.A5 l qs)∧BF w w':=by
 have hl:=r0.Gh Cr (by decide)
 refine Rb Tryz.func77 ?_
 refine W ?_
 intro b1
 refine⟨fun c1 c1p=>?_,fun c1 c1p=>?_⟩
 ·
  refine W ?_
  refine congrArg Value.bool ?_;rw [Aa.A5,show Aa.Hy l=true from c1];rfl
 have hq:(l.queue.len:Int)≤6:=by omega
 refine W ?_
 refine Ey 2 5 J J (by kernel_rfl) ?_ ?_
 ·
  refine W ?_
  refine Cm .n (BS _ _ (by first | assumption | omega)) (fun v1 B hv=>?_) (fun _=>(fun w hS=>(Kn.Il r0) w hS))
  obtain⟨y2,rfl,y3,rfl⟩:=hv
  refine W ?_
  intro b2 h5 h5l h5z
  refine Af (.t3 47 45 46) ?_
  refine A7 (fun(k:Int)=>0≤k∧k≤((qs ++ [l.now]).length:Int)∧Aa.A5 l qs=((qs ++ [l.now]).drop k.toNat).all Aa.E2) (fun(k:Int)=>(((qs ++ [l.now]).length:Int) - k).toNat) (fun(k:Int)=> [(47, .int .i64 k)]) (fun(k:Int)=> []) (0) ?_ J J (fun k hI1=>?_)
  · exact⟨by omega,by omega,by rw [Aa.A5,show Aa.Hy l=false from c1];rfl⟩
  obtain⟨hI11,hI12,hI13⟩:=hI1
  refine W ?_
  refine⟨fun c2 c2p=>?_,fun c2 c2p=>?_⟩
  ·
   have hk:k < ((qs ++ [l.now]).length:Int):=by simp only [List.length_append,List.length_cons,List.length_nil] at *;omega
   have hk7:((qs ++ [l.now]).length:Int)≤7:=by simp only [List.length_append,List.length_cons,List.length_nil] at *;omega
   refine W ?_
   refine⟨fun c3 c3p=>?_,fun c3 c3p=>?_⟩
   ·
    refine W ?_
    refine congrArg Value.bool ?_;rw [hI13,Aa.DK (d:= []) hI11 hk,Aa.E2,c3];rfl
   refine W ?_
   refine Af (.t6 56 4 45 46 47 55) ?_
   refine A7 (fun(i:Int)=>0≤i∧i≤(((qs ++ [l.now]).getD k.toNat []).length:Int)∧Aa.E2 ((qs ++ [l.now]).getD k.toNat [])=(((qs ++ [l.now]).getD k.toNat []).drop i.toNat).all Aa.EW) (fun(i:Int)=>((((qs ++ [l.now]).getD k.toNat []).length:Int) - i).toNat) (fun(i:Int)=> [(56, .int .i64 i)]) (fun(i:Int)=> []) (0) ?_ J J (fun i hI2=>?_)
   · exact⟨by omega,by omega,by rw [Aa.E2,c3];rfl⟩
   obtain⟨hI21,hI22,hI23⟩:=hI2
   refine W ?_
   refine⟨fun c4 c4p=>?_,fun c4 c4p=>?_⟩
   ·
    refine W ?_
    refine⟨fun c5 c5p=>?_,fun c5 c5p=>?_⟩
    ·
     refine W ?_
     refine congrArg Value.bool ?_;rw [hI13,Aa.DK (d:= []) hI11 hk,hI23,Aa.DK (d:=0) hI21 (by omega),show Aa.EW _=false from by simpa using c5];rfl
    refine W ?_
    refine Aw (i+1) ?_ ?_ (.t6 56 4 45 46 47 55) (.refl _)
    · exact⟨by omega,by omega,by rw [hI23,Aa.DK (d:=0) hI21 (by omega),show Aa.EW _=true from by simpa using c5];rfl⟩
    · omega
   refine W ?_
   refine Aw (k+1) ?_ ?_ (.t3 47 45 46) (.refl _)
   · exact⟨by omega,by omega,by rw [hI13,Aa.DK (d:= []) hI11 hk,hI23,show i.toNat=((qs ++ [l.now]).getD k.toNat []).length from by omega,List.drop_length];rfl⟩
   · omega
  have hk:¬ k < ((qs ++ [l.now]).length:Int):=by simp only [List.length_append,List.length_cons,List.length_nil] at *;omega
  refine W ?_
  refine congrArg Value.bool ?_;rw [hI13,show k.toNat=(qs ++ [l.now]).length from by omega,List.drop_length];rfl
 ·
  refine W ?_
  intro b3
  refine Cm .n (BS _ _ (by first | assumption | omega)) (fun v6 B hv=>?_) (fun _=>(fun w hS=>(Kn.Il r0) w hS))
  obtain⟨y7,rfl,y8,rfl⟩:=hv
  refine W ?_
  intro h10 h10l h10z
  refine Af (.t3 47 45 46) ?_
  refine A7 (fun(k:Int)=>0≤k∧k≤((qs ++ [l.now]).length:Int)∧Aa.A5 l qs=((qs ++ [l.now]).drop k.toNat).all Aa.E2) (fun(k:Int)=>(((qs ++ [l.now]).length:Int) - k).toNat) (fun(k:Int)=> [(47, .int .i64 k)]) (fun(k:Int)=> []) (0) ?_ J J (fun k hI1=>?_)
  · exact⟨by omega,by omega,by rw [Aa.A5,show Aa.Hy l=false from c1];rfl⟩
  obtain⟨hI11,hI12,hI13⟩:=hI1
  refine W ?_
  refine⟨fun c6 c6p=>?_,fun c6 c6p=>?_⟩
  ·
   have hk:k < ((qs ++ [l.now]).length:Int):=by simp only [List.length_append,List.length_cons,List.length_nil] at *;omega
   have hk7:((qs ++ [l.now]).length:Int)≤7:=by simp only [List.length_append,List.length_cons,List.length_nil] at *;omega
   refine W ?_
   refine⟨fun c7 c7p=>?_,fun c7 c7p=>?_⟩
   ·
    refine W ?_
    refine congrArg Value.bool ?_;rw [hI13,Aa.DK (d:= []) hI11 hk,Aa.E2,c7];rfl
   refine W ?_
   refine Af (.t6 56 4 45 46 47 55) ?_
   refine A7 (fun(i:Int)=>0≤i∧i≤(((qs ++ [l.now]).getD k.toNat []).length:Int)∧Aa.E2 ((qs ++ [l.now]).getD k.toNat [])=(((qs ++ [l.now]).getD k.toNat []).drop i.toNat).all Aa.EW) (fun(i:Int)=>((((qs ++ [l.now]).getD k.toNat []).length:Int) - i).toNat) (fun(i:Int)=> [(56, .int .i64 i)]) (fun(i:Int)=> []) (0) ?_ J J (fun i hI2=>?_)
   · exact⟨by omega,by omega,by rw [Aa.E2,c7];rfl⟩
   obtain⟨hI21,hI22,hI23⟩:=hI2
   refine W ?_
   refine⟨fun c8 c8p=>?_,fun c8 c8p=>?_⟩
   ·
    refine W ?_
    refine⟨fun c9 c9p=>?_,fun c9 c9p=>?_⟩
    ·
     refine W ?_
     refine congrArg Value.bool ?_;rw [hI13,Aa.DK (d:= []) hI11 hk,hI23,Aa.DK (d:=0) hI21 (by omega),show Aa.EW _=false from by simpa using c9];rfl
    refine W ?_
    refine Aw (i+1) ?_ ?_ (.t6 56 4 45 46 47 55) (.refl _)
    · exact⟨by omega,by omega,by rw [hI23,Aa.DK (d:=0) hI21 (by omega),show Aa.EW _=true from by simpa using c9];rfl⟩
    · omega
   refine W ?_
   refine Aw (k+1) ?_ ?_ (.t3 47 45 46) (.refl _)
   · exact⟨by omega,by omega,by rw [hI13,Aa.DK (d:= []) hI11 hk,hI23,show i.toNat=((qs ++ [l.now]).getD k.toNat []).length from by omega,List.drop_length];rfl⟩
   · omega
  have hk:¬ k < ((qs ++ [l.now]).length:Int):=by simp only [List.length_append,List.length_cons,List.length_nil] at *;omega
  refine W ?_
  refine congrArg Value.bool ?_;rw [hI13,show k.toNat=(qs ++ [l.now]).length from by omega,List.drop_length];rfl
instance instP77:DI Tryz.prog 77 (type_of% @KP):=⟨@KP⟩
theorem Pp {t0:Nat}(l:BN)(qs:List AL)(u:AL)(hu:u.length≤9000000000000000000):Cz Tryz.prog 38 #[.agg l.enc.toArray,Ag u] [] (fun w=>Rd w l.queue t0 1 (qs.flatMap AX)) (fun v B=>(Aa.A5 l qs=false∧v = .tuple #[.agg l.enc.toArray, .int .i64 0, .int .i64 2]∧B = [])∨(Aa.A5 l qs=true∧∃ h':Hd,v = .tuple #[.agg (BN.enc ⟨(Aa.feed (Aa.start l qs) u).now,(Aa.feed (Aa.start l qs) u).long,(Aa.feed (Aa.start l qs) u).ret,h'⟩).toArray, .int .i64 (Aa.feed (Aa.start l qs) u).lost, .int .i64 0]∧h'.len=(Aa.feed (Aa.start l qs) u).queue.length∧B = [AJ.own h' 9 1 ((Aa.feed (Aa.start l qs) u).queue.flatMap AX)])):=by
 intro w hS0 hH
 have r0:=hH
 have hl0:=r0.Gh Cr (by decide)
 refine AR _ _ Tryz.func38 J J J (hS0) ?_
 refine W ?_
 intro b1 b2
 refine⟨fun c1 c1p=>?_,fun c1 c1p=>?_⟩
 ·
  refine W ?_
  intro w1 hS
  have hS:=(hS.perm (AK.perm .n)).AM
  exact⟨_, .inl ⟨by simpa using c1,rfl,rfl⟩,hS⟩
 have hgd:Aa.A5 l qs=true:=by simpa using c1
 have hh:=Aa.Xl hgd
 have hq6:qs.length≤17592186044416:=by omega
 refine W ?_
 refine Cm .n (BS _ _ (by first | assumption | omega)) (fun v1 B hv=>?_) (fun _=>(fun w hS=>(Kn.Il r0) w hS))
 obtain⟨y2,rfl,y3,rfl⟩:=hv
 refine W ?_
 refine GY J Tryz.underlying9 Tryz.underlying122 Tryz.underlying5 J (fun h5 h5l=>?_)
 refine W ?_
 refine Af (.t7 7 8 25 1 2 4 24) ?_
 refine AY (.t (.t (.t .h))) ?_
 refine AY (.t (.t .h)) ?_
 refine AY (.t (.t .h)) ?_
 refine Oh (fun(k:Int) (now:AL) (long:Bool) (ret:Bool) (queue:List AL) (lost:Int) (h:Hd) (g:Hd)=>Aa.I (Aa.start l qs) u k ⟨now,long,ret,queue,lost⟩∧h.len=now.length∧g.len=queue.length) (fun(k:Int) (now:AL) (long:Bool) (ret:Bool) (queue:List AL) (lost:Int) (h:Hd) (g:Hd)=>((u.length:Int) - k).toNat) (fun(k:Int) (now:AL) (long:Bool) (ret:Bool) (queue:List AL) (lost:Int) (h:Hd) (g:Hd)=> [(7, .int .i64 lost),(8,h.val),(25, .int .i64 k)]) (fun(k:Int) (now:AL) (long:Bool) (ret:Bool) (queue:List AL) (lost:Int) (h:Hd) (g:Hd)=> [AJ.own h 5 1 (now.flatMap CE),AJ.own g 9 1 (queue.flatMap AX),AJ.box b1 58 (BN.enc ⟨l.now,long,ret,g⟩)]) (0) (l.now) (l.long) (l.ret) (qs) (0) (_) (_) ?_ J J (fun k now long ret queue lost h g hI1=>?_)
 · exact⟨Aa.I.start hh.1 (show qs.length≤6 by omega) rfl,by assumption,by assumption⟩
 obtain⟨hI11,hl,hg⟩:=hI1;have hk0:=hI11.k0;have hk1:=hI11.k1;have hn:now.length≤60:=hI11.now;have hq:queue.length≤6:=hI11.queue;have hlo:0≤lost∧lost≤k:=hI11.lost
 refine W ?_
 refine⟨fun c2 c2p=>?_,fun c2 c2p=>?_⟩
 ·
  refine W ?_
  refine⟨fun c3 c3p=>?_,fun c3 c3p=>?_⟩
  ·
   refine W ?_
   refine Br (k+1) _ _ _ _ _ _ _ ?_ ?_ (.t7 7 8 25 1 2 4 24) (.refl _)
   · exact⟨hI11.next (by omega) (by simp only [Aa.step,hl,c1,c2,c3,↓reduceIte,Bool.false_eq_true]),(by(try dsimp only at *)<;>(try simp only [List.length_append,List.length_take,List.length_cons,List.length_nil])<;>omega),(by(try dsimp only at *)<;>(try simp only [List.length_append,List.length_cons,List.length_nil])<;>omega)⟩
   · omega
  refine W ?_
  refine⟨fun c4 c4p=>?_,fun c4 c4p=>?_⟩
  ·
   refine W ?_
   refine⟨fun c5 c5p=>?_,fun c5 c5p=>?_⟩
   ·
    rw [hg] at c5
    refine W ?_
    intro b3 h6 h6l h6z
    refine Wa CE 5 1 ?_
    refine Ar (.c .h (.c (.t (.t .h)) (.c (.t (.t .h)) (.c (.t (.t .h)) .n)))) ?_
    refine Az ?_
    refine Br (k+1) _ _ _ _ _ _ _ ?_ ?_ (.t7 7 8 25 1 2 4 24) (.refl _)
    · exact⟨hI11.next (by omega) (by simp only [Aa.step,hl,c1,c2,c3,c4,c5,↓reduceIte,Bool.false_eq_true]),(by(try dsimp only at *)<;>(try simp only [List.length_append,List.length_take,List.length_cons,List.length_nil])<;>omega),(by(try dsimp only at *)<;>(try simp only [List.length_append,List.length_cons,List.length_nil])<;>omega)⟩
    · omega
   rw [hg] at c5
   refine W ?_
   refine Wa CE 5 1 ?_
   refine Ar (.c .h (.c (.t .h) (.c (.t .h) (.c (.t .h) .n)))) ?_
   refine Az ?_
   refine Br (k+1) _ _ _ _ _ _ _ ?_ ?_ (.t7 7 8 25 1 2 4 24) (.refl _)
   · exact⟨hI11.next (by omega) (by simp only [Aa.step,hl,c1,c2,c3,c4,c5,↓reduceIte,Bool.false_eq_true]),(by(try dsimp only at *)<;>(try simp only [List.length_append,List.length_take,List.length_cons,List.length_nil])<;>omega),(by(try dsimp only at *)<;>(try simp only [List.length_append,List.length_cons,List.length_nil])<;>omega)⟩
   · omega
  refine W ?_
  refine⟨fun c6 c6p=>?_,fun c6 c6p=>?_⟩
  ·
   refine W ?_
   refine⟨fun c7 c7p=>?_,fun c7 c7p=>?_⟩
   ·
    rw [hl] at c7
    refine W ?_
    refine Br (k+1) _ _ _ _ _ _ _ ?_ ?_ (.t7 7 8 25 1 2 4 24) (.refl _)
    · exact⟨hI11.next (by omega) (by simp only [Aa.step,hl,c1,c2,c3,c4,c6,c7,↓reduceIte,Bool.false_eq_true]),(by(try dsimp only at *)<;>(try simp only [List.length_append,List.length_take,List.length_cons,List.length_nil])<;>omega),(by(try dsimp only at *)<;>(try simp only [List.length_append,List.length_cons,List.length_nil])<;>omega)⟩
    · omega
   rw [hl] at c7
   refine W ?_
   refine Br (k+1) _ _ _ _ _ _ _ ?_ ?_ (.t7 7 8 25 1 2 4 24) (.refl _)
   · exact⟨hI11.next (by omega) (by simp only [Aa.step,hl,c1,c2,c3,c4,c6,c7,↓reduceIte,Bool.false_eq_true]),(by(try dsimp only at *)<;>(try simp only [List.length_append,List.length_take,List.length_cons,List.length_nil])<;>omega),(by(try dsimp only at *)<;>(try simp only [List.length_append,List.length_cons,List.length_nil])<;>omega)⟩
   · omega
  refine W ?_
  refine⟨fun c8 c8p=>?_,fun c8 c8p=>?_⟩
  ·
   refine W ?_
   refine Br (k+1) _ _ _ _ _ _ _ ?_ ?_ (.t7 7 8 25 1 2 4 24) (.refl _)
   · exact⟨hI11.next (by omega) (by simp only [Aa.step,hl,c1,c2,c3,c4,c6,c8,↓reduceIte,Bool.false_eq_true]),(by(try dsimp only at *)<;>(try simp only [List.length_append,List.length_take,List.length_cons,List.length_nil])<;>omega),(by(try dsimp only at *)<;>(try simp only [List.length_append,List.length_cons,List.length_nil])<;>omega)⟩
   · omega
  refine W ?_
  refine⟨fun c9 c9p=>?_,fun c9 c9p=>?_⟩
  ·
   rw [hl] at c9
   refine W ?_
   refine Br (k+1) _ _ _ _ _ _ _ ?_ ?_ (.t7 7 8 25 1 2 4 24) (.refl _)
   · exact⟨hI11.next (by omega) (by simp only [Aa.step,hl,c1,c2,c3,c4,c6,c8,c9,↓reduceIte,Bool.false_eq_true]),(by(try dsimp only at *)<;>(try simp only [List.length_append,List.length_take,List.length_cons,List.length_nil])<;>omega),(by(try dsimp only at *)<;>(try simp only [List.length_append,List.length_cons,List.length_nil])<;>omega)⟩
   · omega
  rw [hl] at c9
  refine W ?_
  refine Kh CE SI J Tryz.underlying122 Qk VD J (by decide) (by decide) J J (fun b4=>?_)
  refine F1 SI J Tryz.underlying122 Qk VD J fx (by decide) (by decide) J J (fun w hS=>Src.FG Tryz.underlying122 ((Kn.own .m0) w hS)) (by(try dsimp only);omega) (fun _=>(.t .h)) (fun h9 h9l h9z=>?_)
  refine W ?_
  refine Br (k+1) _ _ _ _ _ _ _ ?_ ?_ (.t7 7 8 25 1 2 4 24) (.cons _ (.refl _))
  · exact⟨hI11.next (by omega) (by simp only [Aa.step,hl,c1,c2,c3,c4,c6,c8,c9,↓reduceIte,Bool.false_eq_true]),(by(try dsimp only at *)<;>(try simp only [List.length_append,List.length_take,List.length_cons,List.length_nil])<;>omega),(by(try dsimp only at *)<;>(try simp only [List.length_append,List.length_cons,List.length_nil])<;>omega)⟩
  · omega
 refine W ?_
 intro w1 hS
 have hS:=(hS.perm (AK.perm (.c (.t .h) .n))).AM
 have e:=hI11.done (by omega)
 exact⟨_, .inr ⟨hgd,_,by rw [e];rfl,by rw [e];exact hg,by rw [e]⟩,hS⟩
theorem Jt (p:A9)(n:Int)(w:World):Ch Tryz.prog 41 #[.agg p.enc.toArray, .int .i64 n] w fun v w'=>v = .tuple #[.agg (A9.enc ⟨p.wait,p.shown,p.BL,p.ring.drop (max 0 (min n (p.ring.length:Int))).toNat,p.cut⟩).toArray,Ag (p.ring.take (max 0 (min n (p.ring.length:Int))).toNat)]∧BF w w':=by
 refine Rb Tryz.func41 ?_
 refine W ?_
 intro b1 b2
 rfl
instance instP41:DI Tryz.prog 41 (type_of% @Jt):=⟨@Jt⟩
theorem Vp (b:Nat)(V:AE)(ls:Vector Ae 4)(ev:List Ing.Event)(a:CD)(hL:AG.Live (AO V ls ev))(hu:a.bytes.length≤140737488351232):Cz Tryz.prog 9 #[.pointer (some ⟨b,0,none⟩), .agg a.enc.toArray] [AJ.box b 95 (AE.enc V),AJ.CI (BB 9 (AE.AP V) ls),AJ.own (AE.last V) 100 16 ((ev).flatMap Ing.Event.enc)] (fun w=>(GV 3 EH w∧3 ∉ BV [AJ.box b 95 (AE.enc V),AJ.CI (BB 9 (AE.AP V) ls),AJ.own (AE.last V) 100 16 ((ev).flatMap Ing.Event.enc)])∧(GV 1 AD.Be w∧1 ∉ BV [AJ.box b 95 (AE.enc V),AJ.CI (BB 9 (AE.AP V) ls),AJ.own (AE.last V) 100 16 ((ev).flatMap Ing.Event.enc)])∧(Eo 8 w∧8 ∉ BV [AJ.box b 95 (AE.enc V),AJ.CI (BB 9 (AE.AP V) ls),AJ.own (AE.last V) 100 16 ((ev).flatMap Ing.Event.enc)])∧(Eo 9 w∧9 ∉ BV [AJ.box b 95 (AE.enc V),AJ.CI (BB 9 (AE.AP V) ls),AJ.own (AE.last V) 100 16 ((ev).flatMap Ing.Event.enc)])) (fun v B=>∃ V' ls' ev',v = .agg (Cg.enc (AG.act (AO V ls ev) a).2).toArray∧AO V' ls' ev'=(AG.act (AO V ls ev) a).1∧B = [AJ.box b 95 (AE.enc V'),AJ.CI (BB 9 (AE.AP V') ls'),AJ.own (AE.last V') 100 16 ((ev').flatMap Ing.Event.enc)]):=by
 intro w hS0 hH
 obtain⟨⟨gl0,gm0⟩,⟨gl1,gm1⟩,⟨gl2,gm2⟩,⟨gl3,gm3⟩⟩:=hH
 obtain⟨n,m,hF⟩:=hL.fits
 have hc:0≤V.Bp:=hL.Bp
 refine AR _ _ Tryz.func9 J J J (hS0) ?_
 refine W ?_
 intro b1 b2
 refine⟨fun c1 c1p=>?_,fun c1 c1p=>?_⟩
 ·
  refine W ?_
  intro w1 hS
  have hS:=(hS.perm (AK.perm (.c (.t (.t .h)) (.c (.t (.t .h)) (.c (.t (.t .h)) .n))))).AM
  have hq:(AG.act (AO V ls ev) a)=((AO V ls ev),⟨4,[]⟩):=AN c1
  refine⟨_,⟨V,ls,ev,?gv1,?ga1,J⟩,hS⟩
  case gv1=>rw [hq];rfl
  case ga1=>rw [hq]
 refine Ws 7 ?_
 refine CG Ing.Event.enc 100 16 ?_
 refine By (.c (.t (.t (.t .h))) (.c (.t (.t (.t .h))) (.c .h .n))) ?_
 refine W ?_
 refine Af (.t4 32 0 3 4) ?_
 refine AY (.t (.t .h)) ?_
 refine AY (.t (.t .h)) ?_
 refine AY (.t (.t .h)) ?_
 refine D2 (fun(i:Int) (V1:AE) (ls1:Vector Ae 4) (ev1:List Ing.Event)=>0≤i∧i≤4∧(AO V1 ls1 ev1)=AG.Dz ({ (AO V ls ev) with Bp:=((AO V ls ev)).Bp+1,last:= [] }:AG) i.toNat) (fun(i:Int) (V1:AE) (ls1:Vector Ae 4) (ev1:List Ing.Event)=>(4 - i).toNat) (fun(i:Int) (V1:AE) (ls1:Vector Ae 4) (ev1:List Ing.Event)=> [(32, .int .i64 i)]) (fun(i:Int) (V1:AE) (ls1:Vector Ae 4) (ev1:List Ing.Event)=> [AJ.box b 95 (AE.enc V1),AJ.CI (BB 9 (AE.AP V1) ls1),AJ.own (AE.last V1) 100 16 (ev1.flatMap Ing.Event.enc)]) (0) (_) (ls) ([]) ?_ J J (fun i V1 ls1 ev1 hI1=>?_)
 · exact⟨by omega,by omega,rfl⟩
 obtain⟨hI11,hI12,hI13⟩:=hI1
 refine W ?_
 refine⟨fun c2 c2p=>?_,fun c2 c2p=>?_⟩
 ·
  have hi:0≤i∧i < 4:=⟨by omega,by omega⟩
  refine Ws 10 ?_
  refine Cj (k:=i) hi.1 hi.2 (fun sv sl hsv hlv hln=>?_)
  refine Ws 11 ?_
  refine CG AX 9 1 ?_
  refine By (.c (.t .h) (.c (.t .h) (.c .h (.c (.t .h) (.c (.t .h) .n))))) ?_
  refine Ct hi.1 hi.2 (by rfl) (by rfl) (by rfl) ?_
  refine W ?_
  refine Ar (.c .h (.c .h (.c (.t .h) (.c (.t .h) (.c (.t .h) (.c (.t .h) .n)))))) ?_
  refine Az ?_
  refine BR (i+1) _ _ _ ?_ ?_ (.t4 32 0 3 4) (.refl _)
  · exact⟨by omega,by omega,(B4 hi.1 hi.2 hsv hlv (f:=fun x=>{ x with told:= [] }) rfl).trans (by rw [hI13];exact(AG.Mu hI11).symm)⟩
  · omega
 obtain rfl:i=4:=by omega
 have hX:(AO V1 ls1 ev1)=(AG.begun (AO V ls ev)):=hI13
 have hF0:AG.Fit (AO V1 ls1 ev1) 0 0:=by rw [hX];exact hF.begun
 refine W ?_
 refine⟨fun c3 c3p=>?_,fun c3 c3p=>?_⟩
 ·
  refine W ?_
  refine Cm (.c .h (.c .h (.c .h .n))) (Qd _ V1 ls1 ev1 a.n 0 0 hF0 (by omega) (by omega)) (fun v2 B hv=>?_)
  obtain⟨y3,y4,y5,rfl,y6,rfl⟩:=hv
  refine W ?_
  intro w1 hS
  have hS:=(hS.perm (AK.perm (.c .h (.c .h (.c .h .n))))).AM
  have hq0:AG.Ed (AO V1 ls1 ev1) a=_:=(AN c3)
  have hq:(AG.act (AO V ls ev) a)=_:=(AG.F4 c1 a).trans ((congrArg (fun X=>AG.Ed X a) hX.symm).trans hq0)
  refine⟨_,⟨y3,y4,y5,?gv2,?ga2,J⟩,hS⟩
  case gv2=>rw [hq];rfl
  case ga2=>rw [hq];dsimp only;exact y6
 refine W ?_
 refine⟨fun c4 c4p=>?_,fun c4 c4p=>?_⟩
 ·
  refine W ?_
  intro w1 hS
  have hS:=(hS.perm (AK.perm (.c .h (.c .h (.c .h .n))))).AM
  have hq0:AG.Ed (AO V1 ls1 ev1) a=_:=((AB c3).trans (AN c4))
  have hq:(AG.act (AO V ls ev) a)=_:=(AG.F4 c1 a).trans ((congrArg (fun X=>AG.Ed X a) hX.symm).trans hq0)
  refine⟨_,⟨V1,ls1,ev1,?gv3,?ga3,J⟩,hS⟩
  case gv3=>rw [hq];rfl
  case ga3=>rw [hq]
 refine W ?_
 refine⟨fun c5 c5p=>?_,fun c5 c5p=>?_⟩
 ·
  refine W ?_
  intro w1 hS
  have hS:=(hS.perm (AK.perm (.c .h (.c .h (.c .h .n))))).AM
  have hq0:AG.Ed (AO V1 ls1 ev1) a=_:=((AB c3).trans ((AB c4).trans (AN c5)))
  have hq:(AG.act (AO V ls ev) a)=_:=(AG.F4 c1 a).trans ((congrArg (fun X=>AG.Ed X a) hX.symm).trans hq0)
  refine⟨_,⟨V1,ls1,ev1,?gv4,?ga4,J⟩,hS⟩
  case gv4=>rw [hq];rfl
  case ga4=>rw [hq]
 have hs:0≤a.AZ∧a.AZ < 4:=⟨by omega,by omega⟩
 refine W ?_
 refine⟨fun c6 c6p=>?_,fun c6 c6p=>?_⟩
 ·
  refine W ?_
  intro w1 hS
  have hS:=(hS.perm (AK.perm (.c .h (.c .h (.c .h .n))))).AM
  have hq0:AG.Ed (AO V1 ls1 ev1) a=_:=((AB c3).trans ((AB c4).trans ((AB c5).trans (AN (show(decide ((AG.at_ (AO V1 ls1 ev1) a.AZ).state=0) != decide (a.kind=1))=true by rw [DP V1 ls1 ev1 hs.1 hs.2];exact c6)))))
  have hq:(AG.act (AO V ls ev) a)=_:=(AG.F4 c1 a).trans ((congrArg (fun X=>AG.Ed X a) hX.symm).trans hq0)
  refine⟨_,⟨V1,ls1,ev1,?gv5,?ga5,J⟩,hS⟩
  case gv5=>rw [hq];rfl
  case ga5=>rw [hq]
 refine W ?_
 refine⟨fun c7 c7p=>?_,fun c7 c7p=>?_⟩
 ·
  refine W ?_
  refine Cm (.c .h (.c .h (.c .h .n))) (SW _ V1 ls1 ev1 a.AZ 0 0 hs hF0 (by omega) (by omega)) (fun v7 B hv=>?_)
  obtain⟨y8,y9,y10,rfl,y11,rfl⟩:=hv
  refine W ?_
  intro w1 hS
  have hS:=(hS.perm (AK.perm (.c .h (.c .h (.c .h .n))))).AM
  have hq0:AG.Ed (AO V1 ls1 ev1) a=_:=((AB c3).trans ((AB c4).trans ((AB c5).trans ((AB (show(decide ((AG.at_ (AO V1 ls1 ev1) a.AZ).state=0) != decide (a.kind=1))=false by rw [DP V1 ls1 ev1 hs.1 hs.2];exact c6)).trans (AN c7)))))
  have hq:(AG.act (AO V ls ev) a)=_:=(AG.F4 c1 a).trans ((congrArg (fun X=>AG.Ed X a) hX.symm).trans hq0)
  refine⟨_,⟨y8,y9,y10,?gv6,?ga6,J⟩,hS⟩
  case gv6=>rw [hq];rfl
  case ga6=>rw [hq];dsimp only;exact y11
 refine W ?_
 refine⟨fun c8 c8p=>?_,fun c8 c8p=>?_⟩
 ·
  refine Ws 27 ?_
  refine Cj (k:=a.AZ) hs.1 hs.2 (fun sv sl hsv hlv hln=>?_)
  try have:=AI.Qn sv.Da a.bytes
  refine W ?_
  refine Cm .n (Pp _ _ _ (by have h:=Qm sv.Da a.bytes;omega)) (fun v12 B hv=>?_) (fun _=>(fun w hS=>(Kn.own .m0) w hS))
  rcases hv with ⟨y13,rfl,rfl⟩ | ⟨y14,y15,rfl,y16,rfl⟩
  ·
   refine Ws 31 ?_
   refine By (.c .h (.c .h (.c .h (.c .h (.c .h .n))))) ?_
   refine Ct hs.1 hs.2 (by rfl) (by rfl) (by rfl) ?_
   refine W ?_
   refine Cm (.c .h (.c .h (.c .h .n))) (Du _ (AE.AZ V1 a.AZ (heard sv a.bytes)) (ls1.put a.AZ ⟨sl.queue,sl.wait,sl.told⟩) ev1 0 0 (Gc hs.1 hs.2 (DL (V:=V1) (ls:=ls1) (ev:=ev1) hs.1 hs.2 hsv hlv (Jm (u:=a.bytes) hln.2.1 hln.1 y13)) hF0) (by omega) (by omega)) (fun v18 B hv=>?_)
   obtain⟨y19,y20,y21,rfl,y22,rfl⟩:=hv
   refine W ?_
   intro w1 hS
   have hS:=(hS.perm (AK.perm (.c .h (.c .h (.c .h .n))))).AM
   have hq0:AG.Ed (AO V1 ls1 ev1) a=_:=((AB c3).trans ((AB c4).trans ((AB c5).trans ((AB (show(decide ((AG.at_ (AO V1 ls1 ev1) a.AZ).state=0) != decide (a.kind=1))=false by rw [DP V1 ls1 ev1 hs.1 hs.2];exact c6)).trans ((AB c7).trans (AN c8))))))
   have hq:(AG.act (AO V ls ev) a)=_:=(AG.F4 c1 a).trans ((congrArg (fun X=>AG.Ed X a) hX.symm).trans hq0)
   refine⟨_,⟨y19,y20,y21,?gv7,?ga7,J⟩,hS⟩
   case gv7=>rw [hq];rfl
   case ga7=>rw [hq];dsimp only;exact(Iq hs.1 hs.2 (DL (V:=V1) (ls:=ls1) (ev:=ev1) hs.1 hs.2 hsv hlv (Jm (u:=a.bytes) hln.2.1 hln.1 y13)) (.inr ⟨(show decide ((0:Int) < 0)=false from rfl),rfl⟩) y22)
  refine Ws 31 ?_
  refine By (.c .h (.c (.t .h) (.c (.t .h) (.c (.t .h) (.c (.t .h) .n))))) ?_
  refine Ct hs.1 hs.2 (by rfl) (by rfl) (by rfl) ?_
  refine W ?_
  refine⟨fun c9 c9p=>?_,fun c9 c9p=>?_⟩
  ·
   refine W ?_
   refine Cl (.c .h (.c .h (.c (.t .h) .n))) (Eg _ (AE.AZ V1 a.AZ { heard sv a.bytes with Ax:=⟨(Aa.feed (Aa.start sv.Ax sl.queue) (sv.Da.CM a.bytes).2.1).now,(Aa.feed (Aa.start sv.Ax sl.queue) (sv.Da.CM a.bytes).2.1).long,(Aa.feed (Aa.start sv.Ax sl.queue) (sv.Da.CM a.bytes).2.1).ret,y15⟩ }) (ls1.put a.AZ ⟨(Aa.feed (Aa.start sv.Ax sl.queue) (sv.Da.CM a.bytes).2.1).queue,sl.wait,sl.told⟩) ev1 a.AZ _ hs (Nat.le_trans (Cx (Gc hs.1 hs.2 (DL (V:=V1) (ls:=ls1) (ev:=ev1) hs.1 hs.2 hsv hlv (EB (u:=a.bytes) hln.2.1 hln.1 y14 y15)) hF0) a.AZ hs.1 hs.2) (by omega))) (fun v23 B hv=>?_)
   obtain⟨y24,y25,y26,rfl,y27,rfl⟩:=hv
   refine W ?_
   refine Cm (.c .h (.c .h (.c .h .n))) (Du _ y24 y25 y26 1 0 (by rw [y27];exact(Gc hs.1 hs.2 (DL (V:=V1) (ls:=ls1) (ev:=ev1) hs.1 hs.2 hsv hlv (EB (u:=a.bytes) hln.2.1 hln.1 y14 y15)) hF0).tell hs.1 hs.2 (show AG.Tl.length≤_ by decide)) (by omega) (by omega)) (fun v28 B hv=>?_)
   obtain⟨y29,y30,y31,rfl,y32,rfl⟩:=hv
   refine W ?_
   intro w1 hS
   have hS:=(hS.perm (AK.perm (.c .h (.c .h (.c .h .n))))).AM
   have hq0:AG.Ed (AO V1 ls1 ev1) a=_:=((AB c3).trans ((AB c4).trans ((AB c5).trans ((AB (show(decide ((AG.at_ (AO V1 ls1 ev1) a.AZ).state=0) != decide (a.kind=1))=false by rw [DP V1 ls1 ev1 hs.1 hs.2];exact c6)).trans ((AB c7).trans (AN c8))))))
   have hq:(AG.act (AO V ls ev) a)=_:=(AG.F4 c1 a).trans ((congrArg (fun X=>AG.Ed X a) hX.symm).trans hq0)
   refine⟨_,⟨y29,y30,y31,?gv8,?ga8,J⟩,hS⟩
   case gv8=>rw [hq];rfl
   case ga8=>rw [hq];dsimp only;exact(Iq hs.1 hs.2 (DL (V:=V1) (ls:=ls1) (ev:=ev1) hs.1 hs.2 hsv hlv (EB (u:=a.bytes) hln.2.1 hln.1 y14 y15)) (.inl ⟨c9,y27⟩) y32)
  refine W ?_
  refine Cm (.c .h (.c .h (.c (.t .h) .n))) (Du _ (AE.AZ V1 a.AZ { heard sv a.bytes with Ax:=⟨(Aa.feed (Aa.start sv.Ax sl.queue) (sv.Da.CM a.bytes).2.1).now,(Aa.feed (Aa.start sv.Ax sl.queue) (sv.Da.CM a.bytes).2.1).long,(Aa.feed (Aa.start sv.Ax sl.queue) (sv.Da.CM a.bytes).2.1).ret,y15⟩ }) (ls1.put a.AZ ⟨(Aa.feed (Aa.start sv.Ax sl.queue) (sv.Da.CM a.bytes).2.1).queue,sl.wait,sl.told⟩) ev1 0 0 (Gc hs.1 hs.2 (DL (V:=V1) (ls:=ls1) (ev:=ev1) hs.1 hs.2 hsv hlv (EB (u:=a.bytes) hln.2.1 hln.1 y14 y15)) hF0) (by omega) (by omega)) (fun v33 B hv=>?_)
  obtain⟨y34,y35,y36,rfl,y37,rfl⟩:=hv
  refine W ?_
  intro w1 hS
  have hS:=(hS.perm (AK.perm (.c .h (.c .h (.c .h .n))))).AM
  have hq0:AG.Ed (AO V1 ls1 ev1) a=_:=((AB c3).trans ((AB c4).trans ((AB c5).trans ((AB (show(decide ((AG.at_ (AO V1 ls1 ev1) a.AZ).state=0) != decide (a.kind=1))=false by rw [DP V1 ls1 ev1 hs.1 hs.2];exact c6)).trans ((AB c7).trans (AN c8))))))
  have hq:(AG.act (AO V ls ev) a)=_:=(AG.F4 c1 a).trans ((congrArg (fun X=>AG.Ed X a) hX.symm).trans hq0)
  refine⟨_,⟨y34,y35,y36,?gv9,?ga9,J⟩,hS⟩
  case gv9=>rw [hq];rfl
  case ga9=>rw [hq];dsimp only;exact(Iq hs.1 hs.2 (DL (V:=V1) (ls:=ls1) (ev:=ev1) hs.1 hs.2 hsv hlv (EB (u:=a.bytes) hln.2.1 hln.1 y14 y15)) (.inr ⟨c9,rfl⟩) y37)
 refine W ?_
 refine⟨fun c10 c10p=>?_,fun c10 c10p=>?_⟩
 ·
  refine Ws 36 ?_
  refine Cj (k:=a.AZ) hs.1 hs.2 (fun sv sl hsv hlv hln=>?_)
  refine Ws 37 ?_
  refine By (.c .h (.c .h (.c .h (.c .h (.c .h .n))))) ?_
  refine Ct hs.1 hs.2 (by rfl) (by rfl) (by rfl) ?_
  refine W ?_
  refine Cm (.c .h (.c .h (.c .h .n))) (Du _ (AE.AZ V1 a.AZ { sv with out:=⟨sv.out.wait,sv.out.shown,sv.out.BL,sv.out.ring.drop (max 0 (min a.n (sv.out.ring.length:Int))).toNat,sv.out.cut⟩ }) (ls1.put a.AZ ⟨sl.queue,sl.wait,sl.told⟩) ev1 0 0 (by rw [(show AO (AE.AZ V1 a.AZ { sv with out:=⟨sv.out.wait,sv.out.shown,sv.out.BL,sv.out.ring.drop (max 0 (min a.n (sv.out.ring.length:Int))).toNat,sv.out.cut⟩ }) (ls1.put a.AZ ⟨sl.queue,sl.wait,sl.told⟩) ev1=AG.set (AO V1 ls1 ev1) a.AZ ((AG.at_ (AO V1 ls1 ev1) a.AZ).Jl a.n) from B4 hs.1 hs.2 hsv hlv (f:=fun x=>x.Jl a.n) rfl)];exact hF0.Jl hs.1 hs.2 a.n) (by omega) (by omega)) (fun v38 B hv=>?_)
  obtain⟨y39,y40,y41,rfl,y42,rfl⟩:=hv
  refine W ?_
  intro w1 hS
  have hS:=(hS.perm (AK.perm (.c .h (.c .h (.c .h .n))))).AM
  have hq0:AG.Ed (AO V1 ls1 ev1) a=_:=((AB c3).trans ((AB c4).trans ((AB c5).trans ((AB (show(decide ((AG.at_ (AO V1 ls1 ev1) a.AZ).state=0) != decide (a.kind=1))=false by rw [DP V1 ls1 ev1 hs.1 hs.2];exact c6)).trans ((AB c7).trans ((AB c8).trans (AN c10)))))))
  have hq:(AG.act (AO V ls ev) a)=_:=(AG.F4 c1 a).trans ((congrArg (fun X=>AG.Ed X a) hX.symm).trans hq0)
  refine⟨_,⟨y39,y40,y41,?gv10,?ga10,J⟩,hS⟩
  case gv10=>rw [hq];exact congrArg (fun x=>Value.agg (Cg.enc ⟨0,x⟩).toArray) (U3 V1 ls1 ev1 hs.1 hs.2 hsv a.n)
  case ga10=>rw [hq];dsimp only;exact y42.trans (congrArg AG.BJ (show AO (AE.AZ V1 a.AZ { sv with out:=⟨sv.out.wait,sv.out.shown,sv.out.BL,sv.out.ring.drop (max 0 (min a.n (sv.out.ring.length:Int))).toNat,sv.out.cut⟩ }) (ls1.put a.AZ ⟨sl.queue,sl.wait,sl.told⟩) ev1=AG.set (AO V1 ls1 ev1) a.AZ ((AG.at_ (AO V1 ls1 ev1) a.AZ).Jl a.n) from B4 hs.1 hs.2 hsv hlv (f:=fun x=>x.Jl a.n) rfl))
 refine W ?_
 refine Kt (decide_eq_true (by omega)) ?_
 refine W ?_
 refine Cm (.c .h (.c .h (.c .h .n))) (Ic _ V1 ls1 ev1 a.AZ 0 0 hs hF0 (by omega) (by omega)) (fun v43 B hv=>?_)
 obtain⟨y44,y45,y46,rfl,y47,rfl⟩:=hv
 refine W ?_
 refine Cm (.c .h (.c .h (.c .h .n))) (Du _ y44 y45 y46 11 11 (by rw [y47];exact hF0.leave hs.1 hs.2) (by omega) (by omega)) (fun v48 B hv=>?_)
 obtain⟨y49,y50,y51,rfl,y52,rfl⟩:=hv
 refine W ?_
 intro w1 hS
 have hS:=(hS.perm (AK.perm (.c .h (.c .h (.c .h .n))))).AM
 have hq0:AG.Ed (AO V1 ls1 ev1) a=_:=((AB c3).trans ((AB c4).trans ((AB c5).trans ((AB (show(decide ((AG.at_ (AO V1 ls1 ev1) a.AZ).state=0) != decide (a.kind=1))=false by rw [DP V1 ls1 ev1 hs.1 hs.2];exact c6)).trans ((AB c7).trans ((AB c8).trans (AB c10)))))))
 have hq:(AG.act (AO V ls ev) a)=_:=(AG.F4 c1 a).trans ((congrArg (fun X=>AG.Ed X a) hX.symm).trans hq0)
 refine⟨_,⟨y49,y50,y51,?gv11,?ga11,J⟩,hS⟩
 case gv11=>rw [hq];rfl
 case ga11=>rw [hq];dsimp only;exact y52.trans (congrArg AG.BJ y47)
theorem CU (e:Int):Fu Tryz.prog 21 #[.int .i64 e] [] (fun v B=>v = .agg (Cg.enc ⟨e,[]⟩).toArray∧B = []):=by
 intro w hS0
 refine AR _ _ Tryz.func21 J J J (hS0) ?_
 refine W ?_
 intro b1
 intro w1 hS
 have hS:=(hS.perm (AK.perm .n)).AM
 exact⟨_,⟨J,J⟩,hS⟩
theorem Mf {t0:Nat}(l:BN)(qs:List AL)(hb:qs.length≤17592186044416):Cz Tryz.prog 44 #[.agg l.enc.toArray] [] (fun w=>Rd w l.queue t0 1 (qs.flatMap AX)∧l.queue.len≤l.queue.cap) (fun v B=>(qs = []∧v = .tuple #[.agg l.enc.toArray,Ag [], .bool false]∧B = [])∨(∃ q r,qs=q :: r∧∃ h':Hd,v = .tuple #[.agg (BN.enc ⟨l.now,l.long,l.ret,h'⟩).toArray,Ag q, .bool true]∧h'.len=r.length∧B = [AJ.own h' 9 1 (r.flatMap AX)])):=by
 intro w hS0 hH
 obtain⟨r0,k0⟩:=hH
 have hl0:=r0.Gh Cr (by decide)
 refine AR _ _ Tryz.func44 J J J (hS0) ?_
 refine W ?_
 intro b1 b2
 refine⟨fun c1 c1p=>?_,fun c1 c1p=>?_⟩
 ·
  try dsimp only at c1p
  have hq:qs = []:=List.length_eq_zero_iff.1 (by omega)
  refine W ?_
  intro w1 hS
  have hS:=(hS.perm (AK.perm .n)).AM
  exact⟨_, .inl ⟨hq,J,J⟩,hS⟩
 try dsimp only at c1p
 obtain⟨q,r,rfl⟩:=Aa.OK (qs:=qs) (by omega)
 rw [List.length_cons] at hl0 hb
 refine W ?_
 refine Gt (Ot Tryz.underlying56 OZ J J (by decide) (by omega)) ?_
 refine Hx AX 9 1 ?_
 refine ES (e:=AX) J Tryz.underlying56 OZ bd J dm (by decide) J J (fun w hS=>Src.FG Tryz.underlying56 (by have h:=(Kn.cut (l:=1) (r:=l.queue.len) Cr (Kn.Il r0) (by omega) (Nat.le_refl _) (VI.of k0)) w hS;rw [show(((q :: r).take l.queue.len).drop 1)=r from by rw [List.take_of_length_le (by simp;omega)];rfl] at h;exact h)) J J (by dsimp only [Hd.cut];omega) (fun _=> .h) (fun h2 h2l=>?_)
 refine W ?_
 intro w1 hS
 have hS:=(hS.perm (AK.perm (.c .h .n))).AM
 exact⟨_, .inr ⟨q,r,J,_,J,by(try dsimp only [Hd.cut] at *);omega,rfl⟩,hS⟩
theorem I6 (s:AL)(hs:s.length≤9000000000000000000)(w:World):Ch Tryz.prog 46 #[Ag s] w fun v w'=>v=Ag (Words.DH 32 (Words.Dx 32 s))∧BF w w':=by
 refine Rb Tryz.func46 ?_
 refine W ?_
 refine Af (.t1 0) ?_
 refine A7 (fun(u:AL)=>Words.DH 32 s=Words.DH 32 u∧u.length≤9000000000000000000) (fun(u:AL)=>u.length) (fun(u:AL)=> [(0,Ag u)]) (fun(u:AL)=> []) (s) ?_ J J (fun u hI1=>?_)
 · exact⟨J,hs⟩
 obtain⟨hI11,hI12⟩:=hI1
 refine W ?_
 refine⟨fun c1 c1p=>?_,fun c1 c1p=>?_⟩
 ·
  refine W ?_
  refine Aw _ ?_ ?_ (.t1 0) (.refl _)
  · exact⟨hI11.trans (Words.XF c1),by rw [List.length_drop];omega⟩
  · simp only [List.length_drop];omega
 refine W ?_
 refine Af (.t1 0) ?_
 refine A7 (fun(v:AL)=>Words.Dx 32 (Words.DH 32 s)=Words.Dx 32 v∧v.length≤9000000000000000000) (fun(v:AL)=>v.length) (fun(v:AL)=> [(0,Ag v)]) (fun(v:AL)=> []) (u) ?_ J J (fun v hI2=>?_)
 · exact⟨congrArg (Words.Dx 32) (hI11.trans (Words.XE c1)),hI12⟩
 obtain⟨hI21,hI22⟩:=hI2
 refine W ?_
 refine⟨fun c2 c2p=>?_,fun c2 c2p=>?_⟩
 ·
  refine W ?_
  refine Aw _ ?_ ?_ (.t1 0) (.refl _)
  · exact⟨hI21.trans (Words.bM c2),by rw [List.length_take];omega⟩
  · simp only [List.length_take];omega
 refine W ?_
 rw [← Words.Mt,hI21,Words.bL c2];rfl
instance instP46:DI Tryz.prog 46 (type_of% @I6):=⟨@I6⟩
theorem LN (X:AD)(i:Int)(w:World):Ch Tryz.prog 95 #[.agg X.enc.toArray, .int .i64 i] w fun v w'=>v = .tuple #[.int .i64 (AD.root X i).1, .int .i64 (AD.root X i).2.1, .bool (AD.root X i).2.2.1, .bool (AD.root X i).2.2.2]∧BF w w':=by
 refine Rb Tryz.func95 ?_
 refine W ?_
 intro b1
 refine JL J (fun b2=>?_)
 refine W ?_
 refine Af (.t4 1 6 2 8) ?_
 refine Bo (fun(j:Int) (o:Bool) (s:List Int)=>AD.root X i=X.Ea (10 - s.length) j o∧X.DJ s j) (fun(j:Int) (o:Bool) (s:List Int)=>Nl s) (fun(j:Int) (o:Bool) (s:List Int)=> [(1, .int .i64 j),(6, .bool o)]) (fun(j:Int) (o:Bool) (s:List Int)=> [AJ.Pa b2 (N6 s)]) (i) (true) ([]) ?_ J J (fun j o s hI1=>?_)
 · exact⟨J,AD.DJ.start X i⟩
 obtain⟨hI11,hI12⟩:=hI1
 refine W ?_
 refine kr 17 J J (fun q=>OG (LW Tryz.underlying192 Tryz.underlying3 kj (iT J q) (iT J q) .m0) (XB _ _)) ?_
 refine W ?_
 refine⟨fun c1 c1p=>?_,fun c1 c1p=>?_⟩
 ·
  try dsimp only at c1p
  have hr:0≤j∧j < 9∧j ∉ s:=by simp at c1;exact⟨c1.1.1,c1.1.2,c1.2⟩
  obtain⟨hj0,hj9,hns⟩:=hr
  refine W ?_
  refine EJ (FK Tryz.underlying192 Tryz.underlying3 J J J (RU hns) .h).1 ?_
  refine W ?_
  intro b3
  refine⟨fun c2 c2p=>?_,fun c2 c2p=>?_⟩
  ·
   try dsimp only at c2p
   refine W ?_
   rw [hI11,hI12.out hj0 hj9 c2];rfl
  try dsimp only at c2p
  have hse:=hI12.next hj0 hj9 hns (by simpa using c2)
  have hst:=hI12.step (o:=o) hse hj0 hj9 c2
  refine W ?_
  refine⟨fun c3 c3p=>?_,fun c3 c3p=>?_⟩
  ·
   try dsimp only at c3p
   have hjr:0≤(X.AH.at j).at_∧(X.AH.at j).at_ < 9:=by simp at c3;omega
   refine W ?_
   refine Ap _ _ (s ++ [j]) ?_ ?_ (.t4 1 6 2 8) (by rw [NH];exact(.cons _ (.refl _)))
   · exact⟨by rw [hI11,hst,if_pos c3],hse⟩
   · have:=F9 hns hj0 hj9;omega
  try dsimp only at c3p
  refine W ?_
  refine Ap _ _ (s ++ [j]) ?_ ?_ (.t4 1 6 2 8) (by rw [NH];exact(.cons _ (.refl _)))
  · exact⟨by rw [hI11,hst,if_neg (by rw [c3];decide)],hse⟩
  · have:=F9 hns hj0 hj9;omega
 try dsimp only at c1p
 refine W ?_
 rw [hI11,hI12.ends c1];rfl
instance instP95:DI Tryz.prog 95 (type_of% @LN):=⟨@LN⟩
end Go.Proofs.YtlmmdjaoikaceaaGreatDoor

/- What the functions that the law HousePlays reaches compute: walks, part 9. No condition. -/
import Derived.Test.YtlmmdjaoikaceaaGreatDoorCards
import Derived.Test.YtlmmdjaoikaceaaGreatDoorTie
import Derived.Deep.DeepHandedRow
import Derived.Test.YtlmmdjaoikaceaaGreatDoorRows
import Derived.Test.YtlmmdjaoikaceaaGreatDoorHousePlaysEc3
import Derived.Test.YtlmmdjaoikaceaaGreatDoorHousePlaysRa1
import Derived.Test.YtlmmdjaoikaceaaGreatDoorHousePlaysRb1
import Derived.Test.YtlmmdjaoikaceaaGreatDoorHousePlaysRc1
import Derived.Test.YtlmmdjaoikaceaaGreatDoorHousePlaysRd1
import Derived.Test.YtlmmdjaoikaceaaGreatDoorHousePlaysWalks
import Derived.Test.YtlmmdjaoikaceaaGreatDoorHousePlaysWalks2
import Derived.Test.YtlmmdjaoikaceaaGreatDoorHousePlaysWalks7
import Derived.Test.YtlmmdjaoikaceaaGreatDoorHousePlaysWalks8
set_option linter.unusedSimpArgs false
set_option linter.unusedVariables false
set_option maxRecDepth 100000
set_option maxHeartbeats 4000000
namespace Go.Proofs.YtlmmdjaoikaceaaGreatDoor
open Go Go.Ing Go.RowKit Go.ChangeShapes Go.WideShapes Go.ChangeAt
theorem Jw (u:AL)(hu:u.length≤5000000)(w:World):Ch Tryz.prog 86 #[Ag u] w fun v w'=>v = .tuple #[.int .i64 (Words.Bq u).1,Ag (Words.Bq u).2.1, .bool (Words.Bq u).2.2.1, .int .i64 (Words.Bq u).2.2.2]∧BF w w':=by
 refine Rb Tryz.func86 ?_
 refine W ?_
 refine Cl .n (Ho _ 46 (by omega)) (fun v1 B hv=>?_)
 obtain⟨y2,rfl,y3,rfl⟩:=hv
 refine W ?_
 refine⟨fun c1 c1p=>?_,fun c1 c1p=>?_⟩
 ·
  try dsimp only at c1p
  refine W ?_
  rw [← Words.Hb,show Words.LM u=_ from(AN c1)];rfl
 try dsimp only at c1p
 have hlen:=y3
 have hpl:=Words.DV 46 u
 have hk0:((Words.pieces 46 u).getD (0:Int).toNat []).length≤u.length:=Words.RP _
 refine W ?_
 refine⟨fun c2 c2p=>?_,fun c2 c2p=>?_⟩
 ·
  try dsimp only at c2p
  rw [hlen] at c2
  refine W ?_
  rw [← Words.Hb,show Words.LM u=_ from((AB c1).trans (AN c2))];rfl
 try dsimp only at c2p
 rw [hlen] at c2
 refine W ?_
 refine⟨fun c3 c3p=>?_,fun c3 c3p=>?_⟩
 ·
  try dsimp only at c3p
  rw [hlen] at c3
  refine W ?_
  rw [← Words.Hb,show Words.LM u=_ from((AB c1).trans ((AB c2).trans (AN c3)))];rfl
 try dsimp only at c3p
 rw [hlen] at c3
 refine W ?_
 refine⟨fun c4 c4p=>?_,fun c4 c4p=>?_⟩
 ·
  try dsimp only at c4p
  refine W ?_
  rw [← Words.Hb,show Words.LM u=_ from((AB c1).trans ((AB c2).trans ((AB c3).trans (AN c4))))];rfl
 try dsimp only at c4p
 refine W ?_
 refine GY J Tryz.underlying9 Tryz.underlying122 Tryz.underlying5 J (fun h5 h5l=>?_)
 refine W ?_
 refine Af (.t5 7 47 6 45 46) ?_
 refine CZ (fun(k:Int) (n:Int)=>0≤k∧k≤(((Words.pieces 46 u).getD (0:Int).toNat []).length:Int)∧Words.G1 ((Words.pieces 46 u).getD (0:Int).toNat []) ((Words.pieces 46 u).getD (0:Int).toNat []).length 0=Words.G1 ((Words.pieces 46 u).getD (0:Int).toNat []) ((((Words.pieces 46 u).getD (0:Int).toNat []).length:Int) - k).toNat n∧0≤n∧n≤99∧(k=0→n=0)∧(k≤1→n≤9)) (fun(k:Int) (n:Int)=>((((Words.pieces 46 u).getD (0:Int).toNat []).length:Int) - k).toNat) (fun(k:Int) (n:Int)=> [(7, .int .i64 n),(47, .int .i64 k)]) (fun(k:Int) (n:Int)=> []) (0) (0) ?_ J J (fun k n hI1=>?_)
 · exact⟨by omega,by omega,by rw [Int.sub_zero];rfl,by omega,by omega,fun _=>rfl,by omega⟩
 obtain⟨hI11,hI12,hI13,hI14,hI15,hI16,hI17⟩:=hI1
 refine W ?_
 refine⟨fun c5 c5p=>?_,fun c5 c5p=>?_⟩
 ·
  try dsimp only at c5p
  rw [Words.XZ (k:=((Words.pieces 46 u).getD (0:Int).toNat [])) hI11 (by omega)] at hI13
  have hc8:=(((Words.pieces 46 u).getD (0:Int).toNat []).getD k.toNat 0).toNat_lt
  refine W ?_
  refine⟨fun c6 c6p=>?_,fun c6 c6p=>?_⟩
  ·
   try dsimp only at c6p
   have hdn:=hI13.trans (AN c6)
   refine W ?_
   rw [← Words.Hb,show Words.LM u=Words.MU ((Words.pieces 46 u).getD (0:Int).toNat []) ((Words.pieces 46 u).getD 1 []) from((AB c1).trans ((AB c2).trans ((AB c3).trans (AB c4)))),Words.Jd hdn];rfl
  try dsimp only at c6p
  have cb:Words.FW k ((((Words.pieces 46 u).getD (0:Int).toNat []).getD k.toNat 0).toNat:Int)=false:=c6
  have hb9:48≤((((Words.pieces 46 u).getD (0:Int).toNat []).getD k.toNat 0).toNat:Int)∧((((Words.pieces 46 u).getD (0:Int).toNat []).getD k.toNat 0).toNat:Int)≤57∧k≤1:=by simp at c6;omega
  refine W ?_
  refine BC (k+1) _ ?_ ?_ (.t5 7 47 6 45 46) (.refl _)
  · exact⟨by omega,by omega,by rw [hI13,AB cb],by omega,by omega,by omega,by omega⟩
  · omega
 try dsimp only at c5p
 obtain rfl:k=(((Words.pieces 46 u).getD (0:Int).toNat []).length:Int):=by omega
 have hds:=hI13.trans (show Words.G1 ((Words.pieces 46 u).getD (0:Int).toNat []) ((((Words.pieces 46 u).getD (0:Int).toNat []).length:Int) - (((Words.pieces 46 u).getD (0:Int).toNat []).length:Int)).toNat n=some n by rw [Int.sub_self];rfl)
 refine W ?_
 refine⟨fun c7 c7p=>?_,fun c7 c7p=>?_⟩
 ·
  try dsimp only at c7p
  refine W ?_
  rw [← Words.Hb,show Words.LM u=Words.MU ((Words.pieces 46 u).getD (0:Int).toNat []) ((Words.pieces 46 u).getD 1 []) from((AB c1).trans ((AB c2).trans ((AB c3).trans (AB c4)))),Words.Je hds,AN c7];rfl
 try dsimp only at c7p
 refine W ?_
 rw [← Words.Hb,show Words.LM u=Words.MU ((Words.pieces 46 u).getD (0:Int).toNat []) ((Words.pieces 46 u).getD 1 []) from((AB c1).trans ((AB c2).trans ((AB c3).trans (AB c4)))),Words.Je hds,AB c7];rfl
instance instP86:DI Tryz.prog 86 (type_of% @Jw):=⟨@Jw⟩
theorem HE (s:AL)(hs:s.length≤4000000)(w:World)(gl0:GV 0 AD.Be w):Ch Tryz.prog 47 #[Ag s] w fun v w'=>v = .tuple #[.agg (Words.parse s).1.enc.toArray, .int .i64 (Words.parse s).2]∧BF w w':=by
 refine Rb Tryz.func47 ?_
 refine W ?_
 intro b1
 refine Cl .n (NQ _ hs) (fun v1 B hv=>?_)
 obtain⟨y2,rfl,y3,rfl⟩:=hv
 refine W ?_
 refine⟨fun c1 c1p=>?_,fun c1 c1p=>?_⟩
 ·
  try dsimp only at c1p
  have hlen:=y3
  (try simp only [Hd.cut] at c1)
  rw [hlen] at c1
  refine W ?_
  rw [← Words.Cb,show Words.EV s=_ from(AN c1)];rfl
 try dsimp only at c1p
 have hlen:=y3
 (try simp only [Hd.cut] at c1)
 rw [hlen] at c1
 refine W ?_
 refine⟨fun c2 c2p=>?_,fun c2 c2p=>?_⟩
 ·
  try dsimp only at c2p
  refine W ?_
  rw [← Words.Cb,show Words.EV s=_ from((AB c1).trans (AN c2))];rfl
 try dsimp only at c2p
 refine W ?_
 intro b2
 refine⟨fun c3 c3p=>?_,fun c3 c3p=>?_⟩
 ·
  try dsimp only at c3p
  refine W ?_
  refine Af (.t4 0 2 4 8) ?_
  refine A7 (fun(r:AL)=>Words.DH 32 s=Words.DH 32 r∧r.length≤s.length) (fun(r:AL)=>r.length) (fun(r:AL)=> [(0,Ag r)]) (fun(r:AL)=> []) (s) ?_ J J (fun r hI1=>?_)
  · exact⟨J,by first | exact Nat.le_refl _ | assumption⟩
  obtain⟨hI11,hI12⟩:=hI1
  refine W ?_
  refine⟨fun c4 c4p=>?_,fun c4 c4p=>?_⟩
  ·
   try dsimp only at c4p
   have hlt:0 < r.length:=by simp at c4;omega
   refine W ?_
   refine Aw _ ?_ ?_ (.t4 0 2 4 8) (.refl _)
   · exact⟨by rw [hI11,Words.XF (c:=32) c4]<;>rfl,by first | (simp;done) | (simp;omega)⟩
   · first | (simp;done) | (simp;omega)
  try dsimp only at c4p
  have e1:Words.DH 32 s=r:=hI11.trans (Words.XE (c:=32) c4)
  refine W ?_
  refine Af (.t4 0 2 4 8) ?_
  refine A7 (fun(q:AL)=>Words.dn r=Words.dn q∧q.length≤s.length) (fun(q:AL)=>q.length) (fun(q:AL)=> [(0,Ag q)]) (fun(q:AL)=> []) (r) ?_ J J (fun q hI2=>?_)
  · exact⟨J,by first | exact Nat.le_refl _ | assumption⟩
  obtain⟨hI21,hI22⟩:=hI2
  refine W ?_
  refine⟨fun c5 c5p=>?_,fun c5 c5p=>?_⟩
  ·
   try dsimp only at c5p
   have hlt:0 < q.length:=by simp at c5;omega
   refine W ?_
   refine Aw _ ?_ ?_ (.t4 0 2 4 8) (.refl _)
   · exact⟨by rw [hI21,Words.jy c5]<;>rfl,by first | (simp;done) | (simp;omega)⟩
   · first | (simp;done) | (simp;omega)
  try dsimp only at c5p
  have e2:Words.dn r=q:=hI21.trans (Words.jx c5)
  refine W ?_
  refine Af (.t4 0 2 4 8) ?_
  refine A7 (fun(t:AL)=>Words.DH 32 q=Words.DH 32 t∧t.length≤s.length) (fun(t:AL)=>t.length) (fun(t:AL)=> [(0,Ag t)]) (fun(t:AL)=> []) (q) ?_ J J (fun t hI3=>?_)
  · exact⟨J,by first | exact Nat.le_refl _ | assumption⟩
  obtain⟨hI31,hI32⟩:=hI3
  refine W ?_
  refine⟨fun c6 c6p=>?_,fun c6 c6p=>?_⟩
  ·
   try dsimp only at c6p
   have hlt:0 < t.length:=by simp at c6;omega
   refine W ?_
   refine Aw _ ?_ ?_ (.t4 0 2 4 8) (.refl _)
   · exact⟨by rw [hI31,Words.XF (c:=32) c6]<;>rfl,by first | (simp;done) | (simp;omega)⟩
   · first | (simp;done) | (simp;omega)
  try dsimp only at c6p
  have e3:Words.DH 32 q=t:=hI31.trans (Words.XE (c:=32) c6)
  refine W ?_
  refine Af (.t4 0 2 4 8) ?_
  refine A7 (fun(z:AL)=>Words.Dx 32 t=Words.Dx 32 z∧z.length≤s.length) (fun(z:AL)=>z.length) (fun(z:AL)=> [(0,Ag z)]) (fun(z:AL)=> []) (t) ?_ J J (fun z hI4=>?_)
  · exact⟨J,by first | exact Nat.le_refl _ | assumption⟩
  obtain⟨hI41,hI42⟩:=hI4
  refine W ?_
  refine⟨fun c7 c7p=>?_,fun c7 c7p=>?_⟩
  ·
   try dsimp only at c7p
   have hlt:0 < z.length:=by simp at c7;omega
   refine W ?_
   refine Aw _ ?_ ?_ (.t4 0 2 4 8) (.refl _)
   · exact⟨by rw [hI41,Words.bM (c:=32) c7]<;>rfl,by first | (simp;done) | (simp;omega)⟩
   · first | (simp;done) | (simp;omega)
  try dsimp only at c7p
  have e4:Words.Dx 32 t=z:=hI41.trans (Words.bL (c:=32) c7)
  refine W ?_
  refine⟨fun c8 c8p=>?_,fun c8 c8p=>?_⟩
  ·
   try dsimp only at c8p
   refine W ?_
   have hz:Words.Ns s=z:=by unfold Words.Ns;rw [e1,e2,e3,e4]
   rw [← Words.Cb,show Words.EV s=_ from((AB c1).trans ((AB c2).trans (AN c3))),hz,AN c8];rfl
  try dsimp only at c8p
  refine W ?_
  have hz:Words.Ns s=z:=by unfold Words.Ns;rw [e1,e2,e3,e4]
  rw [← Words.Cb,show Words.EV s=_ from((AB c1).trans ((AB c2).trans (AN c3))),hz,AB c8];rfl
 try dsimp only at c3p
 refine W ?_
 refine⟨fun c9 c9p=>?_,fun c9 c9p=>?_⟩
 ·
  try dsimp only at c9p
  (try simp only [Hd.cut] at c9)
  rw [hlen] at c9
  refine W ?_
  rw [← Words.Cb,show Words.EV s=_ from((AB c1).trans ((AB c2).trans ((AB c3).trans (AN c9))))];rfl
 try dsimp only at c9p
 (try simp only [Hd.cut] at c9)
 rw [hlen] at c9
 have k9:=c9
 refine W ?_
 refine⟨fun c10 c10p=>?_,fun c10 c10p=>?_⟩
 ·
  try dsimp only at c10p
  refine W ?_
  rw [← Words.Cb,show Words.EV s=_ from((AB c1).trans ((AB c2).trans ((AB c3).trans ((AB c9).trans (AN c10)))))];rfl
 try dsimp only at c10p
 have hl2:2≤(Words.words s).length:=Words.fi k9 c10 (by simpa using c1)
 refine W ?_
 refine⟨fun c11 c11p=>?_,fun c11 c11p=>?_⟩
 ·
  try dsimp only at c11p
  (try simp only [Hd.cut] at c11)
  rw [hlen] at c11
  have hd:0≤(Words.verb (((Words.words s)).getD (1:Int).toNat [])).1∧(Words.verb (((Words.words s)).getD (1:Int).toNat [])).1 < 6:=⟨(Words.QO _).1,by have h:=c11;rw [Bool.and_eq_true] at h;exact of_decide_eq_true h.2⟩
  refine W ?_
  refine Gt (Ko gl0 J LG (AD.Gu hd.1 hd.2)) ?_
  refine W ?_
  rw [← Words.Cb,show Words.EV s=_ from((AB c1).trans ((AB c2).trans ((AB c3).trans ((AB c9).trans ((AB c10).trans (AN c11))))))];rfl
 try dsimp only at c11p
 (try simp only [Hd.cut] at c11)
 rw [hlen] at c11
 try have:=Words.VC s (1:Int).toNat
 refine W ?_
 refine⟨fun c12 c12p=>?_,fun c12 c12p=>?_⟩
 ·
  try dsimp only at c12p
  refine W ?_
  rw [← Words.Cb,show Words.EV s=_ from((AB c1).trans ((AB c2).trans ((AB c3).trans ((AB c9).trans ((AB c10).trans ((AB c11).trans (AN c12)))))))];rfl
 try dsimp only at c12p
 refine W ?_
 refine Dm Cr J Tryz.underlying56 OZ J J (by decide) (by first | omega | (simp only [Hd.cut];omega) | (simp only [Hd.cut] at *;omega)) (fun _=>(.t .h)) ?_
 refine W ?_
 refine JL J (fun b3=>?_)
 refine EJ (FK Tryz.underlying156 Tryz.underlying3 J J J J .h).2 ?_
 refine EJ (FK Tryz.underlying156 Tryz.underlying3 J J J J .h).2 ?_
 refine EJ (FK Tryz.underlying156 Tryz.underlying3 J J J J .h).2 ?_
 refine W ?_
 refine Gt (OG (LW Tryz.underlying156 Tryz.underlying3 bd J J .m0) (Words.Xq _)) ?_
 refine W ?_
 refine⟨fun c13 c13p=>?_,fun c13 c13p=>?_⟩
 ·
  try dsimp only at c13p
  (try simp only [Hd.cut] at c13)
  rw [hlen] at c13
  refine W ?_
  refine Dm Cr J Tryz.underlying56 OZ J J (by decide) (by first | omega | (simp only [Hd.cut];omega) | (simp only [Hd.cut] at *;omega)) (fun _=>(.t (.t .h))) ?_
  refine W ?_
  refine⟨fun c14 c14p=>?_,fun c14 c14p=>?_⟩
  ·
   try dsimp only at c14p
   (try simp only [Hd.cut] at c14)
   rw [hlen] at c14
   refine W ?_
   rw [← Words.Cb,show Words.EV s=_ from((AB c1).trans ((AB c2).trans ((AB c3).trans ((AB c9).trans ((AB c10).trans ((AB c11).trans ((AB c12).trans ((AN c13).trans (AN c14)))))))))];rfl
  try dsimp only at c14p
  (try simp only [Hd.cut] at c14)
  rw [hlen] at c14
  refine W ?_
  refine⟨fun c15 c15p=>?_,fun c15 c15p=>?_⟩
  ·
   try dsimp only at c15p
   (try simp only [Hd.cut] at c15)
   rw [hlen] at c15
   refine W ?_
   rw [← Words.Cb,show Words.EV s=_ from((AB c1).trans ((AB c2).trans ((AB c3).trans ((AB c9).trans ((AB c10).trans ((AB c11).trans ((AB c12).trans ((AN c13).trans ((AB c14).trans (AN c15))))))))))];rfl
  try dsimp only at c15p
  (try simp only [Hd.cut] at c15)
  rw [hlen] at c15
  refine W ?_
  refine⟨fun c16 c16p=>?_,fun c16 c16p=>?_⟩
  ·
   try dsimp only at c16p
   (try simp only [Hd.cut] at c16)
   rw [hlen] at c16
   refine W ?_
   rw [← Words.Cb,show Words.EV s=_ from((AB c1).trans ((AB c2).trans ((AB c3).trans ((AB c9).trans ((AB c10).trans ((AB c11).trans ((AB c12).trans ((AN c13).trans ((AB c14).trans ((AB c15).trans (AN c16)))))))))))];rfl
  try dsimp only at c16p
  (try simp only [Hd.cut] at c16)
  rw [hlen] at c16
  refine W ?_
  rw [← Words.Cb,show Words.EV s=_ from((AB c1).trans ((AB c2).trans ((AB c3).trans ((AB c9).trans ((AB c10).trans ((AB c11).trans ((AB c12).trans ((AN c13).trans ((AB c14).trans ((AB c15).trans (AB c16)))))))))))];rfl
 try dsimp only at c13p
 (try simp only [Hd.cut] at c13)
 rw [hlen] at c13
 refine W ?_
 refine⟨fun c17 c17p=>?_,fun c17 c17p=>?_⟩
 ·
  try dsimp only at c17p
  (try simp only [Hd.cut] at c17)
  rw [hlen] at c17
  refine W ?_
  rw [← Words.Cb,show Words.EV s=_ from((AB c1).trans ((AB c2).trans ((AB c3).trans ((AB c9).trans ((AB c10).trans ((AB c11).trans ((AB c12).trans ((AB c13).trans (AN c17)))))))))];rfl
 try dsimp only at c17p
 (try simp only [Hd.cut] at c17)
 rw [hlen] at c17
 refine W ?_
 refine⟨fun c18 c18p=>?_,fun c18 c18p=>?_⟩
 ·
  try dsimp only at c18p
  (try simp only [Hd.cut] at c18)
  rw [hlen] at c18
  refine W ?_
  rw [← Words.Cb,show Words.EV s=_ from((AB c1).trans ((AB c2).trans ((AB c3).trans ((AB c9).trans ((AB c10).trans ((AB c11).trans ((AB c12).trans ((AB c13).trans ((AB c17).trans (AN c18))))))))))];rfl
 try dsimp only at c18p
 (try simp only [Hd.cut] at c18)
 rw [hlen] at c18
 refine W ?_
 rw [← Words.Cb,show Words.EV s=_ from((AB c1).trans ((AB c2).trans ((AB c3).trans ((AB c9).trans ((AB c10).trans ((AB c11).trans ((AB c12).trans ((AB c13).trans ((AB c17).trans (AB c18))))))))))];rfl
instance instP47:DI Tryz.prog 47 (type_of% @HE):=⟨@HE⟩
theorem SK (b:Nat)(T:AA)(g:Hd)(d:Int)(hg:g.len=T.out.length)(hF:T.Fit)(hd:0≤d∧d < 6)(hn:T.out.length≤80000):Cz Tryz.prog 87 #[.pointer (some ⟨b,0,none⟩), .int .i64 d] [AJ.box b 115 (Ab.enc ⟨T.w,T.b,g⟩),AJ.own g 100 16 (T.out.flatMap Ing.Event.enc)] (fun w=>(GV 0 AD.Be w∧0 ∉ BV [AJ.box b 115 (Ab.enc ⟨T.w,T.b,g⟩),AJ.own g 100 16 (T.out.flatMap Ing.Event.enc)])) (fun v B=>∃ g':Hd,v = .tuple #[]∧g'.len=(T.walk d).out.length∧B = [AJ.box b 115 (Ab.enc ⟨(T.walk d).w,(T.walk d).b,g'⟩),AJ.own g' 100 16 ((T.walk d).out.flatMap Ing.Event.enc)]):=by
 intro w hS0 hH
 obtain⟨gl0,gm0⟩:=hH
 have hb:=hF.b
 have hr:=hF.room
 have hx:=hF.exit hd.1 hd.2
 have hop:=AA.W6 hd.1
 refine AR _ _ Tryz.func87 J J J (hS0) ?_
 refine W ?_
 refine Ey 2 8 J J (by kernel_rfl) ?_ ?_
 ·
  refine W ?_
  refine Cl (.c .h .n) (B6 _ T _ hF) (fun v1 B hv=>?_)
  obtain⟨rfl,rfl⟩:=hv
  refine W ?_
  intro b1
  refine⟨fun c1 c1p=>?_,fun c1 c1p=>?_⟩
  ·
   refine W ?_
   refine Cl (.c (.t .h) (.c (.t .h) .n)) (Au _ _ _ _ hg hb (by omega)) (fun v2 B hv=>?_)
   obtain⟨y3,rfl,y4,rfl⟩:=hv
   refine W ?_
   intro w1 hS
   have hS:=(hS.perm (AK.perm (.c .h (.c .h .n)))).AM
   have hq:T.walk d=_:=(AN c1)
   refine⟨_,⟨?gq1,J,?g9l1,?g9B1⟩,hS⟩
   case g9B1=>rw [hq];(try rfl)
   case g9l1=>rw [hq];assumption
  refine W ?_
  refine⟨fun c2 c2p=>?_,fun c2 c2p=>?_⟩
  ·
   refine W ?_
   refine Cl (.c (.t .h) (.c (.t .h) .n)) (Au _ _ _ _ hg hb (by omega)) (fun v5 B hv=>?_)
   obtain⟨y6,rfl,y7,rfl⟩:=hv
   refine W ?_
   intro w1 hS
   have hS:=(hS.perm (AK.perm (.c .h (.c .h .n)))).AM
   have hq:T.walk d=_:=((AB c1).trans (AN c2))
   refine⟨_,⟨?gq2,J,?g9l2,?g9B2⟩,hS⟩
   case g9B2=>rw [hq];(try rfl)
   case g9l2=>rw [hq];assumption
  have gm:=AA.Lt (hF.Am { AA.Dn 1 with other:=-1,dir:=d,n:=0,AQ:= [],text:= [] }) (r:=(T.w.Ad.at T.me.room).BH.at d - 1) (by have h0:¬ (T.w.Ad.at (T.w.AF.at T.b).room).BH.at d=0:=of_decide_eq_false c1;show 0≤(T.w.Ad.at (T.w.AF.at T.b).room).BH.at d - 1∧(T.w.Ad.at (T.w.AF.at T.b).room).BH.at d - 1 < 6;omega)
  refine W ?_
  refine Cl (.c (.t .h) (.c (.t .h) .n)) (BI _ T _ 1 (-1) d 0 [] [] hg hb (show(-1:Int) < 6 by decide) (by omega)) (fun v8 B hv=>?_)
  obtain⟨y9,rfl,y10,rfl⟩:=hv
  refine Ws 7 ?_
  refine CY (fun _=> .h) (congrArg (fun q=>Ab.enc ⟨q,_,_⟩) (AA.Pt (AA.Am T { AA.Dn 1 with other:=-1,dir:=d,n:=0,AQ:= [],text:= [] }) hb _)) ?_
  refine W ?_
  refine Cl (.c .h (.c .h .n)) (BI _ (AA.Ha (AA.Am T { AA.Dn 1 with other:=-1,dir:=d,n:=0,AQ:= [],text:= [] }) ((T.w.Ad.at T.me.room).BH.at d - 1)) _ 2 (-1) ((d+3).tmod 6) 0 [] [] (by assumption) hb (show(-1:Int) < 6 by decide) (show(AA.out (AA.Am T { AA.Dn 1 with other:=-1,dir:=d,n:=0,AQ:= [],text:= [] })).length≤100000 by simp only [AA.BG];omega)) (fun v11 B hv=>?_)
  obtain⟨y12,rfl,y13,rfl⟩:=hv
  refine W ?_
  refine Cm (.c .h (.c .h .n)) (FZ _ (AA.Am (AA.Ha (AA.Am T { AA.Dn 1 with other:=-1,dir:=d,n:=0,AQ:= [],text:= [] }) ((T.w.Ad.at T.me.room).BH.at d - 1)) { AA.Dn 2 with other:=-1,dir:=(d+3).tmod 6,n:=0,AQ:= [],text:= [] }) _ y13 (gm.fit.Fc J J) (show _≤90000 by simp only [AA.BG];show(AA.out (AA.Am T { AA.Dn 1 with other:=-1,dir:=d,n:=0,AQ:= [],text:= [] })).length+1≤90000;simp only [AA.BG];omega)) (fun v14 B hv=>?_)
  obtain⟨y15,rfl,y16,rfl⟩:=hv
  refine W ?_
  intro w1 hS
  have hS:=(hS.perm (AK.perm (.c .h (.c .h .n)))).AM
  have hq:T.walk d=_:=((AB c1).trans (AB c2))
  rw [AA.Sl hd.1 hd.2] at hq
  refine⟨_,⟨?gq3,J,?g9l3,?g9B3⟩,hS⟩
  case g9B3=>rw [hq];(try rfl)
  case g9l3=>rw [hq];assumption
 ·
  refine W ?_
  intro b2
  refine Cl (.c (.t .h) .n) (B6 _ T _ hF) (fun v17 B hv=>?_)
  obtain⟨rfl,rfl⟩:=hv
  refine W ?_
  refine⟨fun c3 c3p=>?_,fun c3 c3p=>?_⟩
  ·
   refine W ?_
   refine Cl (.c .h (.c (.t .h) .n)) (Au _ _ _ _ hg hb (by omega)) (fun v18 B hv=>?_)
   obtain⟨y19,rfl,y20,rfl⟩:=hv
   refine W ?_
   intro w1 hS
   have hS:=(hS.perm (AK.perm (.c .h (.c .h .n)))).AM
   have hq:T.walk d=_:=(AN c3)
   refine⟨_,⟨?gq4,J,?g9l4,?g9B4⟩,hS⟩
   case g9B4=>rw [hq];(try rfl)
   case g9l4=>rw [hq];assumption
  refine W ?_
  refine⟨fun c4 c4p=>?_,fun c4 c4p=>?_⟩
  ·
   refine W ?_
   refine Cl (.c .h (.c (.t .h) .n)) (Au _ _ _ _ hg hb (by omega)) (fun v21 B hv=>?_)
   obtain⟨y22,rfl,y23,rfl⟩:=hv
   refine W ?_
   intro w1 hS
   have hS:=(hS.perm (AK.perm (.c .h (.c .h .n)))).AM
   have hq:T.walk d=_:=((AB c3).trans (AN c4))
   refine⟨_,⟨?gq5,J,?g9l5,?g9B5⟩,hS⟩
   case g9B5=>rw [hq];(try rfl)
   case g9l5=>rw [hq];assumption
  have gm:=AA.Lt (hF.Am { AA.Dn 1 with other:=-1,dir:=d,n:=0,AQ:= [],text:= [] }) (r:=(T.w.Ad.at T.me.room).BH.at d - 1) (by have h0:¬ (T.w.Ad.at (T.w.AF.at T.b).room).BH.at d=0:=of_decide_eq_false c3;show 0≤(T.w.Ad.at (T.w.AF.at T.b).room).BH.at d - 1∧(T.w.Ad.at (T.w.AF.at T.b).room).BH.at d - 1 < 6;omega)
  refine W ?_
  refine Cl (.c .h (.c (.t .h) .n)) (BI _ T _ 1 (-1) d 0 [] [] hg hb (show(-1:Int) < 6 by decide) (by omega)) (fun v24 B hv=>?_)
  obtain⟨y25,rfl,y26,rfl⟩:=hv
  refine Ws 7 ?_
  refine CY (fun _=> .h) (congrArg (fun q=>Ab.enc ⟨q,_,_⟩) (AA.Pt (AA.Am T { AA.Dn 1 with other:=-1,dir:=d,n:=0,AQ:= [],text:= [] }) hb _)) ?_
  refine W ?_
  refine Cl (.c .h (.c .h .n)) (BI _ (AA.Ha (AA.Am T { AA.Dn 1 with other:=-1,dir:=d,n:=0,AQ:= [],text:= [] }) ((T.w.Ad.at T.me.room).BH.at d - 1)) _ 2 (-1) ((d+3).tmod 6) 0 [] [] (by assumption) hb (show(-1:Int) < 6 by decide) (show(AA.out (AA.Am T { AA.Dn 1 with other:=-1,dir:=d,n:=0,AQ:= [],text:= [] })).length≤100000 by simp only [AA.BG];omega)) (fun v27 B hv=>?_)
  obtain⟨y28,rfl,y29,rfl⟩:=hv
  refine W ?_
  refine Cm (.c .h (.c .h .n)) (FZ _ (AA.Am (AA.Ha (AA.Am T { AA.Dn 1 with other:=-1,dir:=d,n:=0,AQ:= [],text:= [] }) ((T.w.Ad.at T.me.room).BH.at d - 1)) { AA.Dn 2 with other:=-1,dir:=(d+3).tmod 6,n:=0,AQ:= [],text:= [] }) _ y29 (gm.fit.Fc J J) (show _≤90000 by simp only [AA.BG];show(AA.out (AA.Am T { AA.Dn 1 with other:=-1,dir:=d,n:=0,AQ:= [],text:= [] })).length+1≤90000;simp only [AA.BG];omega)) (fun v30 B hv=>?_)
  obtain⟨y31,rfl,y32,rfl⟩:=hv
  refine W ?_
  intro w1 hS
  have hS:=(hS.perm (AK.perm (.c .h (.c .h .n)))).AM
  have hq:T.walk d=_:=((AB c3).trans (AB c4))
  rw [AA.Sl hd.1 hd.2] at hq
  refine⟨_,⟨?gq6,J,?g9l6,?g9B6⟩,hS⟩
  case g9B6=>rw [hq];(try rfl)
  case g9l6=>rw [hq];assumption
theorem HI (b:Nat)(T:AA)(g:Hd)(hF:T.Fit):Fu Tryz.prog 93 #[.pointer (some ⟨b,0,none⟩)] [AJ.box b 115 (Ab.enc ⟨T.w,T.b,g⟩)] (fun v B=>∃ f:Hd,v=f.val∧f.len=(T.own).length∧B = [AJ.box b 115 (Ab.enc ⟨T.w,T.b,g⟩),AJ.own f 3 1 ((T.own).flatMap AT)]):=by
 intro w hS0
 have hb:=hF.b
 have hr:=hF.room
 refine AR _ _ Tryz.func93 J J J (hS0) ?_
 refine W ?_
 refine Cl .n (Hh _ _ _) (fun v1 B hv=>?_)
 obtain⟨y2,rfl,y3,rfl⟩:=hv
 refine W ?_
 intro w1 hS
 have hS:=(hS.perm (AK.perm (.c (.t .h) (.c .h .n)))).AM
 exact⟨_,⟨_,J,by assumption,rfl⟩,hS⟩
theorem D8 (b:Nat)(T:AA)(g:Hd)(f:Hd)(l:List Int)(z:Int)(u:AL)(a:Bool)(hF:T.Fit)(hf:f.len=l.length)(hl:l.length≤100)(hi:∀ i∈l,0≤i∧i < 9)(hz:-9223372036854775808≤z∧z≤9223372036854775807):Fu Tryz.prog 135 #[.pointer (some ⟨b,0,none⟩),f.val, .int .i64 z,Ag u, .bool a] [AJ.box b 115 (Ab.enc ⟨T.w,T.b,g⟩),AJ.own f 3 1 (l.flatMap AT)] (fun v B=>∃ h:Hd,v=h.val∧h.len=(AA.AS T.w l z u a).length∧B = [AJ.box b 115 (Ab.enc ⟨T.w,T.b,g⟩),AJ.own f 3 1 (l.flatMap AT),AJ.own h 3 1 ((AA.AS T.w l z u a).flatMap AT)]):=by
 intro w hS0
 have hb:=hF.b
 have hr:=hF.room
 refine AR _ _ Tryz.func135 J J J (hS0) ?_
 refine W ?_
 refine Af (.t8 2 11 16 0 3 4 14 15) ?_
 refine CG AT 3 1 ?_
 refine D2 (fun(k:Int) (xs:List Int) (q:Int) (h:Hd)=>0≤k∧k≤(l.length:Int)∧AA.GG T.w u a l z=xs++AA.GG T.w u a (l.drop k.toNat) q∧h.len=xs.length∧xs.length≤k.toNat∧-9223372036854775808≤q∧q≤9223372036854775807) (fun(k:Int) (xs:List Int) (q:Int) (h:Hd)=>((l.length:Int) - k).toNat) (fun(k:Int) (xs:List Int) (q:Int) (h:Hd)=> [(2, .int .i64 q),(11,h.val),(16, .int .i64 k)]) (fun(k:Int) (xs:List Int) (q:Int) (h:Hd)=> [AJ.own h 3 1 (xs.flatMap AT)]) (0) ([]) (z) (_) ?_ J J (fun k xs q h hI1=>?_)
 · exact⟨by omega,by omega,rfl,rfl,by simp,hz⟩
 obtain⟨hI11,hI12,hI13,hI14,hI15,hI16⟩:=hI1
 refine W ?_
 refine⟨fun c1 c1p=>?_,fun c1 c1p=>?_⟩
 ·
  have hx:=hi _ (Aa.CT (xs:=l) (i:=k.toNat) (by omega))
  have hdr:=AA.fO q
  have hst:=AA.U0 (w:=T.w) (u:=u) (a:=a) (l:=l) (z:=q) hI11 (by omega)
  refine W ?_
  refine⟨fun c2 c2p=>?_,fun c2 c2p=>?_⟩
  ·
   have cs:AA.skip T.w u (l.getD k.toNat 0)=true:=c2
   refine W ?_
   refine BR (k+1) _ _ _ ?_ ?_ (.t8 2 11 16 0 3 4 14 15) (.refl _)
   · rw [AN cs] at hst
     exact⟨by omega,by omega,by rw [hI13,hst],(by(try dsimp only at *)<;>(try simp only [List.length_append,List.length_cons,List.length_nil])<;>omega),(by(try simp only [List.length_append,List.length_cons,List.length_nil]);omega),hI16⟩
   · omega
  have cs:AA.skip T.w u (l.getD k.toNat 0)=false:=c2
  refine W ?_
  refine Gt (ZK J J J) ?_
  refine W ?_
  refine⟨fun c3 c3p=>?_,fun c3 c3p=>?_⟩
  ·
   have ct:(a || decide (AA.dn q=0))=true:=c3
   refine W ?_
   intro b1 h1 h1l h1z
   refine BR (k+1) _ _ _ ?_ ?_ (.t8 2 11 16 0 3 4 14 15) (.cons _ (.refl _))
   · rw [AB cs,AN ct] at hst
     exact⟨by omega,by omega,by rw [hI13,hst];simp [List.append_assoc];(try rfl),(by(try dsimp only at *)<;>(try simp only [List.length_append,List.length_cons,List.length_nil])<;>omega),(by(try simp only [List.length_append,List.length_cons,List.length_nil]);omega),hdr⟩
   · omega
  have ct:(a || decide (AA.dn q=0))=false:=c3
  refine W ?_
  refine BR (k+1) _ _ _ ?_ ?_ (.t8 2 11 16 0 3 4 14 15) (.refl _)
  · rw [AB cs,AB ct] at hst
    exact⟨by omega,by omega,by rw [hI13,hst];(try rfl),(by(try dsimp only at *)<;>(try simp only [List.length_append,List.length_cons,List.length_nil])<;>omega),(by(try simp only [List.length_append,List.length_cons,List.length_nil]);omega),hdr⟩
  · omega
 obtain rfl:k=(l.length:Int):=by omega
 rw [AA.Ez,AA.GG,List.append_nil] at hI13
 have hq:AA.AS T.w l z u a=xs:=(AA.WN T.w u a hl hz.1 hz.2).symm.trans hI13
 refine W ?_
 intro w1 hS
 have hS:=(hS.perm (AK.perm (.c (.t .h) (.c (.t .h) (.c .h .n))))).AM
 refine⟨_,⟨_,J,?g9l,?g9B⟩,hS⟩
 case g9B=>rw [hq]
 case g9l=>rw [hq];exact hI14
theorem LI (b:Nat)(T:AA)(g:Hd)(u:AL)(hg:g.len=T.out.length)(hF:T.Fit)(hu:u.length≤5000000)(hn:T.out.length≤99000):Fu Tryz.prog 133 #[.pointer (some ⟨b,0,none⟩),Ag u] [AJ.box b 115 (Ab.enc ⟨T.w,T.b,g⟩),AJ.own g 100 16 (T.out.flatMap Ing.Event.enc)] (fun v B=>∃ g':Hd,v = .int .i64 (T.De u)∧g'.len=((T.box u).1).out.length∧B = [AJ.box b 115 (Ab.enc ⟨((T.box u).1).w,((T.box u).1).b,g'⟩),AJ.own g' 100 16 (((T.box u).1).out.flatMap Ing.Event.enc)]):=by
 intro w hS0
 have hb:=hF.b
 have hr:=hF.room
 have ho9:=T.Fe
 have hs9:=T.DC
 refine AR _ _ Tryz.func133 J J J (hS0) ?_
 refine W ?_
 refine⟨fun c1 c1p=>?_,fun c1 c1p=>?_⟩
 ·
  have hnf:=Words.I1 u (of_decide_eq_true (Bool.and_eq_true_iff.1 c1).1)
  refine W ?_
  refine Cl (.c .h .n) (HI _ T _ hF) (fun v1 B hv=>?_)
  obtain⟨y2,rfl,y3,rfl⟩:=hv
  refine W ?_
  refine Cl (.c .h .n) (D4 _ T _ hF) (fun v5 B hv=>?_)
  obtain⟨y6,rfl,y7,rfl⟩:=hv
  refine W ?_
  intro h9 h9l h9z
  refine Cl (.c .h (.c (.t .h) .n)) (D8 _ T _ _ (T.own++T.seen) _ _ _ hF (by rw [List.length_append];omega) (by rw [List.length_append];omega) (fun i hi=>AA.JT hi) (by omega)) (fun v10 B hv=>?_)
  obtain⟨y11,rfl,y12,rfl⟩:=hv
  refine Ws 5 ?_
  have hx0:=AA.KI (l:=T.Jq u) (fun i hi=>AA.JT (AA.CO hi))
  refine W ?_
  refine⟨fun c2 c2p=>?_,fun c2 c2p=>?_⟩
  ·
   rw [y12] at c2 c2p
   refine W ?_
   refine Cl (.c .h (.c (.t (.t (.t .h))) .n)) (Au _ _ _ _ hg hb (by omega)) (fun v14 B hv=>?_)
   obtain⟨y15,rfl,y16,rfl⟩:=hv
   refine W ?_
   intro w1 hS
   have hS:=(hS.perm (AK.perm (.c .h (.c .h .n)))).AM
   have hq:T.box u=_:=AA.cQ c1 c2
   have hN:=AA.OI hq
   refine⟨_,⟨?gq1,?g9v1,?g9l1,?g9B1⟩,hS⟩
   case g9B1=>rw [hq];(try rfl)
   case g9v1=>rw [hN];(try rfl)
   case g9l1=>rw [hq];assumption
  rw [y12] at c2 c2p
  refine W ?_
  refine⟨fun c3 c3p=>?_,fun c3 c3p=>?_⟩
  ·
   refine W ?_
   refine Cl (.c .h (.c (.t (.t (.t .h))) .n)) (Au _ _ _ _ hg hb (by omega)) (fun v17 B hv=>?_)
   obtain⟨y18,rfl,y19,rfl⟩:=hv
   refine W ?_
   intro w1 hS
   have hS:=(hS.perm (AK.perm (.c .h (.c .h .n)))).AM
   have hq:T.box u=_:=(AA.Td c1 c2).trans (AN c3)
   have hN:=AA.OI hq
   refine⟨_,⟨?gq2,?g9v2,?g9l2,?g9B2⟩,hS⟩
   case g9B2=>rw [hq];(try rfl)
   case g9v2=>rw [hN];(try rfl)
   case g9l2=>rw [hq];assumption
  refine W ?_
  intro w1 hS
  have hS:=(hS.perm (AK.perm (.c .h (.c (.t (.t (.t .h))) .n)))).AM
  have hq:T.box u=_:=(AA.Td c1 c2).trans (AB c3)
  have hN:=AA.OI hq
  refine⟨_,⟨?gq3,?g9v3,?g9l3,?g9B3⟩,hS⟩
  case g9B3=>rw [hq];(try rfl)
  case g9v3=>rw [hN];(try rfl)
  case g9l3=>rw [hq];assumption
 refine W ?_
 refine Cl (.c .h (.c .h .n)) (Au _ _ _ _ hg hb (by omega)) (fun v20 B hv=>?_)
 obtain⟨y21,rfl,y22,rfl⟩:=hv
 refine W ?_
 intro w1 hS
 have hS:=(hS.perm (AK.perm (.c .h (.c .h .n)))).AM
 have hq:T.box u=_:=AA.cP (T:=T) c1
 have hN:=AA.OI hq
 refine⟨_,⟨?gq4,?g9v4,?g9l4,?g9B4⟩,hS⟩
 case g9B4=>rw [hq];(try rfl)
 case g9v4=>rw [hN];(try rfl)
 case g9l4=>rw [hq];assumption
theorem Tr (b:Nat)(T:AA)(g:Hd)(o:Order)(hg:g.len=T.out.length)(hF:T.Fit)(hu:o.second.length≤5000000)(hn:T.out.length≤90000)(hz:-9223372036854775808≤o.nth∧o.nth≤9223372036854775807):Cz Tryz.prog 88 #[.pointer (some ⟨b,0,none⟩), .agg o.enc.toArray] [AJ.box b 115 (Ab.enc ⟨T.w,T.b,g⟩),AJ.own g 100 16 (T.out.flatMap Ing.Event.enc)] (fun w=>(Eo 8 w∧8 ∉ BV [AJ.box b 115 (Ab.enc ⟨T.w,T.b,g⟩),AJ.own g 100 16 (T.out.flatMap Ing.Event.enc)])∧(Eo 9 w∧9 ∉ BV [AJ.box b 115 (Ab.enc ⟨T.w,T.b,g⟩),AJ.own g 100 16 (T.out.flatMap Ing.Event.enc)])) (fun v B=>∃ g':Hd,v = .tuple #[]∧g'.len=(T.get o).out.length∧B = [AJ.box b 115 (Ab.enc ⟨(T.get o).w,(T.get o).b,g'⟩),AJ.own g' 100 16 ((T.get o).out.flatMap Ing.Event.enc)]):=by
 intro w hS0 hH
 obtain⟨⟨gl0,gm0⟩,⟨gl1,gm1⟩⟩:=hH
 have hb:=hF.b
 have hr:=hF.room
 refine AR _ _ Tryz.func88 J J J (hS0) ?_
 refine W ?_
 intro b1
 refine Cl (.c (.t .h) .n) (D4 _ T _ hF) (fun v1 B hv=>?_)
 obtain⟨y2,rfl,y3,rfl⟩:=hv
 refine W ?_
 refine⟨fun c1 c1p=>?_,fun c1 c1p=>?_⟩
 ·
  refine W ?_
  refine Cl (.c .h (.c (.t (.t .h)) .n)) (LI _ T _ _ hg hF hu (by omega)) (fun v5 B hv=>?_)
  obtain⟨y6,rfl,y7,rfl⟩:=hv
  refine W ?_
  refine⟨fun c2 c2p=>?_,fun c2 c2p=>?_⟩
  ·
   refine W ?_
   intro w1 hS
   have hS:=(hS.perm (AK.perm (.c .h (.c .h .n)))).AM
   have hq:T.get o=_:=AA.fV c1 c2
   refine⟨_,⟨?gq1,J,?g9l1,?g9B1⟩,hS⟩
   case g9B1=>rw [hq];(try rfl)
   case g9l1=>rw [hq];assumption
  refine W ?_
  refine Cl .n (Hh _ _ _) (fun v8 B hv=>?_)
  obtain⟨y9,rfl,y10,rfl⟩:=hv
  refine W ?_
  refine Cl (.c (.t .h) (.c .h .n)) (D8 _ (T.box o.second).1 _ _ ((T.box o.second).1.w.has 2 (T.De o.second)) _ _ _ (hF.Fc (T.KD _).1 (T.KD _).2) (by assumption) (Nat.le_trans (AD.F7 _ _ _) (by decide)) (fun i hi=>AD.E4 hi) (by first | exact hz | (dsimp only;exact hz))) (fun v12 B hv=>?_)
  obtain⟨y13,rfl,y14,rfl⟩:=hv
  refine W ?_
  refine⟨fun c3 c3p=>?_,fun c3 c3p=>?_⟩
  ·
   rw [y14] at c3
   refine W ?_
   refine Cl (.c .h (.c (.t (.t .h)) .n)) (Au _ (T.box o.second).1 _ _ (by assumption) (by rw [(T.KD _).2];exact hb) (by have:=T.EL o.second;omega)) (fun v16 B hv=>?_)
   obtain⟨y17,rfl,y18,rfl⟩:=hv
   refine W ?_
   refine Af (.t4 42 0 40 41) ?_
   refine AY (.t .h) ?_
   refine AY (.t .h) ?_
   refine Bo (fun(k:Int) (X:AA) (h:Hd)=>0≤k∧k≤((AA.AS (T.box o.second).1.w ((T.box o.second).1.w.has 2 (T.De o.second)) o.nth o.name o.An).length:Int)∧T.get o=X.CL ((AA.AS (T.box o.second).1.w ((T.box o.second).1.w.has 2 (T.De o.second)) o.nth o.name o.An).drop k.toNat)∧X.b=T.b∧(X.out.length:Int)≤T.out.length+2+k∧h.len=X.out.length∧((AA.AS (T.box o.second).1.w ((T.box o.second).1.w.has 2 (T.De o.second)) o.nth o.name o.An).length:Int)≤9) (fun(k:Int) (X:AA) (h:Hd)=>(((AA.AS (T.box o.second).1.w ((T.box o.second).1.w.has 2 (T.De o.second)) o.nth o.name o.An).length:Int) - k).toNat) (fun(k:Int) (X:AA) (h:Hd)=> [(42, .int .i64 k)]) (fun(k:Int) (X:AA) (h:Hd)=> [AJ.box b 115 (Ab.enc ⟨X.w,X.b,h⟩),AJ.own h 100 16 (X.out.flatMap Ing.Event.enc)]) (0) (_) (_) ?_ J J (fun k X h hI1=>?_)
   · exact⟨by omega,by omega,(AA.Wu c1 c2).trans (congrArg (fun q=>AA.CL q _) (AN c3)),(T.KD _).2,by have:=T.EL o.second;(try simp only [AA.BQ]);omega,by assumption,by have:=(AA.C9 (T.box o.second).1.w ((T.box o.second).1.w.has 2 (T.De o.second)) o.nth o.name o.An).length_le;have:=AD.F7 (T.box o.second).1.w 2 (T.De o.second);omega⟩
   obtain⟨hI11,hI12,hI13,hI14,hI15,hI16,hI17⟩:=hI1
   refine W ?_
   refine⟨fun c4 c4p=>?_,fun c4 c4p=>?_⟩
   ·
    have hx:0≤(AA.AS (T.box o.second).1.w ((T.box o.second).1.w.has 2 (T.De o.second)) o.nth o.name o.An).getD k.toNat 0∧(AA.AS (T.box o.second).1.w ((T.box o.second).1.w.has 2 (T.De o.second)) o.nth o.name o.An).getD k.toNat 0 < 9:=(fun i hi=>AD.E4 (AA.CO hi)) _ (Aa.CT (xs:=(AA.AS (T.box o.second).1.w ((T.box o.second).1.w.has 2 (T.De o.second)) o.nth o.name o.An)) (i:=k.toNat) (by omega))
    refine Ws 13 ?_
    refine CY (fun _=> .h) (congrArg (fun q=>Ab.enc ⟨q,_,_⟩) (AA.DM X hx.1 hx.2 1 X.b)) ?_
    refine W ?_
    refine Cl (.c .h (.c .h .n)) (BI _ (X.place ((AA.AS (T.box o.second).1.w ((T.box o.second).1.w.has 2 (T.De o.second)) o.nth o.name o.An).getD k.toNat 0) 1 X.b) _ 3 (-1) 0 0 ((X.place ((AA.AS (T.box o.second).1.w ((T.box o.second).1.w.has 2 (T.De o.second)) o.nth o.name o.An).getD k.toNat 0) 1 X.b).w.AH.at ((AA.AS (T.box o.second).1.w ((T.box o.second).1.w.has 2 (T.De o.second)) o.nth o.name o.An).getD k.toNat 0)).name [] (by assumption) (show 0≤X.b∧X.b < 6 by rw [hI14];exact hb) (show(-1:Int) < 6 by decide) (show X.out.length≤100000 by omega)) (fun v19 B hv=>?_)
    obtain⟨y20,rfl,y21,rfl⟩:=hv
    refine W ?_
    refine Ap (k+1) _ _ ?_ ?_ (.t4 42 0 40 41) (.refl _)
    · exact⟨by omega,by omega,by rw [hI13,AA.DQ hI11 (by omega)];(try rfl),hI14,(by simp only [AA.BG] at *;show((X.out.length+1:Nat):Int)≤_;omega),by assumption,hI17⟩
    · omega
   obtain rfl:k=((AA.AS (T.box o.second).1.w ((T.box o.second).1.w.has 2 (T.De o.second)) o.nth o.name o.An).length:Int):=by omega
   rw [AA.Ez] at hI13
   refine W ?_
   intro w1 hS
   have hS:=(hS.perm (AK.perm (.c .h (.c .h .n)))).AM
   refine⟨_,⟨?gq2,J,?g9l2,?g9B2⟩,hS⟩
   case g9B2=>rw [hI13];rfl
   case g9l2=>rw [hI13];exact hI16
  rw [y14] at c3
  refine W ?_
  refine Af (.t4 42 0 40 41) ?_
  refine AY (.t (.t (.t .h))) ?_
  refine AY (.t .h) ?_
  refine Bo (fun(k:Int) (X:AA) (h:Hd)=>0≤k∧k≤((AA.AS (T.box o.second).1.w ((T.box o.second).1.w.has 2 (T.De o.second)) o.nth o.name o.An).length:Int)∧T.get o=X.CL ((AA.AS (T.box o.second).1.w ((T.box o.second).1.w.has 2 (T.De o.second)) o.nth o.name o.An).drop k.toNat)∧X.b=T.b∧(X.out.length:Int)≤T.out.length+2+k∧h.len=X.out.length∧((AA.AS (T.box o.second).1.w ((T.box o.second).1.w.has 2 (T.De o.second)) o.nth o.name o.An).length:Int)≤9) (fun(k:Int) (X:AA) (h:Hd)=>(((AA.AS (T.box o.second).1.w ((T.box o.second).1.w.has 2 (T.De o.second)) o.nth o.name o.An).length:Int) - k).toNat) (fun(k:Int) (X:AA) (h:Hd)=> [(42, .int .i64 k)]) (fun(k:Int) (X:AA) (h:Hd)=> [AJ.box b 115 (Ab.enc ⟨X.w,X.b,h⟩),AJ.own h 100 16 (X.out.flatMap Ing.Event.enc)]) (0) (_) (_) ?_ J J (fun k X h hI1=>?_)
  · exact⟨by omega,by omega,(AA.Wu c1 c2).trans (congrArg (fun q=>AA.CL q _) (AB c3)),(T.KD _).2,by have:=T.EL o.second;(try simp only [AA.BQ]);omega,by assumption,by have:=(AA.C9 (T.box o.second).1.w ((T.box o.second).1.w.has 2 (T.De o.second)) o.nth o.name o.An).length_le;have:=AD.F7 (T.box o.second).1.w 2 (T.De o.second);omega⟩
  obtain⟨hI11,hI12,hI13,hI14,hI15,hI16,hI17⟩:=hI1
  refine W ?_
  refine⟨fun c5 c5p=>?_,fun c5 c5p=>?_⟩
  ·
   have hx:0≤(AA.AS (T.box o.second).1.w ((T.box o.second).1.w.has 2 (T.De o.second)) o.nth o.name o.An).getD k.toNat 0∧(AA.AS (T.box o.second).1.w ((T.box o.second).1.w.has 2 (T.De o.second)) o.nth o.name o.An).getD k.toNat 0 < 9:=(fun i hi=>AD.E4 (AA.CO hi)) _ (Aa.CT (xs:=(AA.AS (T.box o.second).1.w ((T.box o.second).1.w.has 2 (T.De o.second)) o.nth o.name o.An)) (i:=k.toNat) (by omega))
   refine Ws 13 ?_
   refine CY (fun _=> .h) (congrArg (fun q=>Ab.enc ⟨q,_,_⟩) (AA.DM X hx.1 hx.2 1 X.b)) ?_
   refine W ?_
   refine Cl (.c .h (.c .h .n)) (BI _ (X.place ((AA.AS (T.box o.second).1.w ((T.box o.second).1.w.has 2 (T.De o.second)) o.nth o.name o.An).getD k.toNat 0) 1 X.b) _ 3 (-1) 0 0 ((X.place ((AA.AS (T.box o.second).1.w ((T.box o.second).1.w.has 2 (T.De o.second)) o.nth o.name o.An).getD k.toNat 0) 1 X.b).w.AH.at ((AA.AS (T.box o.second).1.w ((T.box o.second).1.w.has 2 (T.De o.second)) o.nth o.name o.An).getD k.toNat 0)).name [] (by assumption) (show 0≤X.b∧X.b < 6 by rw [hI14];exact hb) (show(-1:Int) < 6 by decide) (show X.out.length≤100000 by omega)) (fun v22 B hv=>?_)
   obtain⟨y23,rfl,y24,rfl⟩:=hv
   refine W ?_
   refine Ap (k+1) _ _ ?_ ?_ (.t4 42 0 40 41) (.refl _)
   · exact⟨by omega,by omega,by rw [hI13,AA.DQ hI11 (by omega)];(try rfl),hI14,(by simp only [AA.BG] at *;show((X.out.length+1:Nat):Int)≤_;omega),by assumption,hI17⟩
   · omega
  obtain rfl:k=((AA.AS (T.box o.second).1.w ((T.box o.second).1.w.has 2 (T.De o.second)) o.nth o.name o.An).length:Int):=by omega
  rw [AA.Ez] at hI13
  refine W ?_
  intro w1 hS
  have hS:=(hS.perm (AK.perm (.c .h (.c .h .n)))).AM
  refine⟨_,⟨?gq3,J,?g9l3,?g9B3⟩,hS⟩
  case g9B3=>rw [hI13];rfl
  case g9l3=>rw [hI13];exact hI16
 refine W ?_
 refine Cl (.c .h (.c .h .n)) (D8 _ T _ _ T.seen _ _ _ hF (by assumption) (Nat.le_trans T.DC (by decide)) (fun i hi=>AA.Gp hi) (by first | exact hz | (dsimp only;exact hz))) (fun v25 B hv=>?_)
 obtain⟨y26,rfl,y27,rfl⟩:=hv
 refine W ?_
 refine⟨fun c6 c6p=>?_,fun c6 c6p=>?_⟩
 ·
  rw [y27] at c6
  refine W ?_
  refine Cl (.c .h (.c (.t (.t (.t .h))) .n)) (Au _ T _ _ (by assumption) (by exact hb) (by have:=T.EL o.second;omega)) (fun v29 B hv=>?_)
  obtain⟨y30,rfl,y31,rfl⟩:=hv
  refine W ?_
  refine Af (.t4 42 0 40 41) ?_
  refine AY (.t .h) ?_
  refine AY (.t .h) ?_
  refine Bo (fun(k:Int) (X:AA) (h:Hd)=>0≤k∧k≤((AA.AS T.w T.seen o.nth o.name o.An).length:Int)∧T.get o=X.CL ((AA.AS T.w T.seen o.nth o.name o.An).drop k.toNat)∧X.b=T.b∧(X.out.length:Int)≤T.out.length+2+k∧h.len=X.out.length∧((AA.AS T.w T.seen o.nth o.name o.An).length:Int)≤9) (fun(k:Int) (X:AA) (h:Hd)=>(((AA.AS T.w T.seen o.nth o.name o.An).length:Int) - k).toNat) (fun(k:Int) (X:AA) (h:Hd)=> [(42, .int .i64 k)]) (fun(k:Int) (X:AA) (h:Hd)=> [AJ.box b 115 (Ab.enc ⟨X.w,X.b,h⟩),AJ.own h 100 16 (X.out.flatMap Ing.Event.enc)]) (0) (_) (_) ?_ J J (fun k X h hI1=>?_)
  · exact⟨by omega,by omega,(AA.Tu c1).trans (congrArg (fun q=>AA.CL q _) (AN c6)),rfl,by have:=T.EL o.second;(try simp only [AA.BQ]);omega,by assumption,by have:=(AA.C9 T.w T.seen o.nth o.name o.An).length_le;have:=T.DC;omega⟩
  obtain⟨hI11,hI12,hI13,hI14,hI15,hI16,hI17⟩:=hI1
  refine W ?_
  refine⟨fun c7 c7p=>?_,fun c7 c7p=>?_⟩
  ·
   have hx:0≤(AA.AS T.w T.seen o.nth o.name o.An).getD k.toNat 0∧(AA.AS T.w T.seen o.nth o.name o.An).getD k.toNat 0 < 9:=(fun i hi=>AA.Gp (AA.CO hi)) _ (Aa.CT (xs:=(AA.AS T.w T.seen o.nth o.name o.An)) (i:=k.toNat) (by omega))
   refine Ws 13 ?_
   refine CY (fun _=> .h) (congrArg (fun q=>Ab.enc ⟨q,_,_⟩) (AA.DM X hx.1 hx.2 1 X.b)) ?_
   refine W ?_
   refine Cl (.c .h (.c .h .n)) (BI _ (X.place ((AA.AS T.w T.seen o.nth o.name o.An).getD k.toNat 0) 1 X.b) _ 3 (-1) 0 0 ((X.place ((AA.AS T.w T.seen o.nth o.name o.An).getD k.toNat 0) 1 X.b).w.AH.at ((AA.AS T.w T.seen o.nth o.name o.An).getD k.toNat 0)).name [] (by assumption) (show 0≤X.b∧X.b < 6 by rw [hI14];exact hb) (show(-1:Int) < 6 by decide) (show X.out.length≤100000 by omega)) (fun v32 B hv=>?_)
   obtain⟨y33,rfl,y34,rfl⟩:=hv
   refine W ?_
   refine Ap (k+1) _ _ ?_ ?_ (.t4 42 0 40 41) (.refl _)
   · exact⟨by omega,by omega,by rw [hI13,AA.DQ hI11 (by omega)];(try rfl),hI14,(by simp only [AA.BG] at *;show((X.out.length+1:Nat):Int)≤_;omega),by assumption,hI17⟩
   · omega
  obtain rfl:k=((AA.AS T.w T.seen o.nth o.name o.An).length:Int):=by omega
  rw [AA.Ez] at hI13
  refine W ?_
  intro w1 hS
  have hS:=(hS.perm (AK.perm (.c .h (.c .h .n)))).AM
  refine⟨_,⟨?gq4,J,?g9l4,?g9B4⟩,hS⟩
  case g9B4=>rw [hI13];rfl
  case g9l4=>rw [hI13];exact hI16
 rw [y27] at c6
 refine W ?_
 refine Af (.t4 42 0 40 41) ?_
 refine AY (.t (.t (.t (.t .h)))) ?_
 refine AY (.t .h) ?_
 refine Bo (fun(k:Int) (X:AA) (h:Hd)=>0≤k∧k≤((AA.AS T.w T.seen o.nth o.name o.An).length:Int)∧T.get o=X.CL ((AA.AS T.w T.seen o.nth o.name o.An).drop k.toNat)∧X.b=T.b∧(X.out.length:Int)≤T.out.length+2+k∧h.len=X.out.length∧((AA.AS T.w T.seen o.nth o.name o.An).length:Int)≤9) (fun(k:Int) (X:AA) (h:Hd)=>(((AA.AS T.w T.seen o.nth o.name o.An).length:Int) - k).toNat) (fun(k:Int) (X:AA) (h:Hd)=> [(42, .int .i64 k)]) (fun(k:Int) (X:AA) (h:Hd)=> [AJ.box b 115 (Ab.enc ⟨X.w,X.b,h⟩),AJ.own h 100 16 (X.out.flatMap Ing.Event.enc)]) (0) (_) (_) ?_ J J (fun k X h hI1=>?_)
 · exact⟨by omega,by omega,(AA.Tu c1).trans (congrArg (fun q=>AA.CL q _) (AB c6)),rfl,by have:=T.EL o.second;(try simp only [AA.BQ]);omega,by assumption,by have:=(AA.C9 T.w T.seen o.nth o.name o.An).length_le;have:=T.DC;omega⟩
 obtain⟨hI11,hI12,hI13,hI14,hI15,hI16,hI17⟩:=hI1
 refine W ?_
 refine⟨fun c8 c8p=>?_,fun c8 c8p=>?_⟩
 ·
  have hx:0≤(AA.AS T.w T.seen o.nth o.name o.An).getD k.toNat 0∧(AA.AS T.w T.seen o.nth o.name o.An).getD k.toNat 0 < 9:=(fun i hi=>AA.Gp (AA.CO hi)) _ (Aa.CT (xs:=(AA.AS T.w T.seen o.nth o.name o.An)) (i:=k.toNat) (by omega))
  refine Ws 13 ?_
  refine CY (fun _=> .h) (congrArg (fun q=>Ab.enc ⟨q,_,_⟩) (AA.DM X hx.1 hx.2 1 X.b)) ?_
  refine W ?_
  refine Cl (.c .h (.c .h .n)) (BI _ (X.place ((AA.AS T.w T.seen o.nth o.name o.An).getD k.toNat 0) 1 X.b) _ 3 (-1) 0 0 ((X.place ((AA.AS T.w T.seen o.nth o.name o.An).getD k.toNat 0) 1 X.b).w.AH.at ((AA.AS T.w T.seen o.nth o.name o.An).getD k.toNat 0)).name [] (by assumption) (show 0≤X.b∧X.b < 6 by rw [hI14];exact hb) (show(-1:Int) < 6 by decide) (show X.out.length≤100000 by omega)) (fun v35 B hv=>?_)
  obtain⟨y36,rfl,y37,rfl⟩:=hv
  refine W ?_
  refine Ap (k+1) _ _ ?_ ?_ (.t4 42 0 40 41) (.refl _)
  · exact⟨by omega,by omega,by rw [hI13,AA.DQ hI11 (by omega)];(try rfl),hI14,(by simp only [AA.BG] at *;show((X.out.length+1:Nat):Int)≤_;omega),by assumption,hI17⟩
  · omega
 obtain rfl:k=((AA.AS T.w T.seen o.nth o.name o.An).length:Int):=by omega
 rw [AA.Ez] at hI13
 refine W ?_
 intro w1 hS
 have hS:=(hS.perm (AK.perm (.c .h (.c .h .n)))).AM
 refine⟨_,⟨?gq5,J,?g9l5,?g9B5⟩,hS⟩
 case g9B5=>rw [hI13];rfl
 case g9l5=>rw [hI13];exact hI16
theorem Iv (b : Nat) (T : AA) (g : Hd) (u : AL) (hg : g.len = T.out.length) (hF : T.Fit) (hu : u.length ≤ 5000000) (hn : T.out.length ≤ 99000) : Fu Tryz.prog 90 #[.pointer (some ⟨b, 0, none⟩), Ag u] [AJ.box b 115 (Ab.enc ⟨T.w, T.b, g⟩), AJ.own g 100 16 (T.out.flatMap Ing.Event.enc)] (fun v B => ∃ g' : Hd, v = .int .i64 (T.EN u) ∧ g'.len = ((T.AU u).1).out.length ∧ B = [AJ.box b 115 (Ab.enc ⟨((T.AU u).1).w, ((T.AU u).1).b, g'⟩), AJ.own g' 100 16 (((T.AU u).1).out.flatMap Ing.Event.enc)]) := by
 intro w hS0
 have hb := hF.b
 have hr := hF.room
 refine AR _ _ Tryz.func90 J J J (hS0) ?_
 refine W ?_
 refine Af (.t6 5 17 0 6 7 8) ?_
 refine CZ (fun (k : Int) (n : Int) => 0 ≤ k ∧ k ≤ 6 ∧ (AA.W4 u = true → T.Fx (Words.Bq u).2.1 6 (Words.Bq u).1 = T.Fx (Words.Bq u).2.1 (6 - k).toNat n ∧ -k ≤ n ∧ n ≤ 99)) (fun (k : Int) (n : Int) => (6 - k).toNat) (fun (k : Int) (n : Int) => [(5, .int .i64 n), (17, .int .i64 k)]) (fun (k : Int) (n : Int) => []) (0) (_) ?_ J J (fun k n hI1 => ?_)
 · exact ⟨by omega, by omega, fun h => ⟨rfl, by have := Words.I1 u (of_decide_eq_true (Bool.and_eq_true_iff.1 h).1); omega, by have := Words.I1 u (of_decide_eq_true (Bool.and_eq_true_iff.1 h).1); omega⟩⟩
 obtain ⟨hI11, hI12, hI13⟩ := hI1
 refine W ?_
 refine ⟨fun c1 c1p => ?_, fun c1 c1p => ?_⟩
 ·
  refine W ?_
  refine ⟨fun c2 c2p => ?_, fun c2 c2p => ?_⟩
  ·
   refine W ?_
   refine BC (k + 1) (n) ?_ ?_ (.t6 5 17 0 6 7 8) (.refl _)
   · exact ⟨by omega, by omega, fun hok => by
       have hb2 := AA.Py (u := u)
       have hcs := c2
       rw [hok] at hb2
       rw [hb2, Bool.not_true, Bool.false_or] at hcs
       obtain ⟨h1, h2, h3⟩ := hI13 hok
       exact ⟨by rw [h1, AA.GD hI11 (by omega), AN hcs], by omega, h3⟩⟩
   · omega
  have hcs := c2
  rw [Bool.or_eq_false_iff, Bool.or_eq_false_iff, Bool.or_eq_false_iff] at hcs
  obtain ⟨⟨⟨hc1, hc2⟩, hc3⟩, hc4⟩ := hcs
  have hok : AA.W4 u = true := by have := AA.Py (u := u); rw [hc1] at this; simpa using this.symm
  have hcc : (decide (k = T.b) || !decide ((T.w.AF.at k).name = (Words.Bq u).2.1) || !T.w.EI T.b k) = false := by rw [Bool.or_eq_false_iff, Bool.or_eq_false_iff]; exact ⟨⟨hc2, hc3⟩, hc4⟩
  have hnr := hI13 hok
  have hn2 := hnr.2
  refine W ?_
  refine ⟨fun c3 c3p => ?_, fun c3 c3p => ?_⟩
  ·
   refine W ?_
   intro w1 hS
   have hS := (hS.perm (AK.perm (.c .h (.c .h .n)))).AM
   have hs : T.Fx (Words.Bq u).2.1 6 (Words.Bq u).1 = some k := by rw [(hI13 hok).1, AA.GD hI11 (by omega), AB hcc, AN (show decide (n - 1 = 0) = true from decide_eq_true (by omega))]
   have hq : T.AU u = _ := AA.bD hok hs
   have hN := AA.Up hq
   refine ⟨_, ⟨?gq1, ?g9v1, ?g9l1, ?g9B1⟩, hS⟩
   case g9B1 => rw [hq]; (try rfl)
   case g9v1 => rw [hN]; (try rfl)
   case g9l1 => rw [hq]; assumption
  refine W ?_
  refine BC (k + 1) (n - 1) ?_ ?_ (.t6 5 17 0 6 7 8) (.refl _)
  · exact ⟨by omega, by omega, fun _ => ⟨by rw [hnr.1, AA.GD hI11 (by omega), AB hcc, AB (show decide (n - 1 = 0) = false from decide_eq_false (by omega))], by omega, by omega⟩⟩
  · omega
 obtain rfl : k = 6 := by omega
 refine W ?_
 refine Cl (.c .h (.c .h .n)) (Au _ _ _ _ hg hb (by omega)) (fun v1 B hv => ?_)
 obtain ⟨y2, rfl, y3, rfl⟩ := hv
 refine W ?_
 intro w1 hS
 have hS := (hS.perm (AK.perm (.c .h (.c .h .n)))).AM
 have hq : T.AU u = (T.tell AA.KR, 0, false) := by
   cases hok : AA.W4 u with
   | false => exact AA.dW hok
   | true => exact AA.Yc hok (by rw [(hI13 hok).1]; rfl)
 have hN := AA.Up hq
 refine ⟨_, ⟨?gq2, ?g9v2, ?g9l2, ?g9B2⟩, hS⟩
 case g9B2 => rw [hq]; (try rfl)
 case g9v2 => rw [hN]; (try rfl)
 case g9l2 => rw [hq]; assumption
theorem IF (X:AD)(i box:Int)(w:World):Ch Tryz.prog 136 #[.agg X.enc.toArray, .int .i64 i, .int .i64 box] w fun v w'=>v = .bool (X.Pb i box)∧BF w w':=by
 refine Rb Tryz.func136 ?_
 refine W ?_
 intro b1
 refine JL J (fun b2=>?_)
 refine W ?_
 refine Af (.t4 1 2 3 7) ?_
 refine CZ (fun(j:Int) (s:List Int)=>X.Pb i box=AD.inside X box (10 - s.length) j∧X.DJ s j∧box ∉ s) (fun(j:Int) (s:List Int)=>Nl s) (fun(j:Int) (s:List Int)=> [(1, .int .i64 j)]) (fun(j:Int) (s:List Int)=> [AJ.Pa b2 (N6 s)]) (i) ([]) ?_ J J (fun j s hI1=>?_)
 · exact⟨J,AD.DJ.start X i,by simp⟩
 obtain⟨hI11,hI12,hI13⟩:=hI1
 refine W ?_
 refine Gt (OG (LW Tryz.underlying192 Tryz.underlying3 kj J J .m0) (XB _ _)) ?_
 refine W ?_
 refine⟨fun c1 c1p=>?_,fun c1 c1p=>?_⟩
 ·
  try dsimp only at c1p
  have hns:j ∉ s:=by simpa using c1
  refine W ?_
  refine⟨fun c2 c2p=>?_,fun c2 c2p=>?_⟩
  ·
   try dsimp only at c2p
   refine W ?_
   refine congrArg Value.bool ?_;rw [hI11,hI12.cr c2]
  try dsimp only at c2p
  refine W ?_
  refine EJ (FK Tryz.underlying192 Tryz.underlying3 J J J (RU hns) .h).1 ?_
  refine W ?_
  refine⟨fun c3 c3p=>?_,fun c3 c3p=>?_⟩
  ·
   try dsimp only at c3p
   refine W ?_
   refine congrArg Value.bool ?_;rw [hI11,hI12.cu c2 c3]
  try dsimp only at c3p
  have hjr:0≤j∧j < 9∧(X.AH.at j).BZ=2:=by simp at c3;omega
  have hse:=hI12.next hjr.1 hjr.2.1 hns hjr.2.2
  refine W ?_
  refine BC _ (s ++ [j]) ?_ ?_ (.t4 1 2 3 7) (by rw [NH];exact(.refl _))
  · exact⟨by rw [hI11,AD.DJ.cw hse c2 c3],hse,by have hbx:=of_decide_eq_false c2;simp [hI13];exact fun e=>hbx e.symm⟩
  · have:=F9 hns hjr.1 hjr.2.1;omega
 try dsimp only at c1p
 have his:j∈s:=by simpa using c1
 refine W ?_
 refine congrArg Value.bool ?_;rw [hI11,hI12.cx his hI13]
instance instP136:DI Tryz.prog 136 (type_of% @IF):=⟨@IF⟩
end Go.Proofs.YtlmmdjaoikaceaaGreatDoor

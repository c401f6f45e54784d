/- What the functions that the law HousePlays reaches compute: walks, part 7. No condition. -/
import Derived.Test.YtlmmdjaoikaceaaGreatDoorCards
import Derived.Test.YtlmmdjaoikaceaaGreatDoorTie
import Derived.Deep.DeepHandedRow
import Derived.Test.YtlmmdjaoikaceaaGreatDoorRows
import Derived.Test.YtlmmdjaoikaceaaGreatDoorHousePlaysEc3
import Derived.Test.YtlmmdjaoikaceaaGreatDoorHousePlaysRa1
import Derived.Test.YtlmmdjaoikaceaaGreatDoorHousePlaysRb1
import Derived.Test.YtlmmdjaoikaceaaGreatDoorHousePlaysRc1
import Derived.Test.YtlmmdjaoikaceaaGreatDoorHousePlaysRd1
import Derived.Test.YtlmmdjaoikaceaaGreatDoorHousePlaysWalks
import Derived.Test.YtlmmdjaoikaceaaGreatDoorHousePlaysWalks6
set_option linter.unusedSimpArgs false
set_option linter.unusedVariables false
set_option maxRecDepth 100000
set_option maxHeartbeats 4000000
namespace Go.Proofs.YtlmmdjaoikaceaaGreatDoor
open Go Go.Ing Go.RowKit Go.ChangeShapes Go.WideShapes Go.ChangeAt
theorem H9 (X:AD)(w:World):Ch Tryz.prog 49 #[.agg X.enc.toArray] w fun v w'=>v = .bool X.C2∧BF w w':=by
 refine Rb Tryz.func49 ?_
 refine W ?_
 intro b1
 refine Af (.t3 16 1 15) ?_
 refine A7 (fun(k:Int)=>0≤k∧k≤6∧X.C2=(A4 6 X.MZ (6 - k).toNat && (A4 6 (fun k=>!AD.Dt (X.AF.at k)) 6 && A4 9 X.EZ 9))) (fun(k:Int)=>(6 - k).toNat) (fun(k:Int)=> [(16, .int .i64 k)]) (fun(k:Int)=> []) (0) ?_ J J (fun k hI1=>?_)
 · exact⟨Int.le_refl _,by omega,rfl⟩
 obtain⟨hI11,hI12,hI13⟩:=hI1
 refine W ?_
 refine⟨fun c1 c1p=>?_,fun c1 c1p=>?_⟩
 ·
  try dsimp only at c1p
  rw [Bh _ (by omega)] at hI13
  refine W ?_
  intro b2
  refine Af (.t5 19 1 4 15 16) ?_
  refine A7 (fun(d:Int)=>0≤d∧d≤6∧X.MZ k=A4 6 (fun d=>!AD.GB (X.Ad.at k) d) (6 - d).toNat) (fun(d:Int)=>(6 - d).toNat) (fun(d:Int)=> [(19, .int .i64 d)]) (fun(d:Int)=> []) (0) ?_ J J (fun d hI2=>?_)
  · exact⟨Int.le_refl _,by omega,rfl⟩
  obtain⟨hI21,hI22,hI23⟩:=hI2
  refine W ?_
  refine⟨fun c2 c2p=>?_,fun c2 c2p=>?_⟩
  ·
   try dsimp only at c2p
   rw [Bh _ (by omega)] at hI23
   refine W ?_
   refine⟨fun c3 c3p=>?_,fun c3 c3p=>?_⟩
   ·
    try dsimp only at c3p
    refine W ?_
    refine congrArg Value.bool ?_;rw [hI13,hI23,AD.GB,c3];rfl
   try dsimp only at c3p
   refine W ?_
   refine Aw (d+1) ?_ ?_ (.t5 19 1 4 15 16) (.refl _)
   · exact⟨by omega,by omega,by rw [hI23,AD.GB,c3];rfl⟩
   · omega
  try dsimp only at c2p
  obtain rfl:d=6:=by omega
  refine W ?_
  refine Aw (k+1) ?_ ?_ (.t3 16 1 15) (.cons _ (.refl _))
  · exact⟨by omega,by omega,by rw [hI13,hI23];rfl⟩
  · omega
 try dsimp only at c1p
 obtain rfl:k=6:=by omega
 refine W ?_
 refine Af (.t3 51 1 50) ?_
 refine A7 (fun(b:Int)=>0≤b∧b≤6∧X.C2=(A4 6 (fun k=>!AD.Dt (X.AF.at k)) (6 - b).toNat && A4 9 X.EZ 9)) (fun(b:Int)=>(6 - b).toNat) (fun(b:Int)=> [(51, .int .i64 b)]) (fun(b:Int)=> []) (0) ?_ J J (fun b hI3=>?_)
 · exact⟨Int.le_refl _,by omega,hI13⟩
 obtain⟨hI31,hI32,hI33⟩:=hI3
 refine W ?_
 refine⟨fun c4 c4p=>?_,fun c4 c4p=>?_⟩
 ·
  try dsimp only at c4p
  rw [Bh _ (by omega)] at hI33
  refine W ?_
  intro b3
  refine⟨fun c5 c5p=>?_,fun c5 c5p=>?_⟩
  ·
   try dsimp only at c5p
   refine W ?_
   refine congrArg Value.bool ?_;rw [hI33,AD.Dt,c5];rfl
  try dsimp only at c5p
  refine W ?_
  refine Aw (b+1) ?_ ?_ (.t3 51 1 50) (.cons _ (.refl _))
  · exact⟨by omega,by omega,by rw [hI33,AD.Dt,c5];rfl⟩
  · omega
 try dsimp only at c4p
 obtain rfl:b=6:=by omega
 refine W ?_
 refine Af (.t3 103 1 102) ?_
 refine A7 (fun(t:Int)=>0≤t∧t≤9∧X.C2=A4 9 X.EZ (9 - t).toNat) (fun(t:Int)=>(9 - t).toNat) (fun(t:Int)=> [(103, .int .i64 t)]) (fun(t:Int)=> []) (0) ?_ J J (fun t hI4=>?_)
 · exact⟨Int.le_refl _,by omega,hI33⟩
 obtain⟨hI41,hI42,hI43⟩:=hI4
 refine W ?_
 refine⟨fun c6 c6p=>?_,fun c6 c6p=>?_⟩
 ·
  try dsimp only at c6p
  rw [Bh _ (by omega)] at hI43
  refine W ?_
  intro b4
  refine⟨fun c7 c7p=>?_,fun c7 c7p=>?_⟩
  ·
   try dsimp only at c7p
   refine W ?_
   refine congrArg Value.bool ?_;rw [hI43,AD.EZ,show X.K6 (X.AH.at t)=true from c7];rfl
  try dsimp only at c7p
  refine W ?_
  refine⟨fun c8 c8p=>?_,fun c8 c8p=>?_⟩
  ·
   try dsimp only at c8p
   refine W ?_
   refine congrArg Value.bool ?_;rw [hI43,AD.EZ,show X.H6 (X.root t)=true from c8,Bool.not_true,Bool.and_false];rfl
  try dsimp only at c8p
  refine W ?_
  refine Aw (t+1) ?_ ?_ (.t3 103 1 102) (.cons _ (.refl _))
  · exact⟨by omega,by omega,by rw [hI43,AD.EZ,show X.K6 (X.AH.at t)=false from c7,show X.H6 (X.root t)=false from c8];rfl⟩
  · omega
 try dsimp only at c6p
 obtain rfl:t=9:=by omega
 refine W ?_
 refine congrArg Value.bool ?_;rw [hI43];rfl
instance instP49:DI Tryz.prog 49 (type_of% @H9):=⟨@H9⟩
theorem I3 (s:AL)(hs:s.length≤140737488351232)(w:World):Ch Tryz.prog 83 #[Ag s] w fun v w'=>v = .bool (AA.GO s)∧BF w w':=by
 refine Rb Tryz.func83 ?_
 refine W ?_
 refine⟨fun c1 c1p=>?_,fun c1 c1p=>?_⟩
 ·
  try dsimp only at c1p
  refine W ?_
  exact congrArg Value.bool (by rw [← AA.Lu,show AA.MT s=_ from AN c1])
 try dsimp only at c1p
 refine W ?_
 refine GY J Tryz.underlying9 Tryz.underlying122 Tryz.underlying5 J (fun h1 h1l=>?_)
 refine W ?_
 refine Af (.t3 23 21 22) ?_
 refine A7 (fun(k:Int)=>0≤k∧k≤(s.length:Int)∧AA.G3 s 0=AA.G3 s k.toNat) (fun(k:Int)=>((s.length:Int) - k).toNat) (fun(k:Int)=> [(23, .int .i64 k)]) (fun(k:Int)=> []) (0) ?_ J J (fun k hI1=>?_)
 · exact⟨by omega,by omega,rfl⟩
 obtain⟨hI11,hI12,hI13⟩:=hI1
 refine W ?_
 refine⟨fun c2 c2p=>?_,fun c2 c2p=>?_⟩
 ·
  try dsimp only at c2p
  have hst:=AA.RJ (s:=s) hI11 (by omega)
  refine W ?_
  refine⟨fun c3 c3p=>?_,fun c3 c3p=>?_⟩
  ·
   try dsimp only at c3p
   rw [show AA.low (s.getD k.toNat 0)=true from c3] at hst
   refine W ?_
   exact congrArg Value.bool (by rw [← AA.Lu,show AA.MT s=_ from AB c1,hI13,hst];rfl)
  try dsimp only at c3p
  rw [show AA.low (s.getD k.toNat 0)=false from c3] at hst
  refine W ?_
  refine Aw (k+1) ?_ ?_ (.t3 23 21 22) (.refl _)
  · exact⟨by omega,by omega,by rw [hI13,hst];rfl⟩
  · omega
 try dsimp only at c2p
 obtain rfl:k=(s.length:Int):=by omega
 rw [AA.UO] at hI13
 refine W ?_
 exact congrArg Value.bool (by rw [← AA.Lu,show AA.MT s=_ from AB c1,hI13])
instance instP83:DI Tryz.prog 83 (type_of% @I3):=⟨@I3⟩
theorem KW (X:AD)(b:Int)(w:World):Ch Tryz.prog 50 #[.agg X.enc.toArray, .int .i64 b] w fun v w'=>v = .bool (X.AV b)∧BF w w':=by
 refine Rb Tryz.func50 ?_
 refine W ?_
 intro b1
 rfl
instance instP50:DI Tryz.prog 50 (type_of% @KW):=⟨@KW⟩
theorem Jx (X:AD)(i:Int)(w:World):Ch Tryz.prog 139 #[.agg X.enc.toArray, .int .i64 i] w fun v w'=>v = .tuple #[.int .i64 (X.room i).1, .bool (X.room i).2]∧BF w w':=by
 refine Rb Tryz.func139 ?_
 refine W ?_
 intro b1
 refine⟨fun c1 c1p=>?_,fun c1 c1p=>?_⟩
 ·
  try dsimp only at c1p
  refine W ?_
  refine⟨fun c2 c2p=>?_,fun c2 c2p=>?_⟩
  ·
   try dsimp only at c2p
   refine W ?_
   rw [← AD.Sq,show AD.conv X (AD.root X i)=_ from((AN c1).trans (AN c2))];rfl
  try dsimp only at c2p
  have hat:0≤(AD.root X i).2.1∧(AD.root X i).2.1≤5:=by simp at c2;omega
  refine W ?_
  rw [← AD.Sq,show AD.conv X (AD.root X i)=_ from((AN c1).trans (AB c2))];rfl
 try dsimp only at c1p
 refine W ?_
 refine⟨fun c3 c3p=>?_,fun c3 c3p=>?_⟩
 ·
  try dsimp only at c3p
  refine W ?_
  rw [← AD.Sq,show AD.conv X (AD.root X i)=_ from((AB c1).trans (AN c3))];rfl
 try dsimp only at c3p
 refine W ?_
 rw [← AD.Sq,show AD.conv X (AD.root X i)=_ from((AB c1).trans (AB c3))];rfl
instance instP139:DI Tryz.prog 139 (type_of% @Jx):=⟨@Jx⟩
theorem ID (X:AD)(r:Int)(w:World):Ch Tryz.prog 98 #[.agg X.enc.toArray, .int .i64 r] w fun v w'=>v = .bool (X.ED r)∧BF w w':=by
 refine Rb Tryz.func98 ?_
 refine W ?_
 intro b1
 refine⟨fun c1 c1p=>?_,fun c1 c1p=>?_⟩
 ·
  try dsimp only at c1p
  refine W ?_
  refine congrArg Value.bool ?_;rw [AD.VZ c1]
 try dsimp only at c1p
 have hr:0≤r∧r < 6:=by simp at c1;omega
 refine W ?_
 refine Af (.t5 5 24 1 2 23) ?_
 refine CZ (fun(k:Int) (c:Bool)=>0≤k∧k≤9∧(!(X.Ad.at r).KF || !(A4 9 (fun i=>!X.lit r i) 9))=(c || !(A4 9 (fun i=>!X.lit r i) (9 - k).toNat))) (fun(k:Int) (c:Bool)=>(9 - k).toNat) (fun(k:Int) (c:Bool)=> [(5, .bool c),(24, .int .i64 k)]) (fun(k:Int) (c:Bool)=> []) (0) (!(X.Ad.at r).KF) ?_ J J (fun k c hI1=>?_)
 · exact⟨by omega,by omega,rfl⟩
 obtain⟨hI11,hI12,hI13⟩:=hI1
 refine W ?_
 refine⟨fun c2 c2p=>?_,fun c2 c2p=>?_⟩
 ·
  try dsimp only at c2p
  rw [Bh (k:=k) _ (by omega),AD.Te] at hI13
  refine W ?_
  intro b2
  refine BC (k+1) _ ?_ ?_ (.t5 5 24 1 2 23) (.cons _ (.refl _))
  · exact⟨by omega,by omega,hI13⟩
  · omega
 try dsimp only at c2p
 obtain rfl:k=9:=by omega
 refine W ?_
 refine congrArg Value.bool ?_;rw [AD.XX c1,hI13];show c=(c || !true);simp
instance instP98:DI Tryz.prog 98 (type_of% @ID):=⟨@ID⟩
theorem IE (X:AD)(b:Int)(w:World):Ch Tryz.prog 140 #[.agg X.enc.toArray, .int .i64 b] w fun v w'=>v = .bool (X.hidden b)∧BF w w':=by
 refine Rb Tryz.func140 ?_
 refine W ?_
 intro b1
 refine Af (.t3 9 1 8) ?_
 refine A7 (fun(k:Int)=>0≤k∧k≤9∧A4 9 (fun i=>!X.FU b i) 9=A4 9 (fun i=>!X.FU b i) (9 - k).toNat) (fun(k:Int)=>(9 - k).toNat) (fun(k:Int)=> [(9, .int .i64 k)]) (fun(k:Int)=> []) (0) ?_ J J (fun k hI1=>?_)
 · exact⟨by omega,by omega,rfl⟩
 obtain⟨hI11,hI12,hI13⟩:=hI1
 refine W ?_
 refine⟨fun c1 c1p=>?_,fun c1 c1p=>?_⟩
 ·
  try dsimp only at c1p
  rw [Bh _ (by omega)] at hI13
  refine W ?_
  intro b2
  refine⟨fun c2 c2p=>?_,fun c2 c2p=>?_⟩
  ·
   try dsimp only at c2p
   refine W ?_
   refine congrArg Value.bool ?_;rw [AD.hidden,hI13,show X.FU b k=true from(AD.O4 _ _ _).trans c2];rfl
  try dsimp only at c2p
  refine W ?_
  refine Aw (k+1) ?_ ?_ (.t3 9 1 8) (.cons _ (.refl _))
  · exact⟨by omega,by omega,by rw [hI13,show X.FU b k=false from(AD.O4 _ _ _).trans c2];rfl⟩
  · omega
 try dsimp only at c1p
 obtain rfl:k=9:=by omega
 refine W ?_
 refine congrArg Value.bool ?_;rw [AD.hidden,hI13];rfl
instance instP140:DI Tryz.prog 140 (type_of% @IE):=⟨@IE⟩
theorem Jv (X:AD)(a b:Int)(w:World):Ch Tryz.prog 100 #[.agg X.enc.toArray, .int .i64 a, .int .i64 b] w fun v w'=>v = .bool (X.EI a b)∧BF w w':=by
 refine Rb Tryz.func100 ?_
 refine W ?_
 intro b1
 refine⟨fun c1 c1p=>?_,fun c1 c1p=>?_⟩
 ·
  try dsimp only at c1p
  refine W ?_
  refine congrArg Value.bool ?_;rw [AD.aw c1]
 try dsimp only at c1p
 have hr:(0≤a∧a < 6)∧0≤b∧b < 6:=by simp at c1;have h1:=AD.F5 c1.1;have h2:=AD.F5 c1.2;omega
 refine W ?_
 refine congrArg Value.bool ?_;rw [AD.dT c1]
instance instP100:DI Tryz.prog 100 (type_of% @Jv):=⟨@Jv⟩
theorem Hi (X:AD)(b:Int)(e:Ing.Event)(w:World):Ch Tryz.prog 138 #[.agg X.enc.toArray, .int .i64 b, .agg e.enc.toArray] w fun v w'=>v = .int .i64 (X.Cc b e)∧BF w w':=by
 refine Rb Tryz.func138 ?_
 refine W ?_
 intro b1 b2
 refine⟨fun c1 c1p=>?_,fun c1 c1p=>?_⟩
 ·
  try dsimp only at c1p
  refine W ?_
  rw [← AD.DU,show X.Dv b e=_ from(AN c1)];rfl
 try dsimp only at c1p
 have hr:0≤b∧b < 6:=by simp at c1;have h1:=AD.F5 c1;omega
 refine W ?_
 refine⟨fun c2 c2p=>?_,fun c2 c2p=>?_⟩
 ·
  try dsimp only at c2p
  refine W ?_
  rw [← AD.DU,show X.Dv b e=_ from((AB c1).trans (AN c2))];rfl
 try dsimp only at c2p
 refine W ?_
 refine⟨fun c3 c3p=>?_,fun c3 c3p=>?_⟩
 ·
  try dsimp only at c3p
  refine W ?_
  refine⟨fun c4 c4p=>?_,fun c4 c4p=>?_⟩
  ·
   try dsimp only at c4p
   refine W ?_
   rw [← AD.DU,show X.Dv b e=_ from((AB c1).trans ((AB c2).trans ((AN c3).trans (AN c4))))];rfl
  try dsimp only at c4p
  refine W ?_
  refine⟨fun c5 c5p=>?_,fun c5 c5p=>?_⟩
  ·
   try dsimp only at c5p
   refine W ?_
   rw [← AD.DU,show X.Dv b e=_ from((AB c1).trans ((AB c2).trans ((AN c3).trans ((AB c4).trans (AN c5)))))];rfl
  try dsimp only at c5p
  refine W ?_
  rw [← AD.DU,show X.Dv b e=_ from((AB c1).trans ((AB c2).trans ((AN c3).trans ((AB c4).trans (AB c5)))))];rfl
 try dsimp only at c3p
 refine W ?_
 refine⟨fun c6 c6p=>?_,fun c6 c6p=>?_⟩
 ·
  try dsimp only at c6p
  refine W ?_
  rw [← AD.DU,show X.Dv b e=_ from((AB c1).trans ((AB c2).trans ((AB c3).trans (AN c6))))];rfl
 try dsimp only at c6p
 refine W ?_
 rw [← AD.DU,show X.Dv b e=_ from((AB c1).trans ((AB c2).trans ((AB c3).trans (AB c6))))];rfl
instance instP138:DI Tryz.prog 138 (type_of% @Hi):=⟨@Hi⟩
theorem Hf (X:AD)(e:Ing.Event)(w:World):Ch Tryz.prog 96 #[.agg X.enc.toArray, .agg e.enc.toArray] w fun v w'=>v = .agg (X.GZ e 6).enc.toArray∧BF w w':=by
 refine Rb Tryz.func96 ?_
 refine W ?_
 intro b1 b2 b3
 refine Af (.t4 6 2 3 4) ?_
 refine AY (.t .h) ?_
 refine A7 (fun(k:Int)=>0≤k∧k≤6) (fun(k:Int)=>(6 - k).toNat) (fun(k:Int)=> [(6, .int .i64 k)]) (fun(k:Int)=> [AJ.box b2 100 (Ing.Event.enc (X.GZ e k.toNat))]) (0) ?_ J J (fun k hI1=>?_)
 · exact⟨Int.le_refl _,by omega⟩
 obtain⟨hI11,hI12⟩:=hI1
 refine W ?_
 refine⟨fun c1 c1p=>?_,fun c1 c1p=>?_⟩
 ·
  try dsimp only at c1p
  refine W ?_
  refine Aw (k+1) ?_ ?_ (.t4 6 2 3 4) (by rw [AD.Qt (by omega)];exact(.refl _))
  · exact⟨by omega,by omega⟩
  · omega
 try dsimp only at c1p
 obtain rfl:k=6:=by omega
 refine W ?_
 rfl
instance instP96:DI Tryz.prog 96 (type_of% @Hf):=⟨@Hf⟩
theorem BI (b:Nat)(T:AA)(g:Hd)(k o d n:Int)(x u:AL)(hg:g.len=T.out.length)(hb:0≤T.b∧T.b < 6)(ho:o < 6)(hn:T.out.length≤100000):Fu Tryz.prog 51 #[.pointer (some ⟨b,0,none⟩), .int .i64 k, .int .i64 o, .int .i64 d, .int .i64 n,Ag x,Ag u] [AJ.box b 115 (Ab.enc ⟨T.w,T.b,g⟩),AJ.own g 100 16 (T.out.flatMap Ing.Event.enc)] (fun v B=>∃ g':Hd,v = .tuple #[]∧g'.len=(T.Am { AA.Dn k with other:=o,dir:=d,n:=n,AQ:=x,text:=u }).out.length∧B = [AJ.box b 115 (Ab.enc ⟨(T.Am { AA.Dn k with other:=o,dir:=d,n:=n,AQ:=x,text:=u }).w,(T.Am { AA.Dn k with other:=o,dir:=d,n:=n,AQ:=x,text:=u }).b,g'⟩),AJ.own g' 100 16 ((T.Am { AA.Dn k with other:=o,dir:=d,n:=n,AQ:=x,text:=u }).out.flatMap Ing.Event.enc)]):=by
 intro w hS0
 refine AR _ _ Tryz.func51 J J J (hS0) ?_
 refine Ws 1 ?_
 intro b1
 refine CY (c':=Ing.Event.enc ⟨k,(T.w.AF.at T.b).room,T.b,o,d,n,(T.w.AF.at T.b).name,[],x,u,default⟩) (fun _=> .h) J ?_
 refine W ?_
 refine⟨fun c1 c1p=>?_,fun c1 c1p=>?_⟩
 ·
  try dsimp only at c1p
  refine W ?_
  intro b2 h1 h1l h1z
  intro w1 hS
  have hS:=(hS.perm (AK.perm (.c (.t (.t .h)) (.c (.t (.t .h)) .n)))).AM
  have hq:=T.iN (k:=k) (d:=d) (n:=n) (x:=x) (u:=u) c1
  refine⟨_,⟨?gqTrue,J,?g9lTrue,?g9BTrue⟩,hS⟩
  case g9BTrue=>rw [hq];(try rfl)
  case g9lTrue=>rw [hq];simp only [List.length_append,List.length_cons,List.length_nil];(try dsimp only at *);omega
 try dsimp only at c1p
 refine W ?_
 intro b3 h2 h2l h2z
 intro w1 hS
 have hS:=(hS.perm (AK.perm (.c (.t (.t .h)) (.c (.t (.t .h)) .n)))).AM
 have hq:=T.iM (k:=k) (d:=d) (n:=n) (x:=x) (u:=u) c1
 refine⟨_,⟨?gqFalse,J,?g9lFalse,?g9BFalse⟩,hS⟩
 case g9BFalse=>rw [hq];(try rfl)
 case g9lFalse=>rw [hq];simp only [List.length_append,List.length_cons,List.length_nil];(try dsimp only at *);omega
theorem B6 (b:Nat)(T:AA)(g:Hd)(hF:T.Fit):Fu Tryz.prog 97 #[.pointer (some ⟨b,0,none⟩)] [AJ.box b 115 (Ab.enc ⟨T.w,T.b,g⟩)] (fun v B=>v = .int .i64 (T.w.AF.at T.b).room∧B = [AJ.box b 115 (Ab.enc ⟨T.w,T.b,g⟩)]):=by
 intro w hS0
 have hb:=hF.b
 have hr:=hF.room
 refine AR _ _ Tryz.func97 J J J (hS0) ?_
 refine W ?_
 intro w1 hS
 have hS:=(hS.perm (AK.perm (.c .h .n))).AM
 exact⟨_,⟨J,J⟩,hS⟩
theorem Au (b:Nat)(T:AA)(g:Hd)(u:AL)(hg:g.len=T.out.length)(hb:0≤T.b∧T.b < 6)(hn:T.out.length≤100000):Fu Tryz.prog 91 #[.pointer (some ⟨b,0,none⟩),Ag u] [AJ.box b 115 (Ab.enc ⟨T.w,T.b,g⟩),AJ.own g 100 16 (T.out.flatMap Ing.Event.enc)] (fun v B=>∃ g':Hd,v = .tuple #[]∧g'.len=(T.tell u).out.length∧B = [AJ.box b 115 (Ab.enc ⟨(T.tell u).w,(T.tell u).b,g'⟩),AJ.own g' 100 16 ((T.tell u).out.flatMap Ing.Event.enc)]):=by
 intro w hS0
 refine AR _ _ Tryz.func91 J J J (hS0) ?_
 refine W ?_
 refine Cl (.c .h (.c .h .n)) (BI _ _ _ 16 (-1) 0 0 [] u hg hb (show(-1:Int) < 6 by decide) hn) (fun v1 B hv=>?_)
 obtain⟨y2,rfl,y3,rfl⟩:=hv
 refine W ?_
 intro w1 hS
 have hS:=(hS.perm (AK.perm (.c .h (.c .h .n)))).AM
 exact⟨_,⟨_,J,by assumption,rfl⟩,hS⟩
theorem Hh (X:AD)(BZ at_:Int):Fu Tryz.prog 134 #[.agg X.enc.toArray, .int .i64 BZ, .int .i64 at_] [] (fun v B=>∃ h':Hd,v=h'.val∧h'.len=(X.has BZ at_).length∧B = [AJ.own h' 3 1 ((X.has BZ at_).flatMap AT)]):=by
 intro w hS0
 refine AR _ _ Tryz.func134 J J J (hS0) ?_
 refine W ?_
 intro b1
 refine Af (.t5 7 9 1 2 3) ?_
 refine CG AT 3 1 ?_
 refine Bo (fun(k:Int) (xs:List Int) (g:Hd)=>0≤k∧k≤9∧xs=X.Lj BZ at_ k.toNat∧g.len=xs.length) (fun(k:Int) (xs:List Int) (g:Hd)=>(9 - k).toNat) (fun(k:Int) (xs:List Int) (g:Hd)=> [(7,g.val),(9, .int .i64 k)]) (fun(k:Int) (xs:List Int) (g:Hd)=> [AJ.own g 3 1 (xs.flatMap AT)]) (0) ([]) (_) ?_ J J (fun k xs g hI1=>?_)
 · exact⟨by omega,by omega,rfl,rfl⟩
 obtain⟨hI11,hI12,hI13,hI14⟩:=hI1
 refine W ?_
 refine⟨fun c1 c1p=>?_,fun c1 c1p=>?_⟩
 ·
  try dsimp only at c1p
  have hxl:=AD.PM X BZ at_ k.toNat
  rw [← hI13] at hxl
  refine W ?_
  refine⟨fun c2 c2p=>?_,fun c2 c2p=>?_⟩
  ·
   try dsimp only at c2p
   refine W ?_
   intro b2 h1 h1l h1z
   refine Ap (k+1) _ _ ?_ ?_ (.t5 7 9 1 2 3) (.cons _ (.refl _))
   · exact⟨by omega,by omega,by rw [AD.Vn hI11 ((Bool.and_comm _ _).trans c2),← hI13],(by(try dsimp only at *)<;>(try simp only [List.length_append,List.length_cons,List.length_nil])<;>omega)⟩
   · omega
  try dsimp only at c2p
  refine W ?_
  refine Ap (k+1) _ _ ?_ ?_ (.t5 7 9 1 2 3) (.refl _)
  · exact⟨by omega,by omega,by rw [AD.Vm hI11 ((Bool.and_comm _ _).trans c2),← hI13],(by(try dsimp only at *)<;>(try simp only [List.length_append,List.length_cons,List.length_nil])<;>omega)⟩
  · omega
 try dsimp only at c1p
 obtain rfl:k=9:=by omega
 refine W ?_
 intro w1 hS
 have hS:=(hS.perm (AK.perm (.c .h .n))).AM
 exact⟨_,⟨_,J,by rw [AD.PN,← hI13];assumption,by rw [AD.PN,← hI13]⟩,hS⟩
theorem D4 (b:Nat)(T:AA)(g:Hd)(hF:T.Fit):Fu Tryz.prog 99 #[.pointer (some ⟨b,0,none⟩)] [AJ.box b 115 (Ab.enc ⟨T.w,T.b,g⟩)] (fun v B=>∃ f:Hd,v=f.val∧f.len=(T.seen).length∧B = [AJ.box b 115 (Ab.enc ⟨T.w,T.b,g⟩),AJ.own f 3 1 ((T.seen).flatMap AT)]):=by
 intro w hS0
 have hb:=hF.b
 have hr:=hF.room
 refine AR _ _ Tryz.func99 J J J (hS0) ?_
 refine W ?_
 refine Cl (.c .h .n) (B6 _ T _ hF) (fun v1 B hv=>?_)
 obtain⟨rfl,rfl⟩:=hv
 refine W ?_
 refine⟨fun c1 c1p=>?_,fun c1 c1p=>?_⟩
 ·
  try dsimp only at c1p
  refine W ?_
  intro w1 hS
  have hS:=hS.BT 3 1
  have hS:=(hS.perm (AK.perm (.c (.t .h) (.c .h .n)))).AM
  have hq:T.seen=_:=AN c1
  exact⟨_,⟨⟨none,0,0⟩,J,by rw [hq];rfl,by rw [hq];rfl⟩,hS⟩
 try dsimp only at c1p
 refine W ?_
 refine Cl (.c .h .n) (B6 _ T _ hF) (fun v3 B hv=>?_)
 obtain⟨rfl,rfl⟩:=hv
 refine W ?_
 refine Cl .n (Hh _ _ _) (fun v4 B hv=>?_)
 obtain⟨y5,rfl,y6,rfl⟩:=hv
 refine W ?_
 intro w1 hS
 have hS:=(hS.perm (AK.perm (.c (.t .h) (.c .h .n)))).AM
 have hq:T.seen=_:=(AB c1)
 exact⟨_,⟨_,J,by rw [hq];first | rfl | assumption,by rw [hq];rfl⟩,hS⟩
theorem Ia (b:Nat)(T:AA)(g:Hd)(f:Hd)(l:List Int)(hF:T.Fit)(hf:f.len=l.length)(hl:l.length≤9)(hi:∀ i∈l,0≤i∧i < 9):Fu Tryz.prog 92 #[.pointer (some ⟨b,0,none⟩),f.val] [AJ.box b 115 (Ab.enc ⟨T.w,T.b,g⟩),AJ.own f 3 1 (l.flatMap AT)] (fun v B=>v=Ag (AA.G4 T.w l)∧B = [AJ.box b 115 (Ab.enc ⟨T.w,T.b,g⟩),AJ.own f 3 1 (l.flatMap AT)]):=by
 intro w hS0
 have hb:=hF.b
 have hr:=hF.room
 have hw:=hF.br
 refine AR _ _ Tryz.func92 J J J (hS0) ?_
 refine W ?_
 refine Af (.t5 5 10 0 8 9) ?_
 refine CZ (fun(k:Int) (x:AL)=>0≤k∧k≤(l.length:Int)∧AA.CX T.w [] l=AA.CX T.w x (l.drop k.toNat)∧x.length≤1000+k.toNat * 140737488351300) (fun(k:Int) (x:AL)=>((l.length:Int) - k).toNat) (fun(k:Int) (x:AL)=> [(5,Ag x),(10, .int .i64 k)]) (fun(k:Int) (x:AL)=> []) (0) ([]) ?_ J J (fun k x hI1=>?_)
 · exact⟨by omega,by omega,by simp,by simp⟩
 obtain⟨hI11,hI12,hI13,hI14⟩:=hI1
 refine W ?_
 refine⟨fun c1 c1p=>?_,fun c1 c1p=>?_⟩
 ·
  try dsimp only at c1p
  have hx:=hi _ (Aa.CT (xs:=l) (i:=k.toNat) (by omega))
  have hnl:=hw.th (l.getD k.toNat 0)
  refine W ?_
  refine⟨fun c2 c2p=>?_,fun c2 c2p=>?_⟩
  ·
   try dsimp only at c2p
   refine W ?_
   refine BC (k+1) _ ?_ ?_ (.t5 5 10 0 8 9) (.refl _)
   · exact⟨by omega,by omega,by rw [hI13,AA.Wz hI11 (by omega) c2],by simp only [List.length_append,List.length_cons,List.length_nil];omega⟩
   · omega
  try dsimp only at c2p
  refine W ?_
  refine BC (k+1) _ ?_ ?_ (.t5 5 10 0 8 9) (.refl _)
  · exact⟨by omega,by omega,by rw [hI13,AA.Wy hI11 (by omega) c2],by simp only [List.length_append,List.length_cons,List.length_nil];omega⟩
  · omega
 try dsimp only at c1p
 obtain rfl:k=(l.length:Int):=by omega
 rw [show(l.length:Int).toNat=l.length by omega,List.drop_length] at hI13
 have hxl:AA.CX T.w [] l=x:=hI13
 refine W ?_
 refine⟨fun c3 c3p=>?_,fun c3 c3p=>?_⟩
 ·
  try dsimp only at c3p
  refine W ?_
  intro w1 hS
  have hS:=(hS.perm (AK.perm (.c .h (.c .h .n)))).AM
  have hq:AA.G4 T.w l=_:=AN (show decide (AA.CX T.w [] l = [])=true by rw [hxl];exact c3)
  exact⟨_,⟨by rw [hq];(try rw [hxl]);(try rfl),rfl⟩,hS⟩
 try dsimp only at c3p
 refine W ?_
 intro w1 hS
 have hS:=(hS.perm (AK.perm (.c .h (.c .h .n)))).AM
 have hq:AA.G4 T.w l=_:=AB (show decide (AA.CX T.w [] l = [])=false by rw [hxl];exact c3)
 exact⟨_,⟨by rw [hq];(try rw [hxl]);(try rfl),rfl⟩,hS⟩
theorem FZ (b:Nat)(T:AA)(g:Hd)(hg:g.len=T.out.length)(hF:T.Fit)(hn:T.out.length≤90000):Cz Tryz.prog 53 #[.pointer (some ⟨b,0,none⟩)] [AJ.box b 115 (Ab.enc ⟨T.w,T.b,g⟩),AJ.own g 100 16 (T.out.flatMap Ing.Event.enc)] (fun w=>(GV 0 AD.Be w∧0 ∉ BV [AJ.box b 115 (Ab.enc ⟨T.w,T.b,g⟩),AJ.own g 100 16 (T.out.flatMap Ing.Event.enc)])) (fun v B=>∃ g':Hd,v = .tuple #[]∧g'.len=(T.look).out.length∧B = [AJ.box b 115 (Ab.enc ⟨(T.look).w,(T.look).b,g'⟩),AJ.own g' 100 16 ((T.look).out.flatMap Ing.Event.enc)]):=by
 intro w hS0 hH
 obtain⟨gl0,gm0⟩:=hH
 have hb:=hF.b
 have hr:=hF.room
 have hw:=hF.br
 refine AR _ _ Tryz.func53 J J J (hS0) ?_
 refine W ?_
 refine Cl (.c .h .n) (B6 _ T _ hF) (fun v1 B hv=>?_)
 obtain⟨rfl,rfl⟩:=hv
 refine W ?_
 refine⟨fun c1 c1p=>?_,fun c1 c1p=>?_⟩
 ·
  try dsimp only at c1p
  refine W ?_
  refine Cl (.c .h (.c .h .n)) (Au _ T _ _ hg hb (by omega)) (fun v2 B hv=>?_)
  obtain⟨y3,rfl,y4,rfl⟩:=hv
  refine W ?_
  intro w1 hS
  have hS:=(hS.perm (AK.perm (.c .h (.c .h .n)))).AM
  refine⟨_,⟨?gq1,J,?g9l1,?g9B1⟩,hS⟩
  case g9B1=>rw [show T.look=_ from AN c1];rfl
  case g9l1=>rw [show T.look=_ from AN c1];assumption
 try dsimp only at c1p
 have hsee:=AA.Uh (T:=T) c1
 have hnr:=hw.ro (T.w.AF.at T.b).room
 refine W ?_
 refine Ey 2 8 J J (by kernel_rfl) ?_ ?_
 ·
  refine W ?_
  refine Cl (.c .h .n) (B6 _ T _ hF) (fun v5 B hv=>?_)
  obtain⟨rfl,rfl⟩:=hv
  refine W ?_
  intro b1
  refine Af (.t4 3 25 0 2) ?_
  refine CZ (fun(k:Int) (x:AL)=>0≤k∧k≤6∧x=AA.Gv (T.w.Ad.at T.me.room) k.toNat) (fun(k:Int) (x:AL)=>(6 - k).toNat) (fun(k:Int) (x:AL)=> [(3,Ag x),(25, .int .i64 k)]) (fun(k:Int) (x:AL)=> []) (0) (_) ?_ J J (fun k x hI1=>?_)
  · exact⟨by omega,by omega,rfl⟩
  obtain⟨hI11,hI12,hI13⟩:=hI1
  refine W ?_
  refine⟨fun c2 c2p=>?_,fun c2 c2p=>?_⟩
  ·
   try dsimp only at c2p
   have hxd:=(hF.exit hI11 (show k < 6 by omega))
   have hst:=AA.L6 (r:=T.w.Ad.at T.me.room) hI11
   have hwl:=AA.GH (T.w.Ad.at T.me.room) k.toNat
   rw [← hI13] at hwl
   have hcl:=AD.FB k
   have hck:=AD.SA (d:=k) (by rw [Bool.and_eq_true];exact⟨decide_eq_true hI11,decide_eq_true (by omega)⟩)
   rw [hck] at hcl hst
   refine W ?_
   refine⟨fun c3 c3p=>?_,fun c3 c3p=>?_⟩
   ·
    try dsimp only at c3p
    have cp3:decide ((T.w.Ad.at T.me.room).BH.at k=0)=false:=decide_eq_false (by have:=c3p;first | exact this | (show ¬ (T.w.Ad.at (T.w.AF.at T.b).room).BH.at k=0;omega))
    rw [AB cp3] at hst
    refine W ?_
    refine Gt (TD gl0 gm0 J LG (AD.Gu hI11 (by omega))) ?_
    refine W ?_
    refine⟨fun c4 c4p=>?_,fun c4 c4p=>?_⟩
    ·
     try dsimp only at c4p
     have cp4:(T.w.Ad.at T.me.room).shut.at k=true:=c4
     rw [AN cp4] at hst
     refine W ?_
     refine BC (k+1) _ ?_ ?_ (.t4 3 25 0 2) (.refl _)
     · exact⟨by omega,by omega,by rw [hst,← hI13]⟩
     · omega
    try dsimp only at c4p
    have cp4:(T.w.Ad.at T.me.room).shut.at k=false:=c4
    rw [AB cp4] at hst
    refine W ?_
    refine BC (k+1) _ ?_ ?_ (.t4 3 25 0 2) (.refl _)
    · exact⟨by omega,by omega,by rw [hst,← hI13]⟩
    · omega
   try dsimp only at c3p
   have cp3:decide ((T.w.Ad.at T.me.room).BH.at k=0)=true:=decide_eq_true (by have:=c3p;first | exact this | (show  (T.w.Ad.at (T.w.AF.at T.b).room).BH.at k=0;omega))
   rw [AN cp3] at hst
   refine W ?_
   refine BC (k+1) _ ?_ ?_ (.t4 3 25 0 2) (.refl _)
   · exact⟨by omega,by omega,by rw [hst,← hI13]⟩
   · omega
  try dsimp only at c2p
  obtain rfl:k=6:=by omega
  subst hI13
  have hwl:=AA.GH (T.w.Ad.at T.me.room) 6
  refine W ?_
  refine Cl (.c (.t .h) (.c (.t .h) .n)) (Au _ T _ _ hg hb (by omega)) (fun v6 B hv=>?_)
  obtain⟨y7,rfl,y8,rfl⟩:=hv
  refine W ?_
  refine Cl (.c .h (.c .h .n)) (Au _ (T.tell ([84,104,101,32]++(T.w.Ad.at T.me.room).name ++ [46])) _ (AA.Gv (T.w.Ad.at T.me.room) 6) (by assumption) hb (by simp only [AA.BQ];omega)) (fun v9 B hv=>?_)
  obtain⟨y10,rfl,y11,rfl⟩:=hv
  refine W ?_
  refine Cl (.c .h .n) (D4 _ T.D6 _ (hF.Fc J J)) (fun v12 B hv=>?_)
  obtain⟨y13,rfl,y14,rfl⟩:=hv
  refine W ?_
  refine⟨fun c5 c5p=>?_,fun c5 c5p=>?_⟩
  ·
   try dsimp only at c5p
   have hnm:(AA.G4 T.D6.w T.seen).length≤1266637395161115:=AA.Lv hw T.DC
   refine W ?_
   refine Cl (.c .h (.c .h .n)) (Ia _ T.D6 _ _ T.seen (hF.Fc J J) (by assumption) T.DC (fun i hi=>AA.Gp hi)) (fun v16 B hv=>?_)
   obtain⟨rfl,rfl⟩:=hv
   refine W ?_
   refine Cl (.c .h (.c (.t .h) .n)) (Au _ T.D6 _ ([72,101,114,101,32,105,115]++AA.G4 T.w T.seen) (by assumption) hb (by rw [(AA.OQ T).2.2];omega)) (fun v17 B hv=>?_)
   obtain⟨y18,rfl,y19,rfl⟩:=hv
   refine W ?_
   refine Af (.t2 66 0) ?_
   refine AY (.t .h) ?_
   refine AY (.t .h) ?_
   refine Bo (fun(k:Int) (X:AA) (h:Hd)=>0≤k∧k≤6∧X=T.BU.D5 k.toNat∧h.len=X.out.length) (fun(k:Int) (X:AA) (h:Hd)=>(6 - k).toNat) (fun(k:Int) (X:AA) (h:Hd)=> [(66, .int .i64 k)]) (fun(k:Int) (X:AA) (h:Hd)=> [AJ.box b 115 (Ab.enc ⟨X.w,X.b,h⟩),AJ.own h 100 16 (X.out.flatMap Ing.Event.enc)]) (0) (_) (_) ?_ J J (fun k X h hI2=>?_)
   · have hyl:y13.len=T.seen.length:=y14
     have hlb:T.BU=T.D6.list [72,101,114,101,32,105,115] (T.w.has 0 T.me.room):=if_pos (show decide (0 < ((T.w.has 0 T.me.room).length:Int))=true by rw [← hsee,← hyl];exact c5)
     rw [← hsee,← AA.Lw] at hlb
     exact⟨by omega,by omega,hlb.symm,by assumption⟩
   obtain⟨hI21,hI22,hI23,hI24⟩:=hI2
   refine W ?_
   refine⟨fun c6 c6p=>?_,fun c6 c6p=>?_⟩
   ·
    try dsimp only at c6p
    have hnb:=hw.be k
    have hXl:=AA.HJ T.BU k.toNat
    have hBl:=AA.Jc T
    rw [← hI23] at hXl
    have hXw:X.w=T.w:=hXl.1.trans hBl.1
    have hXb:X.b=T.b:=hXl.2.1.trans hBl.2.1
    rw [← hXw] at hnb
    refine W ?_
    refine⟨fun c7 c7p=>?_,fun c7 c7p=>?_⟩
    ·
     try dsimp only at c7p
     have cp7:(!decide (k=T.BU.b) && T.BU.w.EI T.BU.b k)=true:=by rw [hBl.1,hBl.2.1,← hXw,← hXb];exact c7
     refine W ?_
     refine Cl (.c .h (.c .h .n)) (Au _ X _ _ (by assumption) (by rw [hXb];exact hb) (by have:=hXl.2.2;have:=hBl.2.2;omega)) (fun v20 B hv=>?_)
     obtain⟨y21,rfl,y22,rfl⟩:=hv
     refine W ?_
     refine Ap (k+1) _ _ ?_ ?_ (.t2 66 0) (.refl _)
     · exact⟨by omega,by omega,by rw [AA.Cv hI21,AN cp7,← hI23,hBl.1,← hXw],by assumption⟩
     · omega
    try dsimp only at c7p
    have cp7:(!decide (k=T.BU.b) && T.BU.w.EI T.BU.b k)=false:=by rw [hBl.1,hBl.2.1,← hXw,← hXb];exact c7
    refine W ?_
    refine Ap (k+1) _ _ ?_ ?_ (.t2 66 0) (.refl _)
    · exact⟨by omega,by omega,by rw [AA.Cv hI21,AB cp7,← hI23],by assumption⟩
    · omega
   try dsimp only at c6p
   obtain rfl:k=6:=by omega
   refine W ?_
   intro w1 hS
   have hS:=(hS.perm (AK.perm (.c .h (.c .h .n)))).AM
   have hq:T.look=X:=(show T.look=_ from AB c1).trans hI23.symm
   refine⟨_,⟨?gqc6,J,?g9lc6,?g9Bc6⟩,hS⟩
   case g9Bc6=>rw [hq]
   case g9lc6=>rw [hq];assumption
  try dsimp only at c5p
  refine W ?_
  refine Af (.t2 66 0) ?_
  refine AY (.t (.t .h)) ?_
  refine AY (.t .h) ?_
  refine Bo (fun(k:Int) (X:AA) (h:Hd)=>0≤k∧k≤6∧X=T.BU.D5 k.toNat∧h.len=X.out.length) (fun(k:Int) (X:AA) (h:Hd)=>(6 - k).toNat) (fun(k:Int) (X:AA) (h:Hd)=> [(66, .int .i64 k)]) (fun(k:Int) (X:AA) (h:Hd)=> [AJ.box b 115 (Ab.enc ⟨X.w,X.b,h⟩),AJ.own h 100 16 (X.out.flatMap Ing.Event.enc)]) (0) (_) (_) ?_ J J (fun k X h hI2=>?_)
  · have hyl:y13.len=T.seen.length:=y14
    have hlb:T.BU=T.D6:=if_neg (show ¬ decide (0 < ((T.w.has 0 T.me.room).length:Int))=true by rw [← hsee,← hyl];rw [c5];decide)
    exact⟨by omega,by omega,hlb.symm,by assumption⟩
  obtain⟨hI21,hI22,hI23,hI24⟩:=hI2
  refine W ?_
  refine⟨fun c8 c8p=>?_,fun c8 c8p=>?_⟩
  ·
   try dsimp only at c8p
   have hnb:=hw.be k
   have hXl:=AA.HJ T.BU k.toNat
   have hBl:=AA.Jc T
   rw [← hI23] at hXl
   have hXw:X.w=T.w:=hXl.1.trans hBl.1
   have hXb:X.b=T.b:=hXl.2.1.trans hBl.2.1
   rw [← hXw] at hnb
   refine W ?_
   refine⟨fun c9 c9p=>?_,fun c9 c9p=>?_⟩
   ·
    try dsimp only at c9p
    have cp7:(!decide (k=T.BU.b) && T.BU.w.EI T.BU.b k)=true:=by rw [hBl.1,hBl.2.1,← hXw,← hXb];exact c9
    refine W ?_
    refine Cl (.c .h (.c .h .n)) (Au _ X _ _ (by assumption) (by rw [hXb];exact hb) (by have:=hXl.2.2;have:=hBl.2.2;omega)) (fun v23 B hv=>?_)
    obtain⟨y24,rfl,y25,rfl⟩:=hv
    refine W ?_
    refine Ap (k+1) _ _ ?_ ?_ (.t2 66 0) (.refl _)
    · exact⟨by omega,by omega,by rw [AA.Cv hI21,AN cp7,← hI23,hBl.1,← hXw],by assumption⟩
    · omega
   try dsimp only at c9p
   have cp7:(!decide (k=T.BU.b) && T.BU.w.EI T.BU.b k)=false:=by rw [hBl.1,hBl.2.1,← hXw,← hXb];exact c9
   refine W ?_
   refine Ap (k+1) _ _ ?_ ?_ (.t2 66 0) (.refl _)
   · exact⟨by omega,by omega,by rw [AA.Cv hI21,AB cp7,← hI23],by assumption⟩
   · omega
  try dsimp only at c8p
  obtain rfl:k=6:=by omega
  refine W ?_
  intro w1 hS
  have hS:=(hS.perm (AK.perm (.c .h (.c .h .n)))).AM
  have hq:T.look=X:=(show T.look=_ from AB c1).trans hI23.symm
  refine⟨_,⟨?gqc8,J,?g9lc8,?g9Bc8⟩,hS⟩
  case g9Bc8=>rw [hq]
  case g9lc8=>rw [hq];assumption
 ·
  refine W ?_
  intro b2
  refine Cl (.c (.t .h) .n) (B6 _ T _ hF) (fun v26 B hv=>?_)
  obtain⟨rfl,rfl⟩:=hv
  refine W ?_
  refine Af (.t4 3 25 0 2) ?_
  refine CZ (fun(k:Int) (x:AL)=>0≤k∧k≤6∧x=AA.Gv (T.w.Ad.at T.me.room) k.toNat) (fun(k:Int) (x:AL)=>(6 - k).toNat) (fun(k:Int) (x:AL)=> [(3,Ag x),(25, .int .i64 k)]) (fun(k:Int) (x:AL)=> []) (0) (_) ?_ J J (fun k x hI1=>?_)
  · exact⟨by omega,by omega,rfl⟩
  obtain⟨hI11,hI12,hI13⟩:=hI1
  refine W ?_
  refine⟨fun c10 c10p=>?_,fun c10 c10p=>?_⟩
  ·
   try dsimp only at c10p
   have hxd:=(hF.exit hI11 (show k < 6 by omega))
   have hst:=AA.L6 (r:=T.w.Ad.at T.me.room) hI11
   have hwl:=AA.GH (T.w.Ad.at T.me.room) k.toNat
   rw [← hI13] at hwl
   have hcl:=AD.FB k
   have hck:=AD.SA (d:=k) (by rw [Bool.and_eq_true];exact⟨decide_eq_true hI11,decide_eq_true (by omega)⟩)
   rw [hck] at hcl hst
   refine W ?_
   refine⟨fun c11 c11p=>?_,fun c11 c11p=>?_⟩
   ·
    try dsimp only at c11p
    have cp3:decide ((T.w.Ad.at T.me.room).BH.at k=0)=false:=decide_eq_false (by have:=c11p;first | exact this | (show ¬ (T.w.Ad.at (T.w.AF.at T.b).room).BH.at k=0;omega))
    rw [AB cp3] at hst
    refine W ?_
    refine Gt (TD gl0 gm0 J LG (AD.Gu hI11 (by omega))) ?_
    refine W ?_
    refine⟨fun c12 c12p=>?_,fun c12 c12p=>?_⟩
    ·
     try dsimp only at c12p
     have cp4:(T.w.Ad.at T.me.room).shut.at k=true:=c12
     rw [AN cp4] at hst
     refine W ?_
     refine BC (k+1) _ ?_ ?_ (.t4 3 25 0 2) (.refl _)
     · exact⟨by omega,by omega,by rw [hst,← hI13]⟩
     · omega
    try dsimp only at c12p
    have cp4:(T.w.Ad.at T.me.room).shut.at k=false:=c12
    rw [AB cp4] at hst
    refine W ?_
    refine BC (k+1) _ ?_ ?_ (.t4 3 25 0 2) (.refl _)
    · exact⟨by omega,by omega,by rw [hst,← hI13]⟩
    · omega
   try dsimp only at c11p
   have cp3:decide ((T.w.Ad.at T.me.room).BH.at k=0)=true:=decide_eq_true (by have:=c11p;first | exact this | (show  (T.w.Ad.at (T.w.AF.at T.b).room).BH.at k=0;omega))
   rw [AN cp3] at hst
   refine W ?_
   refine BC (k+1) _ ?_ ?_ (.t4 3 25 0 2) (.refl _)
   · exact⟨by omega,by omega,by rw [hst,← hI13]⟩
   · omega
  try dsimp only at c10p
  obtain rfl:k=6:=by omega
  subst hI13
  have hwl:=AA.GH (T.w.Ad.at T.me.room) 6
  refine W ?_
  refine Cl (.c .h (.c (.t .h) .n)) (Au _ T _ _ hg hb (by omega)) (fun v27 B hv=>?_)
  obtain⟨y28,rfl,y29,rfl⟩:=hv
  refine W ?_
  refine Cl (.c .h (.c .h .n)) (Au _ (T.tell ([84,104,101,32]++(T.w.Ad.at T.me.room).name ++ [46])) _ (AA.Gv (T.w.Ad.at T.me.room) 6) (by assumption) hb (by simp only [AA.BQ];omega)) (fun v30 B hv=>?_)
  obtain⟨y31,rfl,y32,rfl⟩:=hv
  refine W ?_
  refine Cl (.c .h .n) (D4 _ T.D6 _ (hF.Fc J J)) (fun v33 B hv=>?_)
  obtain⟨y34,rfl,y35,rfl⟩:=hv
  refine W ?_
  refine⟨fun c13 c13p=>?_,fun c13 c13p=>?_⟩
  ·
   try dsimp only at c13p
   have hnm:(AA.G4 T.D6.w T.seen).length≤1266637395161115:=AA.Lv hw T.DC
   refine W ?_
   refine Cl (.c .h (.c .h .n)) (Ia _ T.D6 _ _ T.seen (hF.Fc J J) (by assumption) T.DC (fun i hi=>AA.Gp hi)) (fun v37 B hv=>?_)
   obtain⟨rfl,rfl⟩:=hv
   refine W ?_
   refine Cl (.c .h (.c (.t .h) .n)) (Au _ T.D6 _ ([72,101,114,101,32,105,115]++AA.G4 T.w T.seen) (by assumption) hb (by rw [(AA.OQ T).2.2];omega)) (fun v38 B hv=>?_)
   obtain⟨y39,rfl,y40,rfl⟩:=hv
   refine W ?_
   refine Af (.t2 66 0) ?_
   refine AY (.t .h) ?_
   refine AY (.t .h) ?_
   refine Bo (fun(k:Int) (X:AA) (h:Hd)=>0≤k∧k≤6∧X=T.BU.D5 k.toNat∧h.len=X.out.length) (fun(k:Int) (X:AA) (h:Hd)=>(6 - k).toNat) (fun(k:Int) (X:AA) (h:Hd)=> [(66, .int .i64 k)]) (fun(k:Int) (X:AA) (h:Hd)=> [AJ.box b 115 (Ab.enc ⟨X.w,X.b,h⟩),AJ.own h 100 16 (X.out.flatMap Ing.Event.enc)]) (0) (_) (_) ?_ J J (fun k X h hI2=>?_)
   · have hyl:y34.len=T.seen.length:=y35
     have hlb:T.BU=T.D6.list [72,101,114,101,32,105,115] (T.w.has 0 T.me.room):=if_pos (show decide (0 < ((T.w.has 0 T.me.room).length:Int))=true by rw [← hsee,← hyl];exact c13)
     rw [← hsee,← AA.Lw] at hlb
     exact⟨by omega,by omega,hlb.symm,by assumption⟩
   obtain⟨hI21,hI22,hI23,hI24⟩:=hI2
   refine W ?_
   refine⟨fun c14 c14p=>?_,fun c14 c14p=>?_⟩
   ·
    try dsimp only at c14p
    have hnb:=hw.be k
    have hXl:=AA.HJ T.BU k.toNat
    have hBl:=AA.Jc T
    rw [← hI23] at hXl
    have hXw:X.w=T.w:=hXl.1.trans hBl.1
    have hXb:X.b=T.b:=hXl.2.1.trans hBl.2.1
    rw [← hXw] at hnb
    refine W ?_
    refine⟨fun c15 c15p=>?_,fun c15 c15p=>?_⟩
    ·
     try dsimp only at c15p
     have cp7:(!decide (k=T.BU.b) && T.BU.w.EI T.BU.b k)=true:=by rw [hBl.1,hBl.2.1,← hXw,← hXb];exact c15
     refine W ?_
     refine Cl (.c .h (.c .h .n)) (Au _ X _ _ (by assumption) (by rw [hXb];exact hb) (by have:=hXl.2.2;have:=hBl.2.2;omega)) (fun v41 B hv=>?_)
     obtain⟨y42,rfl,y43,rfl⟩:=hv
     refine W ?_
     refine Ap (k+1) _ _ ?_ ?_ (.t2 66 0) (.refl _)
     · exact⟨by omega,by omega,by rw [AA.Cv hI21,AN cp7,← hI23,hBl.1,← hXw],by assumption⟩
     · omega
    try dsimp only at c15p
    have cp7:(!decide (k=T.BU.b) && T.BU.w.EI T.BU.b k)=false:=by rw [hBl.1,hBl.2.1,← hXw,← hXb];exact c15
    refine W ?_
    refine Ap (k+1) _ _ ?_ ?_ (.t2 66 0) (.refl _)
    · exact⟨by omega,by omega,by rw [AA.Cv hI21,AB cp7,← hI23],by assumption⟩
    · omega
   try dsimp only at c14p
   obtain rfl:k=6:=by omega
   refine W ?_
   intro w1 hS
   have hS:=(hS.perm (AK.perm (.c .h (.c .h .n)))).AM
   have hq:T.look=X:=(show T.look=_ from AB c1).trans hI23.symm
   refine⟨_,⟨?gqc14,J,?g9lc14,?g9Bc14⟩,hS⟩
   case g9Bc14=>rw [hq]
   case g9lc14=>rw [hq];assumption
  try dsimp only at c13p
  refine W ?_
  refine Af (.t2 66 0) ?_
  refine AY (.t (.t .h)) ?_
  refine AY (.t .h) ?_
  refine Bo (fun(k:Int) (X:AA) (h:Hd)=>0≤k∧k≤6∧X=T.BU.D5 k.toNat∧h.len=X.out.length) (fun(k:Int) (X:AA) (h:Hd)=>(6 - k).toNat) (fun(k:Int) (X:AA) (h:Hd)=> [(66, .int .i64 k)]) (fun(k:Int) (X:AA) (h:Hd)=> [AJ.box b 115 (Ab.enc ⟨X.w,X.b,h⟩),AJ.own h 100 16 (X.out.flatMap Ing.Event.enc)]) (0) (_) (_) ?_ J J (fun k X h hI2=>?_)
  · have hyl:y34.len=T.seen.length:=y35
    have hlb:T.BU=T.D6:=if_neg (show ¬ decide (0 < ((T.w.has 0 T.me.room).length:Int))=true by rw [← hsee,← hyl];rw [c13];decide)
    exact⟨by omega,by omega,hlb.symm,by assumption⟩
  obtain⟨hI21,hI22,hI23,hI24⟩:=hI2
  refine W ?_
  refine⟨fun c16 c16p=>?_,fun c16 c16p=>?_⟩
  ·
   try dsimp only at c16p
   have hnb:=hw.be k
   have hXl:=AA.HJ T.BU k.toNat
   have hBl:=AA.Jc T
   rw [← hI23] at hXl
   have hXw:X.w=T.w:=hXl.1.trans hBl.1
   have hXb:X.b=T.b:=hXl.2.1.trans hBl.2.1
   rw [← hXw] at hnb
   refine W ?_
   refine⟨fun c17 c17p=>?_,fun c17 c17p=>?_⟩
   ·
    try dsimp only at c17p
    have cp7:(!decide (k=T.BU.b) && T.BU.w.EI T.BU.b k)=true:=by rw [hBl.1,hBl.2.1,← hXw,← hXb];exact c17
    refine W ?_
    refine Cl (.c .h (.c .h .n)) (Au _ X _ _ (by assumption) (by rw [hXb];exact hb) (by have:=hXl.2.2;have:=hBl.2.2;omega)) (fun v44 B hv=>?_)
    obtain⟨y45,rfl,y46,rfl⟩:=hv
    refine W ?_
    refine Ap (k+1) _ _ ?_ ?_ (.t2 66 0) (.refl _)
    · exact⟨by omega,by omega,by rw [AA.Cv hI21,AN cp7,← hI23,hBl.1,← hXw],by assumption⟩
    · omega
   try dsimp only at c17p
   have cp7:(!decide (k=T.BU.b) && T.BU.w.EI T.BU.b k)=false:=by rw [hBl.1,hBl.2.1,← hXw,← hXb];exact c17
   refine W ?_
   refine Ap (k+1) _ _ ?_ ?_ (.t2 66 0) (.refl _)
   · exact⟨by omega,by omega,by rw [AA.Cv hI21,AB cp7,← hI23],by assumption⟩
   · omega
  try dsimp only at c16p
  obtain rfl:k=6:=by omega
  refine W ?_
  intro w1 hS
  have hS:=(hS.perm (AK.perm (.c .h (.c .h .n)))).AM
  have hq:T.look=X:=(show T.look=_ from AB c1).trans hI23.symm
  refine⟨_,⟨?gqc16,J,?g9lc16,?g9Bc16⟩,hS⟩
  case g9Bc16=>rw [hq]
  case g9lc16=>rw [hq];assumption
theorem He (X : AD) (s : AL) (hw : X.Cs) (hs : s.length ≤ 140737488351232) : Cz Tryz.prog 45 #[.agg X.enc.toArray, Ag s] [] (fun w => (GV 0 AD.Be w ∧ 0 ∉ BV [])) (fun v B => ∃ h : Hd, v = .tuple #[.agg ((AA.Ao X s).1.enc).toArray, .int .i64 (AA.Ao X s).2.1, h.val, .int .i64 (AA.Ao X s).2.2.2] ∧ h.len = (AA.Ao X s).2.2.1.length ∧ B = [AJ.own h 100 16 ((AA.Ao X s).2.2.1.flatMap Ing.Event.enc)]) := by
 intro w hS0 hH
 obtain ⟨gl0, gm0⟩ := hH
 refine AR _ _ Tryz.func45 J J J (hS0) ?_
 refine W ?_
 intro b1 b2
 refine ⟨fun c1 c1p => ?_, fun c1 c1p => ?_⟩
 ·
  try dsimp only at c1p
  rw [AD.Cd] at c1
  refine W ?_
  intro w1 hS
  have hS := hS.BT 100 16
  have hS := (hS.perm (AK.perm (.c .h .n))).AM
  have hq : AA.Ao X s = _ := AN c1
  refine ⟨_, ⟨⟨none, 0, 0⟩, ?g9v, ?g9l, ?g9B⟩, hS⟩
  case g9v => rw [hq]; rfl
  case g9l => rw [hq]; rfl
  case g9B => rw [hq]; rfl
 try dsimp only at c1p
 rw [AD.Cd] at c1
 refine W ?_
 refine Af (.t5 8 9 1 2 4) ?_
 refine CZ (fun (k : Int) (f : Int) => -1 ≤ k ∧ k ≤ 5 ∧ f = AA.Ci X (5 - k).toNat ∧ ∀ j, k < j → j ≤ 5 → AA.IM X s j = false) (fun (k : Int) (f : Int) => (k + 1).toNat) (fun (k : Int) (f : Int) => [(8, .int .i64 f), (9, .int .i64 k)]) (fun (k : Int) (f : Int) => []) (5) (_) ?_ J J (fun k f hI1 => ?_)
 · exact ⟨by omega, by omega, rfl, fun j h0 h1 => by omega⟩
 obtain ⟨hI11, hI12, hI13, hI14⟩ := hI1
 refine W ?_
 refine ⟨fun c2 c2p => ?_, fun c2 c2p => ?_⟩
 ·
  try dsimp only at c2p
  refine W ?_
  refine ⟨fun c3 c3p => ?_, fun c3 c3p => ?_⟩
  ·
   try dsimp only at c3p
   refine W ?_
   intro w1 hS
   have hS := hS.BT 100 16
   have hS := (hS.perm (AK.perm (.c .h .n))).AM
   have ha : (!A4 6 (fun k => !AA.IM X s k) 6) = true := by
     cases hh : A4 6 (fun k => !AA.IM X s k) 6 with
     | false => rfl
     | true =>
       have := (CA 6).1 hh k (by omega) (by omega)
       rw [show AA.IM X s k = true from c3] at this
       exact absurd this (by decide)
   have hq : AA.Ao X s = (X, 0, [], 1) := by
     refine (AB c1).trans ?_
     cases hn : (!AA.GO s) with
     | true => exact if_pos rfl
     | false => exact (if_neg (by decide)).trans (AN ha)
   refine ⟨_, ⟨⟨none, 0, 0⟩, ?g9v, ?g9l, ?g9B⟩, hS⟩
   case g9v => rw [hq]; rfl
   case g9l => rw [hq]; rfl
   case g9B => rw [hq]; rfl
  try dsimp only at c3p
  refine W ?_
  refine ⟨fun c4 c4p => ?_, fun c4 c4p => ?_⟩
  ·
   try dsimp only at c4p
   refine W ?_
   refine BC (k - 1) _ ?_ ?_ (.t5 8 9 1 2 4) (.refl _)
   · exact ⟨by omega, by omega, by rw [AA.JY (by omega) hI12, AN c4], fun j h0 h1 => by
       by_cases e : j = k
       · rw [e]; exact c3
       · exact hI14 j (by omega) h1⟩
   · omega
  try dsimp only at c4p
  refine W ?_
  refine BC (k - 1) _ ?_ ?_ (.t5 8 9 1 2 4) (.refl _)
  · exact ⟨by omega, by omega, by rw [AA.JY (by omega) hI12, AB c4, ← hI13], fun j h0 h1 => by
      by_cases e : j = k
      · rw [e]; exact c3
      · exact hI14 j (by omega) h1⟩
  · omega
 try dsimp only at c2p
 obtain rfl : k = -1 := by omega
 have hfe : f = AA.Ci X 6 := hI13
 have hno : (!A4 6 (fun k => !AA.IM X s k) 6) = false := by rw [(CA 6).2 (fun i h0 h1 => by rw [hI14 i (by omega) (by omega)]; rfl)]; rfl
 have hfr := AA.NC X 6 (Nat.le_refl _)
 rw [← hfe] at hfr
 refine W ?_
 refine ⟨fun c5 c5p => ?_, fun c5 c5p => ?_⟩
 ·
  try dsimp only at c5p
  refine W ?_
  intro w1 hS
  have hS := hS.BT 100 16
  have hS := (hS.perm (AK.perm (.c .h .n))).AM
  have hq : AA.Ao X s = _ := (AB c1).trans (AN c5)
  refine ⟨_, ⟨⟨none, 0, 0⟩, ?g9v, ?g9l, ?g9B⟩, hS⟩
  case g9v => rw [hq]; rfl
  case g9l => rw [hq]; rfl
  case g9B => rw [hq]; rfl
 try dsimp only at c5p
 refine W ?_
 refine ⟨fun c6 c6p => ?_, fun c6 c6p => ?_⟩
 ·
  try dsimp only at c6p
  refine W ?_
  intro w1 hS
  have hS := hS.BT 100 16
  have hS := (hS.perm (AK.perm (.c .h .n))).AM
  have hf0 : decide (AA.Ci X 6 < 0) = true := by rw [← hfe]; exact c6
  have hq : AA.Ao X s = _ := (AB c1).trans ((AB c5).trans ((AB hno).trans (AN hf0)))
  refine ⟨_, ⟨⟨none, 0, 0⟩, ?g9v, ?g9l, ?g9B⟩, hS⟩
  case g9v => rw [hq]; rfl
  case g9l => rw [hq]; rfl
  case g9B => rw [hq]; rfl
 try dsimp only at c6p
 have hF := AA.Q3 (s := s) (by simpa using c1) hw (by omega) (show 0 ≤ f by omega) (show f < 6 by omega)
 have hb := hF.b
 refine W ?_
 intro b3
 refine Cn Ing.Event.enc 100 16 ?_
 refine W ?_
 refine Cl (.c (.t .h) (.c .h .n)) (BI _ (⟨X.Bb f (AA.KQ s), f, []⟩ : AA) _ 17 (-1) 0 0 [] [] J hb (show (-1 : Int) < 6 by decide) (Nat.zero_le _)) (fun v6 B hv => ?_)
 obtain ⟨y7, rfl, y8, rfl⟩ := hv
 refine W ?_
 refine Cm (.c .h (.c .h .n)) (FZ _ (AA.kind (⟨X.Bb f (AA.KQ s), f, []⟩ : AA) 17) _ y8 (hF.Fc J J) (by decide : (0 : Nat) + 1 ≤ 90000)) (fun v9 B hv => ?_)
 obtain ⟨y10, rfl, y11, rfl⟩ := hv
 refine W ?_
 intro w1 hS
 have hS := (hS.perm (AK.perm (.c (.t .h) .n))).AM
 have hf0 : decide (AA.Ci X 6 < 0) = false := by rw [← hfe]; exact c6
 have hq : AA.Ao X s = _ := (AB c1).trans ((AB c5).trans ((AB hno).trans (AB hf0)))
 rw [← hfe] at hq
 refine ⟨_, ⟨y10, ?g9v, ?g9l, ?g9B⟩, hS⟩
 case g9v => rw [hq]; (try rfl)
 case g9l => rw [hq]; exact y11
 case g9B => rw [hq]; (try rfl)
theorem H7 (d:Int)(w:World)(gl0:GV 0 AD.Be w):Ch Tryz.prog 101 #[.int .i64 d] w fun v w'=>v=Ag (AD.called d)∧BF w w':=by
 refine Rb Tryz.func101 ?_
 refine W ?_
 refine⟨fun c1 c1p=>?_,fun c1 c1p=>?_⟩
 ·
  try dsimp only at c1p
  have hr:0≤d∧d < 6:=by simp at c1;omega
  refine W ?_
  refine Gt (Ko gl0 J LG (AD.Gu hr.1 hr.2)) ?_
  refine W ?_
  rw [AD.SA c1];rfl
 try dsimp only at c1p
 refine W ?_
 rw [AD.cS c1];rfl
instance instP101:DI Tryz.prog 101 (type_of% @H7):=⟨@H7⟩
theorem Ai (b c:Nat)(own:Bool)(a:AL)(N8 theirs:AL)(hm:N8.length≤100)(ht:theirs.length≤100)(hx:a.length≤2000000):Fu Tryz.prog 103 #[Ag N8,Ag theirs, .pointer (some ⟨b,0,none⟩), .pointer (some ⟨c,0,none⟩)] [AJ.box b 4 [.bool own],AJ.box c 9 [Ag a]] (fun v B=>∃ s:AL,v=Ag s∧s=AD.BE own a N8 theirs∧s.length≤2000300∧B = [AJ.box b 4 [.bool own],AJ.box c 9 [Ag a]]):=by
 intro w hS0
 refine AR _ _ Tryz.func103 J J J (hS0) ?_
 refine W ?_
 refine⟨fun c1 c1p=>?_,fun c1 c1p=>?_⟩
 ·
  try dsimp only at c1p
  refine W ?_
  intro w1 hS
  have hS:=(hS.perm (AK.perm (.c .h (.c .h .n)))).AM
  exact⟨_,⟨_,J,(show AD.BE own a N8 theirs=_ from AN c1).symm,(by simp only [List.length_append,List.length_cons,List.length_nil];omega),rfl⟩,hS⟩
 try dsimp only at c1p
 refine W ?_
 intro w1 hS
 have hS:=(hS.perm (AK.perm (.c .h (.c .h .n)))).AM
 exact⟨_,⟨_,J,(show AD.BE own a N8 theirs=_ from AB c1).symm,(by simp only [List.length_append,List.length_cons,List.length_nil];omega),rfl⟩,hS⟩
theorem As (b c:Nat)(own:Bool)(e:Ing.Event)(hs:AD.Small e):Fu Tryz.prog 104 #[.pointer (some ⟨b,0,none⟩), .pointer (some ⟨c,0,none⟩)] [AJ.box b 4 [.bool own],AJ.box c 100 e.enc] (fun v B=>∃ s:AL,v=Ag s∧s=AD.Bk own e.AQ∧s.length≤2000300∧B = [AJ.box b 4 [.bool own],AJ.box c 100 e.enc]):=by
 intro w hS0
 have htl:=hs.AQ
 refine AR _ _ Tryz.func104 J J J (hS0) ?_
 refine W ?_
 refine⟨fun c1 c1p=>?_,fun c1 c1p=>?_⟩
 ·
  try dsimp only at c1p
  refine W ?_
  intro w1 hS
  have hS:=(hS.perm (AK.perm (.c .h (.c .h .n)))).AM
  exact⟨_,⟨_,J,(show AD.Bk own e.AQ=_ from AN c1).symm,(by simp only [List.length_append,List.length_cons,List.length_nil];omega),rfl⟩,hS⟩
 try dsimp only at c1p
 refine W ?_
 intro w1 hS
 have hS:=(hS.perm (AK.perm (.c .h (.c .h .n)))).AM
 exact⟨_,⟨_,J,(show AD.Bk own e.AQ=_ from AB c1).symm,(by simp only [List.length_append,List.length_cons,List.length_nil];omega),rfl⟩,hS⟩
end Go.Proofs.YtlmmdjaoikaceaaGreatDoor

/- What the functions that the law HousePlays reaches compute: walks, part 3. No condition. -/
import Derived.Test.YtlmmdjaoikaceaaGreatDoorCards
import Derived.Test.YtlmmdjaoikaceaaGreatDoorTie
import Derived.Deep.DeepHandedRow
import Derived.Test.YtlmmdjaoikaceaaGreatDoorRows
import Derived.Test.YtlmmdjaoikaceaaGreatDoorHousePlaysEc3
import Derived.Test.YtlmmdjaoikaceaaGreatDoorHousePlaysRa1
import Derived.Test.YtlmmdjaoikaceaaGreatDoorHousePlaysRb1
import Derived.Test.YtlmmdjaoikaceaaGreatDoorHousePlaysRc1
import Derived.Test.YtlmmdjaoikaceaaGreatDoorHousePlaysRd1
import Derived.Test.YtlmmdjaoikaceaaGreatDoorHousePlaysWalks
import Derived.Test.YtlmmdjaoikaceaaGreatDoorHousePlaysWalks2
set_option linter.unusedSimpArgs false
set_option linter.unusedVariables false
set_option maxRecDepth 100000
set_option maxHeartbeats 4000000
namespace Go.Proofs.YtlmmdjaoikaceaaGreatDoor
open Go Go.Ing Go.RowKit Go.ChangeShapes Go.WideShapes Go.ChangeAt
theorem NZ (s:AL)(hs:s.length≤4000000):Fu Tryz.prog 182 #[Ag s] [] (fun v B=>∃ h':Hd,v=h'.val∧h'.len=(Words.words s).length∧B = [AJ.own h' 9 1 ((Words.words s).flatMap AX)]):=by
 intro w hS0
 have hpl:=Words.DV 32 s
 have hcl:=List.count_le_length (a:=(32:UInt8)) (l:=s)
 refine AR _ _ Tryz.func182 J J J (hS0) ?_
 refine W ?_
 refine Cl .n (Ho _ 32 (by omega)) (fun v1 B hv=>?_)
 obtain⟨y2,rfl,y3,rfl⟩:=hv
 refine W ?_
 refine Af (.t4 3 9 7 8) ?_
 refine CG AX 9 1 ?_
 refine Bo (fun(k:Int) (xs:List AL) (g:Hd)=>0≤k∧k≤((Words.pieces 32 s).length:Int)∧xs=Words.Jo s k.toNat∧g.len=xs.length∧xs.length≤k.toNat) (fun(k:Int) (xs:List AL) (g:Hd)=>(((Words.pieces 32 s).length:Int) - k).toNat) (fun(k:Int) (xs:List AL) (g:Hd)=> [(3,g.val),(9, .int .i64 k)]) (fun(k:Int) (xs:List AL) (g:Hd)=> [AJ.own g 9 1 (xs.flatMap AX)]) (0) ([]) (_) ?_ J J (fun k xs g hI1=>?_)
 · exact⟨by omega,by omega,rfl,rfl,by simp⟩
 obtain⟨hI11,hI12,hI13,hI14,hI15⟩:=hI1
 refine W ?_
 refine⟨fun c1 c1p=>?_,fun c1 c1p=>?_⟩
 ·
  refine W ?_
  refine⟨fun c2 c2p=>?_,fun c2 c2p=>?_⟩
  ·
   try have:=Words.RP (c:=32) (s:=s) k.toNat
   refine W ?_
   intro b1 h5 h5l h5z
   refine Ap (k+1) _ _ ?_ ?_ (.t4 3 9 7 8) (.cons _ (.refl _))
   · exact⟨by omega,by omega,by rw [Words.bV hI11 (by omega) c2,← hI13],(by(try dsimp only at *)<;>(try simp only [List.length_append,List.length_cons,List.length_nil])<;>omega),(by(try simp only [List.length_append,List.length_cons,List.length_nil]);omega)⟩
   · omega
  refine W ?_
  refine Ap (k+1) _ _ ?_ ?_ (.t4 3 9 7 8) (.refl _)
  · exact⟨by omega,by omega,by rw [Words.bU hI11 (by omega) c2,← hI13],(by(try dsimp only at *)<;>(try simp only [List.length_append,List.length_cons,List.length_nil])<;>omega),(by(try simp only [List.length_append,List.length_cons,List.length_nil]);omega)⟩
  · omega
 obtain rfl:k=((Words.pieces 32 s).length:Int):=by omega
 refine W ?_
 intro w1 hS
 have hS:=(hS.perm (AK.perm (.c .h .n))).AM
 exact⟨_,⟨_,J,by rw [Words.QQ,← hI13];assumption,by rw [Words.QQ,← hI13]⟩,hS⟩
theorem C4 (s p:AL)(w:World):Ch Tryz.prog 225 #[Ag s,Ag p] w fun v w'=>v = .bool (decide ((p.length:Int)≤(s.length:Int)) && decide (s.take p.length=p))∧BF w w':=by
 refine Rb Tryz.func225 ?_
 refine W ?_
 rfl
instance instP225:DI Tryz.prog 225 (type_of% @C4):=⟨@C4⟩
theorem Fl (s p:AL)(w:World):Ch Tryz.prog 207 #[Ag s,Ag p] w fun v w'=>v = .bool (decide ((p.length:Int)≤(s.length:Int)) && decide (s.take p.length=p))∧BF w w':=by
 refine Rb Tryz.func207 ?_
 refine W ?_
 rfl
instance instP207:DI Tryz.prog 207 (type_of% @Fl):=⟨@Fl⟩
theorem J5 (u:AL)(w:World)(gl0:GV 1 AD.Be w):Ch Tryz.prog 183 #[Ag u] w fun v w'=>v = .tuple #[.int .i64 (Words.verb u).1, .int .i64 (Words.verb u).2]∧BF w w':=by
 refine Rb Tryz.func183 ?_
 refine W ?_
 refine⟨fun c1 c1p=>?_,fun c1 c1p=>?_⟩
 ·
  refine W ?_
  refine Gt (TC gl0 Words.QP J bO J) ?_
  refine W ?_
  refine Af (.t3 9 0 8) ?_
  refine A7 (fun(k:Int)=>0≤k∧k≤21∧Words.JF u 21=Words.JF u (21 - k).toNat) (fun(k:Int)=>(21 - k).toNat) (fun(k:Int)=> [(9, .int .i64 k)]) (fun(k:Int)=> []) (0) ?_ J J (fun k hI1=>?_)
  · exact⟨by omega,by omega,rfl⟩
  obtain⟨hI11,hI12,hI13⟩:=hI1
  refine W ?_
  refine⟨fun c2 c2p=>?_,fun c2 c2p=>?_⟩
  ·
   rw [Words.WW hI11 (by omega)] at hI13
   refine W ?_
   refine⟨fun c3 c3p=>?_,fun c3 c3p=>?_⟩
   ·
    have cp:Words.pre (AD.DF.getD k.toNat []) u=true:=c3
    refine W ?_
    rw [show Words.verb u=_ from AN c1,hI13,AN cp];rfl
   have cp:Words.pre (AD.DF.getD k.toNat []) u=false:=c3
   refine W ?_
   refine Aw (k+1) ?_ ?_ (.t3 9 0 8) (.refl _)
   · exact⟨by omega,by omega,by rw [hI13,AB cp]⟩
   · omega
  obtain rfl:k=21:=by omega
  refine W ?_
  rw [show Words.verb u=_ from AN c1,hI13];rfl
 refine W ?_
 rw [show Words.verb u=_ from AB c1];rfl
instance instP183:DI Tryz.prog 183 (type_of% @J5):=⟨@J5⟩
theorem Fz (s:AL)(hs:s.length≤10000000)(w:World):Ch Tryz.prog 185 #[Ag s,Ag [32]] w fun v w'=>v=Ag (Words.DH 32 s)∧BF w w':=by
 refine Rb Tryz.func185 ?_
 refine W ?_
 refine⟨fun c1 c1p=>?_,fun c1 c1p=>?_⟩
 ·
  refine W ?_
  have e:s = []:=by simpa using c1
  subst e;rfl
 refine W ?_
 rfl
instance instP185:DI Tryz.prog 185 (type_of% @Fz):=⟨@Fz⟩
theorem Dr (s:AL)(c:UInt8)(hs:s.length≤140737488351232)(w:World):Ch Tryz.prog 208 #[Ag s,Ag [c]] w fun v w'=>v = .tuple #[Ag (Words.cut c s).1,Ag (Words.cut c s).2.1, .bool (Words.cut c s).2.2]∧BF w w':=by
 refine Rb Tryz.func208 ?_
 refine W ?_
 refine⟨fun c1 c1p=>?_,fun c1 c1p=>?_⟩
 ·
  have hm:=Words.fW (c:=c) (s:=s) (by simpa using c1)
  refine W ?_
  rw [show Words.cut c s=_ from(AN c1)];rfl
 refine W ?_
 rw [show Words.cut c s=_ from(AB c1)];rfl
instance instP208:DI Tryz.prog 208 (type_of% @Dr):=⟨@Dr⟩
theorem JB (s:AL)(c:UInt8)(hs:s.length≤140737488351232)(w:World):Ch Tryz.prog 184 #[Ag s,Ag [c]] w fun v w'=>v = .tuple #[Ag (Words.cut c s).1,Ag (Words.cut c s).2.1, .bool (Words.cut c s).2.2]∧BF w w':=by
 refine Rb Tryz.func184 ?_
 refine W ?_
 rfl
instance instP184:DI Tryz.prog 184 (type_of% @JB):=⟨@JB⟩
theorem C3 (s p:AL)(w:World):Ch Tryz.prog 226 #[Ag s,Ag p] w fun v w'=>v = .tuple #[Ag (Words.Gd s p).1, .bool (Words.Gd s p).2]∧BF w w':=by
 refine Rb Tryz.func226 ?_
 refine W ?_
 refine⟨fun c1 c1p=>?_,fun c1 c1p=>?_⟩
 ·
  refine W ?_
  rw [show Words.Gd s p=_ from(AN c1)];rfl
 have hle:p.length≤s.length:=by simp at c1;omega
 refine W ?_
 rw [show Words.Gd s p=_ from(AB c1)];rfl
instance instP226:DI Tryz.prog 226 (type_of% @C3):=⟨@C3⟩
theorem Fk (s p:AL)(w:World):Ch Tryz.prog 209 #[Ag s,Ag p] w fun v w'=>v = .tuple #[Ag (Words.Gd s p).1, .bool (Words.Gd s p).2]∧BF w w':=by
 refine Rb Tryz.func209 ?_
 refine W ?_
 rfl
instance instP209:DI Tryz.prog 209 (type_of% @Fk):=⟨@Fk⟩
theorem Fy (s:AL)(c:UInt8)(w:World):Ch Tryz.prog 210 #[Ag s,Ag [c]] w fun v w'=>v = .bool (decide (0≤Lib.indexByte s c))∧BF w w':=by
 refine Rb Tryz.func210 ?_
 refine W ?_
 rfl
instance instP210:DI Tryz.prog 210 (type_of% @Fy):=⟨@Fy⟩
def Sa:Go.Shelf.Ren:=⟨fun | 172=>211 | 244=>227 | 245=>228 | 247=>233 | 279=>234 | 280=>235 | 281=>236 | 282=>237 | 287=>240 | 316=>241 | 171=>102 | 205=>242 | 321=>243 | 322=>244 | 243=>141 | 246=>175 | 283=>199 | 284=>200 | 285=>201 | 286=>202 | 129=>218 | 317=>217 | 318=>219 | 319=>220 | 320=>221 | 337=>231 | 338=>232 | n=>n,fun | 9=>9 | 3=>3 | 75=>138 | 76=>140 | 4=>4 | 5=>5 | 167=>246 | 37=>122 | 0=>0 | 85=>247 | 2=>2 | 168=>249 | 53=>226 | 175=>257 | 46=>184 | 210=>260 | 127=>185 | 145=>265 | 143=>263 | 21=>21 | 171=>225 | 173=>229 | 212=>235 | 51=>236 | 20=>20 | 213=>237 | 232=>255 | 233=>256 | 80=>146 | n=>n,fun | 15=>8 | 16=>9 | 17=>3 | 18=>6 | 19=>7 | n=>n⟩
theorem Zy:LaysC.n172 Tryz.prog Sa where
  mixed:=by kernel_rfl
  f129:=Tryz.func218.trans (congrArg some (by kernel_rfl))
  f171:=Tryz.func102.trans (congrArg some (by kernel_rfl))
  f172:=Tryz.func211.trans (congrArg some (by kernel_rfl))
  f205:=Tryz.func242.trans (congrArg some (by kernel_rfl))
  f243:=Tryz.func141.trans (congrArg some (by kernel_rfl))
  f244:=Tryz.func227.trans (congrArg some (by kernel_rfl))
  f245:=Tryz.func228.trans (congrArg some (by kernel_rfl))
  f246:=Tryz.func175.trans (congrArg some (by kernel_rfl))
  f247:=Tryz.func233.trans (congrArg some (by kernel_rfl))
  f279:=Tryz.func234.trans (congrArg some (by kernel_rfl))
  f280:=Tryz.func235.trans (congrArg some (by kernel_rfl))
  f281:=Tryz.func236.trans (congrArg some (by kernel_rfl))
  f282:=Tryz.func237.trans (congrArg some (by kernel_rfl))
  f283:=Tryz.func199.trans (congrArg some (by kernel_rfl))
  f284:=Tryz.func200.trans (congrArg some (by kernel_rfl))
  f285:=Tryz.func201.trans (congrArg some (by kernel_rfl))
  f286:=Tryz.func202.trans (congrArg some (by kernel_rfl))
  f287:=Tryz.func240.trans (congrArg some (by kernel_rfl))
  f316:=Tryz.func241.trans (congrArg some (by kernel_rfl))
  f317:=Tryz.func217.trans (congrArg some (by kernel_rfl))
  f318:=Tryz.func219.trans (congrArg some (by kernel_rfl))
  f319:=Tryz.func220.trans (congrArg some (by kernel_rfl))
  f320:=Tryz.func221.trans (congrArg some (by kernel_rfl))
  f321:=Tryz.func243.trans (congrArg some (by kernel_rfl))
  f322:=Tryz.func244.trans (congrArg some (by kernel_rfl))
  f337:=Tryz.func231.trans (congrArg some (by kernel_rfl))
  f338:=Tryz.func232.trans (congrArg some (by kernel_rfl))
  t0:=Tryz.underlying0
  a0:=Tryz.isAgg0
  z0:=Tryz.sizeOf0
  v0:=Tryz.zeroValue0
  t2:=Tryz.underlying2
  a2:=Tryz.isAgg2
  z2:=Tryz.sizeOf2
  v2:=Tryz.zeroValue2
  t3:=Tryz.underlying3
  a3:=Tryz.isAgg3
  z3:=Tryz.sizeOf3
  v3:=Tryz.zeroValue3
  t4:=Tryz.underlying4
  a4:=Tryz.isAgg4
  z4:=Tryz.sizeOf4
  v4:=Tryz.zeroValue4
  t5:=Tryz.underlying5
  a5:=Tryz.isAgg5
  z5:=Tryz.sizeOf5
  v5:=Tryz.zeroValue5
  t9:=Tryz.underlying9
  a9:=Tryz.isAgg9
  z9:=Tryz.sizeOf9
  v9:=Tryz.zeroValue9
  t20:=Tryz.underlying20
  a20:=Tryz.isAgg20
  z20:=Tryz.sizeOf20
  v20:=Tryz.zeroValue20
  t21:=Tryz.underlying21
  a21:=Tryz.isAgg21
  z21:=Tryz.sizeOf21
  v21:=Tryz.zeroValue21
  t37:=Tryz.underlying122
  a37:=Tryz.isAgg122
  z37:=Tryz.sizeOf122
  v37:=Tryz.zeroValue122
  t46:=Tryz.underlying184
  a46:=Tryz.isAgg184
  z46:=Tryz.sizeOf184
  v46:=Tryz.zeroValue184
  t51:=Tryz.underlying236
  a51:=Tryz.isAgg236
  z51:=Tryz.sizeOf236
  v51:=Tryz.zeroValue236
  t53:=Tryz.underlying226
  a53:=Tryz.isAgg226
  z53:=Tryz.sizeOf226
  v53:=Tryz.zeroValue226
  t75:=Tryz.underlying138
  a75:=Tryz.isAgg138
  z75:=Tryz.sizeOf138
  v75:=Tryz.zeroValue138
  t76:=Tryz.underlying140
  a76:=Tryz.isAgg140
  z76:=Tryz.sizeOf140
  v76:=Tryz.zeroValue140
  t85:=Tryz.underlying247
  a85:=Tryz.isAgg247
  z85:=Tryz.sizeOf247
  v85:=Tryz.zeroValue247
  t127:=Tryz.underlying185
  a127:=Tryz.isAgg185
  z127:=Tryz.sizeOf185
  v127:=Tryz.zeroValue185
  t143:=Tryz.underlying263
  a143:=Tryz.isAgg263
  z143:=Tryz.sizeOf263
  v143:=Tryz.zeroValue263
  t145:=Tryz.underlying265
  a145:=Tryz.isAgg265
  z145:=Tryz.sizeOf265
  v145:=Tryz.zeroValue265
  t167:=Tryz.underlying246
  a167:=Tryz.isAgg246
  z167:=Tryz.sizeOf246
  v167:=Tryz.zeroValue246
  t168:=Tryz.underlying249
  a168:=Tryz.isAgg249
  z168:=Tryz.sizeOf249
  v168:=Tryz.zeroValue249
  t171:=Tryz.underlying225
  a171:=Tryz.isAgg225
  z171:=Tryz.sizeOf225
  v171:=Tryz.zeroValue225
  t173:=Tryz.underlying229
  a173:=Tryz.isAgg229
  z173:=Tryz.sizeOf229
  v173:=Tryz.zeroValue229
  t175:=Tryz.underlying257
  a175:=Tryz.isAgg257
  z175:=Tryz.sizeOf257
  v175:=Tryz.zeroValue257
  t210:=Tryz.underlying260
  a210:=Tryz.isAgg260
  z210:=Tryz.sizeOf260
  v210:=Tryz.zeroValue260
  t212:=Tryz.underlying235
  a212:=Tryz.isAgg235
  z212:=Tryz.sizeOf235
  v212:=Tryz.zeroValue235
  t213:=Tryz.underlying237
  a213:=Tryz.isAgg237
  z213:=Tryz.sizeOf237
  t232:=Tryz.underlying255
  a232:=Tryz.isAgg255
  z232:=Tryz.sizeOf255
  v232:=Tryz.zeroValue255
  t233:=Tryz.underlying256
  a233:=Tryz.isAgg256
  z233:=Tryz.sizeOf256
  v233:=Tryz.zeroValue256
  g15:=by kernel_rfl
  g16:=by kernel_rfl
  g17:=by kernel_rfl
  g18:=by kernel_rfl
  g19:=by kernel_rfl
  t80:=Tryz.underlying146
  a80:=Tryz.isAgg146
  z80:=Tryz.sizeOf146
  v80:=Tryz.zeroValue146
  i0:=by kernel_rfl
  i2:=by kernel_rfl
  i3:=by kernel_rfl
  i4:=by kernel_rfl
  i5:=by kernel_rfl
  i9:=by kernel_rfl
  i20:=by kernel_rfl
  i21:=by kernel_rfl
  i37:=by kernel_rfl
  i46:=by kernel_rfl
  i51:=by kernel_rfl
  i53:=by kernel_rfl
  i75:=by kernel_rfl
  i76:=by kernel_rfl
  i80:=by kernel_rfl
  i85:=by kernel_rfl
  i127:=by kernel_rfl
  i143:=by kernel_rfl
  i145:=by kernel_rfl
  i167:=by kernel_rfl
  i168:=by kernel_rfl
  i171:=by kernel_rfl
  i173:=by kernel_rfl
  i175:=by kernel_rfl
  i210:=by kernel_rfl
  i212:=by kernel_rfl
  i232:=by kernel_rfl
  i233:=by kernel_rfl
  m15:=by kernel_rfl
  m16:=by kernel_rfl
  m17:=by kernel_rfl
  m18:=by kernel_rfl
  m19:=by kernel_rfl
  c0:=by kernel_rfl
  c2:=by kernel_rfl
  c3:=by kernel_rfl
  c4:=by kernel_rfl
  c5:=by kernel_rfl
  c9:=by kernel_rfl
  c20:=by kernel_rfl
  c21:=by kernel_rfl
  c37:=by kernel_rfl
  c46:=by kernel_rfl
  c51:=by kernel_rfl
  c53:=by kernel_rfl
  c75:=by kernel_rfl
  c76:=by kernel_rfl
  c80:=by kernel_rfl
  c85:=by kernel_rfl
  c127:=by kernel_rfl
  c143:=by kernel_rfl
  c145:=by kernel_rfl
  c167:=by kernel_rfl
  c168:=by kernel_rfl
  c171:=by kernel_rfl
  c173:=by kernel_rfl
  c175:=by kernel_rfl
  c210:=by kernel_rfl
  c212:=by kernel_rfl
  c213:=by kernel_rfl
  c232:=by kernel_rfl
  c233:=by kernel_rfl
theorem Mp (s:AL)(hs:s.length≤140737488351232):Cz Tryz.prog 211 #[Ag s] [] (fun w=>Eo 8 w∧Eo 9 w) (fun v B=>(∃ k:Int,Lib.atoiAll s = .ok k∧v = .tuple #[.int .i64 k, .nilIface]∧B = [])∨(∃(k:Int) (t:TypeId) (x:Value),(∀ j,Lib.atoiAll s≠ .ok j)∧v = .tuple #[.int .i64 k, .iface t x]∧B = [])):=
  ZT Zy s hs (by kernel_rfl) (by kernel_rfl)
theorem J4 (u:AL)(hu:u.length≤140737488351232)(w:World)(gl0:Eo 8 w)(gl1:Eo 9 w):Ch Tryz.prog 186 #[Ag u] w fun v w'=>v = .tuple #[.int .i64 (Words.Bq u).1,Ag (Words.Bq u).2.1, .bool (Words.Bq u).2.2.1, .int .i64 (Words.Bq u).2.2.2]∧BF w w':=by
 have hcut:=Words.OL 46 u
 refine Rb Tryz.func186 ?_
 refine W ?_
 refine⟨fun c1 c1p=>?_,fun c1 c1p=>?_⟩
 ·
  refine W ?_
  rw [show Words.Bq u=_ from(AN c1)];rfl
 refine W ?_
 refine⟨fun c2 c2p=>?_,fun c2 c2p=>?_⟩
 ·
  refine W ?_
  rw [show Words.Bq u=_ from((AB c1).trans (AN c2))];rfl
 refine W ?_
 refine⟨fun c3 c3p=>?_,fun c3 c3p=>?_⟩
 ·
  refine W ?_
  refine⟨fun c4 c4p=>?_,fun c4 c4p=>?_⟩
  ·
   refine W ?_
   rw [show Words.Bq u=_ from((AB c1).trans ((AB c2).trans ((AN c3).trans (AN c4))))];rfl
  refine W ?_
  rw [show Words.Bq u=_ from((AB c1).trans ((AB c2).trans ((AN c3).trans (AB c4))))];rfl
 refine W ?_
 refine Cm .n (Mp _ (by omega)) (fun v1 B hv=>?_)
 rcases hv with ⟨y2,y3,rfl,rfl⟩ | ⟨y4,y5,y6,y7,rfl,rfl⟩
 ·
  refine W ?_
  refine Gt (TG Tryz.underlying138 J) ?_
  try have:=Words.ZU (by assumption)
  refine W ?_
  refine⟨fun c5 c5p=>?_,fun c5 c5p=>?_⟩
  ·
   refine W ?_
   rw [show Words.Bq u=_ from((AB c1).trans ((AB c2).trans (AB c3))),Words.W3 y3,AN c5];rfl
  refine W ?_
  rw [show Words.Bq u=_ from((AB c1).trans ((AB c2).trans (AB c3))),Words.W3 y3,AB c5];rfl
 refine W ?_
 refine Gt (cG Tryz.underlying138 J) ?_
 refine W ?_
 rw [show Words.Bq u=_ from((AB c1).trans ((AB c2).trans (AB c3))),Words.aK y7];rfl
instance instP186:DI Tryz.prog 186 (type_of% @J4):=⟨@J4⟩
theorem J6 (z:Int)(w:World):Ch Tryz.prog 187 #[.int .i64 z] w fun v w'=>v = .bool (Words.many z)∧BF w w':=by
 refine Rb Tryz.func187 ?_
 refine W ?_
 rfl
instance instP187:DI Tryz.prog 187 (type_of% @J6):=⟨@J6⟩
theorem JI (z:Int)(w:World):Ch Tryz.prog 188 #[.int .i64 z] w fun v w'=>v = .tuple #[Ag (Words.Ds z).1, .bool (Words.Ds z).2]∧BF w w':=by
 refine Rb Tryz.func188 ?_
 refine W ?_
 refine⟨fun c1 c1p=>?_,fun c1 c1p=>?_⟩
 ·
  refine W ?_
  rw [show Words.Ds z=_ from(AN c1)];rfl
 refine W ?_
 refine⟨fun c2 c2p=>?_,fun c2 c2p=>?_⟩
 ·
  refine W ?_
  rw [show Words.Ds z=_ from((AB c1).trans (AN c2))];rfl
 refine W ?_
 refine⟨fun c3 c3p=>?_,fun c3 c3p=>?_⟩
 ·
  refine W ?_
  rw [show Words.Ds z=_ from((AB c1).trans ((AB c2).trans (AN c3)))];rfl
 refine W ?_
 rw [show Words.Ds z=_ from((AB c1).trans ((AB c2).trans (AB c3)))];rfl
instance instP188:DI Tryz.prog 188 (type_of% @JI):=⟨@JI⟩
theorem JH (s:AL)(hs:s.length≤4000000)(w:World)(gl0:GV 1 AD.Be w)(gl1:Eo 8 w)(gl2:Eo 9 w):Ch Tryz.prog 150 #[Ag s] w fun v w'=>v = .tuple #[.agg (Words.parse s).1.enc.toArray, .int .i64 (Words.parse s).2]∧BF w w':=by
 have hw1:=Words.K9 s (0:Int).toNat (1:Int).toNat
 refine Rb Tryz.func150 ?_
 refine W ?_
 intro b1
 refine Cl .n (NZ _ hs) (fun v1 B hv=>?_)
 obtain⟨y2,rfl,y3,rfl⟩:=hv
 refine W ?_
 refine⟨fun c1 c1p=>?_,fun c1 c1p=>?_⟩
 ·
  have hlen:=y3
  (try simp only [Hd.cut] at c1)
  rw [hlen] at c1
  refine W ?_
  refine Cl .n (BK _) (fun v5 B hv=>?_)
  obtain⟨rfl,rfl⟩:=hv
  refine W ?_
  rw [show Words.parse s=_ from(AN c1)];rfl
 have hlen:=y3
 (try simp only [Hd.cut] at c1)
 rw [hlen] at c1
 refine W ?_
 refine⟨fun c2 c2p=>?_,fun c2 c2p=>?_⟩
 ·
  refine W ?_
  refine Cl .n (BK _) (fun v6 B hv=>?_)
  obtain⟨rfl,rfl⟩:=hv
  refine W ?_
  rw [show Words.parse s=_ from((AB c1).trans (AN c2))];rfl
 refine W ?_
 intro b2
 refine Dm Cr J Tryz.underlying56 OZ J J (by decide) (by first | omega | (simp only [Hd.cut];omega) | (simp only [Hd.cut] at *;omega)) (fun _=>(.t .h)) ?_
 refine W ?_
 refine⟨fun c3 c3p=>?_,fun c3 c3p=>?_⟩
 ·
  try have:=Words.Mr 32 s
  try have:=Words.OL 32 (Words.DH 32 s)
  refine W ?_
  refine⟨fun c4 c4p=>?_,fun c4 c4p=>?_⟩
  ·
   refine W ?_
   refine Cl .n (BK _) (fun v7 B hv=>?_)
   obtain⟨rfl,rfl⟩:=hv
   refine W ?_
   rw [show Words.parse s=_ from((AB c1).trans ((AB c2).trans ((AN c3).trans (AN c4))))];rfl
  refine W ?_
  rw [show Words.parse s=_ from((AB c1).trans ((AB c2).trans ((AN c3).trans (AB c4))))];rfl
 refine W ?_
 refine⟨fun c5 c5p=>?_,fun c5 c5p=>?_⟩
 ·
  refine W ?_
  refine⟨fun c6 c6p=>?_,fun c6 c6p=>?_⟩
  ·
   (try simp only [Hd.cut] at c6)
   rw [hlen] at c6
   refine W ?_
   refine Cl .n (BK _) (fun v8 B hv=>?_)
   obtain⟨rfl,rfl⟩:=hv
   refine W ?_
   rw [show Words.parse s=_ from((AB c1).trans ((AB c2).trans ((AB c3).trans ((AN c5).trans (AN c6)))))];rfl
  (try simp only [Hd.cut] at c6)
  rw [hlen] at c6
  refine W ?_
  rw [show Words.parse s=_ from((AB c1).trans ((AB c2).trans ((AB c3).trans ((AN c5).trans (AB c6)))))];rfl
 refine W ?_
 refine⟨fun c7 c7p=>?_,fun c7 c7p=>?_⟩
 ·
  (try simp only [Hd.cut] at c7)
  rw [hlen] at c7
  refine W ?_
  refine Cl .n (BK _) (fun v9 B hv=>?_)
  obtain⟨rfl,rfl⟩:=hv
  refine W ?_
  rw [show Words.parse s=_ from((AB c1).trans ((AB c2).trans ((AB c3).trans ((AB c5).trans (AN c7)))))];rfl
 (try simp only [Hd.cut] at c7)
 rw [hlen] at c7
 refine W ?_
 refine⟨fun c8 c8p=>?_,fun c8 c8p=>?_⟩
 ·
  refine W ?_
  refine⟨fun c9 c9p=>?_,fun c9 c9p=>?_⟩
  ·
   (try simp only [Hd.cut] at c9)
   rw [hlen] at c9
   have hd:0≤(Words.verb (((Words.words s).drop (1:Int).toNat).getD (0:Int).toNat [])).1∧(Words.verb (((Words.words s).drop (1:Int).toNat).getD (0:Int).toNat [])).1 < 6:=⟨(Words.QO _).1,by have h:=c9;rw [Bool.and_eq_true,Bool.and_eq_true] at h;exact of_decide_eq_true h.1.2⟩
   refine W ?_
   refine Gt (Ko gl0 J LG (AD.Gu hd.1 hd.2)) ?_
   refine W ?_
   rw [show Words.parse s=_ from((AB c1).trans ((AB c2).trans ((AB c3).trans ((AB c5).trans ((AB c7).trans ((AN c8).trans (AN c9)))))))];rfl
  (try simp only [Hd.cut] at c9)
  rw [hlen] at c9
  try have:=Words.K9 s 0 1
  refine W ?_
  refine⟨fun c10 c10p=>?_,fun c10 c10p=>?_⟩
  ·
   refine W ?_
   refine Cl .n (BK _) (fun v10 B hv=>?_)
   obtain⟨rfl,rfl⟩:=hv
   refine W ?_
   rw [show Words.parse s=_ from((AB c1).trans ((AB c2).trans ((AB c3).trans ((AB c5).trans ((AB c7).trans ((AN c8).trans ((AB c9).trans (AN c10))))))))];rfl
  refine W ?_
  refine Dm Cr J Tryz.underlying56 OZ J J (by decide) (by first | omega | (simp only [Hd.cut];omega) | (simp only [Hd.cut] at *;omega)) (fun _=>(.t .h)) ?_
  refine W ?_
  refine⟨fun c11 c11p=>?_,fun c11 c11p=>?_⟩
  ·
   (try simp only [Hd.cut] at c11)
   rw [hlen] at c11
   refine W ?_
   refine Dm Cr J Tryz.underlying56 OZ J J (by decide) (by first | omega | (simp only [Hd.cut];omega) | (simp only [Hd.cut] at *;omega)) (fun _=>(.t .h)) ?_
   refine W ?_
   refine⟨fun c12 c12p=>?_,fun c12 c12p=>?_⟩
   ·
    (try simp only [Hd.cut] at c12)
    rw [hlen] at c12
    refine W ?_
    refine Cl .n (BK _) (fun v11 B hv=>?_)
    obtain⟨rfl,rfl⟩:=hv
    refine W ?_
    rw [show Words.parse s=_ from((AB c1).trans ((AB c2).trans ((AB c3).trans ((AB c5).trans ((AB c7).trans ((AN c8).trans ((AB c9).trans ((AB c10).trans ((AN c11).trans (AN c12))))))))))];rfl
   (try simp only [Hd.cut] at c12)
   rw [hlen] at c12
   refine W ?_
   refine⟨fun c13 c13p=>?_,fun c13 c13p=>?_⟩
   ·
    (try simp only [Hd.cut] at c13)
    rw [hlen] at c13
    refine W ?_
    rw [show Words.parse s=_ from((AB c1).trans ((AB c2).trans ((AB c3).trans ((AB c5).trans ((AB c7).trans ((AN c8).trans ((AB c9).trans ((AB c10).trans ((AN c11).trans ((AB c12).trans (AN c13)))))))))))];rfl
   (try simp only [Hd.cut] at c13)
   rw [hlen] at c13
   refine W ?_
   refine⟨fun c14 c14p=>?_,fun c14 c14p=>?_⟩
   ·
    (try simp only [Hd.cut] at c14)
    rw [hlen] at c14
    refine W ?_
    refine Cl .n (BK _) (fun v12 B hv=>?_)
    obtain⟨rfl,rfl⟩:=hv
    refine W ?_
    rw [show Words.parse s=_ from((AB c1).trans ((AB c2).trans ((AB c3).trans ((AB c5).trans ((AB c7).trans ((AN c8).trans ((AB c9).trans ((AB c10).trans ((AN c11).trans ((AB c12).trans ((AB c13).trans (AN c14))))))))))))];rfl
   (try simp only [Hd.cut] at c14)
   rw [hlen] at c14
   refine W ?_
   rw [show Words.parse s=_ from((AB c1).trans ((AB c2).trans ((AB c3).trans ((AB c5).trans ((AB c7).trans ((AN c8).trans ((AB c9).trans ((AB c10).trans ((AN c11).trans ((AB c12).trans ((AB c13).trans (AB c14))))))))))))];rfl
  (try simp only [Hd.cut] at c11)
  rw [hlen] at c11
  refine W ?_
  refine⟨fun c15 c15p=>?_,fun c15 c15p=>?_⟩
  ·
   (try simp only [Hd.cut] at c15)
   rw [hlen] at c15
   refine W ?_
   rw [show Words.parse s=_ from((AB c1).trans ((AB c2).trans ((AB c3).trans ((AB c5).trans ((AB c7).trans ((AN c8).trans ((AB c9).trans ((AB c10).trans ((AB c11).trans (AN c15))))))))))];rfl
  (try simp only [Hd.cut] at c15)
  rw [hlen] at c15
  refine W ?_
  refine⟨fun c16 c16p=>?_,fun c16 c16p=>?_⟩
  ·
   (try simp only [Hd.cut] at c16)
   rw [hlen] at c16
   refine W ?_
   refine Cl .n (BK _) (fun v13 B hv=>?_)
   obtain⟨rfl,rfl⟩:=hv
   refine W ?_
   rw [show Words.parse s=_ from((AB c1).trans ((AB c2).trans ((AB c3).trans ((AB c5).trans ((AB c7).trans ((AN c8).trans ((AB c9).trans ((AB c10).trans ((AB c11).trans ((AB c15).trans (AN c16)))))))))))];rfl
  (try simp only [Hd.cut] at c16)
  rw [hlen] at c16
  refine W ?_
  rw [show Words.parse s=_ from((AB c1).trans ((AB c2).trans ((AB c3).trans ((AB c5).trans ((AB c7).trans ((AN c8).trans ((AB c9).trans ((AB c10).trans ((AB c11).trans ((AB c15).trans (AB c16)))))))))))];rfl
 try have:=Words.K9 s 0 1
 refine W ?_
 refine⟨fun c17 c17p=>?_,fun c17 c17p=>?_⟩
 ·
  refine W ?_
  refine Cl .n (BK _) (fun v14 B hv=>?_)
  obtain⟨rfl,rfl⟩:=hv
  refine W ?_
  rw [show Words.parse s=_ from((AB c1).trans ((AB c2).trans ((AB c3).trans ((AB c5).trans ((AB c7).trans ((AB c8).trans (AN c17)))))))];rfl
 refine W ?_
 refine Dm Cr J Tryz.underlying56 OZ J J (by decide) (by first | omega | (simp only [Hd.cut];omega) | (simp only [Hd.cut] at *;omega)) (fun _=>(.t .h)) ?_
 refine W ?_
 refine⟨fun c18 c18p=>?_,fun c18 c18p=>?_⟩
 ·
  (try simp only [Hd.cut] at c18)
  rw [hlen] at c18
  refine W ?_
  refine Dm Cr J Tryz.underlying56 OZ J J (by decide) (by first | omega | (simp only [Hd.cut];omega) | (simp only [Hd.cut] at *;omega)) (fun _=>(.t .h)) ?_
  refine W ?_
  refine⟨fun c19 c19p=>?_,fun c19 c19p=>?_⟩
  ·
   (try simp only [Hd.cut] at c19)
   rw [hlen] at c19
   refine W ?_
   refine Cl .n (BK _) (fun v15 B hv=>?_)
   obtain⟨rfl,rfl⟩:=hv
   refine W ?_
   rw [show Words.parse s=_ from((AB c1).trans ((AB c2).trans ((AB c3).trans ((AB c5).trans ((AB c7).trans ((AB c8).trans ((AB c17).trans ((AN c18).trans (AN c19)))))))))];rfl
  (try simp only [Hd.cut] at c19)
  rw [hlen] at c19
  refine W ?_
  refine⟨fun c20 c20p=>?_,fun c20 c20p=>?_⟩
  ·
   (try simp only [Hd.cut] at c20)
   rw [hlen] at c20
   refine W ?_
   rw [show Words.parse s=_ from((AB c1).trans ((AB c2).trans ((AB c3).trans ((AB c5).trans ((AB c7).trans ((AB c8).trans ((AB c17).trans ((AN c18).trans ((AB c19).trans (AN c20))))))))))];rfl
  (try simp only [Hd.cut] at c20)
  rw [hlen] at c20
  refine W ?_
  refine⟨fun c21 c21p=>?_,fun c21 c21p=>?_⟩
  ·
   (try simp only [Hd.cut] at c21)
   rw [hlen] at c21
   refine W ?_
   refine Cl .n (BK _) (fun v16 B hv=>?_)
   obtain⟨rfl,rfl⟩:=hv
   refine W ?_
   rw [show Words.parse s=_ from((AB c1).trans ((AB c2).trans ((AB c3).trans ((AB c5).trans ((AB c7).trans ((AB c8).trans ((AB c17).trans ((AN c18).trans ((AB c19).trans ((AB c20).trans (AN c21)))))))))))];rfl
  (try simp only [Hd.cut] at c21)
  rw [hlen] at c21
  refine W ?_
  rw [show Words.parse s=_ from((AB c1).trans ((AB c2).trans ((AB c3).trans ((AB c5).trans ((AB c7).trans ((AB c8).trans ((AB c17).trans ((AN c18).trans ((AB c19).trans ((AB c20).trans (AB c21)))))))))))];rfl
 (try simp only [Hd.cut] at c18)
 rw [hlen] at c18
 refine W ?_
 refine⟨fun c22 c22p=>?_,fun c22 c22p=>?_⟩
 ·
  (try simp only [Hd.cut] at c22)
  rw [hlen] at c22
  refine W ?_
  rw [show Words.parse s=_ from((AB c1).trans ((AB c2).trans ((AB c3).trans ((AB c5).trans ((AB c7).trans ((AB c8).trans ((AB c17).trans ((AB c18).trans (AN c22)))))))))];rfl
 (try simp only [Hd.cut] at c22)
 rw [hlen] at c22
 refine W ?_
 refine⟨fun c23 c23p=>?_,fun c23 c23p=>?_⟩
 ·
  (try simp only [Hd.cut] at c23)
  rw [hlen] at c23
  refine W ?_
  refine Cl .n (BK _) (fun v17 B hv=>?_)
  obtain⟨rfl,rfl⟩:=hv
  refine W ?_
  rw [show Words.parse s=_ from((AB c1).trans ((AB c2).trans ((AB c3).trans ((AB c5).trans ((AB c7).trans ((AB c8).trans ((AB c17).trans ((AB c18).trans ((AB c22).trans (AN c23))))))))))];rfl
 (try simp only [Hd.cut] at c23)
 rw [hlen] at c23
 refine W ?_
 rw [show Words.parse s=_ from((AB c1).trans ((AB c2).trans ((AB c3).trans ((AB c5).trans ((AB c7).trans ((AB c8).trans ((AB c17).trans ((AB c18).trans ((AB c22).trans (AB c23))))))))))];rfl
instance instP150:DI Tryz.prog 150 (type_of% @JH):=⟨@JH⟩
theorem HX (d:Int)(w:World):Ch Tryz.prog 160 #[.int .i64 d] w fun v w'=>v = .int .i64 (AD.opposite d)∧BF w w':=by
 refine Rb Tryz.func160 ?_
 refine W ?_
 rfl
instance instP160:DI Tryz.prog 160 (type_of% @HX):=⟨@HX⟩
theorem Su (b:Nat)(T:AA)(g:Hd)(d:Int)(hg:g.len=T.out.length)(hF:T.Fit)(hd:0≤d∧d < 6)(hn:T.out.length≤80000):Cz Tryz.prog 122 #[.pointer (some ⟨b,0,none⟩), .int .i64 d] [AJ.box b 175 (Ab.enc ⟨T.w,T.b,g⟩),AJ.own g 100 16 (T.out.flatMap Ing.Event.enc)] (fun w=>(GV 1 AD.Be w∧1 ∉ BV [AJ.box b 175 (Ab.enc ⟨T.w,T.b,g⟩),AJ.own g 100 16 (T.out.flatMap Ing.Event.enc)])) (fun v B=>∃ g':Hd,v = .tuple #[]∧g'.len=(T.walk d).out.length∧B = [AJ.box b 175 (Ab.enc ⟨(T.walk d).w,(T.walk d).b,g'⟩),AJ.own g' 100 16 ((T.walk d).out.flatMap Ing.Event.enc)]):=by
 intro w hS0 hH
 obtain⟨gl0,gm0⟩:=hH
 have hb:=hF.b
 have hr:=hF.room
 have hx:=hF.exit hd.1 hd.2
 refine AR _ _ Tryz.func122 J J J (hS0) ?_
 refine W ?_
 intro b1
 refine⟨fun c1 c1p=>?_,fun c1 c1p=>?_⟩
 ·
  refine W ?_
  refine Cl (.c (.t .h) (.c (.t .h) .n)) (A8 _ _ _ _ hg hb (by omega)) (fun v1 B hv=>?_)
  obtain⟨y2,rfl,y3,rfl⟩:=hv
  refine W ?_
  intro w1 hS
  have hS:=(hS.perm (AK.perm (.c .h (.c .h .n)))).AM
  have hq:T.walk d=_:=(AN c1)
  refine⟨_,⟨?gq1,J,?g9l1,?g9B1⟩,hS⟩
  case g9B1=>rw [hq];(try rfl)
  case g9l1=>rw [hq];assumption
 refine W ?_
 refine⟨fun c2 c2p=>?_,fun c2 c2p=>?_⟩
 ·
  refine W ?_
  refine Cl (.c (.t .h) (.c (.t .h) .n)) (A8 _ _ _ _ hg hb (by omega)) (fun v4 B hv=>?_)
  obtain⟨y5,rfl,y6,rfl⟩:=hv
  refine W ?_
  intro w1 hS
  have hS:=(hS.perm (AK.perm (.c .h (.c .h .n)))).AM
  have hq:T.walk d=_:=((AB c1).trans (AN c2))
  refine⟨_,⟨?gq2,J,?g9l2,?g9B2⟩,hS⟩
  case g9B2=>rw [hq];(try rfl)
  case g9l2=>rw [hq];assumption
 have gm:=AA.Lt (hF.Am { AA.Dn 1 with dir:=d }) (r:=(T.w.Ad.at T.me.room).BH.at d - 1) (by have h0:¬ (T.w.Ad.at (T.w.AF.at T.b).room).BH.at d=0:=c1p;show 0≤(T.w.Ad.at (T.w.AF.at T.b).room).BH.at d - 1∧(T.w.Ad.at (T.w.AF.at T.b).room).BH.at d - 1 < 6;omega)
 refine W ?_
 refine Cl (.c (.t .h) (.c (.t .h) .n)) (Bt _ T _ { AA.Dn 1 with dir:=d } hg hb (show(-1:Int) < 6 by decide) (by omega)) (fun v7 B hv=>?_)
 obtain⟨y8,rfl,y9,rfl⟩:=hv
 refine Ws 4 ?_
 refine CY (fun _=> .h) (congrArg (fun q=>Ab.enc ⟨q,_,_⟩) (AA.Pt (T.Am { AA.Dn 1 with dir:=d }) hb _)) ?_
 refine W ?_
 refine Cl (.c .h (.c .h .n)) (Bt _ (AA.Ha (T.Am { AA.Dn 1 with dir:=d }) ((T.w.Ad.at T.me.room).BH.at d - 1)) _ { AA.Dn 2 with dir:=AD.opposite d } (by assumption) hb (show(-1:Int) < 6 by decide) (show(AA.out (T.Am { AA.Dn 1 with dir:=d })).length≤100000 by simp only [AA.BG];omega)) (fun v10 B hv=>?_)
 obtain⟨y11,rfl,y12,rfl⟩:=hv
 refine W ?_
 refine Cm (.c .h (.c .h .n)) (HN _ (AA.Am (AA.Ha (T.Am { AA.Dn 1 with dir:=d }) ((T.w.Ad.at T.me.room).BH.at d - 1)) { AA.Dn 2 with dir:=AD.opposite d }) _ (by assumption) hb gm.fit.br (show _≤90000 by simp only [AA.BG];show(AA.out (T.Am { AA.Dn 1 with dir:=d })).length+1≤90000;simp only [AA.BG];omega)) (fun v13 B hv=>?_)
 obtain⟨y14,rfl,y15,rfl⟩:=hv
 refine W ?_
 intro w1 hS
 have hS:=(hS.perm (AK.perm (.c .h (.c .h .n)))).AM
 have hq:T.walk d=_:=((AB c1).trans (AB c2))
 refine⟨_,⟨?gq3,J,?g9l3,?g9B3⟩,hS⟩
 case g9B3=>rw [hq];(try rfl)
 case g9l3=>rw [hq];assumption
theorem II (b:Nat)(T:AA)(g:Hd)(hF:T.Fit):Fu Tryz.prog 168 #[.pointer (some ⟨b,0,none⟩)] [AJ.box b 175 (Ab.enc ⟨T.w,T.b,g⟩)] (fun v B=>∃ f:Hd,v=f.val∧f.len=(T.own).length∧B = [AJ.box b 175 (Ab.enc ⟨T.w,T.b,g⟩),AJ.own f 3 1 ((T.own).flatMap AT)]):=by
 intro w hS0
 have hb:=hF.b
 have hr:=hF.room
 refine AR _ _ Tryz.func168 J J J (hS0) ?_
 refine W ?_
 refine Cl .n (E0 _ _ _) (fun v1 B hv=>?_)
 obtain⟨y2,rfl,y3,rfl⟩:=hv
 refine W ?_
 intro w1 hS
 have hS:=(hS.perm (AK.perm (.c (.t .h) (.c .h .n)))).AM
 exact⟨_,⟨_,J,by assumption,rfl⟩,hS⟩
theorem Mi (b:Nat)(T:AA)(g:Hd)(hF:T.Fit):Fu Tryz.prog 154 #[.pointer (some ⟨b,0,none⟩)] [AJ.box b 175 (Ab.enc ⟨T.w,T.b,g⟩)] (fun v B=>∃ F:AD,F=T.EF.w∧v = .tuple #[]∧B = [AJ.box b 175 (Ab.enc ⟨F,T.b,g⟩)]):=by
 intro w hS0
 have hb:=hF.b
 have hr:=hF.room
 have ho9:=T.Fe
 refine AR _ _ Tryz.func154 J J J (hS0) ?_
 refine W ?_
 refine Cl (.c .h .n) (II _ _ _ (by first | assumption | omega)) (fun v1 B hv=>?_)
 obtain⟨y2,rfl,y3,rfl⟩:=hv
 refine W ?_
 refine Af (.t4 9 0 7 8) ?_
 refine CZ (fun(k:Int) (X:AA)=>0≤k∧T.BP T.own=X.BP (T.own.drop k.toNat)∧X.b=T.b∧k≤(T.own.length:Int)) (fun(k:Int) (X:AA)=>((T.own.length:Int) - k).toNat) (fun(k:Int) (X:AA)=> [(9, .int .i64 k)]) (fun(k:Int) (X:AA)=> [AJ.box b 175 (Ab.enc ⟨X.w,X.b,g⟩)]) (0) (_) ?_ J J (fun k X hI1=>?_)
 · exact⟨by omega,rfl,rfl,by omega⟩
 obtain⟨hI11,hI12,hI13,hI14⟩:=hI1
 refine W ?_
 refine⟨fun c1 c1p=>?_,fun c1 c1p=>?_⟩
 ·
  have hx:=AA.GP (Aa.CT (xs:=T.own) (i:=k.toNat) (by omega))
  refine W ?_
  refine⟨fun c2 c2p=>?_,fun c2 c2p=>?_⟩
  ·
   refine Ws 7 ?_
   refine CY (fun _=> .h) (congrArg (fun q=>Ab.enc ⟨q,_,_⟩) (AA.Xb X hx.1 hx.2 c2)) ?_
   refine W ?_
   refine BC (k+1) _ ?_ ?_ (.t4 9 0 7 8) (.refl _)
   · exact⟨by omega,by rw [hI12,AA.MN hI11 (by omega)],hI13,by omega⟩
   · omega
  refine Ws 7 ?_
  refine CY (fun _=> .h) (congrArg (fun q=>Ab.enc ⟨q,_,_⟩) (AA.Xa X hx.1 hx.2 c2)) ?_
  refine W ?_
  refine BC (k+1) _ ?_ ?_ (.t4 9 0 7 8) (.refl _)
  · exact⟨by omega,by rw [hI12,AA.MN hI11 (by omega)],hI13,by omega⟩
  · omega
 obtain rfl:k=(T.own.length:Int):=by omega
 rw [AA.Ez] at hI12
 have hY:X=T.BP T.own:=hI12.symm
 refine W ?_
 refine Af (.t2 45 0) ?_
 refine CZ (fun(k:Int) (Y:AA)=>0≤k∧k≤6∧Y=(T.BP T.own).CR k.toNat∧Y.b=T.b) (fun(k:Int) (Y:AA)=>(6 - k).toNat) (fun(k:Int) (Y:AA)=> [(45, .int .i64 k)]) (fun(k:Int) (Y:AA)=> [AJ.box b 175 (Ab.enc ⟨Y.w,Y.b,g⟩)]) (0) (_) ?_ J J (fun k Y hI2=>?_)
 · exact⟨by omega,by omega,hY,hI13⟩
 obtain⟨hI21,hI22,hI23,hI24⟩:=hI2
 refine W ?_
 refine⟨fun c3 c3p=>?_,fun c3 c3p=>?_⟩
 ·
  refine W ?_
  refine⟨fun c4 c4p=>?_,fun c4 c4p=>?_⟩
  ·
   have hcb:decide ((Y.w.AF.at k).A2=(T.BP T.own).b+1)=true:=by rw [(AA.Dg T.own T).1,← hI24];exact c4
   refine W ?_
   refine BC (k+1) (Y.BW k 0) ?_ ?_ (.t2 45 0) (.refl _)
   · exact⟨by omega,by omega,by rw [AA.JU hI21,← hI23,AN hcb],hI24⟩
   · omega
  have hcb:decide ((Y.w.AF.at k).A2=(T.BP T.own).b+1)=false:=by rw [(AA.Dg T.own T).1,← hI24];exact c4
  refine W ?_
  refine BC (k+1) (Y) ?_ ?_ (.t2 45 0) (.refl _)
  · exact⟨by omega,by omega,by rw [AA.JU hI21,← hI23,AB hcb],hI24⟩
  · omega
 obtain rfl:k=6:=by omega
 refine W ?_
 intro w1 hS
 have hS:=(hS.perm (AK.perm (.c .h .n))).AM
 have hq:T.EF=Y.BW Y.b 0:=by rw [hI24,hI23];unfold AA.EF;rfl
 exact⟨_,⟨_,J,J,by rw [hq,← hI24];rfl⟩,hS⟩
theorem Ss (b:Nat)(T:AA)(g:Hd)(hg:g.len=T.out.length)(hF:T.Fit)(hn:T.out.length≤90000):Fu Tryz.prog 126 #[.pointer (some ⟨b,0,none⟩)] [AJ.box b 175 (Ab.enc ⟨T.w,T.b,g⟩),AJ.own g 100 16 (T.out.flatMap Ing.Event.enc)] (fun v B=>∃ g':Hd,v = .tuple #[]∧g'.len=(T.KG).out.length∧B = [AJ.box b 175 (Ab.enc ⟨(T.KG).w,(T.KG).b,g'⟩),AJ.own g' 100 16 ((T.KG).out.flatMap Ing.Event.enc)]):=by
 intro w hS0
 have hb:=hF.b
 have hr:=hF.room
 refine AR _ _ Tryz.func126 J J J (hS0) ?_
 refine W ?_
 refine Cl (.c .h (.c .h .n)) (GS _ T _ 18 hg hb (by omega)) (fun v1 B hv=>?_)
 obtain⟨y2,rfl,y3,rfl⟩:=hv
 refine W ?_
 refine Cl (.c .h .n) (Mi _ (T.kind 18) _ (hF.Fc J J)) (fun v4 B hv=>?_)
 obtain⟨y5,y6,rfl,rfl⟩:=hv
 refine W ?_
 intro w1 hS
 have hS:=(hS.perm (AK.perm (.c .h (.c .h .n)))).AM
 obtain⟨hf1,hf2,hf3⟩:=T.Vh
 refine⟨_,⟨?gq,J,?g9l,?g9B⟩,hS⟩
 case g9B=>rw [hf1,hf2,hf3,← y6]
 case g9l=>rw [hf2];exact y3
theorem I7 (b:Nat)(T:AA)(g:Hd)(u:AL)(hg:g.len=T.out.length)(hF:T.Fit)(hu:u.length≤140737488351232)(hn:T.out.length≤99000):Cz Tryz.prog 163 #[.pointer (some ⟨b,0,none⟩),Ag u] [AJ.box b 175 (Ab.enc ⟨T.w,T.b,g⟩),AJ.own g 100 16 (T.out.flatMap Ing.Event.enc)] (fun w=>(Eo 8 w∧8 ∉ BV [AJ.box b 175 (Ab.enc ⟨T.w,T.b,g⟩),AJ.own g 100 16 (T.out.flatMap Ing.Event.enc)])∧(Eo 9 w∧9 ∉ BV [AJ.box b 175 (Ab.enc ⟨T.w,T.b,g⟩),AJ.own g 100 16 (T.out.flatMap Ing.Event.enc)])) (fun v B=>∃ g':Hd,v = .tuple #[.int .i64 (T.AU u).2.1, .bool (T.AU u).2.2]∧g'.len=((T.AU u).1).out.length∧B = [AJ.box b 175 (Ab.enc ⟨((T.AU u).1).w,((T.AU u).1).b,g'⟩),AJ.own g' 100 16 (((T.AU u).1).out.flatMap Ing.Event.enc)]):=by
 intro w hS0 hH
 obtain⟨⟨gl0,gm0⟩,⟨gl1,gm1⟩⟩:=hH
 have hb:=hF.b
 have hr:=hF.room
 refine AR _ _ Tryz.func163 J J J (hS0) ?_
 refine W ?_
 refine⟨fun c1 c1p=>?_,fun c1 c1p=>?_⟩
 ·
  have hnf:=Words.I1 u (of_decide_eq_true (Bool.and_eq_true_iff.1 c1).1)
  refine W ?_
  refine Af (.t4 6 24 0 7) ?_
  refine CZ (fun(k:Int) (n:Int)=>0≤k∧k≤6∧T.Fx (Words.Bq u).2.1 6 (Words.Bq u).1=T.Fx (Words.Bq u).2.1 (6 - k).toNat n∧-k≤n∧n≤99) (fun(k:Int) (n:Int)=>(6 - k).toNat) (fun(k:Int) (n:Int)=> [(6, .int .i64 n),(24, .int .i64 k)]) (fun(k:Int) (n:Int)=> []) (0) (_) ?_ J J (fun k n hI1=>?_)
  · exact⟨by omega,by omega,rfl,by omega,by omega⟩
  obtain⟨hI11,hI12,hI13,hI14,hI15⟩:=hI1
  refine W ?_
  refine⟨fun c2 c2p=>?_,fun c2 c2p=>?_⟩
  ·
   refine W ?_
   refine⟨fun c3 c3p=>?_,fun c3 c3p=>?_⟩
   ·
    refine W ?_
    refine BC (k+1) (n) ?_ ?_ (.t4 6 24 0 7) (.refl _)
    · exact⟨by omega,by omega,by rw [hI13,AA.GD hI11 (by omega),AN c3],by omega,by omega⟩
    · omega
   refine W ?_
   refine⟨fun c4 c4p=>?_,fun c4 c4p=>?_⟩
   ·
    refine W ?_
    intro w1 hS
    have hS:=(hS.perm (AK.perm (.c .h (.c .h .n)))).AM
    have hs:T.Fx (Words.Bq u).2.1 6 (Words.Bq u).1=some k:=by rw [hI13,AA.GD hI11 (by omega),AB c3,AN c4]
    have hq:T.AU u=(T,k,true):=(show T.AU u=_ from AN c1).trans (by simp only [hs])
    refine⟨_,⟨?gq1,?g9v1,?g9l1,?g9B1⟩,hS⟩
    case g9B1=>rw [hq];(try rfl)
    case g9v1=>rw [hq];(try rfl)
    case g9l1=>rw [hq];assumption
   refine W ?_
   refine BC (k+1) (n - 1) ?_ ?_ (.t4 6 24 0 7) (.refl _)
   · exact⟨by omega,by omega,by rw [hI13,AA.GD hI11 (by omega),AB c3,AB c4],by omega,by omega⟩
   · omega
  obtain rfl:k=6:=by omega
  refine W ?_
  refine Cl (.c .h (.c .h .n)) (A8 _ _ _ _ hg hb (by omega)) (fun v1 B hv=>?_)
  obtain⟨y2,rfl,y3,rfl⟩:=hv
  refine W ?_
  intro w1 hS
  have hS:=(hS.perm (AK.perm (.c .h (.c .h .n)))).AM
  have hs:T.Fx (Words.Bq u).2.1 6 (Words.Bq u).1=none:=by rw [hI13];rfl
  have hq:T.AU u=(T.tell AA.KR,0,false):=(show T.AU u=_ from AN c1).trans (by simp only [hs])
  refine⟨_,⟨?gq2,?g9v2,?g9l2,?g9B2⟩,hS⟩
  case g9B2=>rw [hq];(try rfl)
  case g9v2=>rw [hq];(try rfl)
  case g9l2=>rw [hq];assumption
 refine W ?_
 refine Cl (.c .h (.c .h .n)) (A8 _ _ _ _ hg hb (by omega)) (fun v4 B hv=>?_)
 obtain⟨y5,rfl,y6,rfl⟩:=hv
 refine W ?_
 intro w1 hS
 have hS:=(hS.perm (AK.perm (.c .h (.c .h .n)))).AM
 have hq:T.AU u=(T.tell AA.KR,0,false):=AB c1
 refine⟨_,⟨?gq3,?g9v3,?g9l3,?g9B3⟩,hS⟩
 case g9B3=>rw [hq];(try rfl)
 case g9v3=>rw [hq];(try rfl)
 case g9l3=>rw [hq];assumption
theorem Qh (b:Nat)(T:AA)(g:Hd)(o:Order)(hg:g.len=T.out.length)(hF:T.Fit)(hm:o.name.length≤140737488351232)(hn:T.out.length≤90000):Cz Tryz.prog 127 #[.pointer (some ⟨b,0,none⟩), .agg o.enc.toArray] [AJ.box b 175 (Ab.enc ⟨T.w,T.b,g⟩),AJ.own g 100 16 (T.out.flatMap Ing.Event.enc)] (fun w=>(Eo 8 w∧8 ∉ BV [AJ.box b 175 (Ab.enc ⟨T.w,T.b,g⟩),AJ.own g 100 16 (T.out.flatMap Ing.Event.enc)])∧(Eo 9 w∧9 ∉ BV [AJ.box b 175 (Ab.enc ⟨T.w,T.b,g⟩),AJ.own g 100 16 (T.out.flatMap Ing.Event.enc)])) (fun v B=>∃ g':Hd,v = .tuple #[]∧g'.len=(T.FY o).out.length∧B = [AJ.box b 175 (Ab.enc ⟨(T.FY o).w,(T.FY o).b,g'⟩),AJ.own g' 100 16 ((T.FY o).out.flatMap Ing.Event.enc)]):=by
 intro w hS0 hH
 obtain⟨⟨gl0,gm0⟩,⟨gl1,gm1⟩⟩:=hH
 have hb:=hF.b
 have hr:=hF.room
 have hsr:=T.HO (if (!decide (o.nth=1) || o.An)=true then [] else o.name)
 have hsb:0≤(T.AU (if (!decide (o.nth=1) || o.An)=true then [] else o.name)).1.b∧(T.AU (if (!decide (o.nth=1) || o.An)=true then [] else o.name)).1.b < 6:=by rw [(T.Hl _).2];exact hb
 refine AR _ _ Tryz.func127 J J J (hS0) ?_
 refine Wv ?_
 intro b1
 refine F2 (Ag) (s:=(if (!decide (o.nth=1) || o.An)=true then [] else o.name)) J J J J J ?_
 refine W ?_
 refine Cm (.c (.t .h) (.c (.t .h) .n)) (I7 _ T _ _ hg hF (by split<;>(try simp)<;>omega) (by omega)) (fun v1 B hv=>?_)
 obtain⟨y2,rfl,y3,rfl⟩:=hv
 refine W ?_
 refine⟨fun c1 c1p=>?_,fun c1 c1p=>?_⟩
 ·
  refine W ?_
  intro w1 hS
  have hS:=(hS.perm (AK.perm (.c .h (.c .h .n)))).AM
  have hq:T.FY o=_:=AN c1
  refine⟨_,⟨?gq1,J,?g9l1,?g9B1⟩,hS⟩
  case g9B1=>rw [hq];(try rfl)
  case g9l1=>rw [hq];assumption
 refine W ?_
 refine⟨fun c2 c2p=>?_,fun c2 c2p=>?_⟩
 ·
  refine W ?_
  refine Cl (.c .h (.c .h .n)) (A8 _ (AA.BW (AA.BW (T.AU (if (!decide (o.nth=1) || o.An)=true then [] else o.name)).1 (T.AU (if (!decide (o.nth=1) || o.An)=true then [] else o.name)).1.b ((T.AU (if (!decide (o.nth=1) || o.An)=true then [] else o.name)).2.1+1)) (T.AU (if (!decide (o.nth=1) || o.An)=true then [] else o.name)).2.1 ((T.AU (if (!decide (o.nth=1) || o.An)=true then [] else o.name)).1.b+1)) _ _ (by assumption) hsb (by show(T.AU (if (!decide (o.nth=1) || o.An)=true then [] else o.name)).1.out.length≤100000;have:=T.El (if (!decide (o.nth=1) || o.An)=true then [] else o.name);omega)) (fun v4 B hv=>?_)
  obtain⟨y5,rfl,y6,rfl⟩:=hv
  refine W ?_
  intro w1 hS
  have hS:=(hS.perm (AK.perm (.c .h (.c .h .n)))).AM
  have hq:T.FY o=_:=(show T.FY o=_ from AB c1).trans (congrArg (fun q=>AA.tell q AA.IX) (AN c2))
  refine⟨_,⟨?gq2,J,?g9l2,?g9B2⟩,hS⟩
  case g9B2=>rw [hq];(try rfl)
  case g9l2=>rw [hq];assumption
 refine W ?_
 refine Cl (.c .h (.c .h .n)) (A8 _ (AA.BW (T.AU (if (!decide (o.nth=1) || o.An)=true then [] else o.name)).1 (T.AU (if (!decide (o.nth=1) || o.An)=true then [] else o.name)).1.b ((T.AU (if (!decide (o.nth=1) || o.An)=true then [] else o.name)).2.1+1)) _ _ (by assumption) hsb (by show(T.AU (if (!decide (o.nth=1) || o.An)=true then [] else o.name)).1.out.length≤100000;have:=T.El (if (!decide (o.nth=1) || o.An)=true then [] else o.name);omega)) (fun v7 B hv=>?_)
 obtain⟨y8,rfl,y9,rfl⟩:=hv
 refine W ?_
 intro w1 hS
 have hS:=(hS.perm (AK.perm (.c .h (.c .h .n)))).AM
 have hq:T.FY o=_:=(show T.FY o=_ from AB c1).trans (congrArg (fun q=>AA.tell q AA.IX) (AB c2))
 refine⟨_,⟨?gq3,J,?g9l3,?g9B3⟩,hS⟩
 case g9B3=>rw [hq];(try rfl)
 case g9l3=>rw [hq];assumption
theorem Ji (b:Nat)(T:AA)(g:Hd)(hF:T.Fit):Fu Tryz.prog 164 #[.pointer (some ⟨b,0,none⟩)] [AJ.box b 175 (Ab.enc ⟨T.w,T.b,g⟩)] (fun v B=>∃ f:Hd,v=f.val∧f.len=(T.seen).length∧B = [AJ.box b 175 (Ab.enc ⟨T.w,T.b,g⟩),AJ.own f 3 1 ((T.seen).flatMap AT)]):=by
 intro w hS0
 have hb:=hF.b
 have hr:=hF.room
 refine AR _ _ Tryz.func164 J J J (hS0) ?_
 refine W ?_
 refine⟨fun c1 c1p=>?_,fun c1 c1p=>?_⟩
 ·
  refine W ?_
  intro w1 hS
  have hS:=hS.BT 3 1
  have hS:=(hS.perm (AK.perm (.c (.t .h) (.c .h .n)))).AM
  have hq:T.seen=_:=AN c1
  exact⟨_,⟨⟨none,0,0⟩,J,by rw [hq];rfl,by rw [hq];rfl⟩,hS⟩
 refine W ?_
 refine Cl .n (E0 _ _ _) (fun v2 B hv=>?_)
 obtain⟨y3,rfl,y4,rfl⟩:=hv
 refine W ?_
 intro w1 hS
 have hS:=(hS.perm (AK.perm (.c (.t .h) (.c .h .n)))).AM
 have hq:T.seen=_:=(AB c1)
 exact⟨_,⟨_,J,by rw [hq];first | rfl | assumption,by rw [hq];rfl⟩,hS⟩
theorem Ek (b:Nat)(T:AA)(g:Hd)(f:Hd)(l:List Int)(z:Int)(u:AL)(a:Bool)(hF:T.Fit)(hf:f.len=l.length)(hl:l.length≤100)(hi:∀ i∈l,0≤i∧i < 9):Fu Tryz.prog 166 #[.pointer (some ⟨b,0,none⟩),f.val, .int .i64 z,Ag u, .bool a] [AJ.box b 175 (Ab.enc ⟨T.w,T.b,g⟩),AJ.own f 3 1 (l.flatMap AT)] (fun v B=>∃ h:Hd,v=h.val∧h.len=(AA.AS T.w l z u a).length∧B = [AJ.box b 175 (Ab.enc ⟨T.w,T.b,g⟩),AJ.own f 3 1 (l.flatMap AT),AJ.own h 3 1 ((AA.AS T.w l z u a).flatMap AT)]):=by
 intro w hS0
 have hb:=hF.b
 have hr:=hF.room
 refine AR _ _ Tryz.func166 J J J (hS0) ?_
 refine W ?_
 refine Af (.t8 11 16 0 2 3 4 14 15) ?_
 refine CG AT 3 1 ?_
 refine Bo (fun(k:Int) (xs:List Int) (h:Hd)=>0≤k∧k≤(l.length:Int)∧xs=AA.Hc T.w u (l.take k.toNat)∧h.len=xs.length∧xs.length≤k.toNat) (fun(k:Int) (xs:List Int) (h:Hd)=>((l.length:Int) - k).toNat) (fun(k:Int) (xs:List Int) (h:Hd)=> [(11,h.val),(16, .int .i64 k)]) (fun(k:Int) (xs:List Int) (h:Hd)=> [AJ.own h 3 1 (xs.flatMap AT)]) (0) ([]) (_) ?_ J J (fun k xs h hI1=>?_)
 · exact⟨by omega,by omega,rfl,rfl,by simp⟩
 obtain⟨hI11,hI12,hI13,hI14,hI15⟩:=hI1
 refine W ?_
 refine⟨fun c1 c1p=>?_,fun c1 c1p=>?_⟩
 ·
  have hx:=hi _ (Aa.CT (xs:=l) (i:=k.toNat) (by omega))
  refine W ?_
  refine⟨fun c2 c2p=>?_,fun c2 c2p=>?_⟩
  ·
   refine W ?_
   intro b1 h1 h1l h1z
   refine Ap (k+1) _ _ ?_ ?_ (.t8 11 16 0 2 3 4 14 15) (.cons _ (.refl _))
   · exact⟨by omega,by omega,by rw [AA.dP hI11 (by omega) c2,← hI13],(by(try dsimp only at *)<;>(try simp only [List.length_append,List.length_cons,List.length_nil])<;>omega),(by(try simp only [List.length_append,List.length_cons,List.length_nil]);omega)⟩
   · omega
  refine W ?_
  refine Ap (k+1) _ _ ?_ ?_ (.t8 11 16 0 2 3 4 14 15) (.refl _)
  · exact⟨by omega,by omega,by rw [AA.dO hI11 (by omega) c2,← hI13],(by(try dsimp only at *)<;>(try simp only [List.length_append,List.length_cons,List.length_nil])<;>omega),(by(try simp only [List.length_append,List.length_cons,List.length_nil]);omega)⟩
  · omega
 obtain rfl:k=(l.length:Int):=by omega
 have hx3:=hI13
 rw [show(l.length:Int).toNat=l.length by omega,List.take_length] at hx3
 have hpa:=AA.RO T.w u l
 rw [← hx3] at hpa
 refine W ?_
 refine⟨fun c3 c3p=>?_,fun c3 c3p=>?_⟩
 ·
  refine W ?_
  intro w1 hS
  have hS:=(hS.perm (AK.perm (.c (.t .h) (.c (.t .h) (.c .h .n))))).AM
  have hq:AA.AS T.w l z u a=_:=(AN c3)
  refine⟨_,⟨_,J,?g9l1,?g9B1⟩,hS⟩
  case g9B1=>rw [hq];(try rw [← hx3]);(try rfl)
  case g9l1=>rw [hq];first | rfl | (rw [← hx3];first | assumption | (simp only [Hd.cut,List.length_drop,List.length_take];omega))
 refine W ?_
 refine⟨fun c4 c4p=>?_,fun c4 c4p=>?_⟩
 ·
  rw [hI14,hx3] at c4
  refine W ?_
  intro w1 hS
  have hS:=hS.BT 3 1
  have hS:=(hS.perm (AK.perm (.c (.t (.t .h)) (.c (.t (.t .h)) (.c .h .n))))).AM
  have hq:AA.AS T.w l z u a=_:=((AB c3).trans (AN c4))
  refine⟨_,⟨⟨none,0,0⟩,J,?g9l2,?g9B2⟩,hS⟩
  case g9B2=>rw [hq];(try rw [← hx3]);(try rfl)
  case g9l2=>rw [hq];first | rfl | (rw [← hx3];first | assumption | (simp only [Hd.cut,List.length_drop,List.length_take];omega))
 have c4q:=c4p
 rw [hI14,hx3] at c4
 refine W ?_
 refine VF Bm J Tryz.underlying117 ba J J J (by first | omega | exact hb.1 | exact hb.2) (by first | omega | exact hb.1 | exact hb.2) (by first | omega | exact hb.1 | exact hb.2) (fun _=> .h) ?_
 refine W ?_
 intro w1 hS
 have hS:=(hS.perm (AK.perm (.c (.t .h) (.c (.t .h) (.c .h .n))))).AM
 have hq:AA.AS T.w l z u a=_:=((AB c3).trans (AB c4))
 refine⟨_,⟨_,J,?g9l3,?g9B3⟩,hS⟩
 case g9B3=>rw [hq];(try rw [← hx3]);(try rfl)
 case g9l3=>rw [hq];first | rfl | (rw [← hx3];first | assumption | (simp only [Hd.cut,List.length_drop,List.length_take];omega))
theorem Ud (b:Nat)(T:AA)(g:Hd)(u:AL)(hF:T.Fit)(hu:u.length≤140737488351232):Cz Tryz.prog 194 #[.pointer (some ⟨b,0,none⟩),Ag u] [AJ.box b 175 (Ab.enc ⟨T.w,T.b,g⟩)] (fun w=>(Eo 8 w∧8 ∉ BV [AJ.box b 175 (Ab.enc ⟨T.w,T.b,g⟩)])∧(Eo 9 w∧9 ∉ BV [AJ.box b 175 (Ab.enc ⟨T.w,T.b,g⟩)])) (fun v B=>v = .tuple #[.int .i64 (T.one u).1, .bool (T.one u).2]∧B = [AJ.box b 175 (Ab.enc ⟨T.w,T.b,g⟩)]):=by
 intro w hS0 hH
 obtain⟨⟨gl0,gm0⟩,⟨gl1,gm1⟩⟩:=hH
 have hb:=hF.b
 have hr:=hF.room
 have ho9:=T.Fe
 have hs9:=T.DC
 refine AR _ _ Tryz.func194 J J J (hS0) ?_
 refine W ?_
 refine⟨fun c1 c1p=>?_,fun c1 c1p=>?_⟩
 ·
  refine W ?_
  intro w1 hS
  have hS:=(hS.perm (AK.perm (.c .h .n))).AM
  have hq:T.one u=_:=(AN c1)
  exact⟨_,⟨by rw [hq];rfl,rfl⟩,hS⟩
 refine W ?_
 refine Cl (.c .h .n) (II _ _ _ (by first | assumption | omega)) (fun v1 B hv=>?_)
 obtain⟨y2,rfl,y3,rfl⟩:=hv
 refine W ?_
 refine Cl (.c .h .n) (Ji _ _ _ (by first | assumption | omega)) (fun v5 B hv=>?_)
 obtain⟨y6,rfl,y7,rfl⟩:=hv
 refine W ?_
 intro h9 h9l h9z
 refine Cl (.c .h (.c (.t .h) .n)) (Ek _ T _ _ (T.own++T.seen) _ _ _ hF (by rw [List.length_append];omega) (by rw [List.length_append];omega) (fun i hi=>AA.JT hi)) (fun v10 B hv=>?_)
 obtain⟨y11,rfl,y12,rfl⟩:=hv
 refine W ?_
 refine⟨fun c2 c2p=>?_,fun c2 c2p=>?_⟩
 ·
  have hpl:=y12
  rw [hpl] at c2 c2p
  refine W ?_
  intro w1 hS
  have hS:=(hS.perm (AK.perm (.c .h .n))).AM
  have hq:T.one u=_:=((AB c1).trans (AN c2))
  exact⟨_,⟨by rw [hq];rfl,rfl⟩,hS⟩
 have hpl:=y12
 rw [hpl] at c2 c2p
 refine W ?_
 intro w1 hS
 have hS:=(hS.perm (AK.perm (.c .h .n))).AM
 have hq:T.one u=_:=((AB c1).trans (AB c2))
 exact⟨_,⟨by rw [hq];rfl,rfl⟩,hS⟩
theorem Nr (b:Nat)(T:AA)(g:Hd)(u:AL)(hg:g.len=T.out.length)(hF:T.Fit)(hu:u.length≤140737488351232)(hn:T.out.length≤99000):Cz Tryz.prog 165 #[.pointer (some ⟨b,0,none⟩),Ag u] [AJ.box b 175 (Ab.enc ⟨T.w,T.b,g⟩),AJ.own g 100 16 (T.out.flatMap Ing.Event.enc)] (fun w=>(Eo 8 w∧8 ∉ BV [AJ.box b 175 (Ab.enc ⟨T.w,T.b,g⟩),AJ.own g 100 16 (T.out.flatMap Ing.Event.enc)])∧(Eo 9 w∧9 ∉ BV [AJ.box b 175 (Ab.enc ⟨T.w,T.b,g⟩),AJ.own g 100 16 (T.out.flatMap Ing.Event.enc)])) (fun v B=>∃ g':Hd,v = .tuple #[.int .i64 (T.box u).2.1, .bool (T.box u).2.2]∧g'.len=((T.box u).1).out.length∧B = [AJ.box b 175 (Ab.enc ⟨((T.box u).1).w,((T.box u).1).b,g'⟩),AJ.own g' 100 16 (((T.box u).1).out.flatMap Ing.Event.enc)]):=by
 intro w hS0 hH
 obtain⟨⟨gl0,gm0⟩,⟨gl1,gm1⟩⟩:=hH
 have hb:=hF.b
 have hr:=hF.room
 have ho:=T.W5 u
 refine AR _ _ Tryz.func165 J J J (hS0) ?_
 refine W ?_
 refine Cm (.c .h .n) (Ud _ T _ _ hF hu) (fun v1 B hv=>?_)
 obtain⟨rfl,rfl⟩:=hv
 refine W ?_
 refine⟨fun c1 c1p=>?_,fun c1 c1p=>?_⟩
 ·
  refine W ?_
  refine Cl (.c .h (.c .h .n)) (A8 _ _ _ _ hg hb (by omega)) (fun v2 B hv=>?_)
  obtain⟨y3,rfl,y4,rfl⟩:=hv
  refine W ?_
  intro w1 hS
  have hS:=(hS.perm (AK.perm (.c .h (.c .h .n)))).AM
  have hq:T.box u=_:=(AN c1)
  refine⟨_,⟨?gq1,?g9v1,?g9l1,?g9B1⟩,hS⟩
  case g9B1=>rw [hq];(try rfl)
  case g9v1=>rw [hq];(try rfl)
  case g9l1=>rw [hq];assumption
 refine W ?_
 refine⟨fun c2 c2p=>?_,fun c2 c2p=>?_⟩
 ·
  refine W ?_
  refine Cl (.c .h (.c .h .n)) (A8 _ _ _ _ hg hb (by omega)) (fun v5 B hv=>?_)
  obtain⟨y6,rfl,y7,rfl⟩:=hv
  refine W ?_
  intro w1 hS
  have hS:=(hS.perm (AK.perm (.c .h (.c .h .n)))).AM
  have hq:T.box u=_:=((AB c1).trans (AN c2))
  refine⟨_,⟨?gq2,?g9v2,?g9l2,?g9B2⟩,hS⟩
  case g9B2=>rw [hq];(try rfl)
  case g9v2=>rw [hq];(try rfl)
  case g9l2=>rw [hq];assumption
 refine W ?_
 intro w1 hS
 have hS:=(hS.perm (AK.perm (.c .h (.c .h .n)))).AM
 have hq:T.box u=_:=((AB c1).trans (AB c2))
 refine⟨_,⟨?gq3,?g9v3,?g9l3,?g9B3⟩,hS⟩
 case g9B3=>rw [hq];(try rfl)
 case g9v3=>rw [hq];(try rfl)
 case g9l3=>rw [hq];assumption
theorem DX (b:Nat)(T:AA)(g:Hd)(k i:Int)(hg:g.len=T.out.length)(hb:0≤T.b∧T.b < 6)(hi:0≤i∧i < 9)(hn:T.out.length≤100000):Fu Tryz.prog 167 #[.pointer (some ⟨b,0,none⟩), .int .i64 k, .int .i64 i] [AJ.box b 175 (Ab.enc ⟨T.w,T.b,g⟩),AJ.own g 100 16 (T.out.flatMap Ing.Event.enc)] (fun v B=>∃ g':Hd,v = .tuple #[]∧g'.len=(T.AQ k i).out.length∧B = [AJ.box b 175 (Ab.enc ⟨(T.AQ k i).w,(T.AQ k i).b,g'⟩),AJ.own g' 100 16 ((T.AQ k i).out.flatMap Ing.Event.enc)]):=by
 intro w hS0
 refine AR _ _ Tryz.func167 J J J (hS0) ?_
 refine W ?_
 refine Cl (.c .h (.c .h .n)) (Bt _ _ _ { AA.Dn k with AQ:=(T.w.AH.at i).name } hg hb (show(-1:Int) < 6 by decide) hn) (fun v1 B hv=>?_)
 obtain⟨y2,rfl,y3,rfl⟩:=hv
 refine W ?_
 intro w1 hS
 have hS:=(hS.perm (AK.perm (.c .h (.c .h .n)))).AM
 exact⟨_,⟨_,J,by assumption,rfl⟩,hS⟩
end Go.Proofs.YtlmmdjaoikaceaaGreatDoor

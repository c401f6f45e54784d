/- What the functions that the law TopHeard reaches compute: walks, part 3. No condition. -/
import Derived.Test.YtoidpggbbfncpaaGreatDoorCards
import Derived.Test.YtoidpggbbfncpaaGreatDoorTie
import Derived.Deep.DeepHandedRow
import Derived.Test.YtoidpggbbfncpaaGreatDoorRows
import Derived.Test.YtoidpggbbfncpaaGreatDoorTopHeardEc3
import Derived.Test.YtoidpggbbfncpaaGreatDoorTopHeardRa1
import Derived.Test.YtoidpggbbfncpaaGreatDoorTopHeardRb1
import Derived.Test.YtoidpggbbfncpaaGreatDoorTopHeardRc1
import Derived.Test.YtoidpggbbfncpaaGreatDoorTopHeardWalks
import Derived.Test.YtoidpggbbfncpaaGreatDoorTopHeardWalks2
set_option linter.unusedSimpArgs false
set_option linter.unusedVariables false
set_option maxRecDepth 100000
set_option maxHeartbeats 1000000
namespace Go.Proofs.YtoidpggbbfncpaaGreatDoor
open Go Go.Ing Go.RowKit Go.ChangeShapes Go.WideShapes Go.ChangeAt
theorem Gq (s:Ao)(c:UInt8)(hs:s.length≤10000000)(w:World):Ej Tryz.prog 59 #[BU s,BU [c]] w fun v w'=>v = .tuple #[BU (Words.cut c s).1,BU (Words.cut c s).2.1, .bool (Words.cut c s).2.2]∧CB w w':=by
 refine Al [] [] Tryz.func59 rfl rfl rfl (St.start w []) ?_
 refine Gs (Ga rfl (Ga rfl (Ga rfl (Gn (.t2 0 1) (CD (Gm rfl (Gm rfl ?_)))))))
 refine BA rfl cy (.c rfl (.c rfl .n)) (fun w hS=>D8 _ c w) ?_
 refine Ga rfl (Gn (.t3 0 1 7) (Gs (Gm rfl (Gt (CV rfl rfl) (Gn (.t4 0 1 7 12) ?_)))))
 refine Gc (fun c1=>?_) (fun c1=>?_)
 ·
  have c1p:=kz c1
  have hm:=Words.cR (c:=c) (s:=s) (by simpa using c1)
  refine Ap ?_
  refine BD (N:=12) [0,0,3,0,0,0,32,112,248,7,1023,2047] mix (by kernel_rfl) rfl ?_
  refine Pf 0 rfl (AF rfl) (Pf 1 rfl (AF rfl) (Pf 3 rfl (AF rfl) (Pf 4 rfl (AF rfl) (Pf 5 rfl (AF rfl) (Pf 6 rfl (BF rfl Tryz.underlying9 rfl) ?_)))))
  refine Pf 7 rfl (Av rfl rfl (IntWalk.i64_in _ (by(try simp only [List.length_cons,List.length_nil]);omega))) ?_
  refine J7 2 8 rfl rfl (by kernel_rfl) ?_ ?_
  ·
   refine Gt (Ix Tryz.underlying9 rfl rfl (by(try simp only [List.length_cons,List.length_nil]);omega) (by(try simp only [List.length_cons,List.length_nil]);omega)) ?_
   refine Bu rfl ⟨?_,?_⟩
   · exact(Po rfl (Av rfl rfl (IntWalk.i64_in _ (by(try simp only [List.length_cons,List.length_nil]);omega))) rfl rfl (Po rfl (BF rfl Tryz.underlying9 rfl) rfl rfl (Po rfl (AF rfl) rfl rfl (Po rfl (AF rfl) rfl rfl (Po rfl (AF rfl) rfl rfl (Pk (Pk As)))))))
   refine Pf 9 rfl (A0 rfl) ?_
   refine An 8 rfl (by kernel_rfl) ?_
   refine Gt (Gx Tryz.underlying9 rfl rfl (by(try simp only [List.length_cons,List.length_nil]);omega) (by(try simp only [List.length_cons,List.length_nil]);omega)) ?_
   refine Bu rfl ⟨?_,?_⟩
   · exact(Po rfl (A0 rfl) rfl rfl (Pk (Pk (Pk (Pk (Pk (Po rfl (AF rfl) rfl rfl (Po rfl (AF rfl) rfl rfl As))))))))
   refine Pf 10 rfl (A0 rfl) (Pf 11 rfl (A0 rfl) ?_)
   refine A3 (by kernel_rfl) ?_
   refine AB (.t3 4 5 6) ?_
   refine AA (Ab (AD ?_))
   refine AY rfl (.tmp rfl (.tmp rfl (.tmp rfl .n))) ?_
   intro w1 hS;refine⟨?_,hS.Ak⟩;rw [show Words.cut c s=_ from(BB c1)];rfl
  ·
   refine Gt (Gx Tryz.underlying9 rfl rfl (by(try simp only [List.length_cons,List.length_nil]);omega) (by(try simp only [List.length_cons,List.length_nil]);omega)) ?_
   refine Bu rfl ⟨?_,?_⟩
   · exact(Pk (Pk (Pk (Pk (Pk (Po rfl (AF rfl) rfl rfl (Po rfl (AF rfl) rfl rfl As)))))))
   refine An 2 rfl (by kernel_rfl) ?_
   refine Gt (Ix Tryz.underlying9 rfl rfl (by(try simp only [List.length_cons,List.length_nil]);omega) (by(try simp only [List.length_cons,List.length_nil]);omega)) ?_
   refine Bu rfl ⟨?_,?_⟩
   · exact(Po rfl (Av rfl rfl (IntWalk.i64_in _ (by(try simp only [List.length_cons,List.length_nil]);omega))) rfl rfl (Po rfl (BF rfl Tryz.underlying9 rfl) rfl rfl (Po rfl (AF rfl) rfl rfl (Po rfl (AF rfl) rfl rfl (Po rfl (AF rfl) rfl rfl (Pk (Pk As)))))))
   refine Pf 9 rfl (A0 rfl) (Pf 10 rfl (A0 rfl) (Pf 11 rfl (A0 rfl) ?_))
   refine A3 (by kernel_rfl) ?_
   refine AB (.t3 4 5 6) ?_
   refine AA (Ab (AD ?_))
   refine AY rfl (.tmp rfl (.tmp rfl (.tmp rfl .n))) ?_
   intro w1 hS;refine⟨?_,hS.Ak⟩;rw [show Words.cut c s=_ from(BB c1)];rfl
 refine Aa ?_
 refine AB (.t1 0) ?_
 refine AA (Gs (Gm rfl (Ga rfl (Ga rfl (Ga rfl (Gn (.t3 4 5 6) (Ab ?_)))))))
 refine AY rfl (.tmp rfl (.tmp rfl (.tmp rfl .n))) ?_
 intro w1 hS;refine⟨?_,hS.Ak⟩;rw [show Words.cut c s=_ from(AX c1)];rfl
theorem Ip (s:Ao)(c:UInt8)(hs:s.length≤10000000)(w:World):Ej Tryz.prog 30 #[BU s,BU [c]] w fun v w'=>v = .tuple #[BU (Words.cut c s).1,BU (Words.cut c s).2.1, .bool (Words.cut c s).2.2]∧CB w w':=by
 refine Al [] [] Tryz.func30 rfl rfl rfl (St.start w []) ?_
 refine Gs (Ga rfl (Ga rfl (Ga rfl (Gn (.t2 0 1) (Gs (Gm rfl (Gm rfl ?_)))))))
 refine BA rfl fV (.c rfl (.c rfl .n)) (fun w hS=>Gq _ c hs w) ?_
 refine Gt (AM rfl rfl) (Gt (AM rfl rfl) (Gt (AM rfl rfl) (Ga rfl (Ga rfl (Ga rfl (Gn (.t3 4 5 6) (Ab ?_)))))))
 refine AY rfl (.tmp rfl (.tmp rfl (.tmp rfl .n))) ?_
 intro w1 hS;refine⟨?_,hS.Ak⟩;rfl
theorem FJ (s p:Ao)(w:World):Ej Tryz.prog 181 #[BU s,BU p] w fun v w'=>v = .tuple #[BU (Words.NY s p).1, .bool (Words.NY s p).2]∧CB w w':=by
 refine Al [] [] Tryz.func181 rfl rfl rfl (St.start w []) ?_
 refine Gs (Ga rfl (Ga rfl (Gn (.t2 0 1) (CD (Gm rfl (Gm rfl ?_))))))
 refine BA rfl aU (.c rfl (.c rfl .n)) (fun w hS=>Df _ _ w) ?_
 refine Gt (BT rfl) (Gn (.t3 0 1 9) ?_)
 refine Gc (fun c1=>?_) (fun c1=>?_)
 ·
  refine Gs (Gm rfl (Ga rfl (Ga rfl (Gn (.t2 4 5) (Ab (AD ?_))))))
  refine AY rfl (.tmp rfl (.tmp rfl .n)) ?_
  intro w1 hS;refine⟨?_,hS.Ak⟩;rw [show Words.NY s p=_ from(BB c1)];rfl
 have c1p:=kz c1
 have hle:p.length≤s.length:=by simp at c1;omega
 refine Aa ?_
 refine AB (.t2 0 1) ?_
 refine AA (Gs (Gm rfl (Gm rfl (Gt (BF rfl Tryz.underlying9 rfl) ?_))))
 refine Gt (Gx Tryz.underlying9 rfl rfl (by omega) (by omega)) ?_
 refine Ga rfl (Ga rfl (Gn (.t2 4 5) (Ab ?_)))
 refine AY rfl (.tmp rfl (.tmp rfl .n)) ?_
 intro w1 hS;refine⟨?_,hS.Ak⟩;rw [show Words.NY s p=_ from(AX c1)];rfl
theorem JM (s p:Ao)(w:World):Ej Tryz.prog 170 #[BU s,BU p] w fun v w'=>v = .tuple #[BU (Words.NY s p).1, .bool (Words.NY s p).2]∧CB w w':=by
 refine Al [] [] Tryz.func170 rfl rfl rfl (St.start w []) ?_
 refine Gs (Ga rfl (Ga rfl (Gn (.t2 0 1) (Gs (Gm rfl (Gm rfl ?_))))))
 refine BA rfl cc (.c rfl (.c rfl .n)) (fun w hS=>FJ _ _ w) ?_
 refine Gt (AM rfl rfl) (Gt (AM rfl rfl) (Ga rfl (Ga rfl (Gn (.t2 4 5) (Ab ?_)))))
 refine AY rfl (.tmp rfl (.tmp rfl .n)) ?_
 intro w1 hS;refine⟨?_,hS.Ak⟩;rfl
theorem GA (s:Ao)(c:UInt8)(w:World):Ej Tryz.prog 171 #[BU s,BU [c]] w fun v w'=>v = .bool (decide (0≤Lib.indexByte s c))∧CB w w':=by
 refine Al [] [] Tryz.func171 rfl rfl rfl (St.start w []) ?_
 refine Gs (Ga rfl (Gn (.t2 0 1) (Gs (Gm rfl (Gm rfl ?_)))))
 refine BA rfl XD (.c rfl (.c rfl .n)) (fun w hS=>FU _ c w) ?_
 refine Gt (CV rfl rfl) (Ga rfl (Gn (.t1 4) (Ab ?_)))
 refine AY rfl (.tmp rfl .n) ?_
 intro w1 hS;refine⟨?_,hS.Ak⟩;rfl
def Ri:Go.Shelf.Ren:=⟨fun | 172=>172 | 244=>182 | 245=>183 | 247=>188 | 279=>189 | 280=>190 | 281=>191 | 282=>192 | 287=>194 | 316=>195 | 171=>53 | 205=>196 | 321=>197 | 322=>198 | 243=>72 | 246=>86 | 283=>108 | 284=>109 | 285=>110 | 286=>111 | 129=>142 | 317=>141 | 318=>143 | 319=>144 | 320=>145 | 337=>162 | 338=>163 | n=>n,fun | 9=>9 | 3=>3 | 75=>109 | 76=>111 | 4=>4 | 5=>5 | 167=>237 | 37=>105 | 0=>0 | 85=>238 | 2=>2 | 168=>240 | 53=>173 | 175=>244 | 46=>140 | 210=>247 | 127=>134 | 145=>252 | 143=>250 | 21=>21 | 171=>172 | 173=>176 | 212=>205 | 51=>178 | 20=>20 | 213=>206 | 232=>226 | 233=>227 | 80=>114 | n=>n,fun | 15=>7 | 16=>8 | 17=>2 | 18=>3 | 19=>4 | n=>n⟩
theorem XR:LaysC.n172 Tryz.prog Ri where
  mixed:=by kernel_rfl
  f129:=Tryz.func142.trans (congrArg some (by kernel_rfl))
  f171:=Tryz.func53.trans (congrArg some (by kernel_rfl))
  f172:=Tryz.func172.trans (congrArg some (by kernel_rfl))
  f205:=Tryz.func196.trans (congrArg some (by kernel_rfl))
  f243:=Tryz.func72.trans (congrArg some (by kernel_rfl))
  f244:=Tryz.func182.trans (congrArg some (by kernel_rfl))
  f245:=Tryz.func183.trans (congrArg some (by kernel_rfl))
  f246:=Tryz.func86.trans (congrArg some (by kernel_rfl))
  f247:=Tryz.func188.trans (congrArg some (by kernel_rfl))
  f279:=Tryz.func189.trans (congrArg some (by kernel_rfl))
  f280:=Tryz.func190.trans (congrArg some (by kernel_rfl))
  f281:=Tryz.func191.trans (congrArg some (by kernel_rfl))
  f282:=Tryz.func192.trans (congrArg some (by kernel_rfl))
  f283:=Tryz.func108.trans (congrArg some (by kernel_rfl))
  f284:=Tryz.func109.trans (congrArg some (by kernel_rfl))
  f285:=Tryz.func110.trans (congrArg some (by kernel_rfl))
  f286:=Tryz.func111.trans (congrArg some (by kernel_rfl))
  f287:=Tryz.func194.trans (congrArg some (by kernel_rfl))
  f316:=Tryz.func195.trans (congrArg some (by kernel_rfl))
  f317:=Tryz.func141.trans (congrArg some (by kernel_rfl))
  f318:=Tryz.func143.trans (congrArg some (by kernel_rfl))
  f319:=Tryz.func144.trans (congrArg some (by kernel_rfl))
  f320:=Tryz.func145.trans (congrArg some (by kernel_rfl))
  f321:=Tryz.func197.trans (congrArg some (by kernel_rfl))
  f322:=Tryz.func198.trans (congrArg some (by kernel_rfl))
  f337:=Tryz.func162.trans (congrArg some (by kernel_rfl))
  f338:=Tryz.func163.trans (congrArg some (by kernel_rfl))
  t0:=Tryz.underlying0
  a0:=Tryz.isAgg0
  z0:=Tryz.sizeOf0
  v0:=Tryz.zeroValue0
  t2:=Tryz.underlying2
  a2:=Tryz.isAgg2
  z2:=Tryz.sizeOf2
  v2:=Tryz.zeroValue2
  t3:=Tryz.underlying3
  a3:=Tryz.isAgg3
  z3:=Tryz.sizeOf3
  v3:=Tryz.zeroValue3
  t4:=Tryz.underlying4
  a4:=Tryz.isAgg4
  z4:=Tryz.sizeOf4
  v4:=Tryz.zeroValue4
  t5:=Tryz.underlying5
  a5:=Tryz.isAgg5
  z5:=Tryz.sizeOf5
  v5:=Tryz.zeroValue5
  t9:=Tryz.underlying9
  a9:=Tryz.isAgg9
  z9:=Tryz.sizeOf9
  v9:=Tryz.zeroValue9
  t20:=Tryz.underlying20
  a20:=Tryz.isAgg20
  z20:=Tryz.sizeOf20
  v20:=Tryz.zeroValue20
  t21:=Tryz.underlying21
  a21:=Tryz.isAgg21
  z21:=Tryz.sizeOf21
  v21:=Tryz.zeroValue21
  t37:=Tryz.underlying105
  a37:=Tryz.isAgg105
  z37:=Tryz.sizeOf105
  v37:=Tryz.zeroValue105
  t46:=Tryz.underlying140
  a46:=Tryz.isAgg140
  z46:=Tryz.sizeOf140
  v46:=Tryz.zeroValue140
  t51:=Tryz.underlying178
  a51:=Tryz.isAgg178
  z51:=Tryz.sizeOf178
  v51:=Tryz.zeroValue178
  t53:=Tryz.underlying173
  a53:=Tryz.isAgg173
  z53:=Tryz.sizeOf173
  v53:=Tryz.zeroValue173
  t75:=Tryz.underlying109
  a75:=Tryz.isAgg109
  z75:=Tryz.sizeOf109
  v75:=Tryz.zeroValue109
  t76:=Tryz.underlying111
  a76:=Tryz.isAgg111
  z76:=Tryz.sizeOf111
  v76:=Tryz.zeroValue111
  t85:=Tryz.underlying238
  a85:=Tryz.isAgg238
  z85:=Tryz.sizeOf238
  v85:=Tryz.zeroValue238
  t127:=Tryz.underlying134
  a127:=Tryz.isAgg134
  z127:=Tryz.sizeOf134
  v127:=Tryz.zeroValue134
  t143:=Tryz.underlying250
  a143:=Tryz.isAgg250
  z143:=Tryz.sizeOf250
  v143:=Tryz.zeroValue250
  t145:=Tryz.underlying252
  a145:=Tryz.isAgg252
  z145:=Tryz.sizeOf252
  v145:=Tryz.zeroValue252
  t167:=Tryz.underlying237
  a167:=Tryz.isAgg237
  z167:=Tryz.sizeOf237
  v167:=Tryz.zeroValue237
  t168:=Tryz.underlying240
  a168:=Tryz.isAgg240
  z168:=Tryz.sizeOf240
  v168:=Tryz.zeroValue240
  t171:=Tryz.underlying172
  a171:=Tryz.isAgg172
  z171:=Tryz.sizeOf172
  v171:=Tryz.zeroValue172
  t173:=Tryz.underlying176
  a173:=Tryz.isAgg176
  z173:=Tryz.sizeOf176
  v173:=Tryz.zeroValue176
  t175:=Tryz.underlying244
  a175:=Tryz.isAgg244
  z175:=Tryz.sizeOf244
  v175:=Tryz.zeroValue244
  t210:=Tryz.underlying247
  a210:=Tryz.isAgg247
  z210:=Tryz.sizeOf247
  v210:=Tryz.zeroValue247
  t212:=Tryz.underlying205
  a212:=Tryz.isAgg205
  z212:=Tryz.sizeOf205
  v212:=Tryz.zeroValue205
  t213:=Tryz.underlying206
  a213:=Tryz.isAgg206
  z213:=Tryz.sizeOf206
  t232:=Tryz.underlying226
  a232:=Tryz.isAgg226
  z232:=Tryz.sizeOf226
  v232:=Tryz.zeroValue226
  t233:=Tryz.underlying227
  a233:=Tryz.isAgg227
  z233:=Tryz.sizeOf227
  v233:=Tryz.zeroValue227
  g15:=by kernel_rfl
  g16:=by kernel_rfl
  g17:=by kernel_rfl
  g18:=by kernel_rfl
  g19:=by kernel_rfl
  t80:=Tryz.underlying114
  a80:=Tryz.isAgg114
  z80:=Tryz.sizeOf114
  v80:=Tryz.zeroValue114
  i0:=by kernel_rfl
  i2:=by kernel_rfl
  i3:=by kernel_rfl
  i4:=by kernel_rfl
  i5:=by kernel_rfl
  i9:=by kernel_rfl
  i20:=by kernel_rfl
  i21:=by kernel_rfl
  i37:=by kernel_rfl
  i46:=by kernel_rfl
  i51:=by kernel_rfl
  i53:=by kernel_rfl
  i75:=by kernel_rfl
  i76:=by kernel_rfl
  i80:=by kernel_rfl
  i85:=by kernel_rfl
  i127:=by kernel_rfl
  i143:=by kernel_rfl
  i145:=by kernel_rfl
  i167:=by kernel_rfl
  i168:=by kernel_rfl
  i171:=by kernel_rfl
  i173:=by kernel_rfl
  i175:=by kernel_rfl
  i210:=by kernel_rfl
  i212:=by kernel_rfl
  i232:=by kernel_rfl
  i233:=by kernel_rfl
  m15:=by kernel_rfl
  m16:=by kernel_rfl
  m17:=by kernel_rfl
  m18:=by kernel_rfl
  m19:=by kernel_rfl
  c0:=by kernel_rfl
  c2:=by kernel_rfl
  c3:=by kernel_rfl
  c4:=by kernel_rfl
  c5:=by kernel_rfl
  c9:=by kernel_rfl
  c20:=by kernel_rfl
  c21:=by kernel_rfl
  c37:=by kernel_rfl
  c46:=by kernel_rfl
  c51:=by kernel_rfl
  c53:=by kernel_rfl
  c75:=by kernel_rfl
  c76:=by kernel_rfl
  c80:=by kernel_rfl
  c85:=by kernel_rfl
  c127:=by kernel_rfl
  c143:=by kernel_rfl
  c145:=by kernel_rfl
  c167:=by kernel_rfl
  c168:=by kernel_rfl
  c171:=by kernel_rfl
  c173:=by kernel_rfl
  c175:=by kernel_rfl
  c210:=by kernel_rfl
  c212:=by kernel_rfl
  c213:=by kernel_rfl
  c232:=by kernel_rfl
  c233:=by kernel_rfl
theorem MA (s:Ao)(hs:s.length≤10000000):FC Tryz.prog 172 #[BU s] [] (fun w=>G0 7 w∧G0 8 w) (fun v B=>(∃ k:Int,Lib.atoiAll s = .ok k∧v = .tuple #[.int .i64 k, .nilIface]∧B = [])∨(∃(k:Int) (t:TypeId) (x:Value),(∀ j,Lib.atoiAll s≠ .ok j)∧v = .tuple #[.int .i64 k, .iface t x]∧B = [])):=
  Xk XR s hs (by kernel_rfl) (by kernel_rfl)
theorem FN (u:Ao)(hu:u.length≤5000000)(w:World)(gl0:G0 7 w)(gl1:G0 8 w):Ej Tryz.prog 154 #[BU u] w fun v w'=>v = .tuple #[.int .i64 (Words.EM u).1,BU (Words.EM u).2.1, .bool (Words.EM u).2.2.1, .int .i64 (Words.EM u).2.2.2]∧CB w w':=by
 have hcut:=Words.Nd 46 u
 refine Al [] [] Tryz.func154 rfl rfl rfl (St.start w []) ?_
 refine Gs (Ga rfl (Ga rfl (Ga rfl (Ga rfl (Gn (.t1 0) (CD (Gm rfl ?_)))))))
 refine Gt (Bi rfl rfl) (Gn (.t2 0 14) ?_)
 refine Gc (fun c1=>?_) (fun c1=>?_)
 ·
  refine Gs (Ga rfl (Ga rfl (Ga rfl (Ga rfl (Gn (.t4 2 3 4 5) (Ab (AD ?_)))))))
  refine AY rfl (.tmp rfl (.tmp rfl (.tmp rfl (.tmp rfl .n)))) ?_
  intro w1 hS;refine⟨?_,hS.Ak⟩;rw [show Words.EM u=_ from(BB c1)];rfl
 have c1p:=kz c1
 refine Aa ?_
 refine AB (.t1 0) ?_
 refine AA (CD (Gm rfl ?_))
 refine BA rfl dP (.c rfl (.c rfl .n)) (fun w hS=>JM _ _ w) ?_
 refine Gm rfl (Gt (AM rfl rfl) (Gt (AM rfl rfl) (Ga rfl (Ga rfl (Gn (.t3 0 6 7) (Gs (Gm rfl ?_)))))))
 refine Gm rfl (Bo 21 rfl rfl (fun q=>AF rfl) (Bo 21 rfl rfl (fun q=>Dl (Bj rfl q) rfl) (Gt (BK rfl rfl (fun h=>h)) (Gm rfl (Bo 25 rfl rfl (fun q=>AF rfl) ?_)))))
 refine MO (t:=25) rfl rfl rfl (fun q=>EB ai (.c (Bj rfl q) (.c rfl .n)) (fun w hS=>GA _ 46 w)) ?_
 refine Bo 25 rfl rfl (fun q=>BT (Bj rfl q)) (Gt (BK rfl rfl (fun h=>h)) (Gn (.t3 0 6 29) ?_))
 refine Gc (fun c2=>?_) (fun c2=>?_)
 ·
  refine Gs (Gm rfl (Ga rfl (Ga rfl (Ga rfl (Ga rfl (Gn (.t4 2 3 4 5) (Ab ?_)))))))
  refine AD ?_
  refine AY rfl (.tmp rfl (.tmp rfl (.tmp rfl (.tmp rfl .n)))) ?_
  intro w1 hS;refine⟨?_,hS.Ak⟩;rw [show Words.EM u=_ from((AX c1).trans (BB c2))];rfl
 have c2p:=kz c2
 refine Aa ?_
 refine AB (.t1 0) ?_
 refine AA (Gs (Gm rfl ?_))
 refine BA rfl dx (.c rfl (.c rfl .n)) (fun w hS=>Ip _ 46 (by omega) w) ?_
 refine Gm rfl (Gt (AM rfl rfl) (Gt (AM rfl rfl) (Gt (AM rfl rfl) (Ga rfl (Ga rfl (Ga rfl (Gn (.t4 0 8 9 10) ?_)))))))
 refine CD (Gm rfl (Gt (BT rfl) (Gn (.t4 0 8 9 38) ?_)))
 refine Gc (fun c3=>?_) (fun c3=>?_)
 ·
  refine CD (Gm rfl (Gt (Bi rfl rfl) (Gn (.t2 0 40) ?_)))
  refine Gc (fun c4=>?_) (fun c4=>?_)
  ·
   refine Gs (Ga rfl (Ga rfl (Ga rfl (Ga rfl (Gn (.t4 2 3 4 5) (Ab (AD ?_)))))))
   refine AD ?_
   refine AY rfl (.tmp rfl (.tmp rfl (.tmp rfl (.tmp rfl .n)))) ?_
   intro w1 hS;refine⟨?_,hS.Ak⟩;rw [show Words.EM u=_ from((AX c1).trans ((AX c2).trans ((BB c3).trans (BB c4))))];rfl
  refine Aa ?_
  refine AB (.t1 0) ?_
  refine AA (Gs (Gm rfl (Ga rfl (Ga rfl (Ga rfl (Ga rfl (Gn (.t4 2 3 4 5) ?_)))))))
  refine Ab (AD ?_)
  refine AY rfl (.tmp rfl (.tmp rfl (.tmp rfl (.tmp rfl .n)))) ?_
  intro w1 hS;refine⟨?_,hS.Ak⟩;rw [show Words.EM u=_ from((AX c1).trans ((AX c2).trans ((BB c3).trans (AX c4))))];rfl
 have c3p:=kz c3
 refine Aa ?_
 refine AB (.t2 8 9) ?_
 refine AA (Gs (Gm rfl ?_))
 refine BE rfl eL (.c rfl .n) .n (MA _ (by omega)) (fun w hS=>⟨gl0.st hS,gl1.st hS⟩) (fun v1 B hv=>?_)
 rcases hv with ⟨y2,y3,rfl,rfl⟩ | ⟨y4,y5,y6,y7,rfl,rfl⟩
 ·
  refine Gm rfl (Gt (AM rfl rfl) (Gt (AM rfl rfl) (Ga rfl (Ga rfl (Gn (.t4 8 9 11 12) (CD (Gm rfl ?_)))))))
  refine Gt (R3 Tryz.underlying109 rfl) (Gm rfl ?_)
  refine ER (t:=49) rfl rfl rfl (AF rfl) ?_
  refine ER (t:=49) rfl rfl rfl (A8 rfl rfl) ?_
  refine Gt (D3 rfl rfl) (Gm rfl (Bc 53 rfl rfl (fun q=>AF rfl) (Bc 53 rfl rfl (fun q=>Cn (cF rfl q) rfl) ?_)))
  refine Gt (BR rfl rfl (fun h=>by rw [h];rfl)) ?_
  refine Gm rfl (Bc 57 rfl rfl (fun q=>AF rfl) ?_)
  refine Bc 57 rfl rfl (fun q=>by have q1:=q;(try simp at q1);exact Br Tryz.underlying9 (cF rfl q) rfl (by decide) (by first | omega | (have hq:=Words.Sw (by assumption);omega))) ?_
  refine Bc 57 rfl rfl (fun q=>A8 (cF rfl q) rfl) ?_
  refine Gt (BR rfl rfl (fun h=>by rw [h];rfl)) ?_
  refine Gm rfl (Bc 62 rfl rfl (fun q=>AF rfl) ?_)
  refine Bc 62 rfl rfl (fun q=>by have q1:=q;(try simp at q1);exact Br Tryz.underlying9 (cF rfl q) rfl (by decide) (by first | omega | (have hq:=Words.Sw (by assumption);omega))) ?_
  refine Bc 62 rfl rfl (fun q=>Cn (cF rfl q) rfl) ?_
  refine Gt (BR rfl rfl (fun h=>by rw [h];rfl)) ?_
  refine Gm rfl (Bc 67 rfl rfl (fun q=>AF rfl) (Bc 67 rfl rfl (fun q=>Bi (cF rfl q) rfl) ?_))
  refine Gt (BR rfl rfl (fun h=>by rw [h];rfl)) ?_
  refine Gm rfl (Bc 71 rfl rfl (fun q=>AF rfl) ?_)
  refine RQ (t:=71) rfl rfl rfl (fun q=>by have q1:=q;(try simp at q1);exact EB ai (.c (cF rfl q) (.c rfl .n)) (fun w hS=>GA _ 46 w)) ?_
  refine Gt (BR rfl rfl (fun h=>by rw [h];rfl)) ?_
  refine Gn (.t3 9 11 74) ?_
  refine Gc (fun c5=>?_) (fun c5=>?_)
  ·
   refine Gs (Ga rfl (Ga rfl (Ga rfl (Ga rfl (Gn (.t4 2 3 4 5) (Ab (AD ?_)))))))
   refine AY rfl (.tmp rfl (.tmp rfl (.tmp rfl (.tmp rfl .n)))) ?_
   intro w1 hS;refine⟨?_,hS.Ak⟩;rw [show Words.EM u=_ from((AX c1).trans ((AX c2).trans (AX c3))),Words.Uy y3,BB c5];rfl
  refine Aa ?_
  refine AB (.t2 9 11) ?_
  refine AA (Gs (Gm rfl (Gm rfl (Ga rfl (Ga rfl (Ga rfl (Ga rfl ?_)))))))
  refine Gn (.t4 2 3 4 5) (Ab ?_)
  refine AY rfl (.tmp rfl (.tmp rfl (.tmp rfl (.tmp rfl .n)))) ?_
  intro w1 hS;refine⟨?_,hS.Ak⟩;rw [show Words.EM u=_ from((AX c1).trans ((AX c2).trans (AX c3))),Words.Uy y3,AX c5];rfl
 refine Gm rfl (Gt (AM rfl rfl) (Gt (AM rfl rfl) (Ga rfl (Ga rfl (Gn (.t4 8 9 11 12) (CD (Gm rfl ?_)))))))
 refine Gt (ZS Tryz.underlying109 rfl) (Gm rfl ?_)
 refine DH (t:=49) rfl rfl rfl rfl ?_
 refine DH (t:=49) rfl rfl rfl rfl ?_
 refine Gt (De rfl rfl) (Gm rfl ?_)
 refine DH (t:=53) rfl rfl rfl rfl ?_
 refine DH (t:=53) rfl rfl rfl rfl ?_
 refine Gt (De rfl rfl) (Gm rfl ?_)
 refine DH (t:=57) rfl rfl rfl rfl ?_
 refine DH (t:=57) rfl rfl rfl rfl ?_
 refine DH (t:=57) rfl rfl rfl rfl ?_
 refine Gt (De rfl rfl) (Gm rfl ?_)
 refine DH (t:=62) rfl rfl rfl rfl ?_
 refine DH (t:=62) rfl rfl rfl rfl ?_
 refine DH (t:=62) rfl rfl rfl rfl ?_
 refine Gt (De rfl rfl) (Gm rfl ?_)
 refine DH (t:=67) rfl rfl rfl rfl ?_
 refine DH (t:=67) rfl rfl rfl rfl ?_
 refine Gt (De rfl rfl) (Gm rfl ?_)
 refine DH (t:=71) rfl rfl rfl rfl ?_
 refine DH (t:=71) rfl rfl rfl rfl ?_
 refine Gt (De rfl rfl) (Gn (.t3 9 11 74) ?_)
 refine HA rfl rfl ?_
 refine Gs (Ga rfl (Ga rfl (Ga rfl (Ga rfl (Gn (.t4 2 3 4 5) (Ab (AD ?_)))))))
 refine AY rfl (.tmp rfl (.tmp rfl (.tmp rfl (.tmp rfl .n)))) ?_
 intro w1 hS;refine⟨?_,hS.Ak⟩;rw [show Words.EM u=_ from((AX c1).trans ((AX c2).trans (AX c3))),Words.Xf y7];rfl
theorem JW (z:Int)(w:World):Ej Tryz.prog 155 #[.int .i64 z] w fun v w'=>v = .bool (Words.many z)∧CB w w':=by
 refine Al [] [] Tryz.func155 rfl rfl rfl (St.start w []) ?_
 refine Gs (Ga rfl (Gn (.t1 0) (Gs (Gm rfl (Gt (Ag rfl rfl) (Gm rfl (Bc 5 rfl rfl (fun q=>AF rfl) ?_)))))))
 refine Bc 5 rfl rfl (fun q=>Ag (cF rfl q) rfl) ?_
 refine Gt (BR rfl rfl (fun h=>by rw [h];rfl)) ?_
 refine Gm rfl (Bc 9 rfl rfl (fun q=>AF rfl) (Bc 9 rfl rfl (fun q=>Ag (cF rfl q) rfl) ?_))
 refine Gt (BR rfl rfl (fun h=>by rw [h];rfl)) ?_
 refine Ga rfl (Gn (.t1 2) (Ab ?_))
 refine AY rfl (.tmp rfl .n) ?_
 intro w1 hS;refine⟨?_,hS.Ak⟩;rfl
theorem Ij (z:Int)(w:World):Ej Tryz.prog 156 #[.int .i64 z] w fun v w'=>v = .tuple #[BU (Words.PT z).1, .bool (Words.PT z).2]∧CB w w':=by
 refine Al [] [] Tryz.func156 rfl rfl rfl (St.start w []) ?_
 refine Gs (Ga rfl (Ga rfl (Gn (.t1 0) (CD (Gm rfl (Gn (.t1 4) (Ae ?_)))))))
 refine Gs (Gt (Ag rfl rfl) (Ga rfl (Gn (.t2 4 5) ?_)))
 refine Gc (fun c1=>?_) (fun c1=>?_)
 ·
  refine Gs (Ga rfl (Ga rfl (Gn (.t2 2 3) (Ab (AR (AD ?_))))))
  refine AY rfl (.tmp rfl (.tmp rfl .n)) ?_
  intro w1 hS;refine⟨?_,hS.Ak⟩;rw [show Words.PT z=_ from(BB c1)];rfl
 refine Gs (Gt (Ag rfl rfl) (Ga rfl (Gn (.t2 4 7) ?_)))
 refine Gc (fun c2=>?_) (fun c2=>?_)
 ·
  refine Gs (Ga rfl (Ga rfl (Gn (.t2 2 3) (Ab (AR (AD ?_))))))
  refine AY rfl (.tmp rfl (.tmp rfl .n)) ?_
  intro w1 hS;refine⟨?_,hS.Ak⟩;rw [show Words.PT z=_ from((AX c1).trans (BB c2))];rfl
 refine Gs (Gt (Ag rfl rfl) (Ga rfl (Gn (.t1 9) ?_)))
 refine Gc (fun c3=>?_) (fun c3=>?_)
 ·
  refine Gs (Ga rfl (Ga rfl (Gn (.t2 2 3) (Ab (AR (AD ?_))))))
  refine AY rfl (.tmp rfl (.tmp rfl .n)) ?_
  intro w1 hS;refine⟨?_,hS.Ak⟩;rw [show Words.PT z=_ from((AX c1).trans ((AX c2).trans (BB c3)))];rfl
 refine Aa ?_
 refine AB (.nil _) ?_
 refine AW (AA (Gs (Ga rfl (Ga rfl (AQ (AA (Ab ?_)))))))
 refine AY rfl (.tmp rfl (.tmp rfl .n)) ?_
 intro w1 hS;refine⟨?_,hS.Ak⟩;rw [show Words.PT z=_ from((AX c1).trans ((AX c2).trans (AX c3)))];rfl
theorem Me (s:Ao)(hs:s.length≤4000000)(w:World)(gl0:GV 0 AG.DE w)(gl1:G0 7 w)(gl2:G0 8 w):Ej Tryz.prog 122 #[BU s] w fun v w'=>v = .tuple #[.agg (Words.parse s).1.enc.toArray, .int .i64 (Words.parse s).2]∧CB w w':=by
 refine Al [] [] Tryz.func122 rfl rfl rfl (St.start w []) ?_
 refine Gs ?_
 refine BH rfl L3 rfl (fun b1=>?_)
 refine Ga rfl (Gn (.t2 0 2) (Gs (Ga rfl (AQ (AA (Gs (Gm rfl ?_)))))))
 refine Ah rfl eR (.c rfl .n) .n (Mw _ hs) (fun v1 B hv=>?_)
 obtain⟨y2,rfl,y3,rfl⟩:=hv
 refine Ga rfl (Gn (.t4 0 2 4 5) (CD (Gm rfl (Gt (Ar rfl Tryz.underlying52 rfl) (Gt (Ag rfl rfl) (Gn (.t5 0 2 4 5 20) ?_))))))
 refine Gc (fun c1=>?_) (fun c1=>?_)
 ·
  have hlen:=y3
  (try simp only [Hd.cut] at c1)
  rw [hlen] at c1
  refine Gs (Gm rfl ?_)
  refine Dj rfl Ig rfl (.c rfl .n) .n (Bv _) (fun v5 B hv=>?_)
  obtain⟨rfl,rfl⟩:=hv
  refine Gt (AM rfl rfl) (Gt (AM rfl rfl) ?_)
  refine AT (AK (AU.id Order.fl.len Order.fl.one) rfl rfl rfl D9 rfl (.t .h)) ?_
  refine Ga rfl (Gn (.t2 2 3) (Ab (AD ?_)))
  refine AY rfl (.cell rfl .m1 (.inl ⟨(by rw [Order.fl.len];exact CA),rfl⟩) (.tmp rfl .n)) ?_
  intro w1 hS;refine⟨?_,hS.Ak⟩;rw [show Words.parse s=_ from(BB c1)];rfl
 have c1p:=kz c1
 have hlen:=y3
 (try simp only [Hd.cut] at c1)
 rw [hlen] at c1
 refine Aa ?_
 refine AB (.t4 0 2 4 5) ?_
 refine AA (Gs (Gm rfl ?_))
 refine Gt (Bp IM (by decide) (Kn.own .m0) rfl rfl (by omega) (by first | omega | (simp only [Hd.cut] at *;omega) | (simp [Hd.cut] at q ⊢;omega))) ?_
 refine Gt (C9 rfl CO (Kn.own .m0) (by first | omega | (simp only [List.length_drop,Hd.cut] at *;omega) | (simp [Hd.cut] at q ⊢;omega))) ?_
 refine BA rfl aS (.c rfl .n) (fun w hS=>JV _ w (gl0.st hS)) ?_
 refine Gm rfl (Gt (AM rfl rfl) (Gt (AM rfl rfl) (Ga rfl (Ga rfl (Gn (.t6 0 2 4 5 6 7) (CD (Gm rfl ?_)))))))
 refine Gt (Ca rfl rfl) (Gn (.t7 0 2 4 5 6 7 33) ?_)
 refine Gc (fun c2=>?_) (fun c2=>?_)
 ·
  refine Gs (Gm rfl (Gm rfl ?_))
  refine Dj rfl Ig rfl (.c rfl .n) .n (Bv _) (fun v6 B hv=>?_)
  obtain⟨rfl,rfl⟩:=hv
  refine Gt (AM rfl rfl) (Gt (AM rfl rfl) ?_)
  refine AT (AK (AU.id Order.fl.len Order.fl.one) rfl rfl rfl D9 rfl (.t .h)) ?_
  refine Ga rfl (Gn (.t2 2 3) (Ab (AD ?_)))
  refine AY rfl (.cell rfl .m1 (.inl ⟨(by rw [Order.fl.len];exact CA),rfl⟩) (.tmp rfl .n)) ?_
  intro w1 hS;refine⟨?_,hS.Ak⟩;rw [show Words.parse s=_ from((AX c1).trans (BB c2))];rfl
 have c2p:=kz c2
 refine Aa ?_
 refine AB (.t5 0 2 4 5 6) ?_
 refine AA (Gs (Gm rfl (Gt (BC Sf L3 rfl (.cons Order.l0 rfl rfl rfl .nil)) ?_)))
 refine BH rfl L3 rfl (fun b2=>?_)
 refine AT (AK (AU.id Order.fl.len Order.fl.one) rfl rfl rfl D9 rfl .h) ?_
 refine Gn (.t6 0 2 4 5 6 8) (Gs (Gm rfl ?_))
 refine Gu DO rfl Tryz.underlying52 Em rfl rfl (by decide) (by first | omega | (simp only [Hd.cut];omega) | (simp only [Hd.cut] at *;omega)) (fun _=>(.t .h)) ?_
 refine Ga rfl (Gn (.t6 0 2 4 5 6 8) (Ap (Ae (Gs (Gm rfl (Gt (Ag rfl rfl) (Ga rfl ?_)))))))
 refine Gn (.t7 0 2 4 5 6 8 43) ?_
 refine Gc (fun c3=>?_) (fun c3=>?_)
 ·
  have c3p:=kz c3
  refine Gs (Gm rfl ?_)
  refine BA rfl cZ (.c rfl (.c rfl .n)) (fun w hS=>Jc _ (by omega) w) ?_
  refine BA rfl dx (.c rfl (.c rfl .n)) (fun w hS=>Ip _ 32 (by have:=Words.Lh 32 s;omega) w) ?_
  refine Gm rfl (Gt (AM rfl rfl) (Gt (AM rfl rfl) (Gt (AM rfl rfl) (Ga rfl (Ga rfl (Ga rfl (Gn (.t4 2 4 8 10) ?_)))))))
  refine CD (Gm rfl ?_)
  refine BA rfl dC (.c rfl (.c rfl .n)) (fun w hS=>H8 _ (by have h1:=Words.Lh 32 s;have h2:=Words.Nd 32 (Words.QZ 32 s);omega) w) ?_
  refine Gt (Ai RS rfl) ?_
  refine AT (AK Order.l5 rfl rfl rfl Em rfl .h) ?_
  refine Gn (.t3 2 4 8) (Gs (Gt (Ai RS rfl) (Gt (AH rfl CO .m0 Order.l5 rfl rfl) (Gt (Bi rfl rfl) (Gn (.t4 2 4 8 58) ?_)))))
  refine Gc (fun c4=>?_) (fun c4=>?_)
  ·
   refine Gs (Gm rfl ?_)
   refine Dj rfl Ig rfl (.c rfl .n) .n (Bv _) (fun v7 B hv=>?_)
   obtain⟨rfl,rfl⟩:=hv
   refine Gt (AM rfl rfl) (Gt (AM rfl rfl) ?_)
   refine AT (AK (AU.id Order.fl.len Order.fl.one) rfl rfl rfl D9 rfl (.t (.t .h))) ?_
   refine Ga rfl (Gn (.t2 2 3) (Ab (AD (AR (AD ?_)))))
   refine AY rfl (.cell rfl .m2 (.inl ⟨(by rw [Order.fl.len];exact CA),rfl⟩) (.tmp rfl .n)) ?_
   intro w1 hS;refine⟨?_,hS.Ak⟩;rw [show Words.parse s=_ from((AX c1).trans ((AX c2).trans ((BB c3).trans (BB c4))))];rfl
  refine Aa ?_
  refine AB (.t2 2 8) ?_
  refine AA (Gs (Gt (AZ rfl CA .m0 (AU.id Order.fl.len Order.fl.one) rfl) ?_))
  refine AT (AK (AU.id Order.fl.len Order.fl.one) rfl rfl rfl D9 rfl (.t (.t .h))) ?_
  refine Ga rfl (Gn (.t2 2 3) (Ab (AR (AD ?_))))
  refine AY rfl (.cell rfl .m2 (.inl ⟨(by rw [Order.fl.len];exact CA),rfl⟩) (.tmp rfl .n)) ?_
  intro w1 hS;refine⟨?_,hS.Ak⟩;rw [show Words.parse s=_ from((AX c1).trans ((AX c2).trans ((BB c3).trans (AX c4))))];rfl
 have c3p:=kz c3
 refine Gs (Gm rfl (Gt (IQ rfl rfl) (Gm rfl (Bc 67 rfl rfl (fun q=>AF rfl) (Bc 67 rfl rfl (fun q=>CV (cF rfl q) rfl) ?_)))))
 refine Gt (BR rfl rfl (fun h=>by rw [h];rfl)) ?_
 refine Ga rfl (Gn (.t6 2 4 5 6 8 64) ?_)
 refine Gc (fun c5=>?_) (fun c5=>?_)
 ·
  refine CD (Gm rfl (Gt (Ar rfl Tryz.underlying52 rfl) (Gt (Cn rfl rfl) (Gn (.t4 2 4 8 73) ?_))))
  refine Gc (fun c6=>?_) (fun c6=>?_)
  ·
   (try simp only [Hd.cut] at c6)
   rw [hlen] at c6
   refine Gs (Gm rfl ?_)
   refine Dj rfl Ig rfl (.c rfl .n) .n (Bv _) (fun v8 B hv=>?_)
   obtain⟨rfl,rfl⟩:=hv
   refine Gt (AM rfl rfl) (Gt (AM rfl rfl) ?_)
   refine AT (AK (AU.id Order.fl.len Order.fl.one) rfl rfl rfl D9 rfl (.t (.t .h))) ?_
   refine Ga rfl (Gn (.t2 2 3) (Ab (AD (AR (AD ?_)))))
   refine AY rfl (.cell rfl .m2 (.inl ⟨(by rw [Order.fl.len];exact CA),rfl⟩) (.tmp rfl .n)) ?_
   intro w1 hS;refine⟨?_,hS.Ak⟩;rw [show Words.parse s=_ from((AX c1).trans ((AX c2).trans ((AX c3).trans ((BB c5).trans (BB c6)))))];rfl
  (try simp only [Hd.cut] at c6)
  rw [hlen] at c6
  refine Aa ?_
  refine AB (.t2 2 8) ?_
  refine AA (Gs (Gt (AZ rfl CA .m0 (AU.id Order.fl.len Order.fl.one) rfl) ?_))
  refine AT (AK (AU.id Order.fl.len Order.fl.one) rfl rfl rfl D9 rfl (.t (.t .h))) ?_
  refine Ga rfl (Gn (.t2 2 3) (Ab (AR (AD ?_))))
  refine AY rfl (.cell rfl .m2 (.inl ⟨(by rw [Order.fl.len];exact CA),rfl⟩) (.tmp rfl .n)) ?_
  intro w1 hS;refine⟨?_,hS.Ak⟩;rw [show Words.parse s=_ from((AX c1).trans ((AX c2).trans ((AX c3).trans ((BB c5).trans (AX c6)))))];rfl
 have c5p:=kz c5
 refine Gs (Gm rfl (Gt (Ar rfl Tryz.underlying52 rfl) (Gt (Ag rfl rfl) (Ga rfl (Gn (.t6 2 4 5 6 8 79) ?_)))))
 refine Gc (fun c7=>?_) (fun c7=>?_)
 ·
  (try simp only [Hd.cut] at c7)
  rw [hlen] at c7
  refine Gs (Gm rfl ?_)
  refine Dj rfl Ig rfl (.c rfl .n) .n (Bv _) (fun v9 B hv=>?_)
  obtain⟨rfl,rfl⟩:=hv
  refine Gt (AM rfl rfl) (Gt (AM rfl rfl) ?_)
  refine AT (AK (AU.id Order.fl.len Order.fl.one) rfl rfl rfl D9 rfl (.t (.t .h))) ?_
  refine Ga rfl (Gn (.t2 2 3) (Ab (AR (AD ?_))))
  refine AY rfl (.cell rfl .m2 (.inl ⟨(by rw [Order.fl.len];exact CA),rfl⟩) (.tmp rfl .n)) ?_
  intro w1 hS;refine⟨?_,hS.Ak⟩;rw [show Words.parse s=_ from((AX c1).trans ((AX c2).trans ((AX c3).trans ((AX c5).trans (BB c7)))))];rfl
 have c7p:=kz c7
 (try simp only [Hd.cut] at c7)
 rw [hlen] at c7
 refine Aa ?_
 refine AB (.t5 2 4 5 6 8) ?_
 refine AW (AA (CD (Gm rfl (Gt (Ag rfl rfl) (Gm rfl (Bc 89 rfl rfl (fun q=>AF rfl) (Bc 89 rfl rfl (fun q=>Ag (cF rfl q) rfl) ?_)))))))
 refine Gt (BR rfl rfl (fun h=>by rw [h];rfl)) ?_
 refine Gn (.t6 2 4 5 6 8 92) ?_
 refine Gc (fun c8=>?_) (fun c8=>?_)
 ·
  have c8p:=kz c8
  refine Gs (Gm rfl ?_)
  refine Gt (Bp IM (by decide) (Kn.own .m1) rfl rfl (by omega) (by first | omega | (simp only [Hd.cut] at *;omega) | (simp [Hd.cut] at q ⊢;omega))) ?_
  refine Gt (C9 rfl CO (Kn.own .m1) (by first | omega | (simp only [List.length_drop,Hd.cut] at *;omega) | (simp [Hd.cut] at q ⊢;omega))) ?_
  refine BA rfl aS (.c rfl .n) (fun w hS=>JV _ w (gl0.st hS)) ?_
  refine Gm rfl (Gt (AM rfl rfl) (Gt (AM rfl rfl) (Ga rfl (Ga rfl (Gn (.t7 2 4 5 6 8 12 13) (Gs (Gm rfl ?_)))))))
  refine Gt (Ag rfl rfl) (Gm rfl (Bo 102 rfl rfl (fun q=>AF rfl) (Bo 102 rfl rfl (fun q=>A8 (Bj rfl q) rfl) (Gt (BK rfl rfl (fun h=>h)) (Gm rfl (Bo 106 rfl rfl (fun q=>AF rfl) (Bo 106 rfl rfl (fun q=>Ar rfl Tryz.underlying52 (Bj rfl q)) ?_)))))))
  refine Bo 106 rfl rfl (fun q=>Ag (Bj rfl q) rfl) (Gt (BK rfl rfl (fun h=>h)) (Gn (.t7 2 4 5 6 8 12 110) ?_))
  refine Gc (fun c9=>?_) (fun c9=>?_)
  ·
   have c9p:=kz c9
   (try simp only [Hd.cut] at c9)
   rw [hlen] at c9
   have hd:0≤(Words.verb (((Words.words s).drop (1:Int).toNat).getD (0:Int).toNat [])).1∧(Words.verb (((Words.words s).drop (1:Int).toNat).getD (0:Int).toNat [])).1 < 6:=⟨(Words.YJ _).1,by have h:=c9;rw [Bool.and_eq_true,Bool.and_eq_true] at h;exact of_decide_eq_true h.1.2⟩
   refine Gs (Gm rfl ?_)
   refine Gt (AS Y7 rfl rfl (by first | omega | (simp only [Hd.cut];omega) | (simp only [Hd.cut] at *;omega)) (by first | omega | (simp only [Hd.cut];omega) | (simp only [Hd.cut] at *;omega))) ?_
   refine Gt (Rn gl0 rfl CO (AG.PN hd.1 hd.2)) (Gt (Ai Fy rfl) ?_)
   refine AT (AK Order.l3 rfl rfl rfl Em rfl .h) ?_
   refine Gt (Ai GU rfl) ?_
   refine AT (AK Order.l1 rfl rfl rfl DB rfl .h) ?_
   refine Gn (.t2 2 8) (Gs (Gt (AZ rfl CA .m0 (AU.id Order.fl.len Order.fl.one) rfl) ?_))
   refine AT (AK (AU.id Order.fl.len Order.fl.one) rfl rfl rfl D9 rfl (.t (.t .h))) ?_
   refine Ga rfl (Gn (.t2 2 3) (Ab (AD ?_)))
   refine AY rfl (.cell rfl .m2 (.inl ⟨(by rw [Order.fl.len];exact CA),rfl⟩) (.tmp rfl .n)) ?_
   intro w1 hS;refine⟨?_,hS.Ak⟩;rw [show Words.parse s=_ from((AX c1).trans ((AX c2).trans ((AX c3).trans ((AX c5).trans ((AX c7).trans ((BB c8).trans (BB c9)))))))];rfl
  have c9p:=kz c9
  (try simp only [Hd.cut] at c9)
  rw [hlen] at c9
  refine Aa ?_
  refine AB (.t5 2 4 5 6 8) ?_
  refine AA (CD (Gm rfl ?_))
  refine Gt (Bp IM (by decide) (Kn.own .m1) rfl rfl (by omega) (by first | omega | (simp only [Hd.cut] at *;omega) | (simp [Hd.cut] at q ⊢;omega))) ?_
  refine Gt (C9 rfl CO (Kn.own .m1) (by first | omega | (simp only [List.length_drop,Hd.cut] at *;omega) | (simp [Hd.cut] at q ⊢;omega))) ?_
  refine BA rfl Uo (.c rfl .n) (fun w hS=>FN _ (by have:=Words.Mf s 0 1;exact Nat.le_trans this (by omega)) w (gl1.st hS) (gl2.st hS)) ?_
  refine Gm rfl (Gt (AM rfl rfl) (Gt (AM rfl rfl) (Gt (AM rfl rfl) (Gt (AM rfl rfl) (Gt (Ai GU rfl) ?_)))))
  refine AT (AK Order.l1 rfl rfl rfl DB rfl .h) ?_
  refine Gt (Ai Fy rfl) ?_
  refine AT (AK Order.l3 rfl rfl rfl Em rfl .h) ?_
  refine Gt (Ai HN rfl) ?_
  refine AT (AK Order.l2 rfl rfl rfl Kd rfl .h) ?_
  refine Ga rfl (Gn (.t6 2 4 5 6 7 8) (Gs (Gm rfl (Gt (Ca rfl rfl) (Gm rfl (Bc 131 rfl rfl (fun q=>Ai HN rfl) (Bc 131 rfl rfl (fun q=>AH (cF rfl q) Dr .m0 Order.l2 rfl rfl) ?_)))))))
  refine Bc 131 rfl rfl (fun q=>AF (cF rfl q)) ?_
  refine DT (t:=134) rfl rfl rfl (fun qc q=>AF rfl) ?_
  refine Ux (t:=134) rfl rfl rfl (fun qc q=>by have q1:=q;have qc1:=qc;(try simp at q1 qc1);exact EB aT (.c (Bj rfl (by rw [qc,q];rfl)) .n) (fun w hS=>JW _ w)) ?_
  refine DT (t:=134) rfl rfl rfl (fun qc q=>BT (Bj rfl (by rw [qc,q];rfl))) ?_
  refine Bc 131 rfl rfl (fun q=>BK (cF rfl q) rfl (fun h=>by rw [q,h];rfl)) ?_
  refine Gt (BR rfl rfl (fun h=>by rw [h];rfl)) ?_
  refine Gn (.t6 2 4 5 6 8 139) ?_
  refine Gc (fun c10=>?_) (fun c10=>?_)
  ·
   refine Gs (Gm rfl ?_)
   refine Dj rfl Ig rfl (.c rfl .n) .n (Bv _) (fun v10 B hv=>?_)
   obtain⟨rfl,rfl⟩:=hv
   refine Gt (AM rfl rfl) (Gt (AM rfl rfl) ?_)
   refine AT (AK (AU.id Order.fl.len Order.fl.one) rfl rfl rfl D9 rfl (.t (.t .h))) ?_
   refine Ga rfl (Gn (.t2 2 3) (Ab (AD ?_)))
   refine AY rfl (.cell rfl .m2 (.inl ⟨(by rw [Order.fl.len];exact CA),rfl⟩) (.tmp rfl .n)) ?_
   intro w1 hS;refine⟨?_,hS.Ak⟩;rw [show Words.parse s=_ from((AX c1).trans ((AX c2).trans ((AX c3).trans ((AX c5).trans ((AX c7).trans ((BB c8).trans ((AX c9).trans (BB c10))))))))];rfl
  have c10p:=kz c10
  refine Aa ?_
  refine AB (.t5 2 4 5 6 8) ?_
  refine AA (Gs (Gm rfl ?_))
  refine BA rfl ay (.c rfl .n) (fun w hS=>Ij _ w) ?_
  refine Gm rfl (Gt (AM rfl rfl) (Gt (AM rfl rfl) (Ga rfl (Ga rfl (Gn (.t6 2 4 5 8 14 15) (Gs (Gm rfl ?_)))))))
  refine Gu DO rfl Tryz.underlying52 Em rfl rfl (by decide) (by first | omega | (simp only [Hd.cut];omega) | (simp only [Hd.cut] at *;omega)) (fun _=>(.t .h)) ?_
  refine Ga rfl (Gn (.t6 2 4 5 8 14 15) (CD (Gm rfl (Gt (Ar rfl Tryz.underlying52 rfl) (Gt (Cn rfl rfl) (Gm rfl (Bo 154 rfl rfl (fun q=>AF rfl) ?_)))))))
  refine Bo 154 rfl rfl (fun q=>Dl (Bj rfl q) rfl) (Gt (BK rfl rfl (fun h=>h)) (Gm rfl (Bo 158 rfl rfl (fun q=>AF rfl) ?_)))
  refine Bo 158 rfl rfl (fun q=>by have q1:=q;(try simp at q1);exact Bp IM (by decide) (Kn.own .m1) (Bj rfl q) rfl (by omega) (by first | omega | (simp only [Hd.cut] at *;omega) | (simp [Hd.cut] at q ⊢;omega))) ?_
  refine Bo 158 rfl rfl (fun q=>by have q1:=q;(try simp at q1);exact C9 (Bj rfl q) CO (Kn.own .m1) (by first | omega | (simp only [List.length_drop,Hd.cut] at *;omega) | (simp [Hd.cut] at q ⊢;omega))) ?_
  refine Bo 158 rfl rfl (fun q=>AF rfl) (Bo 158 rfl rfl (fun q=>Bi (Bj rfl q) (Bj rfl q)) (Gt (BK rfl rfl (fun h=>h)) (Gn (.t7 2 4 5 8 14 15 164) ?_)))
  refine Gc (fun c11=>?_) (fun c11=>?_)
  ·
   have c11p:=kz c11
   (try simp only [Hd.cut] at c11)
   rw [hlen] at c11
   refine Gs (Gm rfl ?_)
   refine Gu DO rfl Tryz.underlying52 Em rfl rfl (by decide) (by first | omega | (simp only [Hd.cut];omega) | (simp only [Hd.cut] at *;omega)) (fun _=>(.t .h)) ?_
   refine Ga rfl (Gn (.t6 2 4 5 8 14 15) (Gs (Gm rfl (Gt (Ar rfl Tryz.underlying52 rfl) (Gt (Ag rfl rfl) (Gn (.t7 2 4 5 8 14 15 169) ?_))))))
   refine Gc (fun c12=>?_) (fun c12=>?_)
   ·
    (try simp only [Hd.cut] at c12)
    rw [hlen] at c12
    refine Gs (Gm rfl ?_)
    refine Dj rfl Ig rfl (.c rfl .n) .n (Bv _) (fun v11 B hv=>?_)
    obtain⟨rfl,rfl⟩:=hv
    refine Gt (AM rfl rfl) (Gt (AM rfl rfl) ?_)
    refine AT (AK (AU.id Order.fl.len Order.fl.one) rfl rfl rfl D9 rfl (.t (.t .h))) ?_
    refine Ga rfl (Gn (.t2 2 3) (Ab (AD ?_)))
    refine AY rfl (.cell rfl .m2 (.inl ⟨(by rw [Order.fl.len];exact CA),rfl⟩) (.tmp rfl .n)) ?_
    intro w1 hS;refine⟨?_,hS.Ak⟩;rw [show Words.parse s=_ from((AX c1).trans ((AX c2).trans ((AX c3).trans ((AX c5).trans ((AX c7).trans ((BB c8).trans ((AX c9).trans ((AX c10).trans ((BB c11).trans (BB c12))))))))))];rfl
   have c12p:=kz c12
   (try simp only [Hd.cut] at c12)
   rw [hlen] at c12
   refine Aa ?_
   refine AB (.t6 2 4 5 8 14 15) ?_
   refine AA (Ap (Ae (Gs (Gm rfl (Gt (Ar rfl Tryz.underlying52 rfl) (Gt (Ag rfl rfl) (Gm rfl ?_)))))))
   refine Bo 178 rfl rfl (fun q=>AF rfl) (Bo 178 rfl rfl (fun q=>BT (Bj rfl q)) (Gt (BK rfl rfl (fun h=>h)) (Ga rfl (Gn (.t6 2 4 5 8 14 174) ?_))))
   refine Gc (fun c13=>?_) (fun c13=>?_)
   ·
    (try simp only [Hd.cut] at c13)
    rw [hlen] at c13
    refine Gs (Gt (AZ rfl CA .m0 (AU.id Order.fl.len Order.fl.one) rfl) ?_)
    refine AT (AK (AU.id Order.fl.len Order.fl.one) rfl rfl rfl D9 rfl (.t (.t .h))) ?_
    refine Ga rfl (Gn (.t2 2 3) (Ab (AR (AD ?_))))
    refine AY rfl (.cell rfl .m2 (.inl ⟨(by rw [Order.fl.len];exact CA),rfl⟩) (.tmp rfl .n)) ?_
    intro w1 hS;refine⟨?_,hS.Ak⟩;rw [show Words.parse s=_ from((AX c1).trans ((AX c2).trans ((AX c3).trans ((AX c5).trans ((AX c7).trans ((BB c8).trans ((AX c9).trans ((AX c10).trans ((BB c11).trans ((AX c12).trans (BB c13)))))))))))];rfl
   have c13p:=kz c13
   (try simp only [Hd.cut] at c13)
   rw [hlen] at c13
   refine Gs (Gm rfl (Gt (Ar rfl Tryz.underlying52 rfl) (Gt (Ca rfl rfl) (Gm rfl (Bc 187 rfl rfl (fun q=>AF rfl) (Bc 187 rfl rfl (fun q=>Bi (cF rfl q) rfl) ?_))))))
   refine Gt (BR rfl rfl (fun h=>by rw [h];rfl)) ?_
   refine Ga rfl (Gn (.t5 2 4 5 8 183) ?_)
   refine Gc (fun c14=>?_) (fun c14=>?_)
   ·
    (try simp only [Hd.cut] at c14)
    rw [hlen] at c14
    refine Gs (Gm rfl ?_)
    refine Dj rfl Ig rfl (.c rfl .n) .n (Bv _) (fun v12 B hv=>?_)
    obtain⟨rfl,rfl⟩:=hv
    refine Gt (AM rfl rfl) (Gt (AM rfl rfl) ?_)
    refine AT (AK (AU.id Order.fl.len Order.fl.one) rfl rfl rfl D9 rfl (.t (.t .h))) ?_
    refine Ga rfl (Gn (.t2 2 3) (Ab (AR (AD ?_))))
    refine AY rfl (.cell rfl .m2 (.inl ⟨(by rw [Order.fl.len];exact CA),rfl⟩) (.tmp rfl .n)) ?_
    intro w1 hS;refine⟨?_,hS.Ak⟩;rw [show Words.parse s=_ from((AX c1).trans ((AX c2).trans ((AX c3).trans ((AX c5).trans ((AX c7).trans ((BB c8).trans ((AX c9).trans ((AX c10).trans ((BB c11).trans ((AX c12).trans ((AX c13).trans (BB c14))))))))))))];rfl
   have c14p:=kz c14
   (try simp only [Hd.cut] at c14)
   rw [hlen] at c14
   refine Aa ?_
   refine AB (.t3 2 5 8) ?_
   refine AW (AA (Gs (Gm rfl ?_)))
   refine Gt (Bp IM (by decide) (Kn.own .m1) rfl rfl (by omega) (by first | omega | (simp only [Hd.cut] at *;omega) | (simp [Hd.cut] at q ⊢;omega))) ?_
   refine Gt (C9 rfl CO (Kn.own .m1) (by first | omega | (simp only [List.length_drop,Hd.cut] at *;omega) | (simp [Hd.cut] at q ⊢;omega))) ?_
   refine Gt (Ai II rfl) ?_
   refine AT (AK Order.l4 rfl rfl rfl Em rfl .h) ?_
   refine Gn (.t2 2 8) (Gs (Gt (AZ rfl CA .m0 (AU.id Order.fl.len Order.fl.one) rfl) ?_))
   refine AT (AK (AU.id Order.fl.len Order.fl.one) rfl rfl rfl D9 rfl (.t (.t .h))) ?_
   refine Ga rfl (Gn (.t2 2 3) (Ab ?_))
   refine AY rfl (.cell rfl .m2 (.inl ⟨(by rw [Order.fl.len];exact CA),rfl⟩) (.tmp rfl .n)) ?_
   intro w1 hS;refine⟨?_,hS.Ak⟩;rw [show Words.parse s=_ from((AX c1).trans ((AX c2).trans ((AX c3).trans ((AX c5).trans ((AX c7).trans ((BB c8).trans ((AX c9).trans ((AX c10).trans ((BB c11).trans ((AX c12).trans ((AX c13).trans (AX c14))))))))))))];rfl
  have c11p:=kz c11
  (try simp only [Hd.cut] at c11)
  rw [hlen] at c11
  refine Aa ?_
  refine AB (.t6 2 4 5 8 14 15) ?_
  refine AA (Ap (Ae (Gs (Gm rfl (Gt (Ar rfl Tryz.underlying52 rfl) (Gt (Ag rfl rfl) (Gm rfl ?_)))))))
  refine Bo 178 rfl rfl (fun q=>AF rfl) (Bo 178 rfl rfl (fun q=>BT (Bj rfl q)) (Gt (BK rfl rfl (fun h=>h)) (Ga rfl (Gn (.t6 2 4 5 8 14 174) ?_))))
  refine Gc (fun c15=>?_) (fun c15=>?_)
  ·
   (try simp only [Hd.cut] at c15)
   rw [hlen] at c15
   refine Gs (Gt (AZ rfl CA .m0 (AU.id Order.fl.len Order.fl.one) rfl) ?_)
   refine AT (AK (AU.id Order.fl.len Order.fl.one) rfl rfl rfl D9 rfl (.t (.t .h))) ?_
   refine Ga rfl (Gn (.t2 2 3) (Ab (AR (AD ?_))))
   refine AY rfl (.cell rfl .m2 (.inl ⟨(by rw [Order.fl.len];exact CA),rfl⟩) (.tmp rfl .n)) ?_
   intro w1 hS;refine⟨?_,hS.Ak⟩;rw [show Words.parse s=_ from((AX c1).trans ((AX c2).trans ((AX c3).trans ((AX c5).trans ((AX c7).trans ((BB c8).trans ((AX c9).trans ((AX c10).trans ((AX c11).trans (BB c15))))))))))];rfl
  have c15p:=kz c15
  (try simp only [Hd.cut] at c15)
  rw [hlen] at c15
  refine Gs (Gm rfl (Gt (Ar rfl Tryz.underlying52 rfl) (Gt (Ca rfl rfl) (Gm rfl (Bc 187 rfl rfl (fun q=>AF rfl) (Bc 187 rfl rfl (fun q=>Bi (cF rfl q) rfl) ?_))))))
  refine Gt (BR rfl rfl (fun h=>by rw [h];rfl)) ?_
  refine Ga rfl (Gn (.t5 2 4 5 8 183) ?_)
  refine Gc (fun c16=>?_) (fun c16=>?_)
  ·
   (try simp only [Hd.cut] at c16)
   rw [hlen] at c16
   refine Gs (Gm rfl ?_)
   refine Dj rfl Ig rfl (.c rfl .n) .n (Bv _) (fun v13 B hv=>?_)
   obtain⟨rfl,rfl⟩:=hv
   refine Gt (AM rfl rfl) (Gt (AM rfl rfl) ?_)
   refine AT (AK (AU.id Order.fl.len Order.fl.one) rfl rfl rfl D9 rfl (.t (.t .h))) ?_
   refine Ga rfl (Gn (.t2 2 3) (Ab (AR (AD ?_))))
   refine AY rfl (.cell rfl .m2 (.inl ⟨(by rw [Order.fl.len];exact CA),rfl⟩) (.tmp rfl .n)) ?_
   intro w1 hS;refine⟨?_,hS.Ak⟩;rw [show Words.parse s=_ from((AX c1).trans ((AX c2).trans ((AX c3).trans ((AX c5).trans ((AX c7).trans ((BB c8).trans ((AX c9).trans ((AX c10).trans ((AX c11).trans ((AX c15).trans (BB c16)))))))))))];rfl
  have c16p:=kz c16
  (try simp only [Hd.cut] at c16)
  rw [hlen] at c16
  refine Aa ?_
  refine AB (.t3 2 5 8) ?_
  refine AW (AA (Gs (Gm rfl ?_)))
  refine Gt (Bp IM (by decide) (Kn.own .m1) rfl rfl (by omega) (by first | omega | (simp only [Hd.cut] at *;omega) | (simp [Hd.cut] at q ⊢;omega))) ?_
  refine Gt (C9 rfl CO (Kn.own .m1) (by first | omega | (simp only [List.length_drop,Hd.cut] at *;omega) | (simp [Hd.cut] at q ⊢;omega))) ?_
  refine Gt (Ai II rfl) ?_
  refine AT (AK Order.l4 rfl rfl rfl Em rfl .h) ?_
  refine Gn (.t2 2 8) (Gs (Gt (AZ rfl CA .m0 (AU.id Order.fl.len Order.fl.one) rfl) ?_))
  refine AT (AK (AU.id Order.fl.len Order.fl.one) rfl rfl rfl D9 rfl (.t (.t .h))) ?_
  refine Ga rfl (Gn (.t2 2 3) (Ab ?_))
  refine AY rfl (.cell rfl .m2 (.inl ⟨(by rw [Order.fl.len];exact CA),rfl⟩) (.tmp rfl .n)) ?_
  intro w1 hS;refine⟨?_,hS.Ak⟩;rw [show Words.parse s=_ from((AX c1).trans ((AX c2).trans ((AX c3).trans ((AX c5).trans ((AX c7).trans ((BB c8).trans ((AX c9).trans ((AX c10).trans ((AX c11).trans ((AX c15).trans (AX c16)))))))))))];rfl
 have c8p:=kz c8
 refine Aa ?_
 refine AB (.t5 2 4 5 6 8) ?_
 refine AA (CD (Gm rfl ?_))
 refine Gt (Bp IM (by decide) (Kn.own .m1) rfl rfl (by omega) (by first | omega | (simp only [Hd.cut] at *;omega) | (simp [Hd.cut] at q ⊢;omega))) ?_
 refine Gt (C9 rfl CO (Kn.own .m1) (by first | omega | (simp only [List.length_drop,Hd.cut] at *;omega) | (simp [Hd.cut] at q ⊢;omega))) ?_
 refine BA rfl Uo (.c rfl .n) (fun w hS=>FN _ (by have:=Words.Mf s 0 1;exact Nat.le_trans this (by omega)) w (gl1.st hS) (gl2.st hS)) ?_
 refine Gm rfl (Gt (AM rfl rfl) (Gt (AM rfl rfl) (Gt (AM rfl rfl) (Gt (AM rfl rfl) (Gt (Ai GU rfl) ?_)))))
 refine AT (AK Order.l1 rfl rfl rfl DB rfl .h) ?_
 refine Gt (Ai Fy rfl) ?_
 refine AT (AK Order.l3 rfl rfl rfl Em rfl .h) ?_
 refine Gt (Ai HN rfl) ?_
 refine AT (AK Order.l2 rfl rfl rfl Kd rfl .h) ?_
 refine Ga rfl (Gn (.t6 2 4 5 6 7 8) (Gs (Gm rfl (Gt (Ca rfl rfl) (Gm rfl (Bc 131 rfl rfl (fun q=>Ai HN rfl) (Bc 131 rfl rfl (fun q=>AH (cF rfl q) Dr .m0 Order.l2 rfl rfl) ?_)))))))
 refine Bc 131 rfl rfl (fun q=>AF (cF rfl q)) ?_
 refine DT (t:=134) rfl rfl rfl (fun qc q=>AF rfl) ?_
 refine Ux (t:=134) rfl rfl rfl (fun qc q=>by have q1:=q;have qc1:=qc;(try simp at q1 qc1);exact EB aT (.c (Bj rfl (by rw [qc,q];rfl)) .n) (fun w hS=>JW _ w)) ?_
 refine DT (t:=134) rfl rfl rfl (fun qc q=>BT (Bj rfl (by rw [qc,q];rfl))) ?_
 refine Bc 131 rfl rfl (fun q=>BK (cF rfl q) rfl (fun h=>by rw [q,h];rfl)) ?_
 refine Gt (BR rfl rfl (fun h=>by rw [h];rfl)) ?_
 refine Gn (.t6 2 4 5 6 8 139) ?_
 refine Gc (fun c17=>?_) (fun c17=>?_)
 ·
  refine Gs (Gm rfl ?_)
  refine Dj rfl Ig rfl (.c rfl .n) .n (Bv _) (fun v14 B hv=>?_)
  obtain⟨rfl,rfl⟩:=hv
  refine Gt (AM rfl rfl) (Gt (AM rfl rfl) ?_)
  refine AT (AK (AU.id Order.fl.len Order.fl.one) rfl rfl rfl D9 rfl (.t (.t .h))) ?_
  refine Ga rfl (Gn (.t2 2 3) (Ab (AD ?_)))
  refine AY rfl (.cell rfl .m2 (.inl ⟨(by rw [Order.fl.len];exact CA),rfl⟩) (.tmp rfl .n)) ?_
  intro w1 hS;refine⟨?_,hS.Ak⟩;rw [show Words.parse s=_ from((AX c1).trans ((AX c2).trans ((AX c3).trans ((AX c5).trans ((AX c7).trans ((AX c8).trans (BB c17)))))))];rfl
 have c17p:=kz c17
 refine Aa ?_
 refine AB (.t5 2 4 5 6 8) ?_
 refine AA (Gs (Gm rfl ?_))
 refine BA rfl ay (.c rfl .n) (fun w hS=>Ij _ w) ?_
 refine Gm rfl (Gt (AM rfl rfl) (Gt (AM rfl rfl) (Ga rfl (Ga rfl (Gn (.t6 2 4 5 8 14 15) (Gs (Gm rfl ?_)))))))
 refine Gu DO rfl Tryz.underlying52 Em rfl rfl (by decide) (by first | omega | (simp only [Hd.cut];omega) | (simp only [Hd.cut] at *;omega)) (fun _=>(.t .h)) ?_
 refine Ga rfl (Gn (.t6 2 4 5 8 14 15) (CD (Gm rfl (Gt (Ar rfl Tryz.underlying52 rfl) (Gt (Cn rfl rfl) (Gm rfl (Bo 154 rfl rfl (fun q=>AF rfl) ?_)))))))
 refine Bo 154 rfl rfl (fun q=>Dl (Bj rfl q) rfl) (Gt (BK rfl rfl (fun h=>h)) (Gm rfl (Bo 158 rfl rfl (fun q=>AF rfl) ?_)))
 refine Bo 158 rfl rfl (fun q=>by have q1:=q;(try simp at q1);exact Bp IM (by decide) (Kn.own .m1) (Bj rfl q) rfl (by omega) (by first | omega | (simp only [Hd.cut] at *;omega) | (simp [Hd.cut] at q ⊢;omega))) ?_
 refine Bo 158 rfl rfl (fun q=>by have q1:=q;(try simp at q1);exact C9 (Bj rfl q) CO (Kn.own .m1) (by first | omega | (simp only [List.length_drop,Hd.cut] at *;omega) | (simp [Hd.cut] at q ⊢;omega))) ?_
 refine Bo 158 rfl rfl (fun q=>AF rfl) (Bo 158 rfl rfl (fun q=>Bi (Bj rfl q) (Bj rfl q)) (Gt (BK rfl rfl (fun h=>h)) (Gn (.t7 2 4 5 8 14 15 164) ?_)))
 refine Gc (fun c18=>?_) (fun c18=>?_)
 ·
  have c18p:=kz c18
  (try simp only [Hd.cut] at c18)
  rw [hlen] at c18
  refine Gs (Gm rfl ?_)
  refine Gu DO rfl Tryz.underlying52 Em rfl rfl (by decide) (by first | omega | (simp only [Hd.cut];omega) | (simp only [Hd.cut] at *;omega)) (fun _=>(.t .h)) ?_
  refine Ga rfl (Gn (.t6 2 4 5 8 14 15) (Gs (Gm rfl (Gt (Ar rfl Tryz.underlying52 rfl) (Gt (Ag rfl rfl) (Gn (.t7 2 4 5 8 14 15 169) ?_))))))
  refine Gc (fun c19=>?_) (fun c19=>?_)
  ·
   (try simp only [Hd.cut] at c19)
   rw [hlen] at c19
   refine Gs (Gm rfl ?_)
   refine Dj rfl Ig rfl (.c rfl .n) .n (Bv _) (fun v15 B hv=>?_)
   obtain⟨rfl,rfl⟩:=hv
   refine Gt (AM rfl rfl) (Gt (AM rfl rfl) ?_)
   refine AT (AK (AU.id Order.fl.len Order.fl.one) rfl rfl rfl D9 rfl (.t (.t .h))) ?_
   refine Ga rfl (Gn (.t2 2 3) (Ab (AD ?_)))
   refine AY rfl (.cell rfl .m2 (.inl ⟨(by rw [Order.fl.len];exact CA),rfl⟩) (.tmp rfl .n)) ?_
   intro w1 hS;refine⟨?_,hS.Ak⟩;rw [show Words.parse s=_ from((AX c1).trans ((AX c2).trans ((AX c3).trans ((AX c5).trans ((AX c7).trans ((AX c8).trans ((AX c17).trans ((BB c18).trans (BB c19)))))))))];rfl
  have c19p:=kz c19
  (try simp only [Hd.cut] at c19)
  rw [hlen] at c19
  refine Aa ?_
  refine AB (.t6 2 4 5 8 14 15) ?_
  refine AA (Ap (Ae (Gs (Gm rfl (Gt (Ar rfl Tryz.underlying52 rfl) (Gt (Ag rfl rfl) (Gm rfl ?_)))))))
  refine Bo 178 rfl rfl (fun q=>AF rfl) (Bo 178 rfl rfl (fun q=>BT (Bj rfl q)) (Gt (BK rfl rfl (fun h=>h)) (Ga rfl (Gn (.t6 2 4 5 8 14 174) ?_))))
  refine Gc (fun c20=>?_) (fun c20=>?_)
  ·
   (try simp only [Hd.cut] at c20)
   rw [hlen] at c20
   refine Gs (Gt (AZ rfl CA .m0 (AU.id Order.fl.len Order.fl.one) rfl) ?_)
   refine AT (AK (AU.id Order.fl.len Order.fl.one) rfl rfl rfl D9 rfl (.t (.t .h))) ?_
   refine Ga rfl (Gn (.t2 2 3) (Ab (AR (AD ?_))))
   refine AY rfl (.cell rfl .m2 (.inl ⟨(by rw [Order.fl.len];exact CA),rfl⟩) (.tmp rfl .n)) ?_
   intro w1 hS;refine⟨?_,hS.Ak⟩;rw [show Words.parse s=_ from((AX c1).trans ((AX c2).trans ((AX c3).trans ((AX c5).trans ((AX c7).trans ((AX c8).trans ((AX c17).trans ((BB c18).trans ((AX c19).trans (BB c20))))))))))];rfl
  have c20p:=kz c20
  (try simp only [Hd.cut] at c20)
  rw [hlen] at c20
  refine Gs (Gm rfl (Gt (Ar rfl Tryz.underlying52 rfl) (Gt (Ca rfl rfl) (Gm rfl (Bc 187 rfl rfl (fun q=>AF rfl) (Bc 187 rfl rfl (fun q=>Bi (cF rfl q) rfl) ?_))))))
  refine Gt (BR rfl rfl (fun h=>by rw [h];rfl)) ?_
  refine Ga rfl (Gn (.t5 2 4 5 8 183) ?_)
  refine Gc (fun c21=>?_) (fun c21=>?_)
  ·
   (try simp only [Hd.cut] at c21)
   rw [hlen] at c21
   refine Gs (Gm rfl ?_)
   refine Dj rfl Ig rfl (.c rfl .n) .n (Bv _) (fun v16 B hv=>?_)
   obtain⟨rfl,rfl⟩:=hv
   refine Gt (AM rfl rfl) (Gt (AM rfl rfl) ?_)
   refine AT (AK (AU.id Order.fl.len Order.fl.one) rfl rfl rfl D9 rfl (.t (.t .h))) ?_
   refine Ga rfl (Gn (.t2 2 3) (Ab (AR (AD ?_))))
   refine AY rfl (.cell rfl .m2 (.inl ⟨(by rw [Order.fl.len];exact CA),rfl⟩) (.tmp rfl .n)) ?_
   intro w1 hS;refine⟨?_,hS.Ak⟩;rw [show Words.parse s=_ from((AX c1).trans ((AX c2).trans ((AX c3).trans ((AX c5).trans ((AX c7).trans ((AX c8).trans ((AX c17).trans ((BB c18).trans ((AX c19).trans ((AX c20).trans (BB c21)))))))))))];rfl
  have c21p:=kz c21
  (try simp only [Hd.cut] at c21)
  rw [hlen] at c21
  refine Aa ?_
  refine AB (.t3 2 5 8) ?_
  refine AW (AA (Gs (Gm rfl ?_)))
  refine Gt (Bp IM (by decide) (Kn.own .m1) rfl rfl (by omega) (by first | omega | (simp only [Hd.cut] at *;omega) | (simp [Hd.cut] at q ⊢;omega))) ?_
  refine Gt (C9 rfl CO (Kn.own .m1) (by first | omega | (simp only [List.length_drop,Hd.cut] at *;omega) | (simp [Hd.cut] at q ⊢;omega))) ?_
  refine Gt (Ai II rfl) ?_
  refine AT (AK Order.l4 rfl rfl rfl Em rfl .h) ?_
  refine Gn (.t2 2 8) (Gs (Gt (AZ rfl CA .m0 (AU.id Order.fl.len Order.fl.one) rfl) ?_))
  refine AT (AK (AU.id Order.fl.len Order.fl.one) rfl rfl rfl D9 rfl (.t (.t .h))) ?_
  refine Ga rfl (Gn (.t2 2 3) (Ab ?_))
  refine AY rfl (.cell rfl .m2 (.inl ⟨(by rw [Order.fl.len];exact CA),rfl⟩) (.tmp rfl .n)) ?_
  intro w1 hS;refine⟨?_,hS.Ak⟩;rw [show Words.parse s=_ from((AX c1).trans ((AX c2).trans ((AX c3).trans ((AX c5).trans ((AX c7).trans ((AX c8).trans ((AX c17).trans ((BB c18).trans ((AX c19).trans ((AX c20).trans (AX c21)))))))))))];rfl
 have c18p:=kz c18
 (try simp only [Hd.cut] at c18)
 rw [hlen] at c18
 refine Aa ?_
 refine AB (.t6 2 4 5 8 14 15) ?_
 refine AA (Ap (Ae (Gs (Gm rfl (Gt (Ar rfl Tryz.underlying52 rfl) (Gt (Ag rfl rfl) (Gm rfl ?_)))))))
 refine Bo 178 rfl rfl (fun q=>AF rfl) (Bo 178 rfl rfl (fun q=>BT (Bj rfl q)) (Gt (BK rfl rfl (fun h=>h)) (Ga rfl (Gn (.t6 2 4 5 8 14 174) ?_))))
 refine Gc (fun c22=>?_) (fun c22=>?_)
 ·
  (try simp only [Hd.cut] at c22)
  rw [hlen] at c22
  refine Gs (Gt (AZ rfl CA .m0 (AU.id Order.fl.len Order.fl.one) rfl) ?_)
  refine AT (AK (AU.id Order.fl.len Order.fl.one) rfl rfl rfl D9 rfl (.t (.t .h))) ?_
  refine Ga rfl (Gn (.t2 2 3) (Ab (AR (AD ?_))))
  refine AY rfl (.cell rfl .m2 (.inl ⟨(by rw [Order.fl.len];exact CA),rfl⟩) (.tmp rfl .n)) ?_
  intro w1 hS;refine⟨?_,hS.Ak⟩;rw [show Words.parse s=_ from((AX c1).trans ((AX c2).trans ((AX c3).trans ((AX c5).trans ((AX c7).trans ((AX c8).trans ((AX c17).trans ((AX c18).trans (BB c22)))))))))];rfl
 have c22p:=kz c22
 (try simp only [Hd.cut] at c22)
 rw [hlen] at c22
 refine Gs (Gm rfl (Gt (Ar rfl Tryz.underlying52 rfl) (Gt (Ca rfl rfl) (Gm rfl (Bc 187 rfl rfl (fun q=>AF rfl) (Bc 187 rfl rfl (fun q=>Bi (cF rfl q) rfl) ?_))))))
 refine Gt (BR rfl rfl (fun h=>by rw [h];rfl)) ?_
 refine Ga rfl (Gn (.t5 2 4 5 8 183) ?_)
 refine Gc (fun c23=>?_) (fun c23=>?_)
 ·
  (try simp only [Hd.cut] at c23)
  rw [hlen] at c23
  refine Gs (Gm rfl ?_)
  refine Dj rfl Ig rfl (.c rfl .n) .n (Bv _) (fun v17 B hv=>?_)
  obtain⟨rfl,rfl⟩:=hv
  refine Gt (AM rfl rfl) (Gt (AM rfl rfl) ?_)
  refine AT (AK (AU.id Order.fl.len Order.fl.one) rfl rfl rfl D9 rfl (.t (.t .h))) ?_
  refine Ga rfl (Gn (.t2 2 3) (Ab (AR (AD ?_))))
  refine AY rfl (.cell rfl .m2 (.inl ⟨(by rw [Order.fl.len];exact CA),rfl⟩) (.tmp rfl .n)) ?_
  intro w1 hS;refine⟨?_,hS.Ak⟩;rw [show Words.parse s=_ from((AX c1).trans ((AX c2).trans ((AX c3).trans ((AX c5).trans ((AX c7).trans ((AX c8).trans ((AX c17).trans ((AX c18).trans ((AX c22).trans (BB c23))))))))))];rfl
 have c23p:=kz c23
 (try simp only [Hd.cut] at c23)
 rw [hlen] at c23
 refine Aa ?_
 refine AB (.t3 2 5 8) ?_
 refine AW (AA (Gs (Gm rfl ?_)))
 refine Gt (Bp IM (by decide) (Kn.own .m1) rfl rfl (by omega) (by first | omega | (simp only [Hd.cut] at *;omega) | (simp [Hd.cut] at q ⊢;omega))) ?_
 refine Gt (C9 rfl CO (Kn.own .m1) (by first | omega | (simp only [List.length_drop,Hd.cut] at *;omega) | (simp [Hd.cut] at q ⊢;omega))) ?_
 refine Gt (Ai II rfl) ?_
 refine AT (AK Order.l4 rfl rfl rfl Em rfl .h) ?_
 refine Gn (.t2 2 8) (Gs (Gt (AZ rfl CA .m0 (AU.id Order.fl.len Order.fl.one) rfl) ?_))
 refine AT (AK (AU.id Order.fl.len Order.fl.one) rfl rfl rfl D9 rfl (.t (.t .h))) ?_
 refine Ga rfl (Gn (.t2 2 3) (Ab ?_))
 refine AY rfl (.cell rfl .m2 (.inl ⟨(by rw [Order.fl.len];exact CA),rfl⟩) (.tmp rfl .n)) ?_
 intro w1 hS;refine⟨?_,hS.Ak⟩;rw [show Words.parse s=_ from((AX c1).trans ((AX c2).trans ((AX c3).trans ((AX c5).trans ((AX c7).trans ((AX c8).trans ((AX c17).trans ((AX c18).trans ((AX c22).trans (AX c23))))))))))];rfl
theorem Hc (d:Int)(w:World):Ej Tryz.prog 128 #[.int .i64 d] w fun v w'=>v = .int .i64 (AG.opposite d)∧CB w w':=by
 refine Al [] [] Tryz.func128 rfl rfl rfl (St.start w []) ?_
 refine Gs (Ga rfl (Gn (.t1 0) (Gs (Gm rfl (Gt (Lb rfl rfl) (Gt (L8 rfl rfl) ?_))))))
 refine Gt (Av rfl rfl (IntWalk.i64_in _ (by omega))) ?_
 refine Gt (Tj rfl rfl (by omega)) ?_
 refine Ga rfl (Gn (.t1 2) (Ab ?_))
 refine AY rfl (.tmp rfl .n) ?_
 intro w1 hS;refine⟨?_,hS.Ak⟩;rfl
theorem Rm (b:Nat)(T:AE)(g:Hd)(d:Int)(hg:g.len=T.out.length)(hF:T.Fit)(hd:0≤d∧d < 6)(hn:T.out.length≤80000):FC Tryz.prog 99 #[.pointer (some ⟨b,0,none⟩), .int .i64 d] [Ac.box b 163 (Ad.enc ⟨T.w,T.b,g⟩),Ac.own g 56 16 (T.out.flatMap Ing.Event.enc)] (fun w=>(GV 0 AG.DE w∧0 ∉ Cc [Ac.box b 163 (Ad.enc ⟨T.w,T.b,g⟩),Ac.own g 56 16 (T.out.flatMap Ing.Event.enc)])) (fun v B=>∃ g':Hd,v = .tuple #[]∧g'.len=(T.walk d).out.length∧B = [Ac.box b 163 (Ad.enc ⟨(T.walk d).w,(T.walk d).b,g'⟩),Ac.own g' 56 16 ((T.walk d).out.flatMap Ing.Event.enc)]):=by
 intro w hS0 hH
 obtain⟨gl0,gm0⟩:=hH
 have hb:=hF.b
 have hr:=hF.room
 have hx:=hF.exit hd.1 hd.2
 refine Al _ _ Tryz.func99 rfl rfl rfl (hS0) ?_
 refine Ap ?_
 refine BD (N:=19) [0,0,0,4,12,28,2,66,194,510,1022,2046,1,4097,12289,32767,65535,0,262143] mix (by kernel_rfl) rfl ?_
 refine Pf 0 rfl (AF rfl) (Pf 1 rfl (AF rfl) (Pf 2 rfl (AF rfl) (Pf 3 rfl (BV rfl) (Pf 4 rfl (Ai CR rfl) (Pf 5 rfl (AH rfl A4 .m0 Ad.l1 rfl rfl) (Pf 6 rfl (BV rfl) (Pf 7 rfl (Ai A9 rfl) ?_)))))))
 refine Pf 8 rfl (Ai Bs rfl) ?_
 refine Pf 9 rfl (AS C8 rfl rfl (by first | omega | exact hb.1 | exact hb.2 | (dsimp only;omega)) (by first | omega | exact hb.1 | exact hb.2 | (dsimp only;omega))) ?_
 refine Pf 10 rfl (Ai C4 rfl) ?_
 refine Pf 11 rfl (AH rfl A4 .m0 (((Ad.l0.comp AG.l2).comp (AU.ar (n:=6) Aj.fl (by first | omega | exact hb | (dsimp only;omega)))).comp Aj.l3) rfl rfl) ?_
 refine Pf 12 rfl (BV rfl) (Pf 13 rfl (Ai A9 rfl) (Pf 14 rfl (Ai G4 rfl) ?_))
 refine Pf 15 rfl (AS O6 rfl rfl (by first | omega | exact hb.1 | exact hb.2 | (dsimp only;omega)) (by first | omega | exact hb.1 | exact hb.2 | (dsimp only;omega))) ?_
 refine Pf 16 rfl (AZ rfl N7 .m0 ((Ad.l0.comp AG.l0).comp (AU.ar (n:=6) Room.fl (by first | omega | exact hb | (dsimp only;omega)))) rfl) ?_
 refine An 17 rfl (by kernel_rfl) ?_
 refine BH rfl N6 rfl (fun b1=>?_)
 refine Bu rfl ⟨?_,?_⟩
 · exact(Po rfl (AZ rfl N7 .m1 ((Ad.l0.comp AG.l0).comp (AU.ar (n:=6) Room.fl (by first | omega | exact hb | (dsimp only;omega)))) rfl) rfl rfl (Po rfl (AS O6 rfl rfl (by first | omega | exact hb.1 | exact hb.2 | (dsimp only;omega)) (by first | omega | exact hb.1 | exact hb.2 | (dsimp only;omega))) rfl rfl (Po rfl (Ai G4 rfl) rfl rfl (Po rfl (Ai A9 rfl) rfl rfl (Po rfl (BV rfl) rfl rfl (Po rfl (AH rfl A4 .m1 (((Ad.l0.comp AG.l2).comp (AU.ar (n:=6) Aj.fl (by first | omega | exact hb | (dsimp only;omega)))).comp Aj.l3) rfl rfl) rfl rfl (Po rfl (Ai C4 rfl) rfl rfl (Po rfl (AS C8 rfl rfl (by first | omega | exact hb.1 | exact hb.2 | (dsimp only;omega)) (by first | omega | exact hb.1 | exact hb.2 | (dsimp only;omega))) rfl rfl (Po rfl (Ai Bs rfl) rfl rfl (Po rfl (Ai A9 rfl) rfl rfl (Po rfl (BV rfl) rfl rfl (Po rfl (AH rfl A4 .m1 Ad.l1 rfl rfl) rfl rfl (Po rfl (Ai CR rfl) rfl rfl (Po rfl (BV rfl) rfl rfl (Po rfl (AF rfl) rfl rfl (Po rfl (AF rfl) rfl rfl (Po rfl (AF rfl) rfl rfl As)))))))))))))))))
 refine An 18 rfl (by kernel_rfl) ?_
 refine AT (AK (AU.id Room.fl.len Room.fl.one) rfl rfl rfl RW rfl .h) ?_
 refine BO rfl ⟨?_,?_⟩
 · exact(Pk (Pk (Pk (Pk (Pk (Pk (Pk (Pk (Pk (Pk (Pk (Pk (Pk (Pk (Pk (Pk (Pk As)))))))))))))))))
 refine A3 (by kernel_rfl) ?_
 refine AB (.t3 0 1 4) ?_
 refine AA (Ae (Gs (Gm rfl (Gt (Ai Mq rfl) ?_))))
 refine Gt (AS SP rfl rfl (by first | omega | exact hb.1 | exact hb.2 | (dsimp only;omega)) (by first | omega | exact hb.1 | exact hb.2 | (dsimp only;omega))) ?_
 refine Gt (AH rfl A4 .m0 (Room.l2.comp (AU.ar (n:=6) B1 (by first | omega | exact hb | (dsimp only;omega)))) rfl rfl) ?_
 refine Gt (Ag rfl rfl) (Ga rfl (Gn (.t4 0 1 4 58) ?_))
 refine Gc (fun c1=>?_) (fun c1=>?_)
 ·
  have c1p:=kz c1
  refine AJ (Gm rfl ?_)
  refine Ah rfl EI (.c rfl (.c rfl .n)) (.c (.t .h) (.c (.t .h) .n)) (Be _ _ _ _ hg hb (by omega)) (fun v1 B hv=>?_)
  obtain⟨y2,rfl,y3,rfl⟩:=hv
  refine AQ (AB (.nil _) ?_)
  refine AW ?_
  refine Bk rfl .n ?_
  intro w1 hS
  have hS:=(hS.perm (Ay.perm (.c .h (.c .h .n)))).A1
  have hq:T.walk d=_:=(BB c1)
  refine⟨_,⟨?gq1,rfl,?hl1,?hB1⟩,hS⟩
  case hB1=>rw [hq];(try rfl)
  case hl1=>rw [hq];assumption
 have c1p:=kz c1
 refine Gs (Gm rfl (Gt (Ai Ma rfl) ?_))
 refine Gt (AS V9 rfl rfl (by first | omega | exact hb.1 | exact hb.2 | (dsimp only;omega)) (by first | omega | exact hb.1 | exact hb.2 | (dsimp only;omega))) ?_
 refine Gt (AH rfl Dr .m0 (Room.l3.comp (AU.ar (n:=6) HQ (by first | omega | exact hb | (dsimp only;omega)))) rfl rfl) ?_
 refine Ga rfl (Gn (.t4 0 1 4 66) ?_)
 refine Gc (fun c2=>?_) (fun c2=>?_)
 ·
  have c2p:=kz c2
  refine AJ (Gm rfl ?_)
  refine Ah rfl EI (.c rfl (.c rfl .n)) (.c (.t .h) (.c (.t .h) .n)) (Be _ _ _ _ hg hb (by omega)) (fun v4 B hv=>?_)
  obtain⟨y5,rfl,y6,rfl⟩:=hv
  refine AQ (AB (.nil _) ?_)
  refine AW ?_
  refine Bk rfl .n ?_
  intro w1 hS
  have hS:=(hS.perm (Ay.perm (.c .h (.c .h .n)))).A1
  have hq:T.walk d=_:=((AX c1).trans (BB c2))
  refine⟨_,⟨?gq2,rfl,?hl2,?hB2⟩,hS⟩
  case hB2=>rw [hq];(try rfl)
  case hl2=>rw [hq];assumption
 have c2p:=kz c2
 have gm:=AE.OU (hF.BP { AE.F2 1 with dir:=d }) (r:=(T.w.BS.at T.me.room).CP.at d - 1) (by have h0:¬ (T.w.BS.at (T.w.AN.at T.b).room).CP.at d=0:=c1p;show 0≤(T.w.BS.at (T.w.AN.at T.b).room).CP.at d - 1∧(T.w.BS.at (T.w.AN.at T.b).room).CP.at d - 1 < 6;omega)
 refine Gs (Gm rfl (Gm rfl (Gt (BC OY Hx rfl (.cons Ing.Event.l0 rfl rfl rfl (.cons Ing.Event.l3 rfl rfl rfl (.cons Ing.Event.l4 rfl rfl rfl .nil)))) ?_)))
 refine Ah rfl ON (.c rfl (.c rfl .n)) (.c (.t .h) (.c (.t .h) .n)) (CQ _ T _ { AE.F2 1 with dir:=d } hg hb (show(-1:Int) < 6 by decide) (by omega)) (fun v7 B hv=>?_)
 obtain⟨y8,rfl,y9,rfl⟩:=hv
 refine Gn (.t3 0 1 4) (Ap ?_)
 refine BD (N:=16) [0,0,2,6,14,0,0,96,224,480,1,1025,3073,8191,16383,32767] mix (by kernel_rfl) rfl ?_
 refine Pf 0 rfl (AF rfl) (Pf 1 rfl (AF rfl) (Pf 2 rfl (BV rfl) (Pf 3 rfl (Ai CR rfl) (Pf 4 rfl (AH rfl A4 .m0 Ad.l1 rfl rfl) (Pf 5 rfl (AF rfl) (Pf 6 rfl (Ai Mq rfl) ?_))))))
 refine Pf 7 rfl (AS SP rfl rfl (by first | omega | exact hb.1 | exact hb.2 | (dsimp only;omega)) (by first | omega | exact hb.1 | exact hb.2 | (dsimp only;omega))) ?_
 refine Pf 8 rfl (AH rfl A4 .m2 (Room.l2.comp (AU.ar (n:=6) B1 (by first | omega | exact hb | (dsimp only;omega)))) rfl rfl) ?_
 refine Pf 9 rfl (FX rfl rfl (IntWalk.i64_in _ (by first | omega | exact hb.1 | exact hb.2 | (dsimp only;omega)))) ?_
 refine Pf 10 rfl (BV rfl) (Pf 11 rfl (Ai A9 rfl) (Pf 12 rfl (Ai Bs rfl) ?_))
 refine Pf 13 rfl (AS C8 rfl rfl (by first | omega | exact hb.1 | exact hb.2 | (dsimp only;omega)) (by first | omega | exact hb.1 | exact hb.2 | (dsimp only;omega))) ?_
 refine Pf 14 rfl (Ai C4 rfl) ?_
 refine An 15 rfl (by kernel_rfl) ?_
 refine AT (AK (((Ad.l0.comp AG.l2).comp (AU.ar (n:=6) Aj.fl (by first | omega | exact hb | (dsimp only;omega)))).comp Aj.l3) rfl rfl rfl DB rfl .h) ?_
 refine BO rfl ⟨?_,?_⟩
 · exact(Pk (Pk (Pk (Pk (Pk (Pk (Pk (Pk (Pk (Pk (Pk (Pk (Pk (Pk (Pk As)))))))))))))))
 refine A3 (by kernel_rfl) ?_
 refine AB (.t2 0 1) ?_
 refine AA (Ap ?_)
 refine BD (N:=11) [0,0,2,6,14,1,33,97,255,511,1023] mix (by kernel_rfl) rfl ?_
 refine Pf 0 rfl (AF rfl) (Pf 1 rfl (AF rfl) (Pf 2 rfl (BV rfl) (Pf 3 rfl (Ai CR rfl) (Pf 4 rfl (AH rfl A4 .m0 Ad.l1 rfl rfl) (Pf 5 rfl (BV rfl) (Pf 6 rfl (Ai A9 rfl) (Pf 7 rfl (Ai Bs rfl) ?_)))))))
 refine Pf 8 rfl (AS C8 rfl rfl (by first | omega | exact hb.1 | exact hb.2 | (dsimp only;omega)) (by first | omega | exact hb.1 | exact hb.2 | (dsimp only;omega))) ?_
 refine Pf 9 rfl (Ai GC rfl) ?_
 refine An 10 rfl (by kernel_rfl) ?_
 refine AT (AK (((Ad.l0.comp AG.l2).comp (AU.ar (n:=6) Aj.fl (by first | omega | exact hb | (dsimp only;omega)))).comp Aj.l5) rfl rfl rfl DB rfl .h) ?_
 refine BO rfl ⟨?_,?_⟩
 · exact(Pk (Pk (Pk (Pk (Pk (Pk (Pk (Pk (Pk (Pk As))))))))))
 refine A3 (by kernel_rfl) ?_
 refine AB (.t2 0 1) ?_
 refine AA (Ap ?_)
 refine GF (fun _=> .h) (congrArg (fun q=>Ad.enc ⟨q,_,_⟩) (AE.Yt (T.BP { AE.F2 1 with dir:=d }) hb _)) ?_
 refine AJ (Gm rfl (Gm rfl ?_))
 refine BA rfl ae (.c rfl .n) (fun w hS=>Hc _ w) ?_
 refine Gt (BC OY Hx rfl (.cons Ing.Event.l0 rfl rfl rfl (.cons Ing.Event.l3 rfl rfl rfl (.cons Ing.Event.l4 rfl rfl rfl .nil)))) ?_
 refine Ah rfl ON (.c rfl (.c rfl .n)) (.c .h (.c .h .n)) (CQ _ (AE.Fu (T.BP { AE.F2 1 with dir:=d }) ((T.w.BS.at T.me.room).CP.at d - 1)) _ { AE.F2 2 with dir:=AG.opposite d } (by assumption) hb (show(-1:Int) < 6 by decide) (show(AE.out (T.BP { AE.F2 1 with dir:=d })).length≤100000 by simp only [AE.Cg];omega)) (fun v10 B hv=>?_)
 obtain⟨y11,rfl,y12,rfl⟩:=hv
 refine Gn (.t1 0) (AJ (Gm rfl ?_))
 refine BE rfl VC (.c rfl .n) (.c .h (.c .h .n)) (HL _ (AE.BP (AE.Fu (T.BP { AE.F2 1 with dir:=d }) ((T.w.BS.at T.me.room).CP.at d - 1)) { AE.F2 2 with dir:=AG.opposite d }) _ (by assumption) hb gm.fit.br (show _≤90000 by simp only [AE.Cg];show(AE.out (T.BP { AE.F2 1 with dir:=d })).length+1≤90000;simp only [AE.Cg];omega)) (fun w hS=>gl0.pull gm0 hS (.c .h (.c .h .n))) (fun v13 B hv=>?_)
 obtain⟨y14,rfl,y15,rfl⟩:=hv
 refine AQ (AB (.nil _) ?_)
 refine AW ?_
 refine Bk rfl .n ?_
 intro w1 hS
 have hS:=(hS.perm (Ay.perm (.c .h (.c .h .n)))).A1
 have hq:T.walk d=_:=((AX c1).trans (AX c2))
 refine⟨_,⟨?gq3,rfl,?hl3,?hB3⟩,hS⟩
 case hB3=>rw [hq];(try rfl)
 case hl3=>rw [hq];assumption
theorem H5 (b:Nat)(T:AE)(g:Hd)(hF:T.Fit):Jg Tryz.prog 136 #[.pointer (some ⟨b,0,none⟩)] [Ac.box b 163 (Ad.enc ⟨T.w,T.b,g⟩)] (fun v B=>∃ f:Hd,v=f.val∧f.len=(T.own).length∧B = [Ac.box b 163 (Ad.enc ⟨T.w,T.b,g⟩),Ac.own f 3 1 ((T.own).flatMap Aw)]):=by
 intro w hS0
 have hb:=hF.b
 have hr:=hF.room
 refine Al _ _ Tryz.func136 rfl rfl rfl (hS0) ?_
 refine Gs (Ga rfl (Gn (.t1 0) (Ap ?_)))
 refine BD (N:=10) [0,1,3,7,0,16,48,112,255,511] mix (by kernel_rfl) rfl ?_
 refine Pf 0 rfl (AF rfl) (Pf 1 rfl (BV rfl) (Pf 2 rfl (Ai A9 rfl) (Pf 3 rfl (AZ rfl BZ .m0 Ad.l0 rfl) (Pf 4 rfl (AF rfl) (Pf 5 rfl (BV rfl) (Pf 6 rfl (Ai CR rfl) (Pf 7 rfl (AH rfl A4 .m0 Ad.l1 rfl rfl) ?_)))))))
 refine An 8 rfl (by kernel_rfl) ?_
 refine Ah rfl SA (.c rfl (.c rfl (.c rfl .n))) .n (FF _ _ _) (fun v1 B hv=>?_)
 obtain⟨y2,rfl,y3,rfl⟩:=hv
 refine Bu rfl ⟨?_,?_⟩
 · exact(Pk (Pk (Pk (Pk (Pk (Pk (Pk (Pk As))))))))
 refine Pf 9 rfl (A0 rfl) ?_
 refine A3 (by kernel_rfl) ?_
 refine AB (.t1 2) ?_
 refine AA (Ab ?_)
 refine AY rfl (.tmp rfl .n) ?_
 intro w1 hS
 have hS:=(hS.perm (Ay.perm (.c (.t .h) (.c .h .n)))).A1
 exact⟨_,⟨_,rfl,by assumption,rfl⟩,hS⟩
theorem Lv (b:Nat)(T:AE)(g:Hd)(hF:T.Fit):Jg Tryz.prog 125 #[.pointer (some ⟨b,0,none⟩)] [Ac.box b 163 (Ad.enc ⟨T.w,T.b,g⟩)] (fun v B=>∃ F:AG,F=T.FD.w∧v = .tuple #[]∧B = [Ac.box b 163 (Ad.enc ⟨F,T.b,g⟩)]):=by
 intro w hS0
 have hb:=hF.b
 have hr:=hF.room
 have ho9:=T.KR
 refine Al _ _ Tryz.func125 rfl rfl rfl (hS0) ?_
 refine CD (Gm rfl ?_)
 refine Ah rfl Uf (.c rfl .n) (.c .h .n) (H5 _ _ _ (by first | assumption | omega)) (fun v1 B hv=>?_)
 obtain⟨y2,rfl,y3,rfl⟩:=hv
 refine Gt (Ar rfl Tryz.underlying169 rfl) (Gm rfl (Gn (.t4 0 7 8 9) (Ae ?_)))
 refine Bl (.t4 9 0 7 8) ?_
 refine Fq (fun(k:Int) (X:AE)=>0≤k∧T.Cd T.own=X.Cd (T.own.drop k.toNat)∧X.b=T.b∧k≤(T.own.length:Int)) (fun(k:Int) (X:AE)=>((T.own.length:Int) - k).toNat) (fun(k:Int) (X:AE)=> [(9, .int .i64 k)]) (fun(k:Int) (X:AE)=> [Ac.box b 163 (Ad.enc ⟨X.w,X.b,g⟩)]) (0) (_) ?_ rfl rfl (fun k X hI1=>?_)
 · exact⟨by omega,rfl,rfl,by omega⟩
 obtain⟨hI11,hI12,hI13,hI14⟩:=hI1
 refine Gs (Gt (A8 rfl rfl) (AQ (AA (Ap ?_))))
 refine Gc (fun c1=>?_) (fun c1=>?_)
 ·
  have c1p:=kz c1
  have hx:=AE.Lj (Bg.Ez (xs:=T.own) (i:=k.toNat) (by omega))
  refine Aa ?_
  refine AB (.t4 0 7 8 9) ?_
  refine AA (Ap (Ae (Gs ?_)))
  refine Gt (Bp Gg (by decide) (Kn.own .m1) rfl rfl (by omega) (by omega)) ?_
  refine Gt (DN rfl A4 (Kn.own .m1) (by omega)) ?_
  refine Ga rfl (Gn (.t5 0 3 7 8 9) (Gs (Gm rfl (Gm rfl (Gt (BV rfl) (Gt (Ai A9 rfl) (Gt (Ai Cx rfl) ?_)))))))
  refine Gt (AS GO rfl rfl (by first | omega | (rw [hI13];first | exact hb.1 | exact hb.2) | (dsimp only;omega)) (by first | omega | (rw [hI13];first | exact hb.1 | exact hb.2) | (dsimp only;omega))) ?_
  refine Ga rfl (Gn (.t5 0 4 7 8 9) (CD (Gm rfl (Gt (BV rfl) (Gt (Ai G1 rfl) ?_)))))
  refine Gt (AH rfl A4 .m0 (((Ad.l0.comp AG.l1).comp (AU.arr (n:=9) Am.fl (by first | omega | (rw [hI13];first | exact hb.1 | exact hb.2) | (dsimp only;omega)) (by first | omega | (rw [hI13];first | exact hb.1 | exact hb.2) | (dsimp only;omega)))).comp Am.l1) rfl rfl) ?_
  refine Gt (Ag rfl rfl) (Gn (.t6 0 4 7 8 9 23) ?_)
  refine Gc (fun c2=>?_) (fun c2=>?_)
  ·
   have c2p:=kz c2
   refine AJ (Gm rfl (Gt (BV rfl) (Gt (Ai GN rfl) ?_)))
   refine AT (AK (((Ad.l0.comp AG.l1).comp (AU.arr (n:=9) Am.fl (by first | omega | (rw [hI13];first | exact hb.1 | exact hb.2) | (dsimp only;omega)) (by first | omega | (rw [hI13];first | exact hb.1 | exact hb.2) | (dsimp only;omega)))).comp Am.l4) rfl rfl rfl Kd rfl .h) ?_
   refine Gn (.t5 0 4 7 8 9) ?_
   refine BD (N:=19) [0,0,0,0,8,24,56,4,132,388,1020,2044,4092,8189,16381,32765,65535,131071,262143] mix (by kernel_rfl) rfl ?_
   refine Pf 0 rfl (AF rfl) (Pf 1 rfl (AF rfl) (Pf 2 rfl (AF rfl) (Pf 3 rfl (AF rfl) (Pf 4 rfl (BV rfl) (Pf 5 rfl (Ai CR rfl) (Pf 6 rfl (AH rfl A4 .m0 Ad.l1 rfl rfl) (Pf 7 rfl (BV rfl) ?_)))))))
   refine Pf 8 rfl (Ai A9 rfl) (Pf 9 rfl (Ai Bs rfl) ?_)
   refine Pf 10 rfl (AS C8 rfl rfl (by first | omega | (rw [hI13];first | exact hb.1 | exact hb.2) | (dsimp only;omega)) (by first | omega | (rw [hI13];first | exact hb.1 | exact hb.2) | (dsimp only;omega))) ?_
   refine Pf 11 rfl (Ai C4 rfl) ?_
   refine Pf 12 rfl (AH rfl A4 .m0 (((Ad.l0.comp AG.l2).comp (AU.arr (n:=6) Aj.fl (by first | omega | (rw [hI13];first | exact hb.1 | exact hb.2) | (dsimp only;omega)) (by first | omega | (rw [hI13];first | exact hb.1 | exact hb.2) | (dsimp only;omega)))).comp Aj.l3) rfl rfl) ?_
   refine Pf 13 rfl (BV rfl) (Pf 14 rfl (Ai FY rfl) ?_)
   refine An 15 rfl (by kernel_rfl) ?_
   refine AT (AK (((Ad.l0.comp AG.l1).comp (AU.arr (n:=9) Am.fl (by first | omega | (rw [hI13];first | exact hb.1 | exact hb.2) | (dsimp only;omega)) (by first | omega | (rw [hI13];first | exact hb.1 | exact hb.2) | (dsimp only;omega)))).comp Am.l2) rfl rfl rfl DB rfl .h) ?_
   refine BO rfl ⟨?_,?_⟩
   · exact(Pk (Pk (Pk (Pk (Pk (Pk (Pk (Pk (Pk (Pk (Pk (Pk (Pk (Po rfl (AF rfl) rfl rfl (Pk As)))))))))))))))
   refine Pf 16 rfl (BV rfl) (Pf 17 rfl (Ai DM rfl) ?_)
   refine An 18 rfl (by kernel_rfl) ?_
   refine AT (AK (((Ad.l0.comp AG.l1).comp (AU.arr (n:=9) Am.fl (by first | omega | (rw [hI13];first | exact hb.1 | exact hb.2) | (dsimp only;omega)) (by first | omega | (rw [hI13];first | exact hb.1 | exact hb.2) | (dsimp only;omega)))).comp Am.l3) rfl rfl rfl DB rfl .h) ?_
   refine BO rfl ⟨?_,?_⟩
   · exact(Pk (Pk (Pk (Pk (Pk (Pk (Pk (Pk (Pk (Pk (Pk (Pk (Pk (Pk (Pk (Pk (Pk As)))))))))))))))))
   refine A3 (by kernel_rfl) ?_
   refine AB (.t4 0 7 8 9) ?_
   refine AW (AA ?_)
   refine GF (fun _=> .h) (congrArg (fun q=>Ad.enc ⟨q,_,_⟩) (AE.Vn X hx.1 hx.2 c2)) ?_
   refine AJ ?_
   refine Gt (Av rfl rfl (IntWalk.i64_in _ (by first | omega | (rw [hI13];first | exact hb.1 | exact hb.2) | (dsimp only;omega)))) ?_
   refine Gm rfl ?_
   refine AQ (AB (.t4 0 7 8 9) ?_)
   refine C0 (k+1) _ ?_ ?_ (.t4 9 0 7 8) (.refl _)
   · exact⟨by omega,by rw [hI12,AE.MH hI11 (by omega)],hI13,by omega⟩
   · omega
  have c2p:=kz c2
  refine Aa ?_
  refine AB (.t5 0 4 7 8 9) ?_
  refine AA ?_
  refine BD (N:=19) [0,0,0,0,8,24,56,4,132,388,1020,2044,4092,8189,16381,32765,65535,131071,262143] mix (by kernel_rfl) rfl ?_
  refine Pf 0 rfl (AF rfl) (Pf 1 rfl (AF rfl) (Pf 2 rfl (AF rfl) (Pf 3 rfl (AF rfl) (Pf 4 rfl (BV rfl) (Pf 5 rfl (Ai CR rfl) (Pf 6 rfl (AH rfl A4 .m0 Ad.l1 rfl rfl) (Pf 7 rfl (BV rfl) ?_)))))))
  refine Pf 8 rfl (Ai A9 rfl) (Pf 9 rfl (Ai Bs rfl) ?_)
  refine Pf 10 rfl (AS C8 rfl rfl (by first | omega | (rw [hI13];first | exact hb.1 | exact hb.2) | (dsimp only;omega)) (by first | omega | (rw [hI13];first | exact hb.1 | exact hb.2) | (dsimp only;omega))) ?_
  refine Pf 11 rfl (Ai C4 rfl) ?_
  refine Pf 12 rfl (AH rfl A4 .m0 (((Ad.l0.comp AG.l2).comp (AU.arr (n:=6) Aj.fl (by first | omega | (rw [hI13];first | exact hb.1 | exact hb.2) | (dsimp only;omega)) (by first | omega | (rw [hI13];first | exact hb.1 | exact hb.2) | (dsimp only;omega)))).comp Aj.l3) rfl rfl) ?_
  refine Pf 13 rfl (BV rfl) (Pf 14 rfl (Ai FY rfl) ?_)
  refine An 15 rfl (by kernel_rfl) ?_
  refine AT (AK (((Ad.l0.comp AG.l1).comp (AU.arr (n:=9) Am.fl (by first | omega | (rw [hI13];first | exact hb.1 | exact hb.2) | (dsimp only;omega)) (by first | omega | (rw [hI13];first | exact hb.1 | exact hb.2) | (dsimp only;omega)))).comp Am.l2) rfl rfl rfl DB rfl .h) ?_
  refine BO rfl ⟨?_,?_⟩
  · exact(Pk (Pk (Pk (Pk (Pk (Pk (Pk (Pk (Pk (Pk (Pk (Pk (Pk (Po rfl (AF rfl) rfl rfl (Pk As)))))))))))))))
  refine Pf 16 rfl (BV rfl) (Pf 17 rfl (Ai DM rfl) ?_)
  refine An 18 rfl (by kernel_rfl) ?_
  refine AT (AK (((Ad.l0.comp AG.l1).comp (AU.arr (n:=9) Am.fl (by first | omega | (rw [hI13];first | exact hb.1 | exact hb.2) | (dsimp only;omega)) (by first | omega | (rw [hI13];first | exact hb.1 | exact hb.2) | (dsimp only;omega)))).comp Am.l3) rfl rfl rfl DB rfl .h) ?_
  refine BO rfl ⟨?_,?_⟩
  · exact(Pk (Pk (Pk (Pk (Pk (Pk (Pk (Pk (Pk (Pk (Pk (Pk (Pk (Pk (Pk (Pk (Pk As)))))))))))))))))
  refine A3 (by kernel_rfl) ?_
  refine AB (.t4 0 7 8 9) ?_
  refine AW (AA ?_)
  refine GF (fun _=> .h) (congrArg (fun q=>Ad.enc ⟨q,_,_⟩) (AE.VS X hx.1 hx.2 c2)) ?_
  refine AJ ?_
  refine Gt (Av rfl rfl (IntWalk.i64_in _ (by first | omega | (rw [hI13];first | exact hb.1 | exact hb.2) | (dsimp only;omega)))) ?_
  refine Gm rfl ?_
  refine AQ (AB (.t4 0 7 8 9) ?_)
  refine C0 (k+1) _ ?_ ?_ (.t4 9 0 7 8) (.refl _)
  · exact⟨by omega,by rw [hI12,AE.MH hI11 (by omega)],hI13,by omega⟩
  · omega
 have c1p:=kz c1
 obtain rfl:k=(T.own.length:Int):=by omega
 rw [AE.J0] at hI12
 have hY:X=T.Cd T.own:=hI12.symm
 refine Ba (AV (AV (Af ?_)))
 refine AB (.t1 0) ?_
 refine AA (CD (Gm rfl (AQ (AA (Ae ?_)))))
 refine Bl (.t2 45 0) ?_
 refine Fq (fun(k:Int) (Y:AE)=>0≤k∧k≤6∧Y=(T.Cd T.own).DY k.toNat∧Y.b=T.b) (fun(k:Int) (Y:AE)=>(6 - k).toNat) (fun(k:Int) (Y:AE)=> [(45, .int .i64 k)]) (fun(k:Int) (Y:AE)=> [Ac.box b 163 (Ad.enc ⟨Y.w,Y.b,g⟩)]) (0) (_) ?_ rfl rfl (fun k Y hI2=>?_)
 · exact⟨by omega,by omega,hY,hI13⟩
 obtain⟨hI21,hI22,hI23,hI24⟩:=hI2
 refine Gs (Gt (A8 rfl rfl) (AQ (AA (Ap ?_))))
 refine Gc (fun c3=>?_) (fun c3=>?_)
 ·
  have c3p:=kz c3
  refine Aa ?_
  refine AB (.t2 0 45) ?_
  refine AA (Ap (Ae (Gs (Gm rfl (Ga rfl (Gn (.t3 0 5 45) (Ap ?_)))))))
  refine BD (N:=14) [0,0,1,5,13,31,63,127,0,256,768,1792,3840,8191] mix (by kernel_rfl) rfl ?_
  refine Pf 0 rfl (AF rfl) (Pf 1 rfl (AF rfl) (Pf 2 rfl (BV rfl) (Pf 3 rfl (Ai A9 rfl) (Pf 4 rfl (Ai Bs rfl) ?_))))
  refine Pf 5 rfl (AS C8 rfl rfl (by first | omega | (rw [hI13];first | exact hb.1 | exact hb.2) | (dsimp only;omega)) (by first | omega | (rw [hI13];first | exact hb.1 | exact hb.2) | (dsimp only;omega))) ?_
  refine Pf 6 rfl (Ai GC rfl) ?_
  refine Pf 7 rfl (AH rfl A4 .m0 (((Ad.l0.comp AG.l2).comp (AU.arr (n:=6) Aj.fl (by first | omega | (rw [hI13];first | exact hb.1 | exact hb.2) | (dsimp only;omega)) (by first | omega | (rw [hI13];first | exact hb.1 | exact hb.2) | (dsimp only;omega)))).comp Aj.l5) rfl rfl) ?_
  refine Pf 8 rfl (AF rfl) (Pf 9 rfl (BV rfl) (Pf 10 rfl (Ai CR rfl) (Pf 11 rfl (AH rfl A4 .m0 Ad.l1 rfl rfl) ?_)))
  refine Pf 12 rfl (Av rfl rfl (IntWalk.i64_in _ (by first | omega | (rw [hI13];first | exact hb.1 | exact hb.2) | (dsimp only;omega)))) ?_
  refine Pf 13 rfl (Ag rfl rfl) ?_
  refine A3 (by kernel_rfl) ?_
  refine AB (.t4 0 5 45 61) ?_
  refine AA ?_
  refine Gc (fun c4=>?_) (fun c4=>?_)
  ·
   have c4p:=kz c4
   have hcb:decide ((Y.w.AN.at k).B2=(T.Cd T.own).b+1)=true:=by rw [(AE.I6 T.own T).1,← hI24];exact c4
   refine AJ (Gm rfl (Gm rfl (Gt (BV rfl) (Gt (Ai A9 rfl) (Gt (Ai Bs rfl) ?_)))))
   refine Gt (AS C8 rfl rfl (by first | omega | (rw [hI13];first | exact hb.1 | exact hb.2) | (dsimp only;omega)) (by first | omega | (rw [hI13];first | exact hb.1 | exact hb.2) | (dsimp only;omega))) ?_
   refine Gt (Ai GC rfl) ?_
   refine AT (AK (((Ad.l0.comp AG.l2).comp (AU.arr (n:=6) Aj.fl (by first | omega | (rw [hI13];first | exact hb.1 | exact hb.2) | (dsimp only;omega)) (by first | omega | (rw [hI13];first | exact hb.1 | exact hb.2) | (dsimp only;omega)))).comp Aj.l5) rfl rfl rfl DB rfl .h) ?_
   refine AQ (AB (.t2 0 45) ?_)
   refine AW (AA (AJ ?_))
   refine Gt (Av rfl rfl (IntWalk.i64_in _ (by first | omega | (rw [hI13];first | exact hb.1 | exact hb.2) | (dsimp only;omega)))) ?_
   refine Gm rfl ?_
   refine AQ (AB (.t2 0 45) ?_)
   refine C0 (k+1) (Y.Cj k 0) ?_ ?_ (.t2 45 0) (.refl _)
   · exact⟨by omega,by omega,by rw [AE.PO hI21,← hI23,BB hcb],hI24⟩
   · omega
  have c4p:=kz c4
  have hcb:decide ((Y.w.AN.at k).B2=(T.Cd T.own).b+1)=false:=by rw [(AE.I6 T.own T).1,← hI24];exact c4
  refine Aa ?_
  refine AB (.t2 0 45) ?_
  refine AW (AA (AJ ?_))
  refine Gt (Av rfl rfl (IntWalk.i64_in _ (by first | omega | (rw [hI13];first | exact hb.1 | exact hb.2) | (dsimp only;omega)))) ?_
  refine Gm rfl ?_
  refine AQ (AB (.t2 0 45) ?_)
  refine C0 (k+1) (Y) ?_ ?_ (.t2 45 0) (.refl _)
  · exact⟨by omega,by omega,by rw [AE.PO hI21,← hI23,AX hcb],hI24⟩
  · omega
 have c3p:=kz c3
 obtain rfl:k=6:=by omega
 refine Ba (AV (AV (Af ?_)))
 refine AB (.t1 0) ?_
 refine AA ?_
 refine BD (N:=11) [0,0,2,6,14,1,33,97,255,511,1023] mix (by kernel_rfl) rfl ?_
 refine Pf 0 rfl (AF rfl) (Pf 1 rfl (AF rfl) (Pf 2 rfl (BV rfl) (Pf 3 rfl (Ai CR rfl) (Pf 4 rfl (AH rfl A4 .m0 Ad.l1 rfl rfl) (Pf 5 rfl (BV rfl) (Pf 6 rfl (Ai A9 rfl) (Pf 7 rfl (Ai Bs rfl) ?_)))))))
 refine Pf 8 rfl (AS C8 rfl rfl (by first | omega | (rw [hI13];first | exact hb.1 | exact hb.2) | (dsimp only;omega)) (by first | omega | (rw [hI13];first | exact hb.1 | exact hb.2) | (dsimp only;omega))) ?_
 refine Pf 9 rfl (Ai GC rfl) ?_
 refine An 10 rfl (by kernel_rfl) ?_
 refine AT (AK (((Ad.l0.comp AG.l2).comp (AU.arr (n:=6) Aj.fl (by first | omega | (rw [hI13];first | exact hb.1 | exact hb.2) | (dsimp only;omega)) (by first | omega | (rw [hI13];first | exact hb.1 | exact hb.2) | (dsimp only;omega)))).comp Aj.l5) rfl rfl rfl DB rfl .h) ?_
 refine BO rfl ⟨?_,?_⟩
 · exact(Pk (Pk (Pk (Pk (Pk (Pk (Pk (Pk (Pk (Pk As))))))))))
 refine A3 (by kernel_rfl) ?_
 refine Bk rfl .n ?_
 intro w1 hS
 have hS:=(hS.perm (Ay.perm (.c .h .n))).A1
 have hq:T.FD=Y.Cj Y.b 0:=by rw [hI24,hI23];unfold AE.FD;rfl
 exact⟨_,⟨_,rfl,rfl,by rw [hq,← hI24];rfl⟩,hS⟩
theorem Qy (b:Nat)(T:AE)(g:Hd)(hg:g.len=T.out.length)(hF:T.Fit)(hn:T.out.length≤90000):Jg Tryz.prog 103 #[.pointer (some ⟨b,0,none⟩)] [Ac.box b 163 (Ad.enc ⟨T.w,T.b,g⟩),Ac.own g 56 16 (T.out.flatMap Ing.Event.enc)] (fun v B=>∃ g':Hd,v = .tuple #[]∧g'.len=(T.GG).out.length∧B = [Ac.box b 163 (Ad.enc ⟨(T.GG).w,(T.GG).b,g'⟩),Ac.own g' 56 16 ((T.GG).out.flatMap Ing.Event.enc)]):=by
 intro w hS0
 have hb:=hF.b
 have hr:=hF.room
 refine Al _ _ Tryz.func103 rfl rfl rfl (hS0) ?_
 refine Gs (Gm rfl ?_)
 refine Ah rfl Uv (.c rfl (.c rfl .n)) (.c .h (.c .h .n)) (Gd _ T _ 18 hg hb (by omega)) (fun v1 B hv=>?_)
 obtain⟨y2,rfl,y3,rfl⟩:=hv
 refine Gn (.t1 0) (Gs (Gm rfl ?_))
 refine Ah rfl ag (.c rfl .n) (.c .h .n) (Lv _ (T.kind 18) _ (hF.Ei rfl rfl)) (fun v4 B hv=>?_)
 obtain⟨y5,y6,rfl,rfl⟩:=hv
 refine Gn (.t1 0) ?_
 refine BD (N:=11) [0,0,2,6,14,0,1,65,193,511,1023] mix (by kernel_rfl) rfl ?_
 refine Pf 0 rfl (AF rfl) (Pf 1 rfl (AF rfl) (Pf 2 rfl (BV rfl) (Pf 3 rfl (Ai CR rfl) (Pf 4 rfl (AH rfl A4 .m0 Ad.l1 rfl rfl) (Pf 5 rfl (BC Xu ME rfl .nil) (Pf 6 rfl (BV rfl) (Pf 7 rfl (Ai A9 rfl) ?_)))))))
 refine Pf 8 rfl (Ai Bs rfl) ?_
 refine Pf 9 rfl (AS C8 rfl rfl (by first | exact hb.1 | exact hb.2 | omega | (dsimp only;omega)) (by first | exact hb.1 | exact hb.2 | omega | (dsimp only;omega))) ?_
 refine An 10 rfl (by kernel_rfl) ?_
 refine AT (AK ((Ad.l0.comp AG.l2).comp (AU.arr (n:=6) Aj.fl (by first | exact hb.1 | exact hb.2 | omega | (dsimp only;omega)) (by first | exact hb.1 | exact hb.2 | omega | (dsimp only;omega)))) rfl rfl rfl KZ rfl .h) ?_
 refine BO rfl ⟨?_,?_⟩
 · exact(Pk (Pk (Pk (Pk (Pk (Pk (Pk (Pk (Pk (Pk As))))))))))
 refine A3 (by kernel_rfl) ?_
 refine Bk rfl .n ?_
 intro w1 hS
 have hS:=(hS.perm (Ay.perm (.c .h (.c .h .n)))).A1
 obtain⟨hf1,hf2,hf3⟩:=T.O4
 refine⟨_,⟨?gq,rfl,?hl,?hB⟩,hS⟩
 case hB=>rw [hf1,hf2,hf3,← y6]
 case hl=>rw [hf2];exact y3
theorem Io (b:Nat)(T:AE)(g:Hd)(u:Ao)(hg:g.len=T.out.length)(hF:T.Fit)(hu:u.length≤5000000)(hn:T.out.length≤99000):FC Tryz.prog 131 #[.pointer (some ⟨b,0,none⟩),BU u] [Ac.box b 163 (Ad.enc ⟨T.w,T.b,g⟩),Ac.own g 56 16 (T.out.flatMap Ing.Event.enc)] (fun w=>(G0 7 w∧7 ∉ Cc [Ac.box b 163 (Ad.enc ⟨T.w,T.b,g⟩),Ac.own g 56 16 (T.out.flatMap Ing.Event.enc)])∧(G0 8 w∧8 ∉ Cc [Ac.box b 163 (Ad.enc ⟨T.w,T.b,g⟩),Ac.own g 56 16 (T.out.flatMap Ing.Event.enc)])) (fun v B=>∃ g':Hd,v = .tuple #[.int .i64 (T.A6 u).2.1, .bool (T.A6 u).2.2]∧g'.len=((T.A6 u).1).out.length∧B = [Ac.box b 163 (Ad.enc ⟨((T.A6 u).1).w,((T.A6 u).1).b,g'⟩),Ac.own g' 56 16 (((T.A6 u).1).out.flatMap Ing.Event.enc)]):=by
 intro w hS0 hH
 obtain⟨⟨gl0,gm0⟩,⟨gl1,gm1⟩⟩:=hH
 have hb:=hF.b
 have hr:=hF.room
 refine Al _ _ Tryz.func131 rfl rfl rfl (hS0) ?_
 refine Gs (Ga rfl (Ga rfl (Gn (.t2 0 1) (Gs (Gm rfl ?_)))))
 refine BA rfl Uo (.c rfl .n) (fun w hS=>FN _ (by first | assumption | omega) w (gl0.stM gm0 hS) (gl1.stM gm1 hS)) ?_
 refine Gm rfl (Gt (AM rfl rfl) (Gt (AM rfl rfl) (Gt (AM rfl rfl) (Gt (AM rfl rfl) (Ga rfl (Ga rfl (Ga rfl ?_)))))))
 refine Ga rfl (Gn (.t5 0 6 7 8 9) (CD (Gm rfl (Gt (Ag rfl rfl) (Gm rfl (Bo 20 rfl rfl (fun q=>AF rfl) (Bo 20 rfl rfl (fun q=>BT (Bj rfl q)) ?_)))))))
 refine Gt (BK rfl rfl (fun h=>h)) (Gn (.t4 0 6 7 23) ?_)
 refine Gc (fun c1=>?_) (fun c1=>?_)
 ·
  have c1p:=kz c1
  have hnf:=Words.VW u (of_decide_eq_true (Bool.and_eq_true_iff.1 c1).1)
  refine Gs (Gm rfl (Gn (.t4 0 6 7 24) (Ae ?_)))
  refine Bl (.t4 6 24 0 7) ?_
  refine Fq (fun(k:Int) (n:Int)=>0≤k∧k≤6∧T.Ir (Words.EM u).2.1 6 (Words.EM u).1=T.Ir (Words.EM u).2.1 (6 - k).toNat n∧-k≤n∧n≤99) (fun(k:Int) (n:Int)=>(6 - k).toNat) (fun(k:Int) (n:Int)=> [(6, .int .i64 n),(24, .int .i64 k)]) (fun(k:Int) (n:Int)=> []) (0) (_) ?_ rfl rfl (fun k n hI1=>?_)
  · exact⟨by omega,by omega,rfl,by omega,by omega⟩
  obtain⟨hI11,hI12,hI13,hI14,hI15⟩:=hI1
  refine Gs (Gt (A8 rfl rfl) (AQ (AA (Ap ?_))))
  refine Gc (fun c2=>?_) (fun c2=>?_)
  ·
   have c2p:=kz c2
   refine Aa ?_
   refine AB (.t4 0 6 7 24) ?_
   refine AA (Ap (Ae (Gs (Gm rfl (Ga rfl (Gn (.t5 0 6 7 10 24) (Ap ?_)))))))
   refine Ap ?_
   refine BD (N:=31) [0,0,2,6,14,31,63,127,127,255,767,1791,4095,8191,16383,127,65535,131071,262143,524287,1048575,2097151,4194303,524287,8912895,25690111,59244543,524287,268435455,536870911,1073741823] mix (by kernel_rfl) rfl ?_
   refine Pf 0 rfl (AF rfl) (Pf 1 rfl (AF rfl) (Pf 2 rfl (BV rfl) (Pf 3 rfl (Ai CR rfl) (Pf 4 rfl (AH rfl A4 .m0 Ad.l1 rfl rfl) (Pf 5 rfl (Ag rfl rfl) (Pf 6 rfl (AF rfl) (Ht 7 33 rfl rfl rfl (fun q=>AF rfl) ?_)))))))
   refine Ht 8 33 rfl rfl rfl (fun q=>AF rfl) (Ht 9 33 rfl rfl rfl (fun q=>BV (cF rfl q)) (Ht 10 33 rfl rfl rfl (fun q=>Ai A9 (cF rfl q)) (Ht 11 33 rfl rfl rfl (fun q=>Ai Bs (cF rfl q)) ?_)))
   refine Bb 12 rfl rfl (by kernel_rfl) (HE (t:=33) rfl rfl (fun q=>by have q1:=q;(try simp at q1);exact Is (AS C8 (cF rfl q) (cF rfl q) (by first | omega | exact hb.1 | exact hb.2 | (dsimp only;omega)) (by first | omega | exact hb.1 | exact hb.2 | (dsimp only;omega))))) ?_
   refine Ht 13 33 rfl rfl rfl (fun q=>Ai K3 (cF rfl q)) ?_
   refine Bb 14 rfl rfl (by kernel_rfl) (HE (t:=33) rfl rfl (fun q=>by have q1:=q;(try simp at q1);exact Is (AH (cF rfl q) CO .m0 (((Ad.l0.comp AG.l2).comp (AU.ar (n:=6) Aj.fl (by first | omega | exact hb | (dsimp only;omega)))).comp Aj.l0) rfl rfl))) ?_
   refine Ht 15 33 rfl rfl rfl (fun q=>AF rfl) (Ht 16 33 rfl rfl rfl (fun q=>Dl (cF rfl q) (cF rfl q)) ?_)
   refine Pf 17 rfl (BR rfl rfl (fun h=>by rw [h];rfl)) ?_
   refine Pf 18 rfl (AF rfl) (Ht 19 45 rfl rfl rfl (fun q=>AF rfl) (Ht 20 45 rfl rfl rfl (fun q=>BV (cF rfl q)) (Ht 21 45 rfl rfl rfl (fun q=>Ai A9 (cF rfl q)) (Ht 22 45 rfl rfl rfl (fun q=>AZ (cF rfl q) BZ .m0 Ad.l0 rfl) (Ht 23 45 rfl rfl rfl (fun q=>AF rfl) (Ht 24 45 rfl rfl rfl (fun q=>BV (cF rfl q)) (Ht 25 45 rfl rfl rfl (fun q=>Ai CR (cF rfl q)) ?_)))))))
   refine Ht 26 45 rfl rfl rfl (fun q=>AH (cF rfl q) A4 .m0 Ad.l1 rfl rfl) (Ht 27 45 rfl rfl rfl (fun q=>AF rfl) ?_)
   refine Bb 28 rfl rfl (by kernel_rfl) (HE (t:=45) rfl rfl (fun q=>by have q1:=q;(try simp at q1);exact K9 (EB OK (.c (cF rfl q) (.c (cF rfl q) (.c (cF rfl q) .n))) (fun w hS=>DU _ _ _ w)))) ?_
   refine Ht 29 45 rfl rfl rfl (fun q=>BT (cF rfl q)) ?_
   refine Pf 30 rfl (BR rfl rfl (fun h=>by rw [h];rfl)) ?_
   refine A3 (by kernel_rfl) ?_
   refine AB (.t6 0 6 7 10 24 57) ?_
   refine AA ?_
   refine Gc (fun c3=>?_) (fun c3=>?_)
   ·
    have c3p:=kz c3
    refine Ba (AV (Af ?_))
    refine AB (.t4 0 6 7 24) ?_
    refine AA (AJ ?_)
    refine Gt (Av rfl rfl (IntWalk.i64_in _ (by first | omega | exact hb.1 | exact hb.2 | (dsimp only;omega)))) ?_
    refine Gm rfl ?_
    refine AQ (AB (.t4 0 6 7 24) ?_)
    refine C0 (k+1) (n) ?_ ?_ (.t4 6 24 0 7) (.refl _)
    · exact⟨by omega,by omega,by rw [hI13,AE.LC hI11 (by omega),BB c3],by omega,by omega⟩
    · omega
   have c3p:=kz c3
   refine Aa ?_
   refine AB (.t5 0 6 7 10 24) ?_
   refine AA (Gs (Gm rfl ?_))
   refine Gt (FX rfl rfl (IntWalk.i64_in _ (by first | omega | exact hb.1 | exact hb.2 | (dsimp only;omega)))) ?_
   refine Ga rfl (Gn (.t5 0 6 7 10 24) (Gs (Gm rfl (Gt (Ag rfl rfl) (Gn (.t6 0 6 7 10 24 61) ?_)))))
   refine Gc (fun c4=>?_) (fun c4=>?_)
   ·
    have c4p:=kz c4
    refine Gs (Gm rfl (Ga rfl (Ga rfl (Gn (.t2 4 5) (Ab (AR (AD ?_)))))))
    refine AD (AR (AD ?_))
    refine AY rfl (.tmp rfl (.tmp rfl .n)) ?_
    intro w1 hS
    have hS:=(hS.perm (Ay.perm (.c .h (.c .h .n)))).A1
    have hs:T.Ir (Words.EM u).2.1 6 (Words.EM u).1=some k:=by rw [hI13,AE.LC hI11 (by omega),AX c3,BB c4]
    have hq:T.A6 u=(T,k,true):=(show T.A6 u=_ from BB c1).trans (by simp only [hs])
    refine⟨_,⟨?gq1,?hv1,?hl1,?hB1⟩,hS⟩
    case hB1=>rw [hq];(try rfl)
    case hv1=>rw [hq];(try rfl)
    case hl1=>rw [hq];assumption
   have c4p:=kz c4
   refine Aa ?_
   refine AB (.t4 0 6 7 24) ?_
   refine AW (AA (AJ ?_))
   refine Gt (Av rfl rfl (IntWalk.i64_in _ (by first | omega | exact hb.1 | exact hb.2 | (dsimp only;omega)))) ?_
   refine Gm rfl ?_
   refine AQ (AB (.t4 0 6 7 24) ?_)
   refine C0 (k+1) (n - 1) ?_ ?_ (.t4 6 24 0 7) (.refl _)
   · exact⟨by omega,by omega,by rw [hI13,AE.LC hI11 (by omega),AX c3,AX c4],by omega,by omega⟩
   · omega
  have c2p:=kz c2
  obtain rfl:k=6:=by omega
  refine Ba (AV (AV (Af ?_)))
  refine AB (.t1 0) ?_
  refine AA (Gs (Gm rfl ?_))
  refine Ah rfl EI (.c rfl (.c rfl .n)) (.c .h (.c .h .n)) (Be _ _ _ _ hg hb (by omega)) (fun v1 B hv=>?_)
  obtain⟨y2,rfl,y3,rfl⟩:=hv
  refine Gn (.nil _) (Gs (Ga rfl (Ga rfl (AQ (AA (Ab ?_))))))
  refine AY rfl (.tmp rfl (.tmp rfl .n)) ?_
  intro w1 hS
  have hS:=(hS.perm (Ay.perm (.c .h (.c .h .n)))).A1
  have hs:T.Ir (Words.EM u).2.1 6 (Words.EM u).1=none:=by rw [hI13];rfl
  have hq:T.A6 u=(T.tell AE.Mb,0,false):=(show T.A6 u=_ from BB c1).trans (by simp only [hs])
  refine⟨_,⟨?gq2,?hv2,?hl2,?hB2⟩,hS⟩
  case hB2=>rw [hq];(try rfl)
  case hv2=>rw [hq];(try rfl)
  case hl2=>rw [hq];assumption
 have c1p:=kz c1
 refine Aa ?_
 refine AB (.t1 0) ?_
 refine AA (Gs (Gm rfl ?_))
 refine Ah rfl EI (.c rfl (.c rfl .n)) (.c .h (.c .h .n)) (Be _ _ _ _ hg hb (by omega)) (fun v4 B hv=>?_)
 obtain⟨y5,rfl,y6,rfl⟩:=hv
 refine Gn (.nil _) (Gs (Ga rfl (Ga rfl (AQ (AA (Ab ?_))))))
 refine AY rfl (.tmp rfl (.tmp rfl .n)) ?_
 intro w1 hS
 have hS:=(hS.perm (Ay.perm (.c .h (.c .h .n)))).A1
 have hq:T.A6 u=(T.tell AE.Mb,0,false):=AX c1
 refine⟨_,⟨?gq3,?hv3,?hl3,?hB3⟩,hS⟩
 case hB3=>rw [hq];(try rfl)
 case hv3=>rw [hq];(try rfl)
 case hl3=>rw [hq];assumption
theorem Pn (b:Nat)(T:AE)(g:Hd)(o:Order)(hg:g.len=T.out.length)(hF:T.Fit)(hm:o.name.length≤5000000)(hn:T.out.length≤90000):FC Tryz.prog 104 #[.pointer (some ⟨b,0,none⟩), .agg o.enc.toArray] [Ac.box b 163 (Ad.enc ⟨T.w,T.b,g⟩),Ac.own g 56 16 (T.out.flatMap Ing.Event.enc)] (fun w=>(G0 7 w∧7 ∉ Cc [Ac.box b 163 (Ad.enc ⟨T.w,T.b,g⟩),Ac.own g 56 16 (T.out.flatMap Ing.Event.enc)])∧(G0 8 w∧8 ∉ Cc [Ac.box b 163 (Ad.enc ⟨T.w,T.b,g⟩),Ac.own g 56 16 (T.out.flatMap Ing.Event.enc)])) (fun v B=>∃ g':Hd,v = .tuple #[]∧g'.len=(T.E7 o).out.length∧B = [Ac.box b 163 (Ad.enc ⟨(T.E7 o).w,(T.E7 o).b,g'⟩),Ac.own g' 56 16 ((T.E7 o).out.flatMap Ing.Event.enc)]):=by
 intro w hS0 hH
 obtain⟨⟨gl0,gm0⟩,⟨gl1,gm1⟩⟩:=hH
 have hb:=hF.b
 have hr:=hF.room
 have hsr:=T.La (if (!decide (o.nth=1) || o.Bm)=true then [] else o.name)
 have hsb:0≤(T.A6 (if (!decide (o.nth=1) || o.Bm)=true then [] else o.name)).1.b∧(T.A6 (if (!decide (o.nth=1) || o.Bm)=true then [] else o.name)).1.b < 6:=by rw [(T.JA _).2];exact hb
 refine Al _ _ Tryz.func104 rfl rfl rfl (hS0) ?_
 refine Gs ?_
 refine B5 rfl rfl rfl (fun b1=>?_)
 refine Gn (.t2 0 3) (Gs (Gt (Ai Fy rfl) (Gt (AH rfl CO .m0 Order.l3 rfl rfl) (Ga rfl (Gn (.t3 0 3 4) (CD (Gt (Ai GU rfl) ?_)))))))
 refine Gt (AH rfl A4 .m0 Order.l1 rfl rfl) (Gt (Ca rfl rfl) (Gm rfl (Bc 12 rfl rfl (fun q=>Ai HN rfl) (Bc 12 rfl rfl (fun q=>AH (cF rfl q) Dr .m0 Order.l2 rfl rfl) ?_))))
 refine Gt (BR rfl rfl (fun h=>by rw [h];rfl)) ?_
 refine Gn (.t3 0 4 15) ?_
 refine RC (BU) (s:=(if (!decide (o.nth=1) || o.Bm)=true then [] else o.name)) rfl rfl rfl rfl rfl ?_
 refine AB (.t2 0 4) ?_
 refine AA (Gs (Gm rfl (Gm rfl ?_)))
 refine BE rfl an (.c rfl (.c rfl .n)) (.c (.t .h) (.c (.t .h) .n)) (Io _ T _ _ hg hF (by split<;>(try simp)<;>omega) (by omega)) (fun w hS=>⟨gl0.pull gm0 hS (.c (.t .h) (.c (.t .h) .n)),gl1.pull gm1 hS (.c (.t .h) (.c (.t .h) .n))⟩) (fun v1 B hv=>?_)
 obtain⟨y2,rfl,y3,rfl⟩:=hv
 refine Gm rfl (Gt (AM rfl rfl) (Gt (AM rfl rfl) (Ga rfl (Ga rfl (Gn (.t3 0 5 6) (CD (Gm rfl ?_)))))))
 refine Gt (BT rfl) (Gn (.t3 0 5 23) ?_)
 refine Gc (fun c1=>?_) (fun c1=>?_)
 ·
  have c1p:=kz c1
  refine Ab (AD ?_)
  refine AY rfl .n ?_
  intro w1 hS
  have hS:=(hS.perm (Ay.perm (.c .h (.c .h .n)))).A1
  have hq:T.E7 o=_:=BB c1
  refine⟨_,⟨?gq1,rfl,?hl1,?hB1⟩,hS⟩
  case hB1=>rw [hq];(try rfl)
  case hl1=>rw [hq];assumption
 have c1p:=kz c1
 refine Aa ?_
 refine AB (.t2 0 5) ?_
 refine AA (Ap ?_)
 refine BD (N:=13) [0,0,2,6,14,0,32,1,129,385,1023,2047,4095] mix (by kernel_rfl) rfl ?_
 refine Pf 0 rfl (AF rfl) (Pf 1 rfl (AF rfl) (Pf 2 rfl (BV rfl) (Pf 3 rfl (Ai CR rfl) (Pf 4 rfl (AH rfl A4 .m0 Ad.l1 rfl rfl) (Pf 5 rfl (AF rfl) ?_)))))
 refine Pf 6 rfl (Av rfl rfl (IntWalk.i64_in _ (by first | omega | exact hsb.1 | exact hsb.2 | (dsimp only;omega)))) ?_
 refine Pf 7 rfl (BV rfl) (Pf 8 rfl (Ai A9 rfl) (Pf 9 rfl (Ai Bs rfl) ?_))
 refine Pf 10 rfl (AS C8 rfl rfl (by first | omega | exact hsb.1 | exact hsb.2 | (dsimp only;omega)) (by first | omega | exact hsb.1 | exact hsb.2 | (dsimp only;omega))) ?_
 refine Pf 11 rfl (Ai GC rfl) ?_
 refine An 12 rfl (by kernel_rfl) ?_
 refine AT (AK (((Ad.l0.comp AG.l2).comp (AU.ar (n:=6) Aj.fl (by first | omega | exact hsb | (dsimp only;omega)))).comp Aj.l5) rfl rfl rfl DB rfl .h) ?_
 refine BO rfl ⟨?_,?_⟩
 · exact(Pk (Pk (Pk (Pk (Pk (Pk (Pk (Pk (Pk (Pk (Pk (Pk As))))))))))))
 refine A3 (by kernel_rfl) ?_
 refine AB (.t2 0 5) ?_
 refine AA (CD (Gm rfl (Gm rfl (Gt (BV rfl) (Gt (Ai A9 rfl) (Gt (Ai Bs rfl) ?_))))))
 refine Gt (AS C8 rfl rfl (by first | omega | exact hsb.1 | exact hsb.2 | (dsimp only;omega)) (by first | omega | exact hsb.1 | exact hsb.2 | (dsimp only;omega))) ?_
 refine Gt (Ai GC rfl) ?_
 refine Gt (AH rfl A4 .m0 (((Ad.l0.comp AG.l2).comp (AU.ar (n:=6) Aj.fl (by first | omega | exact hsb | (dsimp only;omega)))).comp Aj.l5) rfl rfl) ?_
 refine Gt (Ag rfl rfl) (Gn (.t3 0 5 44) ?_)
 refine Gc (fun c2=>?_) (fun c2=>?_)
 ·
  have c2p:=kz c2
  refine BD (N:=13) [0,0,0,4,12,28,60,1,129,385,1023,2047,4095] mix (by kernel_rfl) rfl ?_
  refine Pf 0 rfl (AF rfl) (Pf 1 rfl (AF rfl) (Pf 2 rfl (AF rfl) (Pf 3 rfl (BV rfl) (Pf 4 rfl (Ai CR rfl) (Pf 5 rfl (AH rfl A4 .m0 Ad.l1 rfl rfl) ?_)))))
  refine Pf 6 rfl (Av rfl rfl (IntWalk.i64_in _ (by first | omega | exact hsb.1 | exact hsb.2 | (dsimp only;omega)))) ?_
  refine Pf 7 rfl (BV rfl) (Pf 8 rfl (Ai A9 rfl) (Pf 9 rfl (Ai Bs rfl) ?_))
  refine Pf 10 rfl (AS C8 rfl rfl (by first | omega | exact hsb.1 | exact hsb.2 | (dsimp only;omega)) (by first | omega | exact hsb.1 | exact hsb.2 | (dsimp only;omega))) ?_
  refine Pf 11 rfl (Ai GC rfl) ?_
  refine An 12 rfl (by kernel_rfl) ?_
  refine AT (AK (((Ad.l0.comp AG.l2).comp (AU.ar (n:=6) Aj.fl (by first | omega | exact hsb | (dsimp only;omega)))).comp Aj.l5) rfl rfl rfl DB rfl .h) ?_
  refine BO rfl ⟨?_,?_⟩
  · exact(Pk (Pk (Pk (Pk (Pk (Pk (Pk (Pk (Pk (Pk (Pk (Pk As))))))))))))
  refine A3 (by kernel_rfl) ?_
  refine AB (.t1 0) ?_
  refine AA (AJ (Gm rfl ?_))
  refine Ah rfl EI (.c rfl (.c rfl .n)) (.c .h (.c .h .n)) (Be _ (AE.Cj (AE.Cj (T.A6 (if (!decide (o.nth=1) || o.Bm)=true then [] else o.name)).1 (T.A6 (if (!decide (o.nth=1) || o.Bm)=true then [] else o.name)).1.b ((T.A6 (if (!decide (o.nth=1) || o.Bm)=true then [] else o.name)).2.1+1)) (T.A6 (if (!decide (o.nth=1) || o.Bm)=true then [] else o.name)).2.1 ((T.A6 (if (!decide (o.nth=1) || o.Bm)=true then [] else o.name)).1.b+1)) _ _ (by assumption) hsb (by show(T.A6 (if (!decide (o.nth=1) || o.Bm)=true then [] else o.name)).1.out.length≤100000;have:=T.HO (if (!decide (o.nth=1) || o.Bm)=true then [] else o.name);omega)) (fun v4 B hv=>?_)
  obtain⟨y5,rfl,y6,rfl⟩:=hv
  refine AQ ?_
  refine Bk rfl .n ?_
  intro w1 hS
  have hS:=(hS.perm (Ay.perm (.c .h (.c .h .n)))).A1
  have hq:T.E7 o=_:=(show T.E7 o=_ from AX c1).trans (congrArg (fun q=>AE.tell q AE.PG) (BB c2))
  refine⟨_,⟨?gq2,rfl,?hl2,?hB2⟩,hS⟩
  case hB2=>rw [hq];(try rfl)
  case hl2=>rw [hq];assumption
 have c2p:=kz c2
 refine Aa ?_
 refine AB (.t1 0) ?_
 refine AA (AJ (Gm rfl ?_))
 refine Ah rfl EI (.c rfl (.c rfl .n)) (.c .h (.c .h .n)) (Be _ (AE.Cj (T.A6 (if (!decide (o.nth=1) || o.Bm)=true then [] else o.name)).1 (T.A6 (if (!decide (o.nth=1) || o.Bm)=true then [] else o.name)).1.b ((T.A6 (if (!decide (o.nth=1) || o.Bm)=true then [] else o.name)).2.1+1)) _ _ (by assumption) hsb (by show(T.A6 (if (!decide (o.nth=1) || o.Bm)=true then [] else o.name)).1.out.length≤100000;have:=T.HO (if (!decide (o.nth=1) || o.Bm)=true then [] else o.name);omega)) (fun v7 B hv=>?_)
 obtain⟨y8,rfl,y9,rfl⟩:=hv
 refine AQ ?_
 refine Bk rfl .n ?_
 intro w1 hS
 have hS:=(hS.perm (Ay.perm (.c .h (.c .h .n)))).A1
 have hq:T.E7 o=_:=(show T.E7 o=_ from AX c1).trans (congrArg (fun q=>AE.tell q AE.PG) (AX c2))
 refine⟨_,⟨?gq3,rfl,?hl3,?hB3⟩,hS⟩
 case hB3=>rw [hq];(try rfl)
 case hl3=>rw [hq];assumption
theorem JO (b:Nat)(T:AE)(g:Hd)(hF:T.Fit):Jg Tryz.prog 132 #[.pointer (some ⟨b,0,none⟩)] [Ac.box b 163 (Ad.enc ⟨T.w,T.b,g⟩)] (fun v B=>∃ f:Hd,v=f.val∧f.len=(T.seen).length∧B = [Ac.box b 163 (Ad.enc ⟨T.w,T.b,g⟩),Ac.own f 3 1 ((T.seen).flatMap Aw)]):=by
 intro w hS0
 have hb:=hF.b
 have hr:=hF.room
 refine Al _ _ Tryz.func132 rfl rfl rfl (hS0) ?_
 refine Gs (Ga rfl (Gn (.t1 0) (Ap ?_)))
 refine BD (N:=12) [0,0,2,6,14,1,33,97,255,511,1023,2047] mix (by kernel_rfl) rfl ?_
 refine Pf 0 rfl (AF rfl) (Pf 1 rfl (AF rfl) (Pf 2 rfl (BV rfl) (Pf 3 rfl (Ai CR rfl) (Pf 4 rfl (AH rfl A4 .m0 Ad.l1 rfl rfl) (Pf 5 rfl (BV rfl) (Pf 6 rfl (Ai A9 rfl) (Pf 7 rfl (Ai Bs rfl) ?_)))))))
 refine Pf 8 rfl (AS C8 rfl rfl (by first | omega | exact hb.1 | exact hb.2 | (dsimp only;omega)) (by first | omega | exact hb.1 | exact hb.2 | (dsimp only;omega))) ?_
 refine Pf 9 rfl (Ai C4 rfl) ?_
 refine Pf 10 rfl (AH rfl A4 .m0 (((Ad.l0.comp AG.l2).comp (AU.ar (n:=6) Aj.fl (by first | omega | exact hb | (dsimp only;omega)))).comp Aj.l3) rfl rfl) ?_
 refine Pf 11 rfl (A0 rfl) ?_
 refine A3 (by kernel_rfl) ?_
 refine AB (.t2 0 3) ?_
 refine AA (CD (Gm rfl (Gt (BV rfl) (Gt (Ai A9 rfl) (Gt (AZ rfl BZ .m0 Ad.l0 rfl) (Gm rfl ?_))))))
 refine BA rfl VK (.c rfl (.c rfl .n)) (fun w hS=>Eh _ _ w) ?_
 refine Gt (BT rfl) (Gn (.t3 0 3 21) ?_)
 refine Gc (fun c1=>?_) (fun c1=>?_)
 ·
  refine Gs (Ga rfl (Gn (.t1 2) (Ab (AD ?_))))
  refine AY rfl (.tmp rfl .n) ?_
  intro w1 hS
  have hS:=hS.Cr 3 1
  have hS:=(hS.perm (Ay.perm (.c (.t .h) (.c .h .n)))).A1
  have hq:T.seen=_:=BB c1
  exact⟨_,⟨⟨none,0,0⟩,rfl,by rw [hq];rfl,by rw [hq];rfl⟩,hS⟩
 have c1p:=kz c1
 refine Aa ?_
 refine AB (.t2 0 3) ?_
 refine AA (Gs (Gm rfl (Gt (BV rfl) (Gt (Ai A9 rfl) (Gt (AZ rfl BZ .m0 Ad.l0 rfl) (Gm rfl ?_))))))
 refine Ah rfl SA (.c rfl (.c rfl (.c rfl .n))) .n (FF _ _ _) (fun v2 B hv=>?_)
 obtain⟨y3,rfl,y4,rfl⟩:=hv
 refine Ga rfl (Gn (.t1 2) (Ab ?_))
 refine AY rfl (.tmp rfl .n) ?_
 intro w1 hS
 have hS:=(hS.perm (Ay.perm (.c (.t .h) (.c .h .n)))).A1
 have hq:T.seen=_:=(AX c1)
 exact⟨_,⟨_,rfl,by rw [hq];first | rfl | assumption,by rw [hq];rfl⟩,hS⟩
theorem Ey (b:Nat)(T:AE)(g:Hd)(f:Hd)(l:List Int)(z:Int)(u:Ao)(a:Bool)(hF:T.Fit)(hf:f.len=l.length)(hl:l.length≤100)(hi:∀ i∈l,0≤i∧i < 9):Jg Tryz.prog 134 #[.pointer (some ⟨b,0,none⟩),f.val, .int .i64 z,BU u, .bool a] [Ac.box b 163 (Ad.enc ⟨T.w,T.b,g⟩),Ac.own f 3 1 (l.flatMap Aw)] (fun v B=>∃ h:Hd,v=h.val∧h.len=(AE.BQ T.w l z u a).length∧B = [Ac.box b 163 (Ad.enc ⟨T.w,T.b,g⟩),Ac.own f 3 1 (l.flatMap Aw),Ac.own h 3 1 ((AE.BQ T.w l z u a).flatMap Aw)]):=by
 intro w hS0
 have hb:=hF.b
 have hr:=hF.room
 refine Al _ _ Tryz.func134 rfl rfl rfl (hS0) ?_
 refine Gs (Ga rfl (Gn (.t5 0 1 2 3 4) (Gs (Ga rfl (AQ (AA (CD ?_)))))))
 refine Gm rfl (Gt (Ar rfl Tryz.underlying169 rfl) (Gm rfl (Gn (.t8 0 2 3 4 11 14 15 16) (Ae ?_))))
 refine Bl (.t8 11 16 0 2 3 4 14 15) ?_
 refine Eb Aw 3 1 ?_
 refine DX (fun(k:Int) (xs:List Int) (h:Hd)=>0≤k∧k≤(l.length:Int)∧xs=AE.JY T.w u (l.take k.toNat)∧h.len=xs.length∧xs.length≤k.toNat) (fun(k:Int) (xs:List Int) (h:Hd)=>((l.length:Int) - k).toNat) (fun(k:Int) (xs:List Int) (h:Hd)=> [(11,h.val),(16, .int .i64 k)]) (fun(k:Int) (xs:List Int) (h:Hd)=> [Ac.own h 3 1 (xs.flatMap Aw)]) (0) ([]) (_) ?_ rfl rfl (fun k xs h hI1=>?_)
 · exact⟨by omega,by omega,rfl,rfl,by simp⟩
 obtain⟨hI11,hI12,hI13,hI14,hI15⟩:=hI1
 refine Gs (Gt (A8 rfl rfl) (AQ (AA (Ap ?_))))
 refine Gc (fun c1=>?_) (fun c1=>?_)
 ·
  have c1p:=kz c1
  have hx:=hi _ (Bg.Ez (xs:=l) (i:=k.toNat) (by omega))
  refine Aa ?_
  refine AB (.t8 0 2 3 4 11 14 15 16) ?_
  refine AA (Ap (Ae (Gs ?_)))
  refine Gt (Bp Gg (by decide) (Kn.own .m2) rfl rfl (by omega) (by omega)) ?_
  refine Gt (DN rfl A4 (Kn.own .m2) (by omega)) ?_
  refine Ga rfl (Gn (.t9 0 2 3 4 11 13 14 15 16) (Gs (Gm rfl (Gt (Bi rfl rfl) (Gm rfl (Bc 22 rfl rfl (fun q=>AF rfl) (Bc 22 rfl rfl (fun q=>AF rfl) ?_)))))))
  refine Bc 22 rfl rfl (fun q=>BV (cF rfl q)) (Bc 22 rfl rfl (fun q=>Ai A9 (cF rfl q)) (Bc 22 rfl rfl (fun q=>Ai Cx (cF rfl q)) ?_))
  refine Bc 22 rfl rfl (fun q=>by have q1:=q;(try simp at q1);exact AS GO (cF rfl q) (cF rfl q) (by first | omega | exact hb.1 | exact hb.2) (by first | omega | exact hb.1 | exact hb.2)) ?_
  refine Bc 22 rfl rfl (fun q=>Ai Mv (cF rfl q)) ?_
  refine Bc 22 rfl rfl (fun q=>by have q1:=q;(try simp at q1);exact AH (cF rfl q) CO .m1 (((Ad.l0.comp AG.l1).comp (AU.ar (n:=9) Am.fl (by first | omega | exact hb))).comp Am.l0) rfl rfl) ?_
  refine Bc 22 rfl rfl (fun q=>AF rfl) (Bc 22 rfl rfl (fun q=>Bi (cF rfl q) (cF rfl q)) ?_)
  refine Gt (BR rfl rfl (fun h=>by rw [h];rfl)) ?_
  refine Gn (.t10 0 2 3 4 11 13 14 15 16 33) ?_
  refine Gc (fun c2=>?_) (fun c2=>?_)
  ·
   have c2p:=kz c2
   refine AJ (Gm rfl (Gm rfl ?_))
   refine E2 Aw B1 rfl Tryz.underlying169 DB cT rfl (by decide) (by decide) rfl rfl (fun b1=>?_)
   refine CM B1 rfl Tryz.underlying169 DB cT rfl eh (by decide) (by decide) rfl rfl (fun w hS=>Src.Dq Tryz.underlying169 ((Kn.own .m0) w hS)) (by(try dsimp only);omega) (fun _=>(.t .h)) (fun h1 h1l h1z=>?_)
   refine Ga rfl ?_
   refine AQ (AB (.t8 0 2 3 4 11 14 15 16) ?_)
   refine AW (AA (AJ ?_))
   refine Gt (Av rfl rfl (IntWalk.i64_in _ (by first | omega | exact hb.1 | exact hb.2))) ?_
   refine Gm rfl ?_
   refine AQ (AB (.t8 0 2 3 4 11 14 15 16) ?_)
   refine Bt (k+1) _ _ ?_ ?_ (.t8 11 16 0 2 3 4 14 15) (.cons _ (.refl _))
   · exact⟨by omega,by omega,by rw [AE.aK hI11 (by omega) c2,← hI13],(by(try dsimp only at *)<;>(try simp only [List.length_append,List.length_cons,List.length_nil])<;>omega),(by(try simp only [List.length_append,List.length_cons,List.length_nil]);omega)⟩
   · omega
  have c2p:=kz c2
  refine Aa ?_
  refine AB (.t8 0 2 3 4 11 14 15 16) ?_
  refine AW (AA (AJ ?_))
  refine Gt (Av rfl rfl (IntWalk.i64_in _ (by first | omega | exact hb.1 | exact hb.2))) ?_
  refine Gm rfl ?_
  refine AQ (AB (.t8 0 2 3 4 11 14 15 16) ?_)
  refine Bt (k+1) _ _ ?_ ?_ (.t8 11 16 0 2 3 4 14 15) (.refl _)
  · exact⟨by omega,by omega,by rw [AE.Zh hI11 (by omega) c2,← hI13],(by(try dsimp only at *)<;>(try simp only [List.length_append,List.length_cons,List.length_nil])<;>omega),(by(try simp only [List.length_append,List.length_cons,List.length_nil]);omega)⟩
  · omega
 have c1p:=kz c1
 obtain rfl:k=(l.length:Int):=by omega
 have hx3:=hI13
 rw [show(l.length:Int).toNat=l.length by omega,List.take_length] at hx3
 have hpa:=AE.WX T.w u l
 rw [← hx3] at hpa
 refine Ba (AV (AV (Af ?_)))
 refine AB (.t3 2 4 11) ?_
 refine AA (CD (Gm rfl (Gn (.t3 2 11 39) ?_)))
 refine Gc (fun c3=>?_) (fun c3=>?_)
 ·
  have c3p:=kz c3
  refine Gs (Gm rfl (Ga rfl (Gn (.t1 10) (Ab (AD ?_)))))
  refine AY rfl (.tmp rfl .n) ?_
  intro w1 hS
  have hS:=(hS.perm (Ay.perm (.c (.t .h) (.c (.t .h) (.c .h .n))))).A1
  have hq:AE.BQ T.w l z u a=_:=(BB c3)
  refine⟨_,⟨_,rfl,?hl1,?hB1⟩,hS⟩
  case hB1=>rw [hq];(try rw [← hx3]);(try rfl)
  case hl1=>rw [hq];first | rfl | (rw [← hx3];first | assumption | (simp only [Hd.cut,List.length_drop,List.length_take];omega))
 have c3p:=kz c3
 refine Aa ?_
 refine AB (.t2 2 11) ?_
 refine AA (CD (Gm rfl (Gt (A8 rfl rfl) (Gm rfl (Bc 43 rfl rfl (fun q=>AF rfl) (Bc 43 rfl rfl (fun q=>AF rfl) (Bc 43 rfl rfl (fun q=>Ar rfl Tryz.underlying169 (cF rfl q)) ?_)))))))
 refine Bc 43 rfl rfl (fun q=>Cn (cF rfl q) (cF rfl q)) ?_
 refine Gt (BR rfl rfl (fun h=>by rw [h];rfl)) ?_
 refine Gn (.t3 2 11 48) ?_
 refine Gc (fun c4=>?_) (fun c4=>?_)
 ·
  have c4p:=kz c4
  rw [hI14,hx3] at c4
  refine Gs (Ga rfl (Gn (.t1 10) (Ab (AD ?_))))
  refine AY rfl (.tmp rfl .n) ?_
  intro w1 hS
  have hS:=hS.Cr 3 1
  have hS:=(hS.perm (Ay.perm (.c (.t (.t .h)) (.c (.t (.t .h)) (.c .h .n))))).A1
  have hq:AE.BQ T.w l z u a=_:=((AX c3).trans (BB c4))
  refine⟨_,⟨⟨none,0,0⟩,rfl,?hl2,?hB2⟩,hS⟩
  case hB2=>rw [hq];(try rw [← hx3]);(try rfl)
  case hl2=>rw [hq];first | rfl | (rw [← hx3];first | assumption | (simp only [Hd.cut,List.length_drop,List.length_take];omega))
 have c4p:=kz c4
 have c4q:=c4p
 rw [hI14,hx3] at c4
 refine Aa ?_
 refine AB (.t2 2 11) ?_
 refine AA (Gs (Gm rfl (Gm rfl ?_)))
 refine Gt (FX rfl rfl (IntWalk.i64_in _ (by first | omega | exact hb.1 | exact hb.2))) ?_
 refine Gm rfl ?_
 refine Te B1 rfl Tryz.underlying169 DB rfl rfl rfl (by first | omega | exact hb.1 | exact hb.2) (by first | omega | exact hb.1 | exact hb.2) (by first | omega | exact hb.1 | exact hb.2) (fun _=> .h) ?_
 refine Ga rfl (Gn (.t1 10) (Ab ?_))
 refine AY rfl (.tmp rfl .n) ?_
 intro w1 hS
 have hS:=(hS.perm (Ay.perm (.c (.t .h) (.c (.t .h) (.c .h .n))))).A1
 have hq:AE.BQ T.w l z u a=_:=((AX c3).trans (AX c4))
 refine⟨_,⟨_,rfl,?hl3,?hB3⟩,hS⟩
 case hB3=>rw [hq];(try rw [← hx3]);(try rfl)
 case hl3=>rw [hq];first | rfl | (rw [← hx3];first | assumption | (simp only [Hd.cut,List.length_drop,List.length_take];omega))
theorem S2 (b:Nat)(T:AE)(g:Hd)(u:Ao)(hF:T.Fit)(hu:u.length≤5000000):FC Tryz.prog 161 #[.pointer (some ⟨b,0,none⟩),BU u] [Ac.box b 163 (Ad.enc ⟨T.w,T.b,g⟩)] (fun w=>(G0 7 w∧7 ∉ Cc [Ac.box b 163 (Ad.enc ⟨T.w,T.b,g⟩)])∧(G0 8 w∧8 ∉ Cc [Ac.box b 163 (Ad.enc ⟨T.w,T.b,g⟩)])) (fun v B=>v = .tuple #[.int .i64 (T.one u).1, .bool (T.one u).2]∧B = [Ac.box b 163 (Ad.enc ⟨T.w,T.b,g⟩)]):=by
 intro w hS0 hH
 obtain⟨⟨gl0,gm0⟩,⟨gl1,gm1⟩⟩:=hH
 have hb:=hF.b
 have hr:=hF.room
 have ho9:=T.KR
 have hs9:=T.Im
 refine Al _ _ Tryz.func161 rfl rfl rfl (hS0) ?_
 refine Gs (Ga rfl (Ga rfl (Gn (.t2 0 1) (Gs (Gm rfl ?_)))))
 refine BA rfl Uo (.c rfl .n) (fun w hS=>FN _ (by first | assumption | omega) w (gl0.stM gm0 hS) (gl1.stM gm1 hS)) ?_
 refine Gm rfl (Gt (AM rfl rfl) (Gt (AM rfl rfl) (Gt (AM rfl rfl) (Gt (AM rfl rfl) (Ga rfl (Ga rfl (Ga rfl ?_)))))))
 refine Ga rfl (Gn (.t5 0 6 7 8 9) (CD (Gm rfl (Gt (Ca rfl rfl) (Gm rfl (Bc 20 rfl rfl (fun q=>AF rfl) ?_))))))
 refine Gt (BR rfl rfl (fun h=>by rw [h];rfl)) ?_
 refine Gn (.t4 0 6 7 22) ?_
 refine Gc (fun c1=>?_) (fun c1=>?_)
 ·
  refine Gs (Ga rfl (Ga rfl (Gn (.t2 4 5) (Ab (AD ?_)))))
  refine AY rfl (.tmp rfl (.tmp rfl .n)) ?_
  intro w1 hS
  have hS:=(hS.perm (Ay.perm (.c .h .n))).A1
  have hq:T.one u=_:=(BB c1)
  exact⟨_,⟨by rw [hq];rfl,rfl⟩,hS⟩
 have c1p:=kz c1
 refine Aa ?_
 refine AB (.t3 0 6 7) ?_
 refine AA (Gs (Gm rfl (Gm rfl ?_)))
 refine Ah rfl Uf (.c rfl .n) (.c .h .n) (H5 _ _ _ (by first | assumption | omega)) (fun v1 B hv=>?_)
 obtain⟨y2,rfl,y3,rfl⟩:=hv
 refine Gm rfl ?_
 refine Ah rfl Yl (.c rfl .n) (.c .h .n) (JO _ _ _ (by first | assumption | omega)) (fun v5 B hv=>?_)
 obtain⟨y6,rfl,y7,rfl⟩:=hv
 refine CM B1 rfl Tryz.underlying169 DB cT rfl eh (by decide) (by decide) rfl rfl (fun w hS=>Src.Dq Tryz.underlying169 ((Kn.own .m1) w hS)) (by(try dsimp only);omega) (fun _=>(.t (.t .h))) (fun h9 h9l h9z=>?_)
 refine Gm rfl (Gm rfl ?_)
 refine Ah rfl QA (.c rfl (.c rfl (.c rfl (.c rfl (.c rfl .n))))) (.c .h (.c (.t .h) .n)) (Ey _ T _ _ (T.own++T.seen) _ _ _ hF (by rw [List.length_append];omega) (by rw [List.length_append];omega) (fun i hi=>AE.RL hi)) (fun v10 B hv=>?_)
 obtain⟨y11,rfl,y12,rfl⟩:=hv
 refine Ga rfl (Gn (.t1 10) (CD (Gm rfl (Gt (Ar rfl Tryz.underlying169 rfl) (Gt (Ag rfl rfl) (Gn (.t2 10 34) ?_))))))
 refine Gc (fun c2=>?_) (fun c2=>?_)
 ·
  have c2p:=kz c2
  have hpl:=y12
  rw [hpl] at c2 c2p
  refine Gs (Ga rfl (Ga rfl (Gn (.t2 4 5) (Ab (AD ?_)))))
  refine AY rfl (.tmp rfl (.tmp rfl .n)) ?_
  intro w1 hS
  have hS:=(hS.perm (Ay.perm (.c .h .n))).A1
  have hq:T.one u=_:=((AX c1).trans (BB c2))
  exact⟨_,⟨by rw [hq];rfl,rfl⟩,hS⟩
 have c2p:=kz c2
 have hpl:=y12
 rw [hpl] at c2 c2p
 refine Aa ?_
 refine AB (.t1 10) ?_
 refine AA (Gs (Gm rfl ?_))
 refine Gt (Bp Gg (by decide) (Kn.own .m2) rfl rfl (by omega) (by omega)) ?_
 refine Gt (DN rfl A4 (Kn.own .m2) (by omega)) ?_
 refine Ga rfl (Ga rfl (Gn (.t2 4 5) (Ab ?_)))
 refine AY rfl (.tmp rfl (.tmp rfl .n)) ?_
 intro w1 hS
 have hS:=(hS.perm (Ay.perm (.c .h .n))).A1
 have hq:T.one u=_:=((AX c1).trans (AX c2))
 exact⟨_,⟨by rw [hq];rfl,rfl⟩,hS⟩
theorem M9 (b:Nat)(T:AE)(g:Hd)(u:Ao)(hg:g.len=T.out.length)(hF:T.Fit)(hu:u.length≤5000000)(hn:T.out.length≤99000):FC Tryz.prog 133 #[.pointer (some ⟨b,0,none⟩),BU u] [Ac.box b 163 (Ad.enc ⟨T.w,T.b,g⟩),Ac.own g 56 16 (T.out.flatMap Ing.Event.enc)] (fun w=>(G0 7 w∧7 ∉ Cc [Ac.box b 163 (Ad.enc ⟨T.w,T.b,g⟩),Ac.own g 56 16 (T.out.flatMap Ing.Event.enc)])∧(G0 8 w∧8 ∉ Cc [Ac.box b 163 (Ad.enc ⟨T.w,T.b,g⟩),Ac.own g 56 16 (T.out.flatMap Ing.Event.enc)])) (fun v B=>∃ g':Hd,v = .tuple #[.int .i64 (T.box u).2.1, .bool (T.box u).2.2]∧g'.len=((T.box u).1).out.length∧B = [Ac.box b 163 (Ad.enc ⟨((T.box u).1).w,((T.box u).1).b,g'⟩),Ac.own g' 56 16 (((T.box u).1).out.flatMap Ing.Event.enc)]):=by
 intro w hS0 hH
 obtain⟨⟨gl0,gm0⟩,⟨gl1,gm1⟩⟩:=hH
 have hb:=hF.b
 have hr:=hF.room
 have ho:=T.VE u
 refine Al _ _ Tryz.func133 rfl rfl rfl (hS0) ?_
 refine Gs (Ga rfl (Ga rfl (Gn (.t2 0 1) (Gs (Gm rfl (Gm rfl ?_))))))
 refine BE rfl dZ (.c rfl (.c rfl .n)) (.c .h .n) (S2 _ T _ _ hF hu) (fun w hS=>⟨gl0.pull gm0 hS (.c .h .n),gl1.pull gm1 hS (.c .h .n)⟩) (fun v1 B hv=>?_)
 obtain⟨rfl,rfl⟩:=hv
 refine Gm rfl (Gt (AM rfl rfl) (Gt (AM rfl rfl) (Ga rfl (Ga rfl (Gn (.t3 0 6 7) (CD (Gm rfl ?_)))))))
 refine Gt (BT rfl) (Gm rfl (Bc 16 rfl rfl (fun q=>AF rfl) (Bc 16 rfl rfl (fun q=>AF rfl) (Bc 16 rfl rfl (fun q=>BV (cF rfl q)) (Bc 16 rfl rfl (fun q=>Ai A9 (cF rfl q)) (Bc 16 rfl rfl (fun q=>Ai Cx (cF rfl q)) ?_))))))
 refine Bc 16 rfl rfl (fun q=>by have q1:=q;(try simp at q1);exact AS GO (cF rfl q) (cF rfl q) (by first | omega | exact hb.1 | exact hb.2 | (dsimp only;omega)) (by first | omega | exact hb.1 | exact hb.2 | (dsimp only;omega))) ?_
 refine Bc 16 rfl rfl (fun q=>Ai G1 (cF rfl q)) ?_
 refine Bc 16 rfl rfl (fun q=>by have q1:=q;(try simp at q1);exact AH (cF rfl q) A4 .m0 (((Ad.l0.comp AG.l1).comp (AU.ar (n:=9) Am.fl (by first | omega | exact hb | (dsimp only;omega)))).comp Am.l1) rfl rfl) ?_
 refine Bc 16 rfl rfl (fun q=>Ca (cF rfl q) rfl) ?_
 refine Gt (BR rfl rfl (fun h=>by rw [h];rfl)) ?_
 refine Gn (.t3 0 6 26) ?_
 refine Gc (fun c1=>?_) (fun c1=>?_)
 ·
  have c1p:=kz c1
  refine Gs (Gm rfl ?_)
  refine Ah rfl EI (.c rfl (.c rfl .n)) (.c .h (.c .h .n)) (Be _ _ _ _ hg hb (by omega)) (fun v2 B hv=>?_)
  obtain⟨y3,rfl,y4,rfl⟩:=hv
  refine Gn (.nil _) (Gs (Ga rfl (Ga rfl (AQ (AA (Ab (AD ?_)))))))
  refine AY rfl (.tmp rfl (.tmp rfl .n)) ?_
  intro w1 hS
  have hS:=(hS.perm (Ay.perm (.c .h (.c .h .n)))).A1
  have hq:T.box u=_:=(BB c1)
  refine⟨_,⟨?gq1,?hv1,?hl1,?hB1⟩,hS⟩
  case hB1=>rw [hq];(try rfl)
  case hv1=>rw [hq];(try rfl)
  case hl1=>rw [hq];assumption
 have c1p:=kz c1
 refine Aa ?_
 refine AB (.t2 0 6) ?_
 refine AA (CD (Gm rfl (Gm rfl (Gt (BV rfl) (Gt (Ai A9 rfl) (Gt (Ai Cx rfl) ?_))))))
 refine Gt (AS GO rfl rfl (by first | omega | exact hb.1 | exact hb.2 | (dsimp only;omega)) (by first | omega | exact hb.1 | exact hb.2 | (dsimp only;omega))) ?_
 refine Gt (Ai GN rfl) ?_
 refine Gt (AH rfl Dr .m0 (((Ad.l0.comp AG.l1).comp (AU.ar (n:=9) Am.fl (by first | omega | exact hb | (dsimp only;omega)))).comp Am.l4) rfl rfl) ?_
 refine Gt (BT rfl) (Gn (.t3 0 6 37) ?_)
 refine Gc (fun c2=>?_) (fun c2=>?_)
 ·
  have c2p:=kz c2
  refine Gs (Gm rfl ?_)
  refine Ah rfl EI (.c rfl (.c rfl .n)) (.c .h (.c .h .n)) (Be _ _ _ _ hg hb (by omega)) (fun v5 B hv=>?_)
  obtain⟨y6,rfl,y7,rfl⟩:=hv
  refine Gn (.nil _) (Gs (Ga rfl (Ga rfl (AQ (AA (Ab (AD ?_)))))))
  refine AY rfl (.tmp rfl (.tmp rfl .n)) ?_
  intro w1 hS
  have hS:=(hS.perm (Ay.perm (.c .h (.c .h .n)))).A1
  have hq:T.box u=_:=((AX c1).trans (BB c2))
  refine⟨_,⟨?gq2,?hv2,?hl2,?hB2⟩,hS⟩
  case hB2=>rw [hq];(try rfl)
  case hv2=>rw [hq];(try rfl)
  case hl2=>rw [hq];assumption
 have c2p:=kz c2
 refine Aa ?_
 refine AB (.t1 6) ?_
 refine AA (Gs (Gm rfl (Ga rfl (Ga rfl (Gn (.t2 4 5) (Ab ?_))))))
 refine AY rfl (.tmp rfl (.tmp rfl .n)) ?_
 intro w1 hS
 have hS:=(hS.perm (Ay.perm (.c .h (.c .h .n)))).A1
 have hq:T.box u=_:=((AX c1).trans (AX c2))
 refine⟨_,⟨?gq3,?hv3,?hl3,?hB3⟩,hS⟩
 case hB3=>rw [hq];(try rfl)
 case hv3=>rw [hq];(try rfl)
 case hl3=>rw [hq];assumption
theorem D1 (b:Nat)(T:AE)(g:Hd)(k i:Int)(hg:g.len=T.out.length)(hb:0≤T.b∧T.b < 6)(hi:0≤i∧i < 9)(hn:T.out.length≤100000):Jg Tryz.prog 135 #[.pointer (some ⟨b,0,none⟩), .int .i64 k, .int .i64 i] [Ac.box b 163 (Ad.enc ⟨T.w,T.b,g⟩),Ac.own g 56 16 (T.out.flatMap Ing.Event.enc)] (fun v B=>∃ g':Hd,v = .tuple #[]∧g'.len=(T.BJ k i).out.length∧B = [Ac.box b 163 (Ad.enc ⟨(T.BJ k i).w,(T.BJ k i).b,g'⟩),Ac.own g' 56 16 ((T.BJ k i).out.flatMap Ing.Event.enc)]):=by
 intro w hS0
 refine Al _ _ Tryz.func135 rfl rfl rfl (hS0) ?_
 refine AJ (Gm rfl (Gm rfl (Gm rfl (Gm rfl (Gt (BV rfl) (Gt (Ai A9 rfl) (Gt (Ai Cx rfl) ?_)))))))
 refine Gt (AS GO rfl rfl (by(try dsimp only at *);omega) (by(try dsimp only at *);omega)) ?_
 refine Gt (Ai Mv rfl) ?_
 refine Gt (AH rfl CO .m0 (((Ad.l0.comp AG.l1).comp (AU.arr (n:=9) Am.fl (by(try dsimp only at *);omega) (by(try dsimp only at *);omega))).comp Am.l0) rfl rfl) ?_
 refine Gt (BC OY Hx rfl (.cons Ing.Event.l0 rfl rfl rfl (.cons Ing.Event.l3 rfl rfl rfl (.cons Ing.Event.l8 rfl rfl rfl .nil)))) ?_
 refine Ah rfl ON (.c rfl (.c rfl .n)) (.c .h (.c .h .n)) (CQ _ _ _ { AE.F2 k with BJ:=(T.w.AO.at i).name } hg hb (show(-1:Int) < 6 by decide) hn) (fun v1 B hv=>?_)
 obtain⟨y2,rfl,y3,rfl⟩:=hv
 refine AQ ?_
 refine Bk rfl .n ?_
 intro w1 hS
 have hS:=(hS.perm (Ay.perm (.c .h (.c .h .n)))).A1
 exact⟨_,⟨_,rfl,by assumption,rfl⟩,hS⟩
end Go.Proofs.YtoidpggbbfncpaaGreatDoor

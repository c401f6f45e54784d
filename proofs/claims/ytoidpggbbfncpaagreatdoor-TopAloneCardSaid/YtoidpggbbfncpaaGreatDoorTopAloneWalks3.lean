/- What the functions that the law TopAlone reaches compute: walks, part 3. No condition. -/
import Derived.Test.YtoidpggbbfncpaaGreatDoorCards
import Derived.Test.YtoidpggbbfncpaaGreatDoorTie
import Derived.Deep.DeepHandedRow
import Derived.Test.YtoidpggbbfncpaaGreatDoorRows
import Derived.Test.YtoidpggbbfncpaaGreatDoorTopAloneEc3
import Derived.Test.YtoidpggbbfncpaaGreatDoorTopAloneRa1
import Derived.Test.YtoidpggbbfncpaaGreatDoorTopAloneRb1
import Derived.Test.YtoidpggbbfncpaaGreatDoorTopAloneRc1
import Derived.Test.YtoidpggbbfncpaaGreatDoorTopAloneWalks
import Derived.Test.YtoidpggbbfncpaaGreatDoorTopAloneWalks2
set_option linter.unusedSimpArgs false
set_option linter.unusedVariables false
set_option maxRecDepth 100000
set_option maxHeartbeats 1000000
namespace Go.Proofs.YtoidpggbbfncpaaGreatDoor
open Go Go.Ing Go.RowKit Go.ChangeShapes Go.WideShapes Go.ChangeAt
theorem FV (u:Au)(hu:u.length≤5000000)(w:World)(gl0:G3 7 w)(gl1:G3 8 w):En Tryz.prog 154 #[BT u] w fun v w'=>v = .tuple #[.int .i64 (Words.ER u).1,BT (Words.ER u).2.1, .bool (Words.ER u).2.2.1, .int .i64 (Words.ER u).2.2.2]∧B9 w w':=by
 have hcut:=Words.NV 46 u
 refine Am [] [] Tryz.func154 rfl rfl rfl (St.start w []) ?_
 refine Gs (Ga rfl (Ga rfl (Ga rfl (Ga rfl (Gn (.t1 0) (CD (Gm rfl ?_)))))))
 refine Gt (Bu rfl rfl) (Gn (.t2 0 14) ?_)
 refine Gc (fun c1=>?_) (fun c1=>?_)
 ·
  refine Gs (Ga rfl (Ga rfl (Ga rfl (Ga rfl (Gn (.t4 2 3 4 5) (Ac (AE ?_)))))))
  refine AZ rfl (.tmp rfl (.tmp rfl (.tmp rfl (.tmp rfl .n)))) ?_
  intro w1 hS;refine⟨?_,hS.Al⟩;rw [show Words.ER u=_ from(BF c1)];rfl
 have c1p:=kz c1
 refine Aa ?_
 refine AB (.t1 0) ?_
 refine AA (CD (Gm rfl ?_))
 refine BD rfl cI (.c rfl (.c rfl .n)) (fun w hS=>JQ _ _ w) ?_
 refine Gm rfl (Gt (AL rfl rfl) (Gt (AL rfl rfl) (Ga rfl (Ga rfl (Gn (.t3 0 6 7) (Gs (Gm rfl ?_)))))))
 refine Gm rfl (Bb 21 rfl rfl (fun q=>AD rfl) (Bb 21 rfl rfl (fun q=>Dt (BX rfl q) rfl) (Gt (BI rfl rfl (fun h=>h)) (Gm rfl (Bb 25 rfl rfl (fun q=>AD rfl) ?_)))))
 refine K5 (t:=25) rfl rfl rfl (fun q=>Dl ZN (.c (BX rfl q) (.c rfl .n)) (fun w hS=>GI _ 46 w)) ?_
 refine Bb 25 rfl rfl (fun q=>BR (BX rfl q)) (Gt (BI rfl rfl (fun h=>h)) (Gn (.t3 0 6 29) ?_))
 refine Gc (fun c2=>?_) (fun c2=>?_)
 ·
  refine Gs (Gm rfl (Ga rfl (Ga rfl (Ga rfl (Ga rfl (Gn (.t4 2 3 4 5) (Ac ?_)))))))
  refine AE ?_
  refine AZ rfl (.tmp rfl (.tmp rfl (.tmp rfl (.tmp rfl .n)))) ?_
  intro w1 hS;refine⟨?_,hS.Al⟩;rw [show Words.ER u=_ from((AX c1).trans (BF c2))];rfl
 have c2p:=kz c2
 refine Aa ?_
 refine AB (.t1 0) ?_
 refine AA (Gs (Gm rfl ?_))
 refine BD rfl cK (.c rfl (.c rfl .n)) (fun w hS=>Iz _ 46 (by omega) w) ?_
 refine Gm rfl (Gt (AL rfl rfl) (Gt (AL rfl rfl) (Gt (AL rfl rfl) (Ga rfl (Ga rfl (Ga rfl (Gn (.t4 0 8 9 10) ?_)))))))
 refine CD (Gm rfl (Gt (BR rfl) (Gn (.t4 0 8 9 38) ?_)))
 refine Gc (fun c3=>?_) (fun c3=>?_)
 ·
  refine CD (Gm rfl (Gt (Bu rfl rfl) (Gn (.t2 0 40) ?_)))
  refine Gc (fun c4=>?_) (fun c4=>?_)
  ·
   refine Gs (Ga rfl (Ga rfl (Ga rfl (Ga rfl (Gn (.t4 2 3 4 5) (Ac (AE ?_)))))))
   refine AE ?_
   refine AZ rfl (.tmp rfl (.tmp rfl (.tmp rfl (.tmp rfl .n)))) ?_
   intro w1 hS;refine⟨?_,hS.Al⟩;rw [show Words.ER u=_ from((AX c1).trans ((AX c2).trans ((BF c3).trans (BF c4))))];rfl
  refine Aa ?_
  refine AB (.t1 0) ?_
  refine AA (Gs (Gm rfl (Ga rfl (Ga rfl (Ga rfl (Ga rfl (Gn (.t4 2 3 4 5) ?_)))))))
  refine Ac (AE ?_)
  refine AZ rfl (.tmp rfl (.tmp rfl (.tmp rfl (.tmp rfl .n)))) ?_
  intro w1 hS;refine⟨?_,hS.Al⟩;rw [show Words.ER u=_ from((AX c1).trans ((AX c2).trans ((BF c3).trans (AX c4))))];rfl
 have c3p:=kz c3
 refine Aa ?_
 refine AB (.t2 8 9) ?_
 refine AA (Gs (Gm rfl ?_))
 refine BJ rfl cV (.c rfl .n) .n (Li _ (by omega)) (fun w hS=>⟨gl0.st hS,gl1.st hS⟩) (fun v1 B hv=>?_)
 rcases hv with ⟨y2,y3,rfl,rfl⟩ | ⟨y4,y5,y6,y7,rfl,rfl⟩
 ·
  refine Gm rfl (Gt (AL rfl rfl) (Gt (AL rfl rfl) (Ga rfl (Ga rfl (Gn (.t4 8 9 11 12) (CD (Gm rfl ?_)))))))
  refine Gt (R9 Tryz.underlying109 rfl) (Gm rfl ?_)
  refine Dd (t:=49) rfl rfl rfl (AD rfl) ?_
  refine Dd (t:=49) rfl rfl rfl (BA rfl rfl) ?_
  refine Gt (CC rfl rfl) (Gm rfl (Bg 53 rfl rfl (fun q=>AD rfl) (Bg 53 rfl rfl (fun q=>Cp (cF rfl q) rfl) ?_)))
  refine Gt (BU rfl rfl (fun h=>by rw [h];rfl)) ?_
  refine Gm rfl (Bg 57 rfl rfl (fun q=>AD rfl) ?_)
  refine Bg 57 rfl rfl (fun q=>by have q1:=q;(try simp at q1);exact Bq Tryz.underlying9 (cF rfl q) rfl (by decide) (by first | omega | (have hq:=Words.Rb (by assumption);omega))) ?_
  refine Bg 57 rfl rfl (fun q=>BA (cF rfl q) rfl) ?_
  refine Gt (BU rfl rfl (fun h=>by rw [h];rfl)) ?_
  refine Gm rfl (Bg 62 rfl rfl (fun q=>AD rfl) ?_)
  refine Bg 62 rfl rfl (fun q=>by have q1:=q;(try simp at q1);exact Bq Tryz.underlying9 (cF rfl q) rfl (by decide) (by first | omega | (have hq:=Words.Rb (by assumption);omega))) ?_
  refine Bg 62 rfl rfl (fun q=>Cp (cF rfl q) rfl) ?_
  refine Gt (BU rfl rfl (fun h=>by rw [h];rfl)) ?_
  refine Gm rfl (Bg 67 rfl rfl (fun q=>AD rfl) (Bg 67 rfl rfl (fun q=>Bu (cF rfl q) rfl) ?_))
  refine Gt (BU rfl rfl (fun h=>by rw [h];rfl)) ?_
  refine Gm rfl (Bg 71 rfl rfl (fun q=>AD rfl) ?_)
  refine RL (t:=71) rfl rfl rfl (fun q=>by have q1:=q;(try simp at q1);exact Dl ZN (.c (cF rfl q) (.c rfl .n)) (fun w hS=>GI _ 46 w)) ?_
  refine Gt (BU rfl rfl (fun h=>by rw [h];rfl)) ?_
  refine Gn (.t3 9 11 74) ?_
  refine Gc (fun c5=>?_) (fun c5=>?_)
  ·
   refine Gs (Ga rfl (Ga rfl (Ga rfl (Ga rfl (Gn (.t4 2 3 4 5) (Ac (AE ?_)))))))
   refine AZ rfl (.tmp rfl (.tmp rfl (.tmp rfl (.tmp rfl .n)))) ?_
   intro w1 hS;refine⟨?_,hS.Al⟩;rw [show Words.ER u=_ from((AX c1).trans ((AX c2).trans (AX c3))),Words.Ug y3,BF c5];rfl
  refine Aa ?_
  refine AB (.t2 9 11) ?_
  refine AA (Gs (Gm rfl (Gm rfl (Ga rfl (Ga rfl (Ga rfl (Ga rfl ?_)))))))
  refine Gn (.t4 2 3 4 5) (Ac ?_)
  refine AZ rfl (.tmp rfl (.tmp rfl (.tmp rfl (.tmp rfl .n)))) ?_
  intro w1 hS;refine⟨?_,hS.Al⟩;rw [show Words.ER u=_ from((AX c1).trans ((AX c2).trans (AX c3))),Words.Ug y3,AX c5];rfl
 refine Gm rfl (Gt (AL rfl rfl) (Gt (AL rfl rfl) (Ga rfl (Ga rfl (Gn (.t4 8 9 11 12) (CD (Gm rfl ?_)))))))
 refine Gt (YX Tryz.underlying109 rfl) (Gm rfl ?_)
 refine DH (t:=49) rfl rfl rfl rfl ?_
 refine DH (t:=49) rfl rfl rfl rfl ?_
 refine Gt (Cz rfl rfl) (Gm rfl ?_)
 refine DH (t:=53) rfl rfl rfl rfl ?_
 refine DH (t:=53) rfl rfl rfl rfl ?_
 refine Gt (Cz rfl rfl) (Gm rfl ?_)
 refine DH (t:=57) rfl rfl rfl rfl ?_
 refine DH (t:=57) rfl rfl rfl rfl ?_
 refine DH (t:=57) rfl rfl rfl rfl ?_
 refine Gt (Cz rfl rfl) (Gm rfl ?_)
 refine DH (t:=62) rfl rfl rfl rfl ?_
 refine DH (t:=62) rfl rfl rfl rfl ?_
 refine DH (t:=62) rfl rfl rfl rfl ?_
 refine Gt (Cz rfl rfl) (Gm rfl ?_)
 refine DH (t:=67) rfl rfl rfl rfl ?_
 refine DH (t:=67) rfl rfl rfl rfl ?_
 refine Gt (Cz rfl rfl) (Gm rfl ?_)
 refine DH (t:=71) rfl rfl rfl rfl ?_
 refine DH (t:=71) rfl rfl rfl rfl ?_
 refine Gt (Cz rfl rfl) (Gn (.t3 9 11 74) ?_)
 refine HF rfl rfl ?_
 refine Gs (Ga rfl (Ga rfl (Ga rfl (Ga rfl (Gn (.t4 2 3 4 5) (Ac (AE ?_)))))))
 refine AZ rfl (.tmp rfl (.tmp rfl (.tmp rfl (.tmp rfl .n)))) ?_
 intro w1 hS;refine⟨?_,hS.Al⟩;rw [show Words.ER u=_ from((AX c1).trans ((AX c2).trans (AX c3))),Words.XF y7];rfl
theorem Ji (z:Int)(w:World):En Tryz.prog 155 #[.int .i64 z] w fun v w'=>v = .bool (Words.many z)∧B9 w w':=by
 refine Am [] [] Tryz.func155 rfl rfl rfl (St.start w []) ?_
 refine Gs (Ga rfl (Gn (.t1 0) (Gs (Gm rfl (Gt (Ak rfl rfl) (Gm rfl (Bg 5 rfl rfl (fun q=>AD rfl) ?_)))))))
 refine Bg 5 rfl rfl (fun q=>Ak (cF rfl q) rfl) ?_
 refine Gt (BU rfl rfl (fun h=>by rw [h];rfl)) ?_
 refine Gm rfl (Bg 9 rfl rfl (fun q=>AD rfl) (Bg 9 rfl rfl (fun q=>Ak (cF rfl q) rfl) ?_))
 refine Gt (BU rfl rfl (fun h=>by rw [h];rfl)) ?_
 refine Ga rfl (Gn (.t1 2) (Ac ?_))
 refine AZ rfl (.tmp rfl .n) ?_
 intro w1 hS;refine⟨?_,hS.Al⟩;rfl
theorem Is (z:Int)(w:World):En Tryz.prog 156 #[.int .i64 z] w fun v w'=>v = .tuple #[BT (Words.Nl z).1, .bool (Words.Nl z).2]∧B9 w w':=by
 refine Am [] [] Tryz.func156 rfl rfl rfl (St.start w []) ?_
 refine Gs (Ga rfl (Ga rfl (Gn (.t1 0) (CD (Gm rfl (Gn (.t1 4) (Ag ?_)))))))
 refine Gs (Gt (Ak rfl rfl) (Ga rfl (Gn (.t2 4 5) ?_)))
 refine Gc (fun c1=>?_) (fun c1=>?_)
 ·
  refine Gs (Ga rfl (Ga rfl (Gn (.t2 2 3) (Ac (AT (AE ?_))))))
  refine AZ rfl (.tmp rfl (.tmp rfl .n)) ?_
  intro w1 hS;refine⟨?_,hS.Al⟩;rw [show Words.Nl z=_ from(BF c1)];rfl
 refine Gs (Gt (Ak rfl rfl) (Ga rfl (Gn (.t2 4 7) ?_)))
 refine Gc (fun c2=>?_) (fun c2=>?_)
 ·
  refine Gs (Ga rfl (Ga rfl (Gn (.t2 2 3) (Ac (AT (AE ?_))))))
  refine AZ rfl (.tmp rfl (.tmp rfl .n)) ?_
  intro w1 hS;refine⟨?_,hS.Al⟩;rw [show Words.Nl z=_ from((AX c1).trans (BF c2))];rfl
 refine Gs (Gt (Ak rfl rfl) (Ga rfl (Gn (.t1 9) ?_)))
 refine Gc (fun c3=>?_) (fun c3=>?_)
 ·
  refine Gs (Ga rfl (Ga rfl (Gn (.t2 2 3) (Ac (AT (AE ?_))))))
  refine AZ rfl (.tmp rfl (.tmp rfl .n)) ?_
  intro w1 hS;refine⟨?_,hS.Al⟩;rw [show Words.Nl z=_ from((AX c1).trans ((AX c2).trans (BF c3)))];rfl
 refine Aa ?_
 refine AB (.nil _) ?_
 refine AV (AA (Gs (Ga rfl (Ga rfl (AQ (AA (Ac ?_)))))))
 refine AZ rfl (.tmp rfl (.tmp rfl .n)) ?_
 intro w1 hS;refine⟨?_,hS.Al⟩;rw [show Words.Nl z=_ from((AX c1).trans ((AX c2).trans (AX c3)))];rfl
theorem MU (s:Au)(hs:s.length≤4000000)(w:World)(gl0:GV 0 AI.DP w)(gl1:G3 7 w)(gl2:G3 8 w):En Tryz.prog 122 #[BT s] w fun v w'=>v = .tuple #[.agg (Words.parse s).1.enc.toArray, .int .i64 (Words.parse s).2]∧B9 w w':=by
 refine Am [] [] Tryz.func122 rfl rfl rfl (St.start w []) ?_
 refine Gs ?_
 refine BG rfl Lo rfl (fun b1=>?_)
 refine Ga rfl (Gn (.t2 0 2) (Gs (Ga rfl (AQ (AA (Gs (Gm rfl ?_)))))))
 refine Ah rfl bN (.c rfl .n) .n (Mp _ hs) (fun v1 B hv=>?_)
 obtain⟨y2,rfl,y3,rfl⟩:=hv
 refine Ga rfl (Gn (.t4 0 2 4 5) (CD (Gm rfl (Gt (Av rfl Tryz.underlying52 rfl) (Gt (Ak rfl rfl) (Gn (.t5 0 2 4 5 20) ?_))))))
 refine Gc (fun c1=>?_) (fun c1=>?_)
 ·
  have hlen:=y3
  (try simp only [Hd.cut] at c1)
  rw [hlen] at c1
  refine Gs (Gm rfl ?_)
  refine DR rfl Ip rfl (.c rfl .n) .n (Bt _) (fun v5 B hv=>?_)
  obtain⟨rfl,rfl⟩:=hv
  refine Gt (AL rfl rfl) (Gt (AL rfl rfl) ?_)
  refine AU (AK (AS.id Order.fl.len Order.fl.one) rfl rfl rfl ED rfl (.t .h)) ?_
  refine Ga rfl (Gn (.t2 2 3) (Ac (AE ?_)))
  refine AZ rfl (.cell rfl .m1 (.inl ⟨(by rw [Order.fl.len];exact CB),rfl⟩) (.tmp rfl .n)) ?_
  intro w1 hS;refine⟨?_,hS.Al⟩;rw [show Words.parse s=_ from(BF c1)];rfl
 have c1p:=kz c1
 have hlen:=y3
 (try simp only [Hd.cut] at c1)
 rw [hlen] at c1
 refine Aa ?_
 refine AB (.t4 0 2 4 5) ?_
 refine AA (Gs (Gm rfl ?_))
 refine Gt (Bs Io (by decide) (Kn.own .m0) rfl rfl (by omega) (by first | omega | (simp only [Hd.cut] at *;omega) | (simp [Hd.cut] at q ⊢;omega))) ?_
 refine Gt (DM rfl CM (Kn.own .m0) (by first | omega | (simp only [List.length_drop,Hd.cut] at *;omega) | (simp [Hd.cut] at q ⊢;omega))) ?_
 refine BD rfl Zj (.c rfl .n) (fun w hS=>Jh _ w (gl0.st hS)) ?_
 refine Gm rfl (Gt (AL rfl rfl) (Gt (AL rfl rfl) (Ga rfl (Ga rfl (Gn (.t6 0 2 4 5 6 7) (CD (Gm rfl ?_)))))))
 refine Gt (CN rfl rfl) (Gn (.t7 0 2 4 5 6 7 33) ?_)
 refine Gc (fun c2=>?_) (fun c2=>?_)
 ·
  refine Gs (Gm rfl (Gm rfl ?_))
  refine DR rfl Ip rfl (.c rfl .n) .n (Bt _) (fun v6 B hv=>?_)
  obtain⟨rfl,rfl⟩:=hv
  refine Gt (AL rfl rfl) (Gt (AL rfl rfl) ?_)
  refine AU (AK (AS.id Order.fl.len Order.fl.one) rfl rfl rfl ED rfl (.t .h)) ?_
  refine Ga rfl (Gn (.t2 2 3) (Ac (AE ?_)))
  refine AZ rfl (.cell rfl .m1 (.inl ⟨(by rw [Order.fl.len];exact CB),rfl⟩) (.tmp rfl .n)) ?_
  intro w1 hS;refine⟨?_,hS.Al⟩;rw [show Words.parse s=_ from((AX c1).trans (BF c2))];rfl
 have c2p:=kz c2
 refine Aa ?_
 refine AB (.t5 0 2 4 5 6) ?_
 refine AA (Gs (Gm rfl (Gt (BH Sn Lo rfl (.cons Order.l0 rfl rfl rfl .nil)) ?_)))
 refine BG rfl Lo rfl (fun b2=>?_)
 refine AU (AK (AS.id Order.fl.len Order.fl.one) rfl rfl rfl ED rfl .h) ?_
 refine Gn (.t6 0 2 4 5 6 8) (Gs (Gm rfl ?_))
 refine Gl De rfl Tryz.underlying52 Ez rfl rfl (by decide) (by first | omega | (simp only [Hd.cut];omega) | (simp only [Hd.cut] at *;omega)) (fun _=>(.t .h)) ?_
 refine Ga rfl (Gn (.t6 0 2 4 5 6 8) (Aq (Ag (Gs (Gm rfl (Gt (Ak rfl rfl) (Ga rfl ?_)))))))
 refine Gn (.t7 0 2 4 5 6 8 43) ?_
 refine Gc (fun c3=>?_) (fun c3=>?_)
 ·
  have c3p:=kz c3
  refine Gs (Gm rfl ?_)
  refine BD rfl cm (.c rfl (.c rfl .n)) (fun w hS=>Jj _ (by omega) w) ?_
  refine BD rfl cK (.c rfl (.c rfl .n)) (fun w hS=>Iz _ 32 (by have:=Words.Lv 32 s;omega) w) ?_
  refine Gm rfl (Gt (AL rfl rfl) (Gt (AL rfl rfl) (Gt (AL rfl rfl) (Ga rfl (Ga rfl (Ga rfl (Gn (.t4 2 4 8 10) ?_)))))))
  refine CD (Gm rfl ?_)
  refine BD rfl bk (.c rfl (.c rfl .n)) (fun w hS=>IK _ (by have h1:=Words.Lv 32 s;have h2:=Words.NV 32 (Words.QU 32 s);omega) w) ?_
  refine Gt (Aj RA rfl) ?_
  refine AU (AK Order.l5 rfl rfl rfl Ez rfl .h) ?_
  refine Gn (.t3 2 4 8) (Gs (Gt (Aj RA rfl) (Gt (AG rfl CM .m0 Order.l5 rfl rfl) (Gt (Bu rfl rfl) (Gn (.t4 2 4 8 58) ?_)))))
  refine Gc (fun c4=>?_) (fun c4=>?_)
  ·
   refine Gs (Gm rfl ?_)
   refine DR rfl Ip rfl (.c rfl .n) .n (Bt _) (fun v7 B hv=>?_)
   obtain⟨rfl,rfl⟩:=hv
   refine Gt (AL rfl rfl) (Gt (AL rfl rfl) ?_)
   refine AU (AK (AS.id Order.fl.len Order.fl.one) rfl rfl rfl ED rfl (.t (.t .h))) ?_
   refine Ga rfl (Gn (.t2 2 3) (Ac (AE (AT (AE ?_)))))
   refine AZ rfl (.cell rfl .m2 (.inl ⟨(by rw [Order.fl.len];exact CB),rfl⟩) (.tmp rfl .n)) ?_
   intro w1 hS;refine⟨?_,hS.Al⟩;rw [show Words.parse s=_ from((AX c1).trans ((AX c2).trans ((BF c3).trans (BF c4))))];rfl
  refine Aa ?_
  refine AB (.t2 2 8) ?_
  refine AA (Gs (Gt (AY rfl CB .m0 (AS.id Order.fl.len Order.fl.one) rfl) ?_))
  refine AU (AK (AS.id Order.fl.len Order.fl.one) rfl rfl rfl ED rfl (.t (.t .h))) ?_
  refine Ga rfl (Gn (.t2 2 3) (Ac (AT (AE ?_))))
  refine AZ rfl (.cell rfl .m2 (.inl ⟨(by rw [Order.fl.len];exact CB),rfl⟩) (.tmp rfl .n)) ?_
  intro w1 hS;refine⟨?_,hS.Al⟩;rw [show Words.parse s=_ from((AX c1).trans ((AX c2).trans ((BF c3).trans (AX c4))))];rfl
 have c3p:=kz c3
 refine Gs (Gm rfl (Gt (Ic rfl rfl) (Gm rfl (Bg 67 rfl rfl (fun q=>AD rfl) (Bg 67 rfl rfl (fun q=>CK (cF rfl q) rfl) ?_)))))
 refine Gt (BU rfl rfl (fun h=>by rw [h];rfl)) ?_
 refine Ga rfl (Gn (.t6 2 4 5 6 8 64) ?_)
 refine Gc (fun c5=>?_) (fun c5=>?_)
 ·
  refine CD (Gm rfl (Gt (Av rfl Tryz.underlying52 rfl) (Gt (Cp rfl rfl) (Gn (.t4 2 4 8 73) ?_))))
  refine Gc (fun c6=>?_) (fun c6=>?_)
  ·
   (try simp only [Hd.cut] at c6)
   rw [hlen] at c6
   refine Gs (Gm rfl ?_)
   refine DR rfl Ip rfl (.c rfl .n) .n (Bt _) (fun v8 B hv=>?_)
   obtain⟨rfl,rfl⟩:=hv
   refine Gt (AL rfl rfl) (Gt (AL rfl rfl) ?_)
   refine AU (AK (AS.id Order.fl.len Order.fl.one) rfl rfl rfl ED rfl (.t (.t .h))) ?_
   refine Ga rfl (Gn (.t2 2 3) (Ac (AE (AT (AE ?_)))))
   refine AZ rfl (.cell rfl .m2 (.inl ⟨(by rw [Order.fl.len];exact CB),rfl⟩) (.tmp rfl .n)) ?_
   intro w1 hS;refine⟨?_,hS.Al⟩;rw [show Words.parse s=_ from((AX c1).trans ((AX c2).trans ((AX c3).trans ((BF c5).trans (BF c6)))))];rfl
  (try simp only [Hd.cut] at c6)
  rw [hlen] at c6
  refine Aa ?_
  refine AB (.t2 2 8) ?_
  refine AA (Gs (Gt (AY rfl CB .m0 (AS.id Order.fl.len Order.fl.one) rfl) ?_))
  refine AU (AK (AS.id Order.fl.len Order.fl.one) rfl rfl rfl ED rfl (.t (.t .h))) ?_
  refine Ga rfl (Gn (.t2 2 3) (Ac (AT (AE ?_))))
  refine AZ rfl (.cell rfl .m2 (.inl ⟨(by rw [Order.fl.len];exact CB),rfl⟩) (.tmp rfl .n)) ?_
  intro w1 hS;refine⟨?_,hS.Al⟩;rw [show Words.parse s=_ from((AX c1).trans ((AX c2).trans ((AX c3).trans ((BF c5).trans (AX c6)))))];rfl
 have c5p:=kz c5
 refine Gs (Gm rfl (Gt (Av rfl Tryz.underlying52 rfl) (Gt (Ak rfl rfl) (Ga rfl (Gn (.t6 2 4 5 6 8 79) ?_)))))
 refine Gc (fun c7=>?_) (fun c7=>?_)
 ·
  (try simp only [Hd.cut] at c7)
  rw [hlen] at c7
  refine Gs (Gm rfl ?_)
  refine DR rfl Ip rfl (.c rfl .n) .n (Bt _) (fun v9 B hv=>?_)
  obtain⟨rfl,rfl⟩:=hv
  refine Gt (AL rfl rfl) (Gt (AL rfl rfl) ?_)
  refine AU (AK (AS.id Order.fl.len Order.fl.one) rfl rfl rfl ED rfl (.t (.t .h))) ?_
  refine Ga rfl (Gn (.t2 2 3) (Ac (AT (AE ?_))))
  refine AZ rfl (.cell rfl .m2 (.inl ⟨(by rw [Order.fl.len];exact CB),rfl⟩) (.tmp rfl .n)) ?_
  intro w1 hS;refine⟨?_,hS.Al⟩;rw [show Words.parse s=_ from((AX c1).trans ((AX c2).trans ((AX c3).trans ((AX c5).trans (BF c7)))))];rfl
 have c7p:=kz c7
 (try simp only [Hd.cut] at c7)
 rw [hlen] at c7
 refine Aa ?_
 refine AB (.t5 2 4 5 6 8) ?_
 refine AV (AA (CD (Gm rfl (Gt (Ak rfl rfl) (Gm rfl (Bg 89 rfl rfl (fun q=>AD rfl) (Bg 89 rfl rfl (fun q=>Ak (cF rfl q) rfl) ?_)))))))
 refine Gt (BU rfl rfl (fun h=>by rw [h];rfl)) ?_
 refine Gn (.t6 2 4 5 6 8 92) ?_
 refine Gc (fun c8=>?_) (fun c8=>?_)
 ·
  have c8p:=kz c8
  refine Gs (Gm rfl ?_)
  refine Gt (Bs Io (by decide) (Kn.own .m1) rfl rfl (by omega) (by first | omega | (simp only [Hd.cut] at *;omega) | (simp [Hd.cut] at q ⊢;omega))) ?_
  refine Gt (DM rfl CM (Kn.own .m1) (by first | omega | (simp only [List.length_drop,Hd.cut] at *;omega) | (simp [Hd.cut] at q ⊢;omega))) ?_
  refine BD rfl Zj (.c rfl .n) (fun w hS=>Jh _ w (gl0.st hS)) ?_
  refine Gm rfl (Gt (AL rfl rfl) (Gt (AL rfl rfl) (Ga rfl (Ga rfl (Gn (.t7 2 4 5 6 8 12 13) (Gs (Gm rfl ?_)))))))
  refine Gt (Ak rfl rfl) (Gm rfl (Bb 102 rfl rfl (fun q=>AD rfl) (Bb 102 rfl rfl (fun q=>BA (BX rfl q) rfl) (Gt (BI rfl rfl (fun h=>h)) (Gm rfl (Bb 106 rfl rfl (fun q=>AD rfl) (Bb 106 rfl rfl (fun q=>Av rfl Tryz.underlying52 (BX rfl q)) ?_)))))))
  refine Bb 106 rfl rfl (fun q=>Ak (BX rfl q) rfl) (Gt (BI rfl rfl (fun h=>h)) (Gn (.t7 2 4 5 6 8 12 110) ?_))
  refine Gc (fun c9=>?_) (fun c9=>?_)
  ·
   have c9p:=kz c9
   (try simp only [Hd.cut] at c9)
   rw [hlen] at c9
   have hd:0≤(Words.verb (((Words.words s).drop (1:Int).toNat).getD (0:Int).toNat [])).1∧(Words.verb (((Words.words s).drop (1:Int).toNat).getD (0:Int).toNat [])).1 < 6:=⟨(Words.Wh _).1,by have h:=c9;rw [Bool.and_eq_true,Bool.and_eq_true] at h;exact of_decide_eq_true h.1.2⟩
   refine Gs (Gm rfl ?_)
   refine Gt (AN Xo rfl rfl (by first | omega | (simp only [Hd.cut];omega) | (simp only [Hd.cut] at *;omega)) (by first | omega | (simp only [Hd.cut];omega) | (simp only [Hd.cut] at *;omega))) ?_
   refine Gt (RN gl0 rfl CM (AI.O3 hd.1 hd.2)) (Gt (Aj Fq rfl) ?_)
   refine AU (AK Order.l3 rfl rfl rfl Ez rfl .h) ?_
   refine Gt (Aj GZ rfl) ?_
   refine AU (AK Order.l1 rfl rfl rfl DD rfl .h) ?_
   refine Gn (.t2 2 8) (Gs (Gt (AY rfl CB .m0 (AS.id Order.fl.len Order.fl.one) rfl) ?_))
   refine AU (AK (AS.id Order.fl.len Order.fl.one) rfl rfl rfl ED rfl (.t (.t .h))) ?_
   refine Ga rfl (Gn (.t2 2 3) (Ac (AE ?_)))
   refine AZ rfl (.cell rfl .m2 (.inl ⟨(by rw [Order.fl.len];exact CB),rfl⟩) (.tmp rfl .n)) ?_
   intro w1 hS;refine⟨?_,hS.Al⟩;rw [show Words.parse s=_ from((AX c1).trans ((AX c2).trans ((AX c3).trans ((AX c5).trans ((AX c7).trans ((BF c8).trans (BF c9)))))))];rfl
  have c9p:=kz c9
  (try simp only [Hd.cut] at c9)
  rw [hlen] at c9
  refine Aa ?_
  refine AB (.t5 2 4 5 6 8) ?_
  refine AA (CD (Gm rfl ?_))
  refine Gt (Bs Io (by decide) (Kn.own .m1) rfl rfl (by omega) (by first | omega | (simp only [Hd.cut] at *;omega) | (simp [Hd.cut] at q ⊢;omega))) ?_
  refine Gt (DM rfl CM (Kn.own .m1) (by first | omega | (simp only [List.length_drop,Hd.cut] at *;omega) | (simp [Hd.cut] at q ⊢;omega))) ?_
  refine BD rfl U6 (.c rfl .n) (fun w hS=>FV _ (by have:=Words.MV s 0 1;exact Nat.le_trans this (by omega)) w (gl1.st hS) (gl2.st hS)) ?_
  refine Gm rfl (Gt (AL rfl rfl) (Gt (AL rfl rfl) (Gt (AL rfl rfl) (Gt (AL rfl rfl) (Gt (Aj GZ rfl) ?_)))))
  refine AU (AK Order.l1 rfl rfl rfl DD rfl .h) ?_
  refine Gt (Aj Fq rfl) ?_
  refine AU (AK Order.l3 rfl rfl rfl Ez rfl .h) ?_
  refine Gt (Aj HN rfl) ?_
  refine AU (AK Order.l2 rfl rfl rfl Km rfl .h) ?_
  refine Ga rfl (Gn (.t6 2 4 5 6 7 8) (Gs (Gm rfl (Gt (CN rfl rfl) (Gm rfl (Bg 131 rfl rfl (fun q=>Aj HN rfl) (Bg 131 rfl rfl (fun q=>AG (cF rfl q) DO .m0 Order.l2 rfl rfl) ?_)))))))
  refine Bg 131 rfl rfl (fun q=>AD (cF rfl q)) ?_
  refine DX (t:=134) rfl rfl rfl (fun qc q=>AD rfl) ?_
  refine UQ (t:=134) rfl rfl rfl (fun qc q=>by have q1:=q;have qc1:=qc;(try simp at q1 qc1);exact Dl ZT (.c (BX rfl (by rw [qc,q];rfl)) .n) (fun w hS=>Ji _ w)) ?_
  refine DX (t:=134) rfl rfl rfl (fun qc q=>BR (BX rfl (by rw [qc,q];rfl))) ?_
  refine Bg 131 rfl rfl (fun q=>BI (cF rfl q) rfl (fun h=>by rw [q,h];rfl)) ?_
  refine Gt (BU rfl rfl (fun h=>by rw [h];rfl)) ?_
  refine Gn (.t6 2 4 5 6 8 139) ?_
  refine Gc (fun c10=>?_) (fun c10=>?_)
  ·
   refine Gs (Gm rfl ?_)
   refine DR rfl Ip rfl (.c rfl .n) .n (Bt _) (fun v10 B hv=>?_)
   obtain⟨rfl,rfl⟩:=hv
   refine Gt (AL rfl rfl) (Gt (AL rfl rfl) ?_)
   refine AU (AK (AS.id Order.fl.len Order.fl.one) rfl rfl rfl ED rfl (.t (.t .h))) ?_
   refine Ga rfl (Gn (.t2 2 3) (Ac (AE ?_)))
   refine AZ rfl (.cell rfl .m2 (.inl ⟨(by rw [Order.fl.len];exact CB),rfl⟩) (.tmp rfl .n)) ?_
   intro w1 hS;refine⟨?_,hS.Al⟩;rw [show Words.parse s=_ from((AX c1).trans ((AX c2).trans ((AX c3).trans ((AX c5).trans ((AX c7).trans ((BF c8).trans ((AX c9).trans (BF c10))))))))];rfl
  have c10p:=kz c10
  refine Aa ?_
  refine AB (.t5 2 4 5 6 8) ?_
  refine AA (Gs (Gm rfl ?_))
  refine BD rfl ZR (.c rfl .n) (fun w hS=>Is _ w) ?_
  refine Gm rfl (Gt (AL rfl rfl) (Gt (AL rfl rfl) (Ga rfl (Ga rfl (Gn (.t6 2 4 5 8 14 15) (Gs (Gm rfl ?_)))))))
  refine Gl De rfl Tryz.underlying52 Ez rfl rfl (by decide) (by first | omega | (simp only [Hd.cut];omega) | (simp only [Hd.cut] at *;omega)) (fun _=>(.t .h)) ?_
  refine Ga rfl (Gn (.t6 2 4 5 8 14 15) (CD (Gm rfl (Gt (Av rfl Tryz.underlying52 rfl) (Gt (Cp rfl rfl) (Gm rfl (Bb 154 rfl rfl (fun q=>AD rfl) ?_)))))))
  refine Bb 154 rfl rfl (fun q=>Dt (BX rfl q) rfl) (Gt (BI rfl rfl (fun h=>h)) (Gm rfl (Bb 158 rfl rfl (fun q=>AD rfl) ?_)))
  refine Bb 158 rfl rfl (fun q=>by have q1:=q;(try simp at q1);exact Bs Io (by decide) (Kn.own .m1) (BX rfl q) rfl (by omega) (by first | omega | (simp only [Hd.cut] at *;omega) | (simp [Hd.cut] at q ⊢;omega))) ?_
  refine Bb 158 rfl rfl (fun q=>by have q1:=q;(try simp at q1);exact DM (BX rfl q) CM (Kn.own .m1) (by first | omega | (simp only [List.length_drop,Hd.cut] at *;omega) | (simp [Hd.cut] at q ⊢;omega))) ?_
  refine Bb 158 rfl rfl (fun q=>AD rfl) (Bb 158 rfl rfl (fun q=>Bu (BX rfl q) (BX rfl q)) (Gt (BI rfl rfl (fun h=>h)) (Gn (.t7 2 4 5 8 14 15 164) ?_)))
  refine Gc (fun c11=>?_) (fun c11=>?_)
  ·
   have c11p:=kz c11
   (try simp only [Hd.cut] at c11)
   rw [hlen] at c11
   refine Gs (Gm rfl ?_)
   refine Gl De rfl Tryz.underlying52 Ez rfl rfl (by decide) (by first | omega | (simp only [Hd.cut];omega) | (simp only [Hd.cut] at *;omega)) (fun _=>(.t .h)) ?_
   refine Ga rfl (Gn (.t6 2 4 5 8 14 15) (Gs (Gm rfl (Gt (Av rfl Tryz.underlying52 rfl) (Gt (Ak rfl rfl) (Gn (.t7 2 4 5 8 14 15 169) ?_))))))
   refine Gc (fun c12=>?_) (fun c12=>?_)
   ·
    (try simp only [Hd.cut] at c12)
    rw [hlen] at c12
    refine Gs (Gm rfl ?_)
    refine DR rfl Ip rfl (.c rfl .n) .n (Bt _) (fun v11 B hv=>?_)
    obtain⟨rfl,rfl⟩:=hv
    refine Gt (AL rfl rfl) (Gt (AL rfl rfl) ?_)
    refine AU (AK (AS.id Order.fl.len Order.fl.one) rfl rfl rfl ED rfl (.t (.t .h))) ?_
    refine Ga rfl (Gn (.t2 2 3) (Ac (AE ?_)))
    refine AZ rfl (.cell rfl .m2 (.inl ⟨(by rw [Order.fl.len];exact CB),rfl⟩) (.tmp rfl .n)) ?_
    intro w1 hS;refine⟨?_,hS.Al⟩;rw [show Words.parse s=_ from((AX c1).trans ((AX c2).trans ((AX c3).trans ((AX c5).trans ((AX c7).trans ((BF c8).trans ((AX c9).trans ((AX c10).trans ((BF c11).trans (BF c12))))))))))];rfl
   have c12p:=kz c12
   (try simp only [Hd.cut] at c12)
   rw [hlen] at c12
   refine Aa ?_
   refine AB (.t6 2 4 5 8 14 15) ?_
   refine AA (Aq (Ag (Gs (Gm rfl (Gt (Av rfl Tryz.underlying52 rfl) (Gt (Ak rfl rfl) (Gm rfl ?_)))))))
   refine Bb 178 rfl rfl (fun q=>AD rfl) (Bb 178 rfl rfl (fun q=>BR (BX rfl q)) (Gt (BI rfl rfl (fun h=>h)) (Ga rfl (Gn (.t6 2 4 5 8 14 174) ?_))))
   refine Gc (fun c13=>?_) (fun c13=>?_)
   ·
    (try simp only [Hd.cut] at c13)
    rw [hlen] at c13
    refine Gs (Gt (AY rfl CB .m0 (AS.id Order.fl.len Order.fl.one) rfl) ?_)
    refine AU (AK (AS.id Order.fl.len Order.fl.one) rfl rfl rfl ED rfl (.t (.t .h))) ?_
    refine Ga rfl (Gn (.t2 2 3) (Ac (AT (AE ?_))))
    refine AZ rfl (.cell rfl .m2 (.inl ⟨(by rw [Order.fl.len];exact CB),rfl⟩) (.tmp rfl .n)) ?_
    intro w1 hS;refine⟨?_,hS.Al⟩;rw [show Words.parse s=_ from((AX c1).trans ((AX c2).trans ((AX c3).trans ((AX c5).trans ((AX c7).trans ((BF c8).trans ((AX c9).trans ((AX c10).trans ((BF c11).trans ((AX c12).trans (BF c13)))))))))))];rfl
   have c13p:=kz c13
   (try simp only [Hd.cut] at c13)
   rw [hlen] at c13
   refine Gs (Gm rfl (Gt (Av rfl Tryz.underlying52 rfl) (Gt (CN rfl rfl) (Gm rfl (Bg 187 rfl rfl (fun q=>AD rfl) (Bg 187 rfl rfl (fun q=>Bu (cF rfl q) rfl) ?_))))))
   refine Gt (BU rfl rfl (fun h=>by rw [h];rfl)) ?_
   refine Ga rfl (Gn (.t5 2 4 5 8 183) ?_)
   refine Gc (fun c14=>?_) (fun c14=>?_)
   ·
    (try simp only [Hd.cut] at c14)
    rw [hlen] at c14
    refine Gs (Gm rfl ?_)
    refine DR rfl Ip rfl (.c rfl .n) .n (Bt _) (fun v12 B hv=>?_)
    obtain⟨rfl,rfl⟩:=hv
    refine Gt (AL rfl rfl) (Gt (AL rfl rfl) ?_)
    refine AU (AK (AS.id Order.fl.len Order.fl.one) rfl rfl rfl ED rfl (.t (.t .h))) ?_
    refine Ga rfl (Gn (.t2 2 3) (Ac (AT (AE ?_))))
    refine AZ rfl (.cell rfl .m2 (.inl ⟨(by rw [Order.fl.len];exact CB),rfl⟩) (.tmp rfl .n)) ?_
    intro w1 hS;refine⟨?_,hS.Al⟩;rw [show Words.parse s=_ from((AX c1).trans ((AX c2).trans ((AX c3).trans ((AX c5).trans ((AX c7).trans ((BF c8).trans ((AX c9).trans ((AX c10).trans ((BF c11).trans ((AX c12).trans ((AX c13).trans (BF c14))))))))))))];rfl
   have c14p:=kz c14
   (try simp only [Hd.cut] at c14)
   rw [hlen] at c14
   refine Aa ?_
   refine AB (.t3 2 5 8) ?_
   refine AV (AA (Gs (Gm rfl ?_)))
   refine Gt (Bs Io (by decide) (Kn.own .m1) rfl rfl (by omega) (by first | omega | (simp only [Hd.cut] at *;omega) | (simp [Hd.cut] at q ⊢;omega))) ?_
   refine Gt (DM rfl CM (Kn.own .m1) (by first | omega | (simp only [List.length_drop,Hd.cut] at *;omega) | (simp [Hd.cut] at q ⊢;omega))) ?_
   refine Gt (Aj IN rfl) ?_
   refine AU (AK Order.l4 rfl rfl rfl Ez rfl .h) ?_
   refine Gn (.t2 2 8) (Gs (Gt (AY rfl CB .m0 (AS.id Order.fl.len Order.fl.one) rfl) ?_))
   refine AU (AK (AS.id Order.fl.len Order.fl.one) rfl rfl rfl ED rfl (.t (.t .h))) ?_
   refine Ga rfl (Gn (.t2 2 3) (Ac ?_))
   refine AZ rfl (.cell rfl .m2 (.inl ⟨(by rw [Order.fl.len];exact CB),rfl⟩) (.tmp rfl .n)) ?_
   intro w1 hS;refine⟨?_,hS.Al⟩;rw [show Words.parse s=_ from((AX c1).trans ((AX c2).trans ((AX c3).trans ((AX c5).trans ((AX c7).trans ((BF c8).trans ((AX c9).trans ((AX c10).trans ((BF c11).trans ((AX c12).trans ((AX c13).trans (AX c14))))))))))))];rfl
  have c11p:=kz c11
  (try simp only [Hd.cut] at c11)
  rw [hlen] at c11
  refine Aa ?_
  refine AB (.t6 2 4 5 8 14 15) ?_
  refine AA (Aq (Ag (Gs (Gm rfl (Gt (Av rfl Tryz.underlying52 rfl) (Gt (Ak rfl rfl) (Gm rfl ?_)))))))
  refine Bb 178 rfl rfl (fun q=>AD rfl) (Bb 178 rfl rfl (fun q=>BR (BX rfl q)) (Gt (BI rfl rfl (fun h=>h)) (Ga rfl (Gn (.t6 2 4 5 8 14 174) ?_))))
  refine Gc (fun c15=>?_) (fun c15=>?_)
  ·
   (try simp only [Hd.cut] at c15)
   rw [hlen] at c15
   refine Gs (Gt (AY rfl CB .m0 (AS.id Order.fl.len Order.fl.one) rfl) ?_)
   refine AU (AK (AS.id Order.fl.len Order.fl.one) rfl rfl rfl ED rfl (.t (.t .h))) ?_
   refine Ga rfl (Gn (.t2 2 3) (Ac (AT (AE ?_))))
   refine AZ rfl (.cell rfl .m2 (.inl ⟨(by rw [Order.fl.len];exact CB),rfl⟩) (.tmp rfl .n)) ?_
   intro w1 hS;refine⟨?_,hS.Al⟩;rw [show Words.parse s=_ from((AX c1).trans ((AX c2).trans ((AX c3).trans ((AX c5).trans ((AX c7).trans ((BF c8).trans ((AX c9).trans ((AX c10).trans ((AX c11).trans (BF c15))))))))))];rfl
  have c15p:=kz c15
  (try simp only [Hd.cut] at c15)
  rw [hlen] at c15
  refine Gs (Gm rfl (Gt (Av rfl Tryz.underlying52 rfl) (Gt (CN rfl rfl) (Gm rfl (Bg 187 rfl rfl (fun q=>AD rfl) (Bg 187 rfl rfl (fun q=>Bu (cF rfl q) rfl) ?_))))))
  refine Gt (BU rfl rfl (fun h=>by rw [h];rfl)) ?_
  refine Ga rfl (Gn (.t5 2 4 5 8 183) ?_)
  refine Gc (fun c16=>?_) (fun c16=>?_)
  ·
   (try simp only [Hd.cut] at c16)
   rw [hlen] at c16
   refine Gs (Gm rfl ?_)
   refine DR rfl Ip rfl (.c rfl .n) .n (Bt _) (fun v13 B hv=>?_)
   obtain⟨rfl,rfl⟩:=hv
   refine Gt (AL rfl rfl) (Gt (AL rfl rfl) ?_)
   refine AU (AK (AS.id Order.fl.len Order.fl.one) rfl rfl rfl ED rfl (.t (.t .h))) ?_
   refine Ga rfl (Gn (.t2 2 3) (Ac (AT (AE ?_))))
   refine AZ rfl (.cell rfl .m2 (.inl ⟨(by rw [Order.fl.len];exact CB),rfl⟩) (.tmp rfl .n)) ?_
   intro w1 hS;refine⟨?_,hS.Al⟩;rw [show Words.parse s=_ from((AX c1).trans ((AX c2).trans ((AX c3).trans ((AX c5).trans ((AX c7).trans ((BF c8).trans ((AX c9).trans ((AX c10).trans ((AX c11).trans ((AX c15).trans (BF c16)))))))))))];rfl
  have c16p:=kz c16
  (try simp only [Hd.cut] at c16)
  rw [hlen] at c16
  refine Aa ?_
  refine AB (.t3 2 5 8) ?_
  refine AV (AA (Gs (Gm rfl ?_)))
  refine Gt (Bs Io (by decide) (Kn.own .m1) rfl rfl (by omega) (by first | omega | (simp only [Hd.cut] at *;omega) | (simp [Hd.cut] at q ⊢;omega))) ?_
  refine Gt (DM rfl CM (Kn.own .m1) (by first | omega | (simp only [List.length_drop,Hd.cut] at *;omega) | (simp [Hd.cut] at q ⊢;omega))) ?_
  refine Gt (Aj IN rfl) ?_
  refine AU (AK Order.l4 rfl rfl rfl Ez rfl .h) ?_
  refine Gn (.t2 2 8) (Gs (Gt (AY rfl CB .m0 (AS.id Order.fl.len Order.fl.one) rfl) ?_))
  refine AU (AK (AS.id Order.fl.len Order.fl.one) rfl rfl rfl ED rfl (.t (.t .h))) ?_
  refine Ga rfl (Gn (.t2 2 3) (Ac ?_))
  refine AZ rfl (.cell rfl .m2 (.inl ⟨(by rw [Order.fl.len];exact CB),rfl⟩) (.tmp rfl .n)) ?_
  intro w1 hS;refine⟨?_,hS.Al⟩;rw [show Words.parse s=_ from((AX c1).trans ((AX c2).trans ((AX c3).trans ((AX c5).trans ((AX c7).trans ((BF c8).trans ((AX c9).trans ((AX c10).trans ((AX c11).trans ((AX c15).trans (AX c16)))))))))))];rfl
 have c8p:=kz c8
 refine Aa ?_
 refine AB (.t5 2 4 5 6 8) ?_
 refine AA (CD (Gm rfl ?_))
 refine Gt (Bs Io (by decide) (Kn.own .m1) rfl rfl (by omega) (by first | omega | (simp only [Hd.cut] at *;omega) | (simp [Hd.cut] at q ⊢;omega))) ?_
 refine Gt (DM rfl CM (Kn.own .m1) (by first | omega | (simp only [List.length_drop,Hd.cut] at *;omega) | (simp [Hd.cut] at q ⊢;omega))) ?_
 refine BD rfl U6 (.c rfl .n) (fun w hS=>FV _ (by have:=Words.MV s 0 1;exact Nat.le_trans this (by omega)) w (gl1.st hS) (gl2.st hS)) ?_
 refine Gm rfl (Gt (AL rfl rfl) (Gt (AL rfl rfl) (Gt (AL rfl rfl) (Gt (AL rfl rfl) (Gt (Aj GZ rfl) ?_)))))
 refine AU (AK Order.l1 rfl rfl rfl DD rfl .h) ?_
 refine Gt (Aj Fq rfl) ?_
 refine AU (AK Order.l3 rfl rfl rfl Ez rfl .h) ?_
 refine Gt (Aj HN rfl) ?_
 refine AU (AK Order.l2 rfl rfl rfl Km rfl .h) ?_
 refine Ga rfl (Gn (.t6 2 4 5 6 7 8) (Gs (Gm rfl (Gt (CN rfl rfl) (Gm rfl (Bg 131 rfl rfl (fun q=>Aj HN rfl) (Bg 131 rfl rfl (fun q=>AG (cF rfl q) DO .m0 Order.l2 rfl rfl) ?_)))))))
 refine Bg 131 rfl rfl (fun q=>AD (cF rfl q)) ?_
 refine DX (t:=134) rfl rfl rfl (fun qc q=>AD rfl) ?_
 refine UQ (t:=134) rfl rfl rfl (fun qc q=>by have q1:=q;have qc1:=qc;(try simp at q1 qc1);exact Dl ZT (.c (BX rfl (by rw [qc,q];rfl)) .n) (fun w hS=>Ji _ w)) ?_
 refine DX (t:=134) rfl rfl rfl (fun qc q=>BR (BX rfl (by rw [qc,q];rfl))) ?_
 refine Bg 131 rfl rfl (fun q=>BI (cF rfl q) rfl (fun h=>by rw [q,h];rfl)) ?_
 refine Gt (BU rfl rfl (fun h=>by rw [h];rfl)) ?_
 refine Gn (.t6 2 4 5 6 8 139) ?_
 refine Gc (fun c17=>?_) (fun c17=>?_)
 ·
  refine Gs (Gm rfl ?_)
  refine DR rfl Ip rfl (.c rfl .n) .n (Bt _) (fun v14 B hv=>?_)
  obtain⟨rfl,rfl⟩:=hv
  refine Gt (AL rfl rfl) (Gt (AL rfl rfl) ?_)
  refine AU (AK (AS.id Order.fl.len Order.fl.one) rfl rfl rfl ED rfl (.t (.t .h))) ?_
  refine Ga rfl (Gn (.t2 2 3) (Ac (AE ?_)))
  refine AZ rfl (.cell rfl .m2 (.inl ⟨(by rw [Order.fl.len];exact CB),rfl⟩) (.tmp rfl .n)) ?_
  intro w1 hS;refine⟨?_,hS.Al⟩;rw [show Words.parse s=_ from((AX c1).trans ((AX c2).trans ((AX c3).trans ((AX c5).trans ((AX c7).trans ((AX c8).trans (BF c17)))))))];rfl
 have c17p:=kz c17
 refine Aa ?_
 refine AB (.t5 2 4 5 6 8) ?_
 refine AA (Gs (Gm rfl ?_))
 refine BD rfl ZR (.c rfl .n) (fun w hS=>Is _ w) ?_
 refine Gm rfl (Gt (AL rfl rfl) (Gt (AL rfl rfl) (Ga rfl (Ga rfl (Gn (.t6 2 4 5 8 14 15) (Gs (Gm rfl ?_)))))))
 refine Gl De rfl Tryz.underlying52 Ez rfl rfl (by decide) (by first | omega | (simp only [Hd.cut];omega) | (simp only [Hd.cut] at *;omega)) (fun _=>(.t .h)) ?_
 refine Ga rfl (Gn (.t6 2 4 5 8 14 15) (CD (Gm rfl (Gt (Av rfl Tryz.underlying52 rfl) (Gt (Cp rfl rfl) (Gm rfl (Bb 154 rfl rfl (fun q=>AD rfl) ?_)))))))
 refine Bb 154 rfl rfl (fun q=>Dt (BX rfl q) rfl) (Gt (BI rfl rfl (fun h=>h)) (Gm rfl (Bb 158 rfl rfl (fun q=>AD rfl) ?_)))
 refine Bb 158 rfl rfl (fun q=>by have q1:=q;(try simp at q1);exact Bs Io (by decide) (Kn.own .m1) (BX rfl q) rfl (by omega) (by first | omega | (simp only [Hd.cut] at *;omega) | (simp [Hd.cut] at q ⊢;omega))) ?_
 refine Bb 158 rfl rfl (fun q=>by have q1:=q;(try simp at q1);exact DM (BX rfl q) CM (Kn.own .m1) (by first | omega | (simp only [List.length_drop,Hd.cut] at *;omega) | (simp [Hd.cut] at q ⊢;omega))) ?_
 refine Bb 158 rfl rfl (fun q=>AD rfl) (Bb 158 rfl rfl (fun q=>Bu (BX rfl q) (BX rfl q)) (Gt (BI rfl rfl (fun h=>h)) (Gn (.t7 2 4 5 8 14 15 164) ?_)))
 refine Gc (fun c18=>?_) (fun c18=>?_)
 ·
  have c18p:=kz c18
  (try simp only [Hd.cut] at c18)
  rw [hlen] at c18
  refine Gs (Gm rfl ?_)
  refine Gl De rfl Tryz.underlying52 Ez rfl rfl (by decide) (by first | omega | (simp only [Hd.cut];omega) | (simp only [Hd.cut] at *;omega)) (fun _=>(.t .h)) ?_
  refine Ga rfl (Gn (.t6 2 4 5 8 14 15) (Gs (Gm rfl (Gt (Av rfl Tryz.underlying52 rfl) (Gt (Ak rfl rfl) (Gn (.t7 2 4 5 8 14 15 169) ?_))))))
  refine Gc (fun c19=>?_) (fun c19=>?_)
  ·
   (try simp only [Hd.cut] at c19)
   rw [hlen] at c19
   refine Gs (Gm rfl ?_)
   refine DR rfl Ip rfl (.c rfl .n) .n (Bt _) (fun v15 B hv=>?_)
   obtain⟨rfl,rfl⟩:=hv
   refine Gt (AL rfl rfl) (Gt (AL rfl rfl) ?_)
   refine AU (AK (AS.id Order.fl.len Order.fl.one) rfl rfl rfl ED rfl (.t (.t .h))) ?_
   refine Ga rfl (Gn (.t2 2 3) (Ac (AE ?_)))
   refine AZ rfl (.cell rfl .m2 (.inl ⟨(by rw [Order.fl.len];exact CB),rfl⟩) (.tmp rfl .n)) ?_
   intro w1 hS;refine⟨?_,hS.Al⟩;rw [show Words.parse s=_ from((AX c1).trans ((AX c2).trans ((AX c3).trans ((AX c5).trans ((AX c7).trans ((AX c8).trans ((AX c17).trans ((BF c18).trans (BF c19)))))))))];rfl
  have c19p:=kz c19
  (try simp only [Hd.cut] at c19)
  rw [hlen] at c19
  refine Aa ?_
  refine AB (.t6 2 4 5 8 14 15) ?_
  refine AA (Aq (Ag (Gs (Gm rfl (Gt (Av rfl Tryz.underlying52 rfl) (Gt (Ak rfl rfl) (Gm rfl ?_)))))))
  refine Bb 178 rfl rfl (fun q=>AD rfl) (Bb 178 rfl rfl (fun q=>BR (BX rfl q)) (Gt (BI rfl rfl (fun h=>h)) (Ga rfl (Gn (.t6 2 4 5 8 14 174) ?_))))
  refine Gc (fun c20=>?_) (fun c20=>?_)
  ·
   (try simp only [Hd.cut] at c20)
   rw [hlen] at c20
   refine Gs (Gt (AY rfl CB .m0 (AS.id Order.fl.len Order.fl.one) rfl) ?_)
   refine AU (AK (AS.id Order.fl.len Order.fl.one) rfl rfl rfl ED rfl (.t (.t .h))) ?_
   refine Ga rfl (Gn (.t2 2 3) (Ac (AT (AE ?_))))
   refine AZ rfl (.cell rfl .m2 (.inl ⟨(by rw [Order.fl.len];exact CB),rfl⟩) (.tmp rfl .n)) ?_
   intro w1 hS;refine⟨?_,hS.Al⟩;rw [show Words.parse s=_ from((AX c1).trans ((AX c2).trans ((AX c3).trans ((AX c5).trans ((AX c7).trans ((AX c8).trans ((AX c17).trans ((BF c18).trans ((AX c19).trans (BF c20))))))))))];rfl
  have c20p:=kz c20
  (try simp only [Hd.cut] at c20)
  rw [hlen] at c20
  refine Gs (Gm rfl (Gt (Av rfl Tryz.underlying52 rfl) (Gt (CN rfl rfl) (Gm rfl (Bg 187 rfl rfl (fun q=>AD rfl) (Bg 187 rfl rfl (fun q=>Bu (cF rfl q) rfl) ?_))))))
  refine Gt (BU rfl rfl (fun h=>by rw [h];rfl)) ?_
  refine Ga rfl (Gn (.t5 2 4 5 8 183) ?_)
  refine Gc (fun c21=>?_) (fun c21=>?_)
  ·
   (try simp only [Hd.cut] at c21)
   rw [hlen] at c21
   refine Gs (Gm rfl ?_)
   refine DR rfl Ip rfl (.c rfl .n) .n (Bt _) (fun v16 B hv=>?_)
   obtain⟨rfl,rfl⟩:=hv
   refine Gt (AL rfl rfl) (Gt (AL rfl rfl) ?_)
   refine AU (AK (AS.id Order.fl.len Order.fl.one) rfl rfl rfl ED rfl (.t (.t .h))) ?_
   refine Ga rfl (Gn (.t2 2 3) (Ac (AT (AE ?_))))
   refine AZ rfl (.cell rfl .m2 (.inl ⟨(by rw [Order.fl.len];exact CB),rfl⟩) (.tmp rfl .n)) ?_
   intro w1 hS;refine⟨?_,hS.Al⟩;rw [show Words.parse s=_ from((AX c1).trans ((AX c2).trans ((AX c3).trans ((AX c5).trans ((AX c7).trans ((AX c8).trans ((AX c17).trans ((BF c18).trans ((AX c19).trans ((AX c20).trans (BF c21)))))))))))];rfl
  have c21p:=kz c21
  (try simp only [Hd.cut] at c21)
  rw [hlen] at c21
  refine Aa ?_
  refine AB (.t3 2 5 8) ?_
  refine AV (AA (Gs (Gm rfl ?_)))
  refine Gt (Bs Io (by decide) (Kn.own .m1) rfl rfl (by omega) (by first | omega | (simp only [Hd.cut] at *;omega) | (simp [Hd.cut] at q ⊢;omega))) ?_
  refine Gt (DM rfl CM (Kn.own .m1) (by first | omega | (simp only [List.length_drop,Hd.cut] at *;omega) | (simp [Hd.cut] at q ⊢;omega))) ?_
  refine Gt (Aj IN rfl) ?_
  refine AU (AK Order.l4 rfl rfl rfl Ez rfl .h) ?_
  refine Gn (.t2 2 8) (Gs (Gt (AY rfl CB .m0 (AS.id Order.fl.len Order.fl.one) rfl) ?_))
  refine AU (AK (AS.id Order.fl.len Order.fl.one) rfl rfl rfl ED rfl (.t (.t .h))) ?_
  refine Ga rfl (Gn (.t2 2 3) (Ac ?_))
  refine AZ rfl (.cell rfl .m2 (.inl ⟨(by rw [Order.fl.len];exact CB),rfl⟩) (.tmp rfl .n)) ?_
  intro w1 hS;refine⟨?_,hS.Al⟩;rw [show Words.parse s=_ from((AX c1).trans ((AX c2).trans ((AX c3).trans ((AX c5).trans ((AX c7).trans ((AX c8).trans ((AX c17).trans ((BF c18).trans ((AX c19).trans ((AX c20).trans (AX c21)))))))))))];rfl
 have c18p:=kz c18
 (try simp only [Hd.cut] at c18)
 rw [hlen] at c18
 refine Aa ?_
 refine AB (.t6 2 4 5 8 14 15) ?_
 refine AA (Aq (Ag (Gs (Gm rfl (Gt (Av rfl Tryz.underlying52 rfl) (Gt (Ak rfl rfl) (Gm rfl ?_)))))))
 refine Bb 178 rfl rfl (fun q=>AD rfl) (Bb 178 rfl rfl (fun q=>BR (BX rfl q)) (Gt (BI rfl rfl (fun h=>h)) (Ga rfl (Gn (.t6 2 4 5 8 14 174) ?_))))
 refine Gc (fun c22=>?_) (fun c22=>?_)
 ·
  (try simp only [Hd.cut] at c22)
  rw [hlen] at c22
  refine Gs (Gt (AY rfl CB .m0 (AS.id Order.fl.len Order.fl.one) rfl) ?_)
  refine AU (AK (AS.id Order.fl.len Order.fl.one) rfl rfl rfl ED rfl (.t (.t .h))) ?_
  refine Ga rfl (Gn (.t2 2 3) (Ac (AT (AE ?_))))
  refine AZ rfl (.cell rfl .m2 (.inl ⟨(by rw [Order.fl.len];exact CB),rfl⟩) (.tmp rfl .n)) ?_
  intro w1 hS;refine⟨?_,hS.Al⟩;rw [show Words.parse s=_ from((AX c1).trans ((AX c2).trans ((AX c3).trans ((AX c5).trans ((AX c7).trans ((AX c8).trans ((AX c17).trans ((AX c18).trans (BF c22)))))))))];rfl
 have c22p:=kz c22
 (try simp only [Hd.cut] at c22)
 rw [hlen] at c22
 refine Gs (Gm rfl (Gt (Av rfl Tryz.underlying52 rfl) (Gt (CN rfl rfl) (Gm rfl (Bg 187 rfl rfl (fun q=>AD rfl) (Bg 187 rfl rfl (fun q=>Bu (cF rfl q) rfl) ?_))))))
 refine Gt (BU rfl rfl (fun h=>by rw [h];rfl)) ?_
 refine Ga rfl (Gn (.t5 2 4 5 8 183) ?_)
 refine Gc (fun c23=>?_) (fun c23=>?_)
 ·
  (try simp only [Hd.cut] at c23)
  rw [hlen] at c23
  refine Gs (Gm rfl ?_)
  refine DR rfl Ip rfl (.c rfl .n) .n (Bt _) (fun v17 B hv=>?_)
  obtain⟨rfl,rfl⟩:=hv
  refine Gt (AL rfl rfl) (Gt (AL rfl rfl) ?_)
  refine AU (AK (AS.id Order.fl.len Order.fl.one) rfl rfl rfl ED rfl (.t (.t .h))) ?_
  refine Ga rfl (Gn (.t2 2 3) (Ac (AT (AE ?_))))
  refine AZ rfl (.cell rfl .m2 (.inl ⟨(by rw [Order.fl.len];exact CB),rfl⟩) (.tmp rfl .n)) ?_
  intro w1 hS;refine⟨?_,hS.Al⟩;rw [show Words.parse s=_ from((AX c1).trans ((AX c2).trans ((AX c3).trans ((AX c5).trans ((AX c7).trans ((AX c8).trans ((AX c17).trans ((AX c18).trans ((AX c22).trans (BF c23))))))))))];rfl
 have c23p:=kz c23
 (try simp only [Hd.cut] at c23)
 rw [hlen] at c23
 refine Aa ?_
 refine AB (.t3 2 5 8) ?_
 refine AV (AA (Gs (Gm rfl ?_)))
 refine Gt (Bs Io (by decide) (Kn.own .m1) rfl rfl (by omega) (by first | omega | (simp only [Hd.cut] at *;omega) | (simp [Hd.cut] at q ⊢;omega))) ?_
 refine Gt (DM rfl CM (Kn.own .m1) (by first | omega | (simp only [List.length_drop,Hd.cut] at *;omega) | (simp [Hd.cut] at q ⊢;omega))) ?_
 refine Gt (Aj IN rfl) ?_
 refine AU (AK Order.l4 rfl rfl rfl Ez rfl .h) ?_
 refine Gn (.t2 2 8) (Gs (Gt (AY rfl CB .m0 (AS.id Order.fl.len Order.fl.one) rfl) ?_))
 refine AU (AK (AS.id Order.fl.len Order.fl.one) rfl rfl rfl ED rfl (.t (.t .h))) ?_
 refine Ga rfl (Gn (.t2 2 3) (Ac ?_))
 refine AZ rfl (.cell rfl .m2 (.inl ⟨(by rw [Order.fl.len];exact CB),rfl⟩) (.tmp rfl .n)) ?_
 intro w1 hS;refine⟨?_,hS.Al⟩;rw [show Words.parse s=_ from((AX c1).trans ((AX c2).trans ((AX c3).trans ((AX c5).trans ((AX c7).trans ((AX c8).trans ((AX c17).trans ((AX c18).trans ((AX c22).trans (AX c23))))))))))];rfl
theorem Ha (d:Int)(w:World):En Tryz.prog 128 #[.int .i64 d] w fun v w'=>v = .int .i64 (AI.opposite d)∧B9 w w':=by
 refine Am [] [] Tryz.func128 rfl rfl rfl (St.start w []) ?_
 refine Gs (Ga rfl (Gn (.t1 0) (Gs (Gm rfl (Gt (MG rfl rfl) (Gt (Ly rfl rfl) ?_))))))
 refine Gt (Ax rfl rfl (IntWalk.i64_in _ (by omega))) ?_
 refine Gt (TC rfl rfl (by omega)) ?_
 refine Ga rfl (Gn (.t1 2) (Ac ?_))
 refine AZ rfl (.tmp rfl .n) ?_
 intro w1 hS;refine⟨?_,hS.Al⟩;rfl
theorem Q4 (b:Nat)(T:AF)(g:Hd)(d:Int)(hg:g.len=T.out.length)(hF:T.Fit)(hd:0≤d∧d < 6)(hn:T.out.length≤80000):Fa Tryz.prog 99 #[.pointer (some ⟨b,0,none⟩), .int .i64 d] [Ad.box b 163 (Ae.enc ⟨T.w,T.b,g⟩),Ad.own g 56 16 (T.out.flatMap Ing.Event.enc)] (fun w=>(GV 0 AI.DP w∧0 ∉ Cj [Ad.box b 163 (Ae.enc ⟨T.w,T.b,g⟩),Ad.own g 56 16 (T.out.flatMap Ing.Event.enc)])) (fun v B=>∃ g':Hd,v = .tuple #[]∧g'.len=(T.walk d).out.length∧B = [Ad.box b 163 (Ae.enc ⟨(T.walk d).w,(T.walk d).b,g'⟩),Ad.own g' 56 16 ((T.walk d).out.flatMap Ing.Event.enc)]):=by
 intro w hS0 hH
 obtain⟨gl0,gm0⟩:=hH
 have hb:=hF.b
 have hr:=hF.room
 have hx:=hF.exit hd.1 hd.2
 refine Am _ _ Tryz.func99 rfl rfl rfl (hS0) ?_
 refine Aq ?_
 refine BE (N:=19) [0,0,0,4,12,28,2,66,194,510,1022,2046,1,4097,12289,32767,65535,0,262143] mix (by kernel_rfl) rfl ?_
 refine Pf 0 rfl (AD rfl) (Pf 1 rfl (AD rfl) (Pf 2 rfl (AD rfl) (Pf 3 rfl (BV rfl) (Pf 4 rfl (Aj CV rfl) (Pf 5 rfl (AG rfl A5 .m0 Ae.l1 rfl rfl) (Pf 6 rfl (BV rfl) (Pf 7 rfl (Aj BC rfl) ?_)))))))
 refine Pf 8 rfl (Aj Br rfl) ?_
 refine Pf 9 rfl (AN C8 rfl rfl (by first | omega | exact hb.1 | exact hb.2 | (dsimp only;omega)) (by first | omega | exact hb.1 | exact hb.2 | (dsimp only;omega))) ?_
 refine Pf 10 rfl (Aj C6 rfl) ?_
 refine Pf 11 rfl (AG rfl A5 .m0 (((Ae.l0.comp AI.l2).comp (AS.ar (n:=6) An.fl (by first | omega | exact hb | (dsimp only;omega)))).comp An.l3) rfl rfl) ?_
 refine Pf 12 rfl (BV rfl) (Pf 13 rfl (Aj BC rfl) (Pf 14 rfl (Aj G7 rfl) ?_))
 refine Pf 15 rfl (AN Nw rfl rfl (by first | omega | exact hb.1 | exact hb.2 | (dsimp only;omega)) (by first | omega | exact hb.1 | exact hb.2 | (dsimp only;omega))) ?_
 refine Pf 16 rfl (AY rfl OM .m0 ((Ae.l0.comp AI.l0).comp (AS.ar (n:=6) Room.fl (by first | omega | exact hb | (dsimp only;omega)))) rfl) ?_
 refine Af 17 rfl (by kernel_rfl) ?_
 refine BG rfl N0 rfl (fun b1=>?_)
 refine Bf rfl ⟨?_,?_⟩
 · exact(Po rfl (AY rfl OM .m1 ((Ae.l0.comp AI.l0).comp (AS.ar (n:=6) Room.fl (by first | omega | exact hb | (dsimp only;omega)))) rfl) rfl rfl (Po rfl (AN Nw rfl rfl (by first | omega | exact hb.1 | exact hb.2 | (dsimp only;omega)) (by first | omega | exact hb.1 | exact hb.2 | (dsimp only;omega))) rfl rfl (Po rfl (Aj G7 rfl) rfl rfl (Po rfl (Aj BC rfl) rfl rfl (Po rfl (BV rfl) rfl rfl (Po rfl (AG rfl A5 .m1 (((Ae.l0.comp AI.l2).comp (AS.ar (n:=6) An.fl (by first | omega | exact hb | (dsimp only;omega)))).comp An.l3) rfl rfl) rfl rfl (Po rfl (Aj C6 rfl) rfl rfl (Po rfl (AN C8 rfl rfl (by first | omega | exact hb.1 | exact hb.2 | (dsimp only;omega)) (by first | omega | exact hb.1 | exact hb.2 | (dsimp only;omega))) rfl rfl (Po rfl (Aj Br rfl) rfl rfl (Po rfl (Aj BC rfl) rfl rfl (Po rfl (BV rfl) rfl rfl (Po rfl (AG rfl A5 .m1 Ae.l1 rfl rfl) rfl rfl (Po rfl (Aj CV rfl) rfl rfl (Po rfl (BV rfl) rfl rfl (Po rfl (AD rfl) rfl rfl (Po rfl (AD rfl) rfl rfl (Po rfl (AD rfl) rfl rfl Ar)))))))))))))))))
 refine Af 18 rfl (by kernel_rfl) ?_
 refine AU (AK (AS.id Room.fl.len Room.fl.one) rfl rfl rfl RF rfl .h) ?_
 refine BN rfl ⟨?_,?_⟩
 · exact(Pk (Pk (Pk (Pk (Pk (Pk (Pk (Pk (Pk (Pk (Pk (Pk (Pk (Pk (Pk (Pk (Pk Ar)))))))))))))))))
 refine A1 (by kernel_rfl) ?_
 refine AB (.t3 0 1 4) ?_
 refine AA (Ag (Gs (Gm rfl (Gt (Aj MZ rfl) ?_))))
 refine Gt (AN Rh rfl rfl (by first | omega | exact hb.1 | exact hb.2 | (dsimp only;omega)) (by first | omega | exact hb.1 | exact hb.2 | (dsimp only;omega))) ?_
 refine Gt (AG rfl A5 .m0 (Room.l2.comp (AS.ar (n:=6) B1 (by first | omega | exact hb | (dsimp only;omega)))) rfl rfl) ?_
 refine Gt (Ak rfl rfl) (Ga rfl (Gn (.t4 0 1 4 58) ?_))
 refine Gc (fun c1=>?_) (fun c1=>?_)
 ·
  have c1p:=kz c1
  refine AJ (Gm rfl ?_)
  refine Ah rfl EJ (.c rfl (.c rfl .n)) (.c (.t .h) (.c (.t .h) .n)) (Bh _ _ _ _ hg hb (by omega)) (fun v1 B hv=>?_)
  obtain⟨y2,rfl,y3,rfl⟩:=hv
  refine AQ (AB (.nil _) ?_)
  refine AV ?_
  refine Bn rfl .n ?_
  intro w1 hS
  have hS:=(hS.perm (Ay.perm (.c .h (.c .h .n)))).A4
  have hq:T.walk d=_:=(BF c1)
  refine⟨_,⟨?gq1,rfl,?hl1,?hB1⟩,hS⟩
  case hB1=>rw [hq];(try rfl)
  case hl1=>rw [hq];assumption
 have c1p:=kz c1
 refine Gs (Gm rfl (Gt (Aj MR rfl) ?_))
 refine Gt (AN Vg rfl rfl (by first | omega | exact hb.1 | exact hb.2 | (dsimp only;omega)) (by first | omega | exact hb.1 | exact hb.2 | (dsimp only;omega))) ?_
 refine Gt (AG rfl DO .m0 (Room.l3.comp (AS.ar (n:=6) HT (by first | omega | exact hb | (dsimp only;omega)))) rfl rfl) ?_
 refine Ga rfl (Gn (.t4 0 1 4 66) ?_)
 refine Gc (fun c2=>?_) (fun c2=>?_)
 ·
  have c2p:=kz c2
  refine AJ (Gm rfl ?_)
  refine Ah rfl EJ (.c rfl (.c rfl .n)) (.c (.t .h) (.c (.t .h) .n)) (Bh _ _ _ _ hg hb (by omega)) (fun v4 B hv=>?_)
  obtain⟨y5,rfl,y6,rfl⟩:=hv
  refine AQ (AB (.nil _) ?_)
  refine AV ?_
  refine Bn rfl .n ?_
  intro w1 hS
  have hS:=(hS.perm (Ay.perm (.c .h (.c .h .n)))).A4
  have hq:T.walk d=_:=((AX c1).trans (BF c2))
  refine⟨_,⟨?gq2,rfl,?hl2,?hB2⟩,hS⟩
  case hB2=>rw [hq];(try rfl)
  case hl2=>rw [hq];assumption
 have c2p:=kz c2
 have gm:=AF.N2 (hF.BP { AF.Fw 1 with dir:=d }) (r:=(T.w.BS.at T.me.room).CR.at d - 1) (by have h0:¬ (T.w.BS.at (T.w.AO.at T.b).room).CR.at d=0:=c1p;show 0≤(T.w.BS.at (T.w.AO.at T.b).room).CR.at d - 1∧(T.w.BS.at (T.w.AO.at T.b).room).CR.at d - 1 < 6;omega)
 refine Gs (Gm rfl (Gm rfl (Gt (BH N9 JA rfl (.cons Ing.Event.l0 rfl rfl rfl (.cons Ing.Event.l3 rfl rfl rfl (.cons Ing.Event.l4 rfl rfl rfl .nil)))) ?_)))
 refine Ah rfl O4 (.c rfl (.c rfl .n)) (.c (.t .h) (.c (.t .h) .n)) (CU _ T _ { AF.Fw 1 with dir:=d } hg hb (show(-1:Int) < 6 by decide) (by omega)) (fun v7 B hv=>?_)
 obtain⟨y8,rfl,y9,rfl⟩:=hv
 refine Gn (.t3 0 1 4) (Aq ?_)
 refine BE (N:=16) [0,0,2,6,14,0,0,96,224,480,1,1025,3073,8191,16383,32767] mix (by kernel_rfl) rfl ?_
 refine Pf 0 rfl (AD rfl) (Pf 1 rfl (AD rfl) (Pf 2 rfl (BV rfl) (Pf 3 rfl (Aj CV rfl) (Pf 4 rfl (AG rfl A5 .m0 Ae.l1 rfl rfl) (Pf 5 rfl (AD rfl) (Pf 6 rfl (Aj MZ rfl) ?_))))))
 refine Pf 7 rfl (AN Rh rfl rfl (by first | omega | exact hb.1 | exact hb.2 | (dsimp only;omega)) (by first | omega | exact hb.1 | exact hb.2 | (dsimp only;omega))) ?_
 refine Pf 8 rfl (AG rfl A5 .m2 (Room.l2.comp (AS.ar (n:=6) B1 (by first | omega | exact hb | (dsimp only;omega)))) rfl rfl) ?_
 refine Pf 9 rfl (FX rfl rfl (IntWalk.i64_in _ (by first | omega | exact hb.1 | exact hb.2 | (dsimp only;omega)))) ?_
 refine Pf 10 rfl (BV rfl) (Pf 11 rfl (Aj BC rfl) (Pf 12 rfl (Aj Br rfl) ?_))
 refine Pf 13 rfl (AN C8 rfl rfl (by first | omega | exact hb.1 | exact hb.2 | (dsimp only;omega)) (by first | omega | exact hb.1 | exact hb.2 | (dsimp only;omega))) ?_
 refine Pf 14 rfl (Aj C6 rfl) ?_
 refine Af 15 rfl (by kernel_rfl) ?_
 refine AU (AK (((Ae.l0.comp AI.l2).comp (AS.ar (n:=6) An.fl (by first | omega | exact hb | (dsimp only;omega)))).comp An.l3) rfl rfl rfl DD rfl .h) ?_
 refine BN rfl ⟨?_,?_⟩
 · exact(Pk (Pk (Pk (Pk (Pk (Pk (Pk (Pk (Pk (Pk (Pk (Pk (Pk (Pk (Pk Ar)))))))))))))))
 refine A1 (by kernel_rfl) ?_
 refine AB (.t2 0 1) ?_
 refine AA (Aq ?_)
 refine BE (N:=11) [0,0,2,6,14,1,33,97,255,511,1023] mix (by kernel_rfl) rfl ?_
 refine Pf 0 rfl (AD rfl) (Pf 1 rfl (AD rfl) (Pf 2 rfl (BV rfl) (Pf 3 rfl (Aj CV rfl) (Pf 4 rfl (AG rfl A5 .m0 Ae.l1 rfl rfl) (Pf 5 rfl (BV rfl) (Pf 6 rfl (Aj BC rfl) (Pf 7 rfl (Aj Br rfl) ?_)))))))
 refine Pf 8 rfl (AN C8 rfl rfl (by first | omega | exact hb.1 | exact hb.2 | (dsimp only;omega)) (by first | omega | exact hb.1 | exact hb.2 | (dsimp only;omega))) ?_
 refine Pf 9 rfl (Aj GR rfl) ?_
 refine Af 10 rfl (by kernel_rfl) ?_
 refine AU (AK (((Ae.l0.comp AI.l2).comp (AS.ar (n:=6) An.fl (by first | omega | exact hb | (dsimp only;omega)))).comp An.l5) rfl rfl rfl DD rfl .h) ?_
 refine BN rfl ⟨?_,?_⟩
 · exact(Pk (Pk (Pk (Pk (Pk (Pk (Pk (Pk (Pk (Pk Ar))))))))))
 refine A1 (by kernel_rfl) ?_
 refine AB (.t2 0 1) ?_
 refine AA (Aq ?_)
 refine GK (fun _=> .h) (congrArg (fun q=>Ae.enc ⟨q,_,_⟩) (AF.Wy (T.BP { AF.Fw 1 with dir:=d }) hb _)) ?_
 refine AJ (Gm rfl (Gm rfl ?_))
 refine BD rfl Zm (.c rfl .n) (fun w hS=>Ha _ w) ?_
 refine Gt (BH N9 JA rfl (.cons Ing.Event.l0 rfl rfl rfl (.cons Ing.Event.l3 rfl rfl rfl (.cons Ing.Event.l4 rfl rfl rfl .nil)))) ?_
 refine Ah rfl O4 (.c rfl (.c rfl .n)) (.c .h (.c .h .n)) (CU _ (AF.GF (T.BP { AF.Fw 1 with dir:=d }) ((T.w.BS.at T.me.room).CR.at d - 1)) _ { AF.Fw 2 with dir:=AI.opposite d } (by assumption) hb (show(-1:Int) < 6 by decide) (show(AF.out (T.BP { AF.Fw 1 with dir:=d })).length≤100000 by simp only [AF.Cg];omega)) (fun v10 B hv=>?_)
 obtain⟨y11,rfl,y12,rfl⟩:=hv
 refine Gn (.t1 0) (AJ (Gm rfl ?_))
 refine BJ rfl Ux (.c rfl .n) (.c .h (.c .h .n)) (HQ _ (AF.BP (AF.GF (T.BP { AF.Fw 1 with dir:=d }) ((T.w.BS.at T.me.room).CR.at d - 1)) { AF.Fw 2 with dir:=AI.opposite d }) _ (by assumption) hb gm.fit.br (show _≤90000 by simp only [AF.Cg];show(AF.out (T.BP { AF.Fw 1 with dir:=d })).length+1≤90000;simp only [AF.Cg];omega)) (fun w hS=>gl0.pull gm0 hS (.c .h (.c .h .n))) (fun v13 B hv=>?_)
 obtain⟨y14,rfl,y15,rfl⟩:=hv
 refine AQ (AB (.nil _) ?_)
 refine AV ?_
 refine Bn rfl .n ?_
 intro w1 hS
 have hS:=(hS.perm (Ay.perm (.c .h (.c .h .n)))).A4
 have hq:T.walk d=_:=((AX c1).trans (AX c2))
 refine⟨_,⟨?gq3,rfl,?hl3,?hB3⟩,hS⟩
 case hB3=>rw [hq];(try rfl)
 case hl3=>rw [hq];assumption
theorem IH (b:Nat)(T:AF)(g:Hd)(hF:T.Fit):Jk Tryz.prog 136 #[.pointer (some ⟨b,0,none⟩)] [Ad.box b 163 (Ae.enc ⟨T.w,T.b,g⟩)] (fun v B=>∃ f:Hd,v=f.val∧f.len=(T.own).length∧B = [Ad.box b 163 (Ae.enc ⟨T.w,T.b,g⟩),Ad.own f 3 1 ((T.own).flatMap Az)]):=by
 intro w hS0
 have hb:=hF.b
 have hr:=hF.room
 refine Am _ _ Tryz.func136 rfl rfl rfl (hS0) ?_
 refine Gs (Ga rfl (Gn (.t1 0) (Aq ?_)))
 refine BE (N:=10) [0,1,3,7,0,16,48,112,255,511] mix (by kernel_rfl) rfl ?_
 refine Pf 0 rfl (AD rfl) (Pf 1 rfl (BV rfl) (Pf 2 rfl (Aj BC rfl) (Pf 3 rfl (AY rfl Ba .m0 Ae.l0 rfl) (Pf 4 rfl (AD rfl) (Pf 5 rfl (BV rfl) (Pf 6 rfl (Aj CV rfl) (Pf 7 rfl (AG rfl A5 .m0 Ae.l1 rfl rfl) ?_)))))))
 refine Af 8 rfl (by kernel_rfl) ?_
 refine Ah rfl Sr (.c rfl (.c rfl (.c rfl .n))) .n (FK _ _ _) (fun v1 B hv=>?_)
 obtain⟨y2,rfl,y3,rfl⟩:=hv
 refine Bf rfl ⟨?_,?_⟩
 · exact(Pk (Pk (Pk (Pk (Pk (Pk (Pk (Pk Ar))))))))
 refine Pf 9 rfl (A2 rfl) ?_
 refine A1 (by kernel_rfl) ?_
 refine AB (.t1 2) ?_
 refine AA (Ac ?_)
 refine AZ rfl (.tmp rfl .n) ?_
 intro w1 hS
 have hS:=(hS.perm (Ay.perm (.c (.t .h) (.c .h .n)))).A4
 exact⟨_,⟨_,rfl,by assumption,rfl⟩,hS⟩
theorem L9 (b:Nat)(T:AF)(g:Hd)(hF:T.Fit):Jk Tryz.prog 125 #[.pointer (some ⟨b,0,none⟩)] [Ad.box b 163 (Ae.enc ⟨T.w,T.b,g⟩)] (fun v B=>∃ F:AI,F=T.FJ.w∧v = .tuple #[]∧B = [Ad.box b 163 (Ae.enc ⟨F,T.b,g⟩)]):=by
 intro w hS0
 have hb:=hF.b
 have hr:=hF.room
 have ho9:=T.KQ
 refine Am _ _ Tryz.func125 rfl rfl rfl (hS0) ?_
 refine CD (Gm rfl ?_)
 refine Ah rfl Ur (.c rfl .n) (.c .h .n) (IH _ _ _ (by first | assumption | omega)) (fun v1 B hv=>?_)
 obtain⟨y2,rfl,y3,rfl⟩:=hv
 refine Gt (Av rfl Tryz.underlying169 rfl) (Gm rfl (Gn (.t4 0 7 8 9) (Ag ?_)))
 refine Bo (.t4 9 0 7 8) ?_
 refine HY (fun(k:Int) (X:AF)=>0≤k∧T.Ce T.own=X.Ce (T.own.drop k.toNat)∧X.b=T.b∧k≤(T.own.length:Int)) (fun(k:Int) (X:AF)=>((T.own.length:Int) - k).toNat) (fun(k:Int) (X:AF)=> [(9, .int .i64 k)]) (fun(k:Int) (X:AF)=> [Ad.box b 163 (Ae.enc ⟨X.w,X.b,g⟩)]) (0) (_) ?_ rfl rfl (fun k X hI1=>?_)
 · exact⟨by omega,rfl,rfl,by omega⟩
 obtain⟨hI11,hI12,hI13,hI14⟩:=hI1
 refine Gs (Gt (BA rfl rfl) (AQ (AA (Aq ?_))))
 refine Gc (fun c1=>?_) (fun c1=>?_)
 ·
  have c1p:=kz c1
  have hx:=AF.Lz (Bi.E3 (xs:=T.own) (i:=k.toNat) (by omega))
  refine Aa ?_
  refine AB (.t4 0 7 8 9) ?_
  refine AA (Aq (Ag (Gs ?_)))
  refine Gt (Bs G2 (by decide) (Kn.own .m1) rfl rfl (by omega) (by omega)) ?_
  refine Gt (DI rfl A5 (Kn.own .m1) (by omega)) ?_
  refine Ga rfl (Gn (.t5 0 3 7 8 9) (Gs (Gm rfl (Gm rfl (Gt (BV rfl) (Gt (Aj BC rfl) (Gt (Aj Cx rfl) ?_)))))))
  refine Gt (AN GW rfl rfl (by first | omega | (rw [hI13];first | exact hb.1 | exact hb.2) | (dsimp only;omega)) (by first | omega | (rw [hI13];first | exact hb.1 | exact hb.2) | (dsimp only;omega))) ?_
  refine Ga rfl (Gn (.t5 0 4 7 8 9) (CD (Gm rfl (Gt (BV rfl) (Gt (Aj G9 rfl) ?_)))))
  refine Gt (AG rfl A5 .m0 (((Ae.l0.comp AI.l1).comp (AS.arr (n:=9) Ao.fl (by first | omega | (rw [hI13];first | exact hb.1 | exact hb.2) | (dsimp only;omega)) (by first | omega | (rw [hI13];first | exact hb.1 | exact hb.2) | (dsimp only;omega)))).comp Ao.l1) rfl rfl) ?_
  refine Gt (Ak rfl rfl) (Gn (.t6 0 4 7 8 9 23) ?_)
  refine Gc (fun c2=>?_) (fun c2=>?_)
  ·
   have c2p:=kz c2
   refine AJ (Gm rfl (Gt (BV rfl) (Gt (Aj GP rfl) ?_)))
   refine AU (AK (((Ae.l0.comp AI.l1).comp (AS.arr (n:=9) Ao.fl (by first | omega | (rw [hI13];first | exact hb.1 | exact hb.2) | (dsimp only;omega)) (by first | omega | (rw [hI13];first | exact hb.1 | exact hb.2) | (dsimp only;omega)))).comp Ao.l4) rfl rfl rfl Km rfl .h) ?_
   refine Gn (.t5 0 4 7 8 9) ?_
   refine BE (N:=19) [0,0,0,0,8,24,56,4,132,388,1020,2044,4092,8189,16381,32765,65535,131071,262143] mix (by kernel_rfl) rfl ?_
   refine Pf 0 rfl (AD rfl) (Pf 1 rfl (AD rfl) (Pf 2 rfl (AD rfl) (Pf 3 rfl (AD rfl) (Pf 4 rfl (BV rfl) (Pf 5 rfl (Aj CV rfl) (Pf 6 rfl (AG rfl A5 .m0 Ae.l1 rfl rfl) (Pf 7 rfl (BV rfl) ?_)))))))
   refine Pf 8 rfl (Aj BC rfl) (Pf 9 rfl (Aj Br rfl) ?_)
   refine Pf 10 rfl (AN C8 rfl rfl (by first | omega | (rw [hI13];first | exact hb.1 | exact hb.2) | (dsimp only;omega)) (by first | omega | (rw [hI13];first | exact hb.1 | exact hb.2) | (dsimp only;omega))) ?_
   refine Pf 11 rfl (Aj C6 rfl) ?_
   refine Pf 12 rfl (AG rfl A5 .m0 (((Ae.l0.comp AI.l2).comp (AS.arr (n:=6) An.fl (by first | omega | (rw [hI13];first | exact hb.1 | exact hb.2) | (dsimp only;omega)) (by first | omega | (rw [hI13];first | exact hb.1 | exact hb.2) | (dsimp only;omega)))).comp An.l3) rfl rfl) ?_
   refine Pf 13 rfl (BV rfl) (Pf 14 rfl (Aj Fe rfl) ?_)
   refine Af 15 rfl (by kernel_rfl) ?_
   refine AU (AK (((Ae.l0.comp AI.l1).comp (AS.arr (n:=9) Ao.fl (by first | omega | (rw [hI13];first | exact hb.1 | exact hb.2) | (dsimp only;omega)) (by first | omega | (rw [hI13];first | exact hb.1 | exact hb.2) | (dsimp only;omega)))).comp Ao.l2) rfl rfl rfl DD rfl .h) ?_
   refine BN rfl ⟨?_,?_⟩
   · exact(Pk (Pk (Pk (Pk (Pk (Pk (Pk (Pk (Pk (Pk (Pk (Pk (Pk (Po rfl (AD rfl) rfl rfl (Pk Ar)))))))))))))))
   refine Pf 16 rfl (BV rfl) (Pf 17 rfl (Aj DN rfl) ?_)
   refine Af 18 rfl (by kernel_rfl) ?_
   refine AU (AK (((Ae.l0.comp AI.l1).comp (AS.arr (n:=9) Ao.fl (by first | omega | (rw [hI13];first | exact hb.1 | exact hb.2) | (dsimp only;omega)) (by first | omega | (rw [hI13];first | exact hb.1 | exact hb.2) | (dsimp only;omega)))).comp Ao.l3) rfl rfl rfl DD rfl .h) ?_
   refine BN rfl ⟨?_,?_⟩
   · exact(Pk (Pk (Pk (Pk (Pk (Pk (Pk (Pk (Pk (Pk (Pk (Pk (Pk (Pk (Pk (Pk (Pk Ar)))))))))))))))))
   refine A1 (by kernel_rfl) ?_
   refine AB (.t4 0 7 8 9) ?_
   refine AV (AA ?_)
   refine GK (fun _=> .h) (congrArg (fun q=>Ae.enc ⟨q,_,_⟩) (AF.V9 X hx.1 hx.2 c2)) ?_
   refine AJ ?_
   refine Gt (Ax rfl rfl (IntWalk.i64_in _ (by first | omega | (rw [hI13];first | exact hb.1 | exact hb.2) | (dsimp only;omega)))) ?_
   refine Gm rfl ?_
   refine AQ (AB (.t4 0 7 8 9) ?_)
   refine Ds (k+1) _ ?_ ?_ (.t4 9 0 7 8) (.refl _)
   · exact⟨by omega,by rw [hI12,AF.L7 hI11 (by omega)],hI13,by omega⟩
   · omega
  have c2p:=kz c2
  refine Aa ?_
  refine AB (.t5 0 4 7 8 9) ?_
  refine AA ?_
  refine BE (N:=19) [0,0,0,0,8,24,56,4,132,388,1020,2044,4092,8189,16381,32765,65535,131071,262143] mix (by kernel_rfl) rfl ?_
  refine Pf 0 rfl (AD rfl) (Pf 1 rfl (AD rfl) (Pf 2 rfl (AD rfl) (Pf 3 rfl (AD rfl) (Pf 4 rfl (BV rfl) (Pf 5 rfl (Aj CV rfl) (Pf 6 rfl (AG rfl A5 .m0 Ae.l1 rfl rfl) (Pf 7 rfl (BV rfl) ?_)))))))
  refine Pf 8 rfl (Aj BC rfl) (Pf 9 rfl (Aj Br rfl) ?_)
  refine Pf 10 rfl (AN C8 rfl rfl (by first | omega | (rw [hI13];first | exact hb.1 | exact hb.2) | (dsimp only;omega)) (by first | omega | (rw [hI13];first | exact hb.1 | exact hb.2) | (dsimp only;omega))) ?_
  refine Pf 11 rfl (Aj C6 rfl) ?_
  refine Pf 12 rfl (AG rfl A5 .m0 (((Ae.l0.comp AI.l2).comp (AS.arr (n:=6) An.fl (by first | omega | (rw [hI13];first | exact hb.1 | exact hb.2) | (dsimp only;omega)) (by first | omega | (rw [hI13];first | exact hb.1 | exact hb.2) | (dsimp only;omega)))).comp An.l3) rfl rfl) ?_
  refine Pf 13 rfl (BV rfl) (Pf 14 rfl (Aj Fe rfl) ?_)
  refine Af 15 rfl (by kernel_rfl) ?_
  refine AU (AK (((Ae.l0.comp AI.l1).comp (AS.arr (n:=9) Ao.fl (by first | omega | (rw [hI13];first | exact hb.1 | exact hb.2) | (dsimp only;omega)) (by first | omega | (rw [hI13];first | exact hb.1 | exact hb.2) | (dsimp only;omega)))).comp Ao.l2) rfl rfl rfl DD rfl .h) ?_
  refine BN rfl ⟨?_,?_⟩
  · exact(Pk (Pk (Pk (Pk (Pk (Pk (Pk (Pk (Pk (Pk (Pk (Pk (Pk (Po rfl (AD rfl) rfl rfl (Pk Ar)))))))))))))))
  refine Pf 16 rfl (BV rfl) (Pf 17 rfl (Aj DN rfl) ?_)
  refine Af 18 rfl (by kernel_rfl) ?_
  refine AU (AK (((Ae.l0.comp AI.l1).comp (AS.arr (n:=9) Ao.fl (by first | omega | (rw [hI13];first | exact hb.1 | exact hb.2) | (dsimp only;omega)) (by first | omega | (rw [hI13];first | exact hb.1 | exact hb.2) | (dsimp only;omega)))).comp Ao.l3) rfl rfl rfl DD rfl .h) ?_
  refine BN rfl ⟨?_,?_⟩
  · exact(Pk (Pk (Pk (Pk (Pk (Pk (Pk (Pk (Pk (Pk (Pk (Pk (Pk (Pk (Pk (Pk (Pk Ar)))))))))))))))))
  refine A1 (by kernel_rfl) ?_
  refine AB (.t4 0 7 8 9) ?_
  refine AV (AA ?_)
  refine GK (fun _=> .h) (congrArg (fun q=>Ae.enc ⟨q,_,_⟩) (AF.VL X hx.1 hx.2 c2)) ?_
  refine AJ ?_
  refine Gt (Ax rfl rfl (IntWalk.i64_in _ (by first | omega | (rw [hI13];first | exact hb.1 | exact hb.2) | (dsimp only;omega)))) ?_
  refine Gm rfl ?_
  refine AQ (AB (.t4 0 7 8 9) ?_)
  refine Ds (k+1) _ ?_ ?_ (.t4 9 0 7 8) (.refl _)
  · exact⟨by omega,by rw [hI12,AF.L7 hI11 (by omega)],hI13,by omega⟩
  · omega
 have c1p:=kz c1
 obtain rfl:k=(T.own.length:Int):=by omega
 rw [AF.Ju] at hI12
 have hY:X=T.Ce T.own:=hI12.symm
 refine Be (AW (AW (Ai ?_)))
 refine AB (.t1 0) ?_
 refine AA (CD (Gm rfl (AQ (AA (Ag ?_)))))
 refine Bo (.t2 45 0) ?_
 refine HY (fun(k:Int) (Y:AF)=>0≤k∧k≤6∧Y=(T.Ce T.own).DZ k.toNat∧Y.b=T.b) (fun(k:Int) (Y:AF)=>(6 - k).toNat) (fun(k:Int) (Y:AF)=> [(45, .int .i64 k)]) (fun(k:Int) (Y:AF)=> [Ad.box b 163 (Ae.enc ⟨Y.w,Y.b,g⟩)]) (0) (_) ?_ rfl rfl (fun k Y hI2=>?_)
 · exact⟨by omega,by omega,hY,hI13⟩
 obtain⟨hI21,hI22,hI23,hI24⟩:=hI2
 refine Gs (Gt (BA rfl rfl) (AQ (AA (Aq ?_))))
 refine Gc (fun c3=>?_) (fun c3=>?_)
 ·
  have c3p:=kz c3
  refine Aa ?_
  refine AB (.t2 0 45) ?_
  refine AA (Aq (Ag (Gs (Gm rfl (Ga rfl (Gn (.t3 0 5 45) (Aq ?_)))))))
  refine BE (N:=14) [0,0,1,5,13,31,63,127,0,256,768,1792,3840,8191] mix (by kernel_rfl) rfl ?_
  refine Pf 0 rfl (AD rfl) (Pf 1 rfl (AD rfl) (Pf 2 rfl (BV rfl) (Pf 3 rfl (Aj BC rfl) (Pf 4 rfl (Aj Br rfl) ?_))))
  refine Pf 5 rfl (AN C8 rfl rfl (by first | omega | (rw [hI13];first | exact hb.1 | exact hb.2) | (dsimp only;omega)) (by first | omega | (rw [hI13];first | exact hb.1 | exact hb.2) | (dsimp only;omega))) ?_
  refine Pf 6 rfl (Aj GR rfl) ?_
  refine Pf 7 rfl (AG rfl A5 .m0 (((Ae.l0.comp AI.l2).comp (AS.arr (n:=6) An.fl (by first | omega | (rw [hI13];first | exact hb.1 | exact hb.2) | (dsimp only;omega)) (by first | omega | (rw [hI13];first | exact hb.1 | exact hb.2) | (dsimp only;omega)))).comp An.l5) rfl rfl) ?_
  refine Pf 8 rfl (AD rfl) (Pf 9 rfl (BV rfl) (Pf 10 rfl (Aj CV rfl) (Pf 11 rfl (AG rfl A5 .m0 Ae.l1 rfl rfl) ?_)))
  refine Pf 12 rfl (Ax rfl rfl (IntWalk.i64_in _ (by first | omega | (rw [hI13];first | exact hb.1 | exact hb.2) | (dsimp only;omega)))) ?_
  refine Pf 13 rfl (Ak rfl rfl) ?_
  refine A1 (by kernel_rfl) ?_
  refine AB (.t4 0 5 45 61) ?_
  refine AA ?_
  refine Gc (fun c4=>?_) (fun c4=>?_)
  ·
   have c4p:=kz c4
   have hcb:decide ((Y.w.AO.at k).B4=(T.Ce T.own).b+1)=true:=by rw [(AF.I0 T.own T).1,← hI24];exact c4
   refine AJ (Gm rfl (Gm rfl (Gt (BV rfl) (Gt (Aj BC rfl) (Gt (Aj Br rfl) ?_)))))
   refine Gt (AN C8 rfl rfl (by first | omega | (rw [hI13];first | exact hb.1 | exact hb.2) | (dsimp only;omega)) (by first | omega | (rw [hI13];first | exact hb.1 | exact hb.2) | (dsimp only;omega))) ?_
   refine Gt (Aj GR rfl) ?_
   refine AU (AK (((Ae.l0.comp AI.l2).comp (AS.arr (n:=6) An.fl (by first | omega | (rw [hI13];first | exact hb.1 | exact hb.2) | (dsimp only;omega)) (by first | omega | (rw [hI13];first | exact hb.1 | exact hb.2) | (dsimp only;omega)))).comp An.l5) rfl rfl rfl DD rfl .h) ?_
   refine AQ (AB (.t2 0 45) ?_)
   refine AV (AA (AJ ?_))
   refine Gt (Ax rfl rfl (IntWalk.i64_in _ (by first | omega | (rw [hI13];first | exact hb.1 | exact hb.2) | (dsimp only;omega)))) ?_
   refine Gm rfl ?_
   refine AQ (AB (.t2 0 45) ?_)
   refine Ds (k+1) (Y.Ck k 0) ?_ ?_ (.t2 45 0) (.refl _)
   · exact⟨by omega,by omega,by rw [AF.Ou hI21,← hI23,BF hcb],hI24⟩
   · omega
  have c4p:=kz c4
  have hcb:decide ((Y.w.AO.at k).B4=(T.Ce T.own).b+1)=false:=by rw [(AF.I0 T.own T).1,← hI24];exact c4
  refine Aa ?_
  refine AB (.t2 0 45) ?_
  refine AV (AA (AJ ?_))
  refine Gt (Ax rfl rfl (IntWalk.i64_in _ (by first | omega | (rw [hI13];first | exact hb.1 | exact hb.2) | (dsimp only;omega)))) ?_
  refine Gm rfl ?_
  refine AQ (AB (.t2 0 45) ?_)
  refine Ds (k+1) (Y) ?_ ?_ (.t2 45 0) (.refl _)
  · exact⟨by omega,by omega,by rw [AF.Ou hI21,← hI23,AX hcb],hI24⟩
  · omega
 have c3p:=kz c3
 obtain rfl:k=6:=by omega
 refine Be (AW (AW (Ai ?_)))
 refine AB (.t1 0) ?_
 refine AA ?_
 refine BE (N:=11) [0,0,2,6,14,1,33,97,255,511,1023] mix (by kernel_rfl) rfl ?_
 refine Pf 0 rfl (AD rfl) (Pf 1 rfl (AD rfl) (Pf 2 rfl (BV rfl) (Pf 3 rfl (Aj CV rfl) (Pf 4 rfl (AG rfl A5 .m0 Ae.l1 rfl rfl) (Pf 5 rfl (BV rfl) (Pf 6 rfl (Aj BC rfl) (Pf 7 rfl (Aj Br rfl) ?_)))))))
 refine Pf 8 rfl (AN C8 rfl rfl (by first | omega | (rw [hI13];first | exact hb.1 | exact hb.2) | (dsimp only;omega)) (by first | omega | (rw [hI13];first | exact hb.1 | exact hb.2) | (dsimp only;omega))) ?_
 refine Pf 9 rfl (Aj GR rfl) ?_
 refine Af 10 rfl (by kernel_rfl) ?_
 refine AU (AK (((Ae.l0.comp AI.l2).comp (AS.arr (n:=6) An.fl (by first | omega | (rw [hI13];first | exact hb.1 | exact hb.2) | (dsimp only;omega)) (by first | omega | (rw [hI13];first | exact hb.1 | exact hb.2) | (dsimp only;omega)))).comp An.l5) rfl rfl rfl DD rfl .h) ?_
 refine BN rfl ⟨?_,?_⟩
 · exact(Pk (Pk (Pk (Pk (Pk (Pk (Pk (Pk (Pk (Pk Ar))))))))))
 refine A1 (by kernel_rfl) ?_
 refine Bn rfl .n ?_
 intro w1 hS
 have hS:=(hS.perm (Ay.perm (.c .h .n))).A4
 have hq:T.FJ=Y.Ck Y.b 0:=by rw [hI24,hI23];unfold AF.FJ;rfl
 exact⟨_,⟨_,rfl,rfl,by rw [hq,← hI24];rfl⟩,hS⟩
theorem Qm (b:Nat)(T:AF)(g:Hd)(hg:g.len=T.out.length)(hF:T.Fit)(hn:T.out.length≤90000):Jk Tryz.prog 103 #[.pointer (some ⟨b,0,none⟩)] [Ad.box b 163 (Ae.enc ⟨T.w,T.b,g⟩),Ad.own g 56 16 (T.out.flatMap Ing.Event.enc)] (fun v B=>∃ g':Hd,v = .tuple #[]∧g'.len=(T.Gq).out.length∧B = [Ad.box b 163 (Ae.enc ⟨(T.Gq).w,(T.Gq).b,g'⟩),Ad.own g' 56 16 ((T.Gq).out.flatMap Ing.Event.enc)]):=by
 intro w hS0
 have hb:=hF.b
 have hr:=hF.room
 refine Am _ _ Tryz.func103 rfl rfl rfl (hS0) ?_
 refine Gs (Gm rfl ?_)
 refine Ah rfl Uk (.c rfl (.c rfl .n)) (.c .h (.c .h .n)) (Ge _ T _ 18 hg hb (by omega)) (fun v1 B hv=>?_)
 obtain⟨y2,rfl,y3,rfl⟩:=hv
 refine Gn (.t1 0) (Gs (Gm rfl ?_))
 refine Ah rfl Zg (.c rfl .n) (.c .h .n) (L9 _ (T.kind 18) _ (hF.Ep rfl rfl)) (fun v4 B hv=>?_)
 obtain⟨y5,y6,rfl,rfl⟩:=hv
 refine Gn (.t1 0) ?_
 refine BE (N:=11) [0,0,2,6,14,0,1,65,193,511,1023] mix (by kernel_rfl) rfl ?_
 refine Pf 0 rfl (AD rfl) (Pf 1 rfl (AD rfl) (Pf 2 rfl (BV rfl) (Pf 3 rfl (Aj CV rfl) (Pf 4 rfl (AG rfl A5 .m0 Ae.l1 rfl rfl) (Pf 5 rfl (BH W7 L5 rfl .nil) (Pf 6 rfl (BV rfl) (Pf 7 rfl (Aj BC rfl) ?_)))))))
 refine Pf 8 rfl (Aj Br rfl) ?_
 refine Pf 9 rfl (AN C8 rfl rfl (by first | exact hb.1 | exact hb.2 | omega | (dsimp only;omega)) (by first | exact hb.1 | exact hb.2 | omega | (dsimp only;omega))) ?_
 refine Af 10 rfl (by kernel_rfl) ?_
 refine AU (AK ((Ae.l0.comp AI.l2).comp (AS.arr (n:=6) An.fl (by first | exact hb.1 | exact hb.2 | omega | (dsimp only;omega)) (by first | exact hb.1 | exact hb.2 | omega | (dsimp only;omega)))) rfl rfl rfl Ko rfl .h) ?_
 refine BN rfl ⟨?_,?_⟩
 · exact(Pk (Pk (Pk (Pk (Pk (Pk (Pk (Pk (Pk (Pk Ar))))))))))
 refine A1 (by kernel_rfl) ?_
 refine Bn rfl .n ?_
 intro w1 hS
 have hS:=(hS.perm (Ay.perm (.c .h (.c .h .n)))).A4
 obtain⟨hf1,hf2,hf3⟩:=T.Oz
 refine⟨_,⟨?gq,rfl,?hl,?hB⟩,hS⟩
 case hB=>rw [hf1,hf2,hf3,← y6]
 case hl=>rw [hf2];exact y3
theorem Ir (b:Nat)(T:AF)(g:Hd)(u:Au)(hg:g.len=T.out.length)(hF:T.Fit)(hu:u.length≤5000000)(hn:T.out.length≤99000):Fa Tryz.prog 131 #[.pointer (some ⟨b,0,none⟩),BT u] [Ad.box b 163 (Ae.enc ⟨T.w,T.b,g⟩),Ad.own g 56 16 (T.out.flatMap Ing.Event.enc)] (fun w=>(G3 7 w∧7 ∉ Cj [Ad.box b 163 (Ae.enc ⟨T.w,T.b,g⟩),Ad.own g 56 16 (T.out.flatMap Ing.Event.enc)])∧(G3 8 w∧8 ∉ Cj [Ad.box b 163 (Ae.enc ⟨T.w,T.b,g⟩),Ad.own g 56 16 (T.out.flatMap Ing.Event.enc)])) (fun v B=>∃ g':Hd,v = .tuple #[.int .i64 (T.A9 u).2.1, .bool (T.A9 u).2.2]∧g'.len=((T.A9 u).1).out.length∧B = [Ad.box b 163 (Ae.enc ⟨((T.A9 u).1).w,((T.A9 u).1).b,g'⟩),Ad.own g' 56 16 (((T.A9 u).1).out.flatMap Ing.Event.enc)]):=by
 intro w hS0 hH
 obtain⟨⟨gl0,gm0⟩,⟨gl1,gm1⟩⟩:=hH
 have hb:=hF.b
 have hr:=hF.room
 refine Am _ _ Tryz.func131 rfl rfl rfl (hS0) ?_
 refine Gs (Ga rfl (Ga rfl (Gn (.t2 0 1) (Gs (Gm rfl ?_)))))
 refine BD rfl U6 (.c rfl .n) (fun w hS=>FV _ (by first | assumption | omega) w (gl0.stM gm0 hS) (gl1.stM gm1 hS)) ?_
 refine Gm rfl (Gt (AL rfl rfl) (Gt (AL rfl rfl) (Gt (AL rfl rfl) (Gt (AL rfl rfl) (Ga rfl (Ga rfl (Ga rfl ?_)))))))
 refine Ga rfl (Gn (.t5 0 6 7 8 9) (CD (Gm rfl (Gt (Ak rfl rfl) (Gm rfl (Bb 20 rfl rfl (fun q=>AD rfl) (Bb 20 rfl rfl (fun q=>BR (BX rfl q)) ?_)))))))
 refine Gt (BI rfl rfl (fun h=>h)) (Gn (.t4 0 6 7 23) ?_)
 refine Gc (fun c1=>?_) (fun c1=>?_)
 ·
  have c1p:=kz c1
  have hnf:=Words.VN u (of_decide_eq_true (Bool.and_eq_true_iff.1 c1).1)
  refine Gs (Gm rfl (Gn (.t4 0 6 7 24) (Ag ?_)))
  refine Bo (.t4 6 24 0 7) ?_
  refine HY (fun(k:Int) (n:Int)=>0≤k∧k≤6∧T.Ix (Words.ER u).2.1 6 (Words.ER u).1=T.Ix (Words.ER u).2.1 (6 - k).toNat n∧-k≤n∧n≤99) (fun(k:Int) (n:Int)=>(6 - k).toNat) (fun(k:Int) (n:Int)=> [(6, .int .i64 n),(24, .int .i64 k)]) (fun(k:Int) (n:Int)=> []) (0) (_) ?_ rfl rfl (fun k n hI1=>?_)
  · exact⟨by omega,by omega,rfl,by omega,by omega⟩
  obtain⟨hI11,hI12,hI13,hI14,hI15⟩:=hI1
  refine Gs (Gt (BA rfl rfl) (AQ (AA (Aq ?_))))
  refine Gc (fun c2=>?_) (fun c2=>?_)
  ·
   have c2p:=kz c2
   refine Aa ?_
   refine AB (.t4 0 6 7 24) ?_
   refine AA (Aq (Ag (Gs (Gm rfl (Ga rfl (Gn (.t5 0 6 7 10 24) (Aq ?_)))))))
   refine Aq ?_
   refine BE (N:=31) [0,0,2,6,14,31,63,127,127,255,767,1791,4095,8191,16383,127,65535,131071,262143,524287,1048575,2097151,4194303,524287,8912895,25690111,59244543,524287,268435455,536870911,1073741823] mix (by kernel_rfl) rfl ?_
   refine Pf 0 rfl (AD rfl) (Pf 1 rfl (AD rfl) (Pf 2 rfl (BV rfl) (Pf 3 rfl (Aj CV rfl) (Pf 4 rfl (AG rfl A5 .m0 Ae.l1 rfl rfl) (Pf 5 rfl (Ak rfl rfl) (Pf 6 rfl (AD rfl) (GB 7 33 rfl rfl rfl (fun q=>AD rfl) ?_)))))))
   refine GB 8 33 rfl rfl rfl (fun q=>AD rfl) (GB 9 33 rfl rfl rfl (fun q=>BV (cF rfl q)) (GB 10 33 rfl rfl rfl (fun q=>Aj BC (cF rfl q)) (GB 11 33 rfl rfl rfl (fun q=>Aj Br (cF rfl q)) ?_)))
   refine Ab 12 rfl rfl (by kernel_rfl) (DE (t:=33) rfl rfl (fun q=>by have q1:=q;(try simp at q1);exact Cu (AN C8 (cF rfl q) (cF rfl q) (by first | omega | exact hb.1 | exact hb.2 | (dsimp only;omega)) (by first | omega | exact hb.1 | exact hb.2 | (dsimp only;omega))))) ?_
   refine GB 13 33 rfl rfl rfl (fun q=>Aj LX (cF rfl q)) ?_
   refine Ab 14 rfl rfl (by kernel_rfl) (DE (t:=33) rfl rfl (fun q=>by have q1:=q;(try simp at q1);exact Cu (AG (cF rfl q) CM .m0 (((Ae.l0.comp AI.l2).comp (AS.ar (n:=6) An.fl (by first | omega | exact hb | (dsimp only;omega)))).comp An.l0) rfl rfl))) ?_
   refine GB 15 33 rfl rfl rfl (fun q=>AD rfl) (GB 16 33 rfl rfl rfl (fun q=>Dt (cF rfl q) (cF rfl q)) ?_)
   refine Pf 17 rfl (BU rfl rfl (fun h=>by rw [h];rfl)) ?_
   refine Pf 18 rfl (AD rfl) (GB 19 45 rfl rfl rfl (fun q=>AD rfl) (GB 20 45 rfl rfl rfl (fun q=>BV (cF rfl q)) (GB 21 45 rfl rfl rfl (fun q=>Aj BC (cF rfl q)) (GB 22 45 rfl rfl rfl (fun q=>AY (cF rfl q) Ba .m0 Ae.l0 rfl) (GB 23 45 rfl rfl rfl (fun q=>AD rfl) (GB 24 45 rfl rfl rfl (fun q=>BV (cF rfl q)) (GB 25 45 rfl rfl rfl (fun q=>Aj CV (cF rfl q)) ?_)))))))
   refine GB 26 45 rfl rfl rfl (fun q=>AG (cF rfl q) A5 .m0 Ae.l1 rfl rfl) (GB 27 45 rfl rfl rfl (fun q=>AD rfl) ?_)
   refine Ab 28 rfl rfl (by kernel_rfl) (DE (t:=45) rfl rfl (fun q=>by have q1:=q;(try simp at q1);exact JX (Dl Oc (.c (cF rfl q) (.c (cF rfl q) (.c (cF rfl q) .n))) (fun w hS=>DV _ _ _ w)))) ?_
   refine GB 29 45 rfl rfl rfl (fun q=>BR (cF rfl q)) ?_
   refine Pf 30 rfl (BU rfl rfl (fun h=>by rw [h];rfl)) ?_
   refine A1 (by kernel_rfl) ?_
   refine AB (.t6 0 6 7 10 24 57) ?_
   refine AA ?_
   refine Gc (fun c3=>?_) (fun c3=>?_)
   ·
    have c3p:=kz c3
    refine Be (AW (Ai ?_))
    refine AB (.t4 0 6 7 24) ?_
    refine AA (AJ ?_)
    refine Gt (Ax rfl rfl (IntWalk.i64_in _ (by first | omega | exact hb.1 | exact hb.2 | (dsimp only;omega)))) ?_
    refine Gm rfl ?_
    refine AQ (AB (.t4 0 6 7 24) ?_)
    refine Ds (k+1) (n) ?_ ?_ (.t4 6 24 0 7) (.refl _)
    · exact⟨by omega,by omega,by rw [hI13,AF.K2 hI11 (by omega),BF c3],by omega,by omega⟩
    · omega
   have c3p:=kz c3
   refine Aa ?_
   refine AB (.t5 0 6 7 10 24) ?_
   refine AA (Gs (Gm rfl ?_))
   refine Gt (FX rfl rfl (IntWalk.i64_in _ (by first | omega | exact hb.1 | exact hb.2 | (dsimp only;omega)))) ?_
   refine Ga rfl (Gn (.t5 0 6 7 10 24) (Gs (Gm rfl (Gt (Ak rfl rfl) (Gn (.t6 0 6 7 10 24 61) ?_)))))
   refine Gc (fun c4=>?_) (fun c4=>?_)
   ·
    have c4p:=kz c4
    refine Gs (Gm rfl (Ga rfl (Ga rfl (Gn (.t2 4 5) (Ac (AT (AE ?_)))))))
    refine AE (AT (AE ?_))
    refine AZ rfl (.tmp rfl (.tmp rfl .n)) ?_
    intro w1 hS
    have hS:=(hS.perm (Ay.perm (.c .h (.c .h .n)))).A4
    have hs:T.Ix (Words.ER u).2.1 6 (Words.ER u).1=some k:=by rw [hI13,AF.K2 hI11 (by omega),AX c3,BF c4]
    have hq:T.A9 u=(T,k,true):=(show T.A9 u=_ from BF c1).trans (by simp only [hs])
    refine⟨_,⟨?gq1,?hv1,?hl1,?hB1⟩,hS⟩
    case hB1=>rw [hq];(try rfl)
    case hv1=>rw [hq];(try rfl)
    case hl1=>rw [hq];assumption
   have c4p:=kz c4
   refine Aa ?_
   refine AB (.t4 0 6 7 24) ?_
   refine AV (AA (AJ ?_))
   refine Gt (Ax rfl rfl (IntWalk.i64_in _ (by first | omega | exact hb.1 | exact hb.2 | (dsimp only;omega)))) ?_
   refine Gm rfl ?_
   refine AQ (AB (.t4 0 6 7 24) ?_)
   refine Ds (k+1) (n - 1) ?_ ?_ (.t4 6 24 0 7) (.refl _)
   · exact⟨by omega,by omega,by rw [hI13,AF.K2 hI11 (by omega),AX c3,AX c4],by omega,by omega⟩
   · omega
  have c2p:=kz c2
  obtain rfl:k=6:=by omega
  refine Be (AW (AW (Ai ?_)))
  refine AB (.t1 0) ?_
  refine AA (Gs (Gm rfl ?_))
  refine Ah rfl EJ (.c rfl (.c rfl .n)) (.c .h (.c .h .n)) (Bh _ _ _ _ hg hb (by omega)) (fun v1 B hv=>?_)
  obtain⟨y2,rfl,y3,rfl⟩:=hv
  refine Gn (.nil _) (Gs (Ga rfl (Ga rfl (AQ (AA (Ac ?_))))))
  refine AZ rfl (.tmp rfl (.tmp rfl .n)) ?_
  intro w1 hS
  have hS:=(hS.perm (Ay.perm (.c .h (.c .h .n)))).A4
  have hs:T.Ix (Words.ER u).2.1 6 (Words.ER u).1=none:=by rw [hI13];rfl
  have hq:T.A9 u=(T.tell AF.Oh,0,false):=(show T.A9 u=_ from BF c1).trans (by simp only [hs])
  refine⟨_,⟨?gq2,?hv2,?hl2,?hB2⟩,hS⟩
  case hB2=>rw [hq];(try rfl)
  case hv2=>rw [hq];(try rfl)
  case hl2=>rw [hq];assumption
 have c1p:=kz c1
 refine Aa ?_
 refine AB (.t1 0) ?_
 refine AA (Gs (Gm rfl ?_))
 refine Ah rfl EJ (.c rfl (.c rfl .n)) (.c .h (.c .h .n)) (Bh _ _ _ _ hg hb (by omega)) (fun v4 B hv=>?_)
 obtain⟨y5,rfl,y6,rfl⟩:=hv
 refine Gn (.nil _) (Gs (Ga rfl (Ga rfl (AQ (AA (Ac ?_))))))
 refine AZ rfl (.tmp rfl (.tmp rfl .n)) ?_
 intro w1 hS
 have hS:=(hS.perm (Ay.perm (.c .h (.c .h .n)))).A4
 have hq:T.A9 u=(T.tell AF.Oh,0,false):=AX c1
 refine⟨_,⟨?gq3,?hv3,?hl3,?hB3⟩,hS⟩
 case hB3=>rw [hq];(try rfl)
 case hv3=>rw [hq];(try rfl)
 case hl3=>rw [hq];assumption
theorem PV (b:Nat)(T:AF)(g:Hd)(o:Order)(hg:g.len=T.out.length)(hF:T.Fit)(hm:o.name.length≤5000000)(hn:T.out.length≤90000):Fa Tryz.prog 104 #[.pointer (some ⟨b,0,none⟩), .agg o.enc.toArray] [Ad.box b 163 (Ae.enc ⟨T.w,T.b,g⟩),Ad.own g 56 16 (T.out.flatMap Ing.Event.enc)] (fun w=>(G3 7 w∧7 ∉ Cj [Ad.box b 163 (Ae.enc ⟨T.w,T.b,g⟩),Ad.own g 56 16 (T.out.flatMap Ing.Event.enc)])∧(G3 8 w∧8 ∉ Cj [Ad.box b 163 (Ae.enc ⟨T.w,T.b,g⟩),Ad.own g 56 16 (T.out.flatMap Ing.Event.enc)])) (fun v B=>∃ g':Hd,v = .tuple #[]∧g'.len=(T.FB o).out.length∧B = [Ad.box b 163 (Ae.enc ⟨(T.FB o).w,(T.FB o).b,g'⟩),Ad.own g' 56 16 ((T.FB o).out.flatMap Ing.Event.enc)]):=by
 intro w hS0 hH
 obtain⟨⟨gl0,gm0⟩,⟨gl1,gm1⟩⟩:=hH
 have hb:=hF.b
 have hr:=hF.room
 have hsr:=T.Lh (if (!decide (o.nth=1) || o.Bm)=true then [] else o.name)
 have hsb:0≤(T.A9 (if (!decide (o.nth=1) || o.Bm)=true then [] else o.name)).1.b∧(T.A9 (if (!decide (o.nth=1) || o.Bm)=true then [] else o.name)).1.b < 6:=by rw [(T.JP _).2];exact hb
 refine Am _ _ Tryz.func104 rfl rfl rfl (hS0) ?_
 refine Gs ?_
 refine B0 rfl rfl rfl (fun b1=>?_)
 refine Gn (.t2 0 3) (Gs (Gt (Aj Fq rfl) (Gt (AG rfl CM .m0 Order.l3 rfl rfl) (Ga rfl (Gn (.t3 0 3 4) (CD (Gt (Aj GZ rfl) ?_)))))))
 refine Gt (AG rfl A5 .m0 Order.l1 rfl rfl) (Gt (CN rfl rfl) (Gm rfl (Bg 12 rfl rfl (fun q=>Aj HN rfl) (Bg 12 rfl rfl (fun q=>AG (cF rfl q) DO .m0 Order.l2 rfl rfl) ?_))))
 refine Gt (BU rfl rfl (fun h=>by rw [h];rfl)) ?_
 refine Gn (.t3 0 4 15) ?_
 refine RU (BT) (s:=(if (!decide (o.nth=1) || o.Bm)=true then [] else o.name)) rfl rfl rfl rfl rfl ?_
 refine AB (.t2 0 4) ?_
 refine AA (Gs (Gm rfl (Gm rfl ?_)))
 refine BJ rfl ZW (.c rfl (.c rfl .n)) (.c (.t .h) (.c (.t .h) .n)) (Ir _ T _ _ hg hF (by split<;>(try simp)<;>omega) (by omega)) (fun w hS=>⟨gl0.pull gm0 hS (.c (.t .h) (.c (.t .h) .n)),gl1.pull gm1 hS (.c (.t .h) (.c (.t .h) .n))⟩) (fun v1 B hv=>?_)
 obtain⟨y2,rfl,y3,rfl⟩:=hv
 refine Gm rfl (Gt (AL rfl rfl) (Gt (AL rfl rfl) (Ga rfl (Ga rfl (Gn (.t3 0 5 6) (CD (Gm rfl ?_)))))))
 refine Gt (BR rfl) (Gn (.t3 0 5 23) ?_)
 refine Gc (fun c1=>?_) (fun c1=>?_)
 ·
  have c1p:=kz c1
  refine Ac (AE ?_)
  refine AZ rfl .n ?_
  intro w1 hS
  have hS:=(hS.perm (Ay.perm (.c .h (.c .h .n)))).A4
  have hq:T.FB o=_:=BF c1
  refine⟨_,⟨?gq1,rfl,?hl1,?hB1⟩,hS⟩
  case hB1=>rw [hq];(try rfl)
  case hl1=>rw [hq];assumption
 have c1p:=kz c1
 refine Aa ?_
 refine AB (.t2 0 5) ?_
 refine AA (Aq ?_)
 refine BE (N:=13) [0,0,2,6,14,0,32,1,129,385,1023,2047,4095] mix (by kernel_rfl) rfl ?_
 refine Pf 0 rfl (AD rfl) (Pf 1 rfl (AD rfl) (Pf 2 rfl (BV rfl) (Pf 3 rfl (Aj CV rfl) (Pf 4 rfl (AG rfl A5 .m0 Ae.l1 rfl rfl) (Pf 5 rfl (AD rfl) ?_)))))
 refine Pf 6 rfl (Ax rfl rfl (IntWalk.i64_in _ (by first | omega | exact hsb.1 | exact hsb.2 | (dsimp only;omega)))) ?_
 refine Pf 7 rfl (BV rfl) (Pf 8 rfl (Aj BC rfl) (Pf 9 rfl (Aj Br rfl) ?_))
 refine Pf 10 rfl (AN C8 rfl rfl (by first | omega | exact hsb.1 | exact hsb.2 | (dsimp only;omega)) (by first | omega | exact hsb.1 | exact hsb.2 | (dsimp only;omega))) ?_
 refine Pf 11 rfl (Aj GR rfl) ?_
 refine Af 12 rfl (by kernel_rfl) ?_
 refine AU (AK (((Ae.l0.comp AI.l2).comp (AS.ar (n:=6) An.fl (by first | omega | exact hsb | (dsimp only;omega)))).comp An.l5) rfl rfl rfl DD rfl .h) ?_
 refine BN rfl ⟨?_,?_⟩
 · exact(Pk (Pk (Pk (Pk (Pk (Pk (Pk (Pk (Pk (Pk (Pk (Pk Ar))))))))))))
 refine A1 (by kernel_rfl) ?_
 refine AB (.t2 0 5) ?_
 refine AA (CD (Gm rfl (Gm rfl (Gt (BV rfl) (Gt (Aj BC rfl) (Gt (Aj Br rfl) ?_))))))
 refine Gt (AN C8 rfl rfl (by first | omega | exact hsb.1 | exact hsb.2 | (dsimp only;omega)) (by first | omega | exact hsb.1 | exact hsb.2 | (dsimp only;omega))) ?_
 refine Gt (Aj GR rfl) ?_
 refine Gt (AG rfl A5 .m0 (((Ae.l0.comp AI.l2).comp (AS.ar (n:=6) An.fl (by first | omega | exact hsb | (dsimp only;omega)))).comp An.l5) rfl rfl) ?_
 refine Gt (Ak rfl rfl) (Gn (.t3 0 5 44) ?_)
 refine Gc (fun c2=>?_) (fun c2=>?_)
 ·
  have c2p:=kz c2
  refine BE (N:=13) [0,0,0,4,12,28,60,1,129,385,1023,2047,4095] mix (by kernel_rfl) rfl ?_
  refine Pf 0 rfl (AD rfl) (Pf 1 rfl (AD rfl) (Pf 2 rfl (AD rfl) (Pf 3 rfl (BV rfl) (Pf 4 rfl (Aj CV rfl) (Pf 5 rfl (AG rfl A5 .m0 Ae.l1 rfl rfl) ?_)))))
  refine Pf 6 rfl (Ax rfl rfl (IntWalk.i64_in _ (by first | omega | exact hsb.1 | exact hsb.2 | (dsimp only;omega)))) ?_
  refine Pf 7 rfl (BV rfl) (Pf 8 rfl (Aj BC rfl) (Pf 9 rfl (Aj Br rfl) ?_))
  refine Pf 10 rfl (AN C8 rfl rfl (by first | omega | exact hsb.1 | exact hsb.2 | (dsimp only;omega)) (by first | omega | exact hsb.1 | exact hsb.2 | (dsimp only;omega))) ?_
  refine Pf 11 rfl (Aj GR rfl) ?_
  refine Af 12 rfl (by kernel_rfl) ?_
  refine AU (AK (((Ae.l0.comp AI.l2).comp (AS.ar (n:=6) An.fl (by first | omega | exact hsb | (dsimp only;omega)))).comp An.l5) rfl rfl rfl DD rfl .h) ?_
  refine BN rfl ⟨?_,?_⟩
  · exact(Pk (Pk (Pk (Pk (Pk (Pk (Pk (Pk (Pk (Pk (Pk (Pk Ar))))))))))))
  refine A1 (by kernel_rfl) ?_
  refine AB (.t1 0) ?_
  refine AA (AJ (Gm rfl ?_))
  refine Ah rfl EJ (.c rfl (.c rfl .n)) (.c .h (.c .h .n)) (Bh _ (AF.Ck (AF.Ck (T.A9 (if (!decide (o.nth=1) || o.Bm)=true then [] else o.name)).1 (T.A9 (if (!decide (o.nth=1) || o.Bm)=true then [] else o.name)).1.b ((T.A9 (if (!decide (o.nth=1) || o.Bm)=true then [] else o.name)).2.1+1)) (T.A9 (if (!decide (o.nth=1) || o.Bm)=true then [] else o.name)).2.1 ((T.A9 (if (!decide (o.nth=1) || o.Bm)=true then [] else o.name)).1.b+1)) _ _ (by assumption) hsb (by show(T.A9 (if (!decide (o.nth=1) || o.Bm)=true then [] else o.name)).1.out.length≤100000;have:=T.HI (if (!decide (o.nth=1) || o.Bm)=true then [] else o.name);omega)) (fun v4 B hv=>?_)
  obtain⟨y5,rfl,y6,rfl⟩:=hv
  refine AQ ?_
  refine Bn rfl .n ?_
  intro w1 hS
  have hS:=(hS.perm (Ay.perm (.c .h (.c .h .n)))).A4
  have hq:T.FB o=_:=(show T.FB o=_ from AX c1).trans (congrArg (fun q=>AF.tell q AF.RS) (BF c2))
  refine⟨_,⟨?gq2,rfl,?hl2,?hB2⟩,hS⟩
  case hB2=>rw [hq];(try rfl)
  case hl2=>rw [hq];assumption
 have c2p:=kz c2
 refine Aa ?_
 refine AB (.t1 0) ?_
 refine AA (AJ (Gm rfl ?_))
 refine Ah rfl EJ (.c rfl (.c rfl .n)) (.c .h (.c .h .n)) (Bh _ (AF.Ck (T.A9 (if (!decide (o.nth=1) || o.Bm)=true then [] else o.name)).1 (T.A9 (if (!decide (o.nth=1) || o.Bm)=true then [] else o.name)).1.b ((T.A9 (if (!decide (o.nth=1) || o.Bm)=true then [] else o.name)).2.1+1)) _ _ (by assumption) hsb (by show(T.A9 (if (!decide (o.nth=1) || o.Bm)=true then [] else o.name)).1.out.length≤100000;have:=T.HI (if (!decide (o.nth=1) || o.Bm)=true then [] else o.name);omega)) (fun v7 B hv=>?_)
 obtain⟨y8,rfl,y9,rfl⟩:=hv
 refine AQ ?_
 refine Bn rfl .n ?_
 intro w1 hS
 have hS:=(hS.perm (Ay.perm (.c .h (.c .h .n)))).A4
 have hq:T.FB o=_:=(show T.FB o=_ from AX c1).trans (congrArg (fun q=>AF.tell q AF.RS) (AX c2))
 refine⟨_,⟨?gq3,rfl,?hl3,?hB3⟩,hS⟩
 case hB3=>rw [hq];(try rfl)
 case hl3=>rw [hq];assumption
theorem JS (b:Nat)(T:AF)(g:Hd)(hF:T.Fit):Jk Tryz.prog 132 #[.pointer (some ⟨b,0,none⟩)] [Ad.box b 163 (Ae.enc ⟨T.w,T.b,g⟩)] (fun v B=>∃ f:Hd,v=f.val∧f.len=(T.seen).length∧B = [Ad.box b 163 (Ae.enc ⟨T.w,T.b,g⟩),Ad.own f 3 1 ((T.seen).flatMap Az)]):=by
 intro w hS0
 have hb:=hF.b
 have hr:=hF.room
 refine Am _ _ Tryz.func132 rfl rfl rfl (hS0) ?_
 refine Gs (Ga rfl (Gn (.t1 0) (Aq ?_)))
 refine BE (N:=12) [0,0,2,6,14,1,33,97,255,511,1023,2047] mix (by kernel_rfl) rfl ?_
 refine Pf 0 rfl (AD rfl) (Pf 1 rfl (AD rfl) (Pf 2 rfl (BV rfl) (Pf 3 rfl (Aj CV rfl) (Pf 4 rfl (AG rfl A5 .m0 Ae.l1 rfl rfl) (Pf 5 rfl (BV rfl) (Pf 6 rfl (Aj BC rfl) (Pf 7 rfl (Aj Br rfl) ?_)))))))
 refine Pf 8 rfl (AN C8 rfl rfl (by first | omega | exact hb.1 | exact hb.2 | (dsimp only;omega)) (by first | omega | exact hb.1 | exact hb.2 | (dsimp only;omega))) ?_
 refine Pf 9 rfl (Aj C6 rfl) ?_
 refine Pf 10 rfl (AG rfl A5 .m0 (((Ae.l0.comp AI.l2).comp (AS.ar (n:=6) An.fl (by first | omega | exact hb | (dsimp only;omega)))).comp An.l3) rfl rfl) ?_
 refine Pf 11 rfl (A2 rfl) ?_
 refine A1 (by kernel_rfl) ?_
 refine AB (.t2 0 3) ?_
 refine AA (CD (Gm rfl (Gt (BV rfl) (Gt (Aj BC rfl) (Gt (AY rfl Ba .m0 Ae.l0 rfl) (Gm rfl ?_))))))
 refine BD rfl UL (.c rfl (.c rfl .n)) (fun w hS=>El _ _ w) ?_
 refine Gt (BR rfl) (Gn (.t3 0 3 21) ?_)
 refine Gc (fun c1=>?_) (fun c1=>?_)
 ·
  refine Gs (Ga rfl (Gn (.t1 2) (Ac (AE ?_))))
  refine AZ rfl (.tmp rfl .n) ?_
  intro w1 hS
  have hS:=hS.Cr 3 1
  have hS:=(hS.perm (Ay.perm (.c (.t .h) (.c .h .n)))).A4
  have hq:T.seen=_:=BF c1
  exact⟨_,⟨⟨none,0,0⟩,rfl,by rw [hq];rfl,by rw [hq];rfl⟩,hS⟩
 have c1p:=kz c1
 refine Aa ?_
 refine AB (.t2 0 3) ?_
 refine AA (Gs (Gm rfl (Gt (BV rfl) (Gt (Aj BC rfl) (Gt (AY rfl Ba .m0 Ae.l0 rfl) (Gm rfl ?_))))))
 refine Ah rfl Sr (.c rfl (.c rfl (.c rfl .n))) .n (FK _ _ _) (fun v2 B hv=>?_)
 obtain⟨y3,rfl,y4,rfl⟩:=hv
 refine Ga rfl (Gn (.t1 2) (Ac ?_))
 refine AZ rfl (.tmp rfl .n) ?_
 intro w1 hS
 have hS:=(hS.perm (Ay.perm (.c (.t .h) (.c .h .n)))).A4
 have hq:T.seen=_:=(AX c1)
 exact⟨_,⟨_,rfl,by rw [hq];first | rfl | assumption,by rw [hq];rfl⟩,hS⟩
theorem E1 (b:Nat)(T:AF)(g:Hd)(f:Hd)(l:List Int)(z:Int)(u:Au)(a:Bool)(hF:T.Fit)(hf:f.len=l.length)(hl:l.length≤100)(hi:∀ i∈l,0≤i∧i < 9):Jk Tryz.prog 134 #[.pointer (some ⟨b,0,none⟩),f.val, .int .i64 z,BT u, .bool a] [Ad.box b 163 (Ae.enc ⟨T.w,T.b,g⟩),Ad.own f 3 1 (l.flatMap Az)] (fun v B=>∃ h:Hd,v=h.val∧h.len=(AF.BQ T.w l z u a).length∧B = [Ad.box b 163 (Ae.enc ⟨T.w,T.b,g⟩),Ad.own f 3 1 (l.flatMap Az),Ad.own h 3 1 ((AF.BQ T.w l z u a).flatMap Az)]):=by
 intro w hS0
 have hb:=hF.b
 have hr:=hF.room
 refine Am _ _ Tryz.func134 rfl rfl rfl (hS0) ?_
 refine Gs (Ga rfl (Gn (.t5 0 1 2 3 4) (Gs (Ga rfl (AQ (AA (CD ?_)))))))
 refine Gm rfl (Gt (Av rfl Tryz.underlying169 rfl) (Gm rfl (Gn (.t8 0 2 3 4 11 14 15 16) (Ag ?_))))
 refine Bo (.t8 11 16 0 2 3 4 14 15) ?_
 refine FF Az 3 1 ?_
 refine D2 (fun(k:Int) (xs:List Int) (h:Hd)=>0≤k∧k≤(l.length:Int)∧xs=AF.Jg T.w u (l.take k.toNat)∧h.len=xs.length∧xs.length≤k.toNat) (fun(k:Int) (xs:List Int) (h:Hd)=>((l.length:Int) - k).toNat) (fun(k:Int) (xs:List Int) (h:Hd)=> [(11,h.val),(16, .int .i64 k)]) (fun(k:Int) (xs:List Int) (h:Hd)=> [Ad.own h 3 1 (xs.flatMap Az)]) (0) ([]) (_) ?_ rfl rfl (fun k xs h hI1=>?_)
 · exact⟨by omega,by omega,rfl,rfl,by simp⟩
 obtain⟨hI11,hI12,hI13,hI14,hI15⟩:=hI1
 refine Gs (Gt (BA rfl rfl) (AQ (AA (Aq ?_))))
 refine Gc (fun c1=>?_) (fun c1=>?_)
 ·
  have c1p:=kz c1
  have hx:=hi _ (Bi.E3 (xs:=l) (i:=k.toNat) (by omega))
  refine Aa ?_
  refine AB (.t8 0 2 3 4 11 14 15 16) ?_
  refine AA (Aq (Ag (Gs ?_)))
  refine Gt (Bs G2 (by decide) (Kn.own .m2) rfl rfl (by omega) (by omega)) ?_
  refine Gt (DI rfl A5 (Kn.own .m2) (by omega)) ?_
  refine Ga rfl (Gn (.t9 0 2 3 4 11 13 14 15 16) (Gs (Gm rfl (Gt (Bu rfl rfl) (Gm rfl (Bg 22 rfl rfl (fun q=>AD rfl) (Bg 22 rfl rfl (fun q=>AD rfl) ?_)))))))
  refine Bg 22 rfl rfl (fun q=>BV (cF rfl q)) (Bg 22 rfl rfl (fun q=>Aj BC (cF rfl q)) (Bg 22 rfl rfl (fun q=>Aj Cx (cF rfl q)) ?_))
  refine Bg 22 rfl rfl (fun q=>by have q1:=q;(try simp at q1);exact AN GW (cF rfl q) (cF rfl q) (by first | omega | exact hb.1 | exact hb.2) (by first | omega | exact hb.1 | exact hb.2)) ?_
  refine Bg 22 rfl rfl (fun q=>Aj Mn (cF rfl q)) ?_
  refine Bg 22 rfl rfl (fun q=>by have q1:=q;(try simp at q1);exact AG (cF rfl q) CM .m1 (((Ae.l0.comp AI.l1).comp (AS.ar (n:=9) Ao.fl (by first | omega | exact hb))).comp Ao.l0) rfl rfl) ?_
  refine Bg 22 rfl rfl (fun q=>AD rfl) (Bg 22 rfl rfl (fun q=>Bu (cF rfl q) (cF rfl q)) ?_)
  refine Gt (BU rfl rfl (fun h=>by rw [h];rfl)) ?_
  refine Gn (.t10 0 2 3 4 11 13 14 15 16 33) ?_
  refine Gc (fun c2=>?_) (fun c2=>?_)
  ·
   have c2p:=kz c2
   refine AJ (Gm rfl (Gm rfl ?_))
   refine F8 Az B1 rfl Tryz.underlying169 DD ao rfl (by decide) (by decide) rfl rfl (fun b1=>?_)
   refine Ch B1 rfl Tryz.underlying169 DD ao rfl dE (by decide) (by decide) rfl rfl (fun w hS=>Src.D8 Tryz.underlying169 ((Kn.own .m0) w hS)) (by(try dsimp only);omega) (fun _=>(.t .h)) (fun h1 h1l h1z=>?_)
   refine Ga rfl ?_
   refine AQ (AB (.t8 0 2 3 4 11 14 15 16) ?_)
   refine AV (AA (AJ ?_))
   refine Gt (Ax rfl rfl (IntWalk.i64_in _ (by first | omega | exact hb.1 | exact hb.2))) ?_
   refine Gm rfl ?_
   refine AQ (AB (.t8 0 2 3 4 11 14 15 16) ?_)
   refine B3 (k+1) _ _ ?_ ?_ (.t8 11 16 0 2 3 4 14 15) (.cons _ (.refl _))
   · exact⟨by omega,by omega,by rw [AF.YR hI11 (by omega) c2,← hI13],(by(try dsimp only at *)<;>(try simp only [List.length_append,List.length_cons,List.length_nil])<;>omega),(by(try simp only [List.length_append,List.length_cons,List.length_nil]);omega)⟩
   · omega
  have c2p:=kz c2
  refine Aa ?_
  refine AB (.t8 0 2 3 4 11 14 15 16) ?_
  refine AV (AA (AJ ?_))
  refine Gt (Ax rfl rfl (IntWalk.i64_in _ (by first | omega | exact hb.1 | exact hb.2))) ?_
  refine Gm rfl ?_
  refine AQ (AB (.t8 0 2 3 4 11 14 15 16) ?_)
  refine B3 (k+1) _ _ ?_ ?_ (.t8 11 16 0 2 3 4 14 15) (.refl _)
  · exact⟨by omega,by omega,by rw [AF.Y1 hI11 (by omega) c2,← hI13],(by(try dsimp only at *)<;>(try simp only [List.length_append,List.length_cons,List.length_nil])<;>omega),(by(try simp only [List.length_append,List.length_cons,List.length_nil]);omega)⟩
  · omega
 have c1p:=kz c1
 obtain rfl:k=(l.length:Int):=by omega
 have hx3:=hI13
 rw [show(l.length:Int).toNat=l.length by omega,List.take_length] at hx3
 have hpa:=AF.Vx T.w u l
 rw [← hx3] at hpa
 refine Be (AW (AW (Ai ?_)))
 refine AB (.t3 2 4 11) ?_
 refine AA (CD (Gm rfl (Gn (.t3 2 11 39) ?_)))
 refine Gc (fun c3=>?_) (fun c3=>?_)
 ·
  have c3p:=kz c3
  refine Gs (Gm rfl (Ga rfl (Gn (.t1 10) (Ac (AE ?_)))))
  refine AZ rfl (.tmp rfl .n) ?_
  intro w1 hS
  have hS:=(hS.perm (Ay.perm (.c (.t .h) (.c (.t .h) (.c .h .n))))).A4
  have hq:AF.BQ T.w l z u a=_:=(BF c3)
  refine⟨_,⟨_,rfl,?hl1,?hB1⟩,hS⟩
  case hB1=>rw [hq];(try rw [← hx3]);(try rfl)
  case hl1=>rw [hq];first | rfl | (rw [← hx3];first | assumption | (simp only [Hd.cut,List.length_drop,List.length_take];omega))
 have c3p:=kz c3
 refine Aa ?_
 refine AB (.t2 2 11) ?_
 refine AA (CD (Gm rfl (Gt (BA rfl rfl) (Gm rfl (Bg 43 rfl rfl (fun q=>AD rfl) (Bg 43 rfl rfl (fun q=>AD rfl) (Bg 43 rfl rfl (fun q=>Av rfl Tryz.underlying169 (cF rfl q)) ?_)))))))
 refine Bg 43 rfl rfl (fun q=>Cp (cF rfl q) (cF rfl q)) ?_
 refine Gt (BU rfl rfl (fun h=>by rw [h];rfl)) ?_
 refine Gn (.t3 2 11 48) ?_
 refine Gc (fun c4=>?_) (fun c4=>?_)
 ·
  have c4p:=kz c4
  rw [hI14,hx3] at c4
  refine Gs (Ga rfl (Gn (.t1 10) (Ac (AE ?_))))
  refine AZ rfl (.tmp rfl .n) ?_
  intro w1 hS
  have hS:=hS.Cr 3 1
  have hS:=(hS.perm (Ay.perm (.c (.t (.t .h)) (.c (.t (.t .h)) (.c .h .n))))).A4
  have hq:AF.BQ T.w l z u a=_:=((AX c3).trans (BF c4))
  refine⟨_,⟨⟨none,0,0⟩,rfl,?hl2,?hB2⟩,hS⟩
  case hB2=>rw [hq];(try rw [← hx3]);(try rfl)
  case hl2=>rw [hq];first | rfl | (rw [← hx3];first | assumption | (simp only [Hd.cut,List.length_drop,List.length_take];omega))
 have c4p:=kz c4
 have c4q:=c4p
 rw [hI14,hx3] at c4
 refine Aa ?_
 refine AB (.t2 2 11) ?_
 refine AA (Gs (Gm rfl (Gm rfl ?_)))
 refine Gt (FX rfl rfl (IntWalk.i64_in _ (by first | omega | exact hb.1 | exact hb.2))) ?_
 refine Gm rfl ?_
 refine S9 B1 rfl Tryz.underlying169 DD rfl rfl rfl (by first | omega | exact hb.1 | exact hb.2) (by first | omega | exact hb.1 | exact hb.2) (by first | omega | exact hb.1 | exact hb.2) (fun _=> .h) ?_
 refine Ga rfl (Gn (.t1 10) (Ac ?_))
 refine AZ rfl (.tmp rfl .n) ?_
 intro w1 hS
 have hS:=(hS.perm (Ay.perm (.c (.t .h) (.c (.t .h) (.c .h .n))))).A4
 have hq:AF.BQ T.w l z u a=_:=((AX c3).trans (AX c4))
 refine⟨_,⟨_,rfl,?hl3,?hB3⟩,hS⟩
 case hB3=>rw [hq];(try rw [← hx3]);(try rfl)
 case hl3=>rw [hq];first | rfl | (rw [← hx3];first | assumption | (simp only [Hd.cut,List.length_drop,List.length_take];omega))
theorem SJ (b:Nat)(T:AF)(g:Hd)(u:Au)(hF:T.Fit)(hu:u.length≤5000000):Fa Tryz.prog 161 #[.pointer (some ⟨b,0,none⟩),BT u] [Ad.box b 163 (Ae.enc ⟨T.w,T.b,g⟩)] (fun w=>(G3 7 w∧7 ∉ Cj [Ad.box b 163 (Ae.enc ⟨T.w,T.b,g⟩)])∧(G3 8 w∧8 ∉ Cj [Ad.box b 163 (Ae.enc ⟨T.w,T.b,g⟩)])) (fun v B=>v = .tuple #[.int .i64 (T.one u).1, .bool (T.one u).2]∧B = [Ad.box b 163 (Ae.enc ⟨T.w,T.b,g⟩)]):=by
 intro w hS0 hH
 obtain⟨⟨gl0,gm0⟩,⟨gl1,gm1⟩⟩:=hH
 have hb:=hF.b
 have hr:=hF.room
 have ho9:=T.KQ
 have hs9:=T.I2
 refine Am _ _ Tryz.func161 rfl rfl rfl (hS0) ?_
 refine Gs (Ga rfl (Ga rfl (Gn (.t2 0 1) (Gs (Gm rfl ?_)))))
 refine BD rfl U6 (.c rfl .n) (fun w hS=>FV _ (by first | assumption | omega) w (gl0.stM gm0 hS) (gl1.stM gm1 hS)) ?_
 refine Gm rfl (Gt (AL rfl rfl) (Gt (AL rfl rfl) (Gt (AL rfl rfl) (Gt (AL rfl rfl) (Ga rfl (Ga rfl (Ga rfl ?_)))))))
 refine Ga rfl (Gn (.t5 0 6 7 8 9) (CD (Gm rfl (Gt (CN rfl rfl) (Gm rfl (Bg 20 rfl rfl (fun q=>AD rfl) ?_))))))
 refine Gt (BU rfl rfl (fun h=>by rw [h];rfl)) ?_
 refine Gn (.t4 0 6 7 22) ?_
 refine Gc (fun c1=>?_) (fun c1=>?_)
 ·
  refine Gs (Ga rfl (Ga rfl (Gn (.t2 4 5) (Ac (AE ?_)))))
  refine AZ rfl (.tmp rfl (.tmp rfl .n)) ?_
  intro w1 hS
  have hS:=(hS.perm (Ay.perm (.c .h .n))).A4
  have hq:T.one u=_:=(BF c1)
  exact⟨_,⟨by rw [hq];rfl,rfl⟩,hS⟩
 have c1p:=kz c1
 refine Aa ?_
 refine AB (.t3 0 6 7) ?_
 refine AA (Gs (Gm rfl (Gm rfl ?_)))
 refine Ah rfl Ur (.c rfl .n) (.c .h .n) (IH _ _ _ (by first | assumption | omega)) (fun v1 B hv=>?_)
 obtain⟨y2,rfl,y3,rfl⟩:=hv
 refine Gm rfl ?_
 refine Ah rfl X4 (.c rfl .n) (.c .h .n) (JS _ _ _ (by first | assumption | omega)) (fun v5 B hv=>?_)
 obtain⟨y6,rfl,y7,rfl⟩:=hv
 refine Ch B1 rfl Tryz.underlying169 DD ao rfl dE (by decide) (by decide) rfl rfl (fun w hS=>Src.D8 Tryz.underlying169 ((Kn.own .m1) w hS)) (by(try dsimp only);omega) (fun _=>(.t (.t .h))) (fun h9 h9l h9z=>?_)
 refine Gm rfl (Gm rfl ?_)
 refine Ah rfl QS (.c rfl (.c rfl (.c rfl (.c rfl (.c rfl .n))))) (.c .h (.c (.t .h) .n)) (E1 _ T _ _ (T.own++T.seen) _ _ _ hF (by rw [List.length_append];omega) (by rw [List.length_append];omega) (fun i hi=>AF.RX hi)) (fun v10 B hv=>?_)
 obtain⟨y11,rfl,y12,rfl⟩:=hv
 refine Ga rfl (Gn (.t1 10) (CD (Gm rfl (Gt (Av rfl Tryz.underlying169 rfl) (Gt (Ak rfl rfl) (Gn (.t2 10 34) ?_))))))
 refine Gc (fun c2=>?_) (fun c2=>?_)
 ·
  have c2p:=kz c2
  have hpl:=y12
  rw [hpl] at c2 c2p
  refine Gs (Ga rfl (Ga rfl (Gn (.t2 4 5) (Ac (AE ?_)))))
  refine AZ rfl (.tmp rfl (.tmp rfl .n)) ?_
  intro w1 hS
  have hS:=(hS.perm (Ay.perm (.c .h .n))).A4
  have hq:T.one u=_:=((AX c1).trans (BF c2))
  exact⟨_,⟨by rw [hq];rfl,rfl⟩,hS⟩
 have c2p:=kz c2
 have hpl:=y12
 rw [hpl] at c2 c2p
 refine Aa ?_
 refine AB (.t1 10) ?_
 refine AA (Gs (Gm rfl ?_))
 refine Gt (Bs G2 (by decide) (Kn.own .m2) rfl rfl (by omega) (by omega)) ?_
 refine Gt (DI rfl A5 (Kn.own .m2) (by omega)) ?_
 refine Ga rfl (Ga rfl (Gn (.t2 4 5) (Ac ?_)))
 refine AZ rfl (.tmp rfl (.tmp rfl .n)) ?_
 intro w1 hS
 have hS:=(hS.perm (Ay.perm (.c .h .n))).A4
 have hq:T.one u=_:=((AX c1).trans (AX c2))
 exact⟨_,⟨by rw [hq];rfl,rfl⟩,hS⟩
theorem Mx (b:Nat)(T:AF)(g:Hd)(u:Au)(hg:g.len=T.out.length)(hF:T.Fit)(hu:u.length≤5000000)(hn:T.out.length≤99000):Fa Tryz.prog 133 #[.pointer (some ⟨b,0,none⟩),BT u] [Ad.box b 163 (Ae.enc ⟨T.w,T.b,g⟩),Ad.own g 56 16 (T.out.flatMap Ing.Event.enc)] (fun w=>(G3 7 w∧7 ∉ Cj [Ad.box b 163 (Ae.enc ⟨T.w,T.b,g⟩),Ad.own g 56 16 (T.out.flatMap Ing.Event.enc)])∧(G3 8 w∧8 ∉ Cj [Ad.box b 163 (Ae.enc ⟨T.w,T.b,g⟩),Ad.own g 56 16 (T.out.flatMap Ing.Event.enc)])) (fun v B=>∃ g':Hd,v = .tuple #[.int .i64 (T.box u).2.1, .bool (T.box u).2.2]∧g'.len=((T.box u).1).out.length∧B = [Ad.box b 163 (Ae.enc ⟨((T.box u).1).w,((T.box u).1).b,g'⟩),Ad.own g' 56 16 (((T.box u).1).out.flatMap Ing.Event.enc)]):=by
 intro w hS0 hH
 obtain⟨⟨gl0,gm0⟩,⟨gl1,gm1⟩⟩:=hH
 have hb:=hF.b
 have hr:=hF.room
 have ho:=T.UR u
 refine Am _ _ Tryz.func133 rfl rfl rfl (hS0) ?_
 refine Gs (Ga rfl (Ga rfl (Gn (.t2 0 1) (Gs (Gm rfl (Gm rfl ?_))))))
 refine BJ rfl bc (.c rfl (.c rfl .n)) (.c .h .n) (SJ _ T _ _ hF hu) (fun w hS=>⟨gl0.pull gm0 hS (.c .h .n),gl1.pull gm1 hS (.c .h .n)⟩) (fun v1 B hv=>?_)
 obtain⟨rfl,rfl⟩:=hv
 refine Gm rfl (Gt (AL rfl rfl) (Gt (AL rfl rfl) (Ga rfl (Ga rfl (Gn (.t3 0 6 7) (CD (Gm rfl ?_)))))))
 refine Gt (BR rfl) (Gm rfl (Bg 16 rfl rfl (fun q=>AD rfl) (Bg 16 rfl rfl (fun q=>AD rfl) (Bg 16 rfl rfl (fun q=>BV (cF rfl q)) (Bg 16 rfl rfl (fun q=>Aj BC (cF rfl q)) (Bg 16 rfl rfl (fun q=>Aj Cx (cF rfl q)) ?_))))))
 refine Bg 16 rfl rfl (fun q=>by have q1:=q;(try simp at q1);exact AN GW (cF rfl q) (cF rfl q) (by first | omega | exact hb.1 | exact hb.2 | (dsimp only;omega)) (by first | omega | exact hb.1 | exact hb.2 | (dsimp only;omega))) ?_
 refine Bg 16 rfl rfl (fun q=>Aj G9 (cF rfl q)) ?_
 refine Bg 16 rfl rfl (fun q=>by have q1:=q;(try simp at q1);exact AG (cF rfl q) A5 .m0 (((Ae.l0.comp AI.l1).comp (AS.ar (n:=9) Ao.fl (by first | omega | exact hb | (dsimp only;omega)))).comp Ao.l1) rfl rfl) ?_
 refine Bg 16 rfl rfl (fun q=>CN (cF rfl q) rfl) ?_
 refine Gt (BU rfl rfl (fun h=>by rw [h];rfl)) ?_
 refine Gn (.t3 0 6 26) ?_
 refine Gc (fun c1=>?_) (fun c1=>?_)
 ·
  have c1p:=kz c1
  refine Gs (Gm rfl ?_)
  refine Ah rfl EJ (.c rfl (.c rfl .n)) (.c .h (.c .h .n)) (Bh _ _ _ _ hg hb (by omega)) (fun v2 B hv=>?_)
  obtain⟨y3,rfl,y4,rfl⟩:=hv
  refine Gn (.nil _) (Gs (Ga rfl (Ga rfl (AQ (AA (Ac (AE ?_)))))))
  refine AZ rfl (.tmp rfl (.tmp rfl .n)) ?_
  intro w1 hS
  have hS:=(hS.perm (Ay.perm (.c .h (.c .h .n)))).A4
  have hq:T.box u=_:=(BF c1)
  refine⟨_,⟨?gq1,?hv1,?hl1,?hB1⟩,hS⟩
  case hB1=>rw [hq];(try rfl)
  case hv1=>rw [hq];(try rfl)
  case hl1=>rw [hq];assumption
 have c1p:=kz c1
 refine Aa ?_
 refine AB (.t2 0 6) ?_
 refine AA (CD (Gm rfl (Gm rfl (Gt (BV rfl) (Gt (Aj BC rfl) (Gt (Aj Cx rfl) ?_))))))
 refine Gt (AN GW rfl rfl (by first | omega | exact hb.1 | exact hb.2 | (dsimp only;omega)) (by first | omega | exact hb.1 | exact hb.2 | (dsimp only;omega))) ?_
 refine Gt (Aj GP rfl) ?_
 refine Gt (AG rfl DO .m0 (((Ae.l0.comp AI.l1).comp (AS.ar (n:=9) Ao.fl (by first | omega | exact hb | (dsimp only;omega)))).comp Ao.l4) rfl rfl) ?_
 refine Gt (BR rfl) (Gn (.t3 0 6 37) ?_)
 refine Gc (fun c2=>?_) (fun c2=>?_)
 ·
  have c2p:=kz c2
  refine Gs (Gm rfl ?_)
  refine Ah rfl EJ (.c rfl (.c rfl .n)) (.c .h (.c .h .n)) (Bh _ _ _ _ hg hb (by omega)) (fun v5 B hv=>?_)
  obtain⟨y6,rfl,y7,rfl⟩:=hv
  refine Gn (.nil _) (Gs (Ga rfl (Ga rfl (AQ (AA (Ac (AE ?_)))))))
  refine AZ rfl (.tmp rfl (.tmp rfl .n)) ?_
  intro w1 hS
  have hS:=(hS.perm (Ay.perm (.c .h (.c .h .n)))).A4
  have hq:T.box u=_:=((AX c1).trans (BF c2))
  refine⟨_,⟨?gq2,?hv2,?hl2,?hB2⟩,hS⟩
  case hB2=>rw [hq];(try rfl)
  case hv2=>rw [hq];(try rfl)
  case hl2=>rw [hq];assumption
 have c2p:=kz c2
 refine Aa ?_
 refine AB (.t1 6) ?_
 refine AA (Gs (Gm rfl (Ga rfl (Ga rfl (Gn (.t2 4 5) (Ac ?_))))))
 refine AZ rfl (.tmp rfl (.tmp rfl .n)) ?_
 intro w1 hS
 have hS:=(hS.perm (Ay.perm (.c .h (.c .h .n)))).A4
 have hq:T.box u=_:=((AX c1).trans (AX c2))
 refine⟨_,⟨?gq3,?hv3,?hl3,?hB3⟩,hS⟩
 case hB3=>rw [hq];(try rfl)
 case hv3=>rw [hq];(try rfl)
 case hl3=>rw [hq];assumption
theorem D9 (b:Nat)(T:AF)(g:Hd)(k i:Int)(hg:g.len=T.out.length)(hb:0≤T.b∧T.b < 6)(hi:0≤i∧i < 9)(hn:T.out.length≤100000):Jk Tryz.prog 135 #[.pointer (some ⟨b,0,none⟩), .int .i64 k, .int .i64 i] [Ad.box b 163 (Ae.enc ⟨T.w,T.b,g⟩),Ad.own g 56 16 (T.out.flatMap Ing.Event.enc)] (fun v B=>∃ g':Hd,v = .tuple #[]∧g'.len=(T.Bw k i).out.length∧B = [Ad.box b 163 (Ae.enc ⟨(T.Bw k i).w,(T.Bw k i).b,g'⟩),Ad.own g' 56 16 ((T.Bw k i).out.flatMap Ing.Event.enc)]):=by
 intro w hS0
 refine Am _ _ Tryz.func135 rfl rfl rfl (hS0) ?_
 refine AJ (Gm rfl (Gm rfl (Gm rfl (Gm rfl (Gt (BV rfl) (Gt (Aj BC rfl) (Gt (Aj Cx rfl) ?_)))))))
 refine Gt (AN GW rfl rfl (by(try dsimp only at *);omega) (by(try dsimp only at *);omega)) ?_
 refine Gt (Aj Mn rfl) ?_
 refine Gt (AG rfl CM .m0 (((Ae.l0.comp AI.l1).comp (AS.arr (n:=9) Ao.fl (by(try dsimp only at *);omega) (by(try dsimp only at *);omega))).comp Ao.l0) rfl rfl) ?_
 refine Gt (BH N9 JA rfl (.cons Ing.Event.l0 rfl rfl rfl (.cons Ing.Event.l3 rfl rfl rfl (.cons Ing.Event.l8 rfl rfl rfl .nil)))) ?_
 refine Ah rfl O4 (.c rfl (.c rfl .n)) (.c .h (.c .h .n)) (CU _ _ _ { AF.Fw k with Bw:=(T.w.AP.at i).name } hg hb (show(-1:Int) < 6 by decide) hn) (fun v1 B hv=>?_)
 obtain⟨y2,rfl,y3,rfl⟩:=hv
 refine AQ ?_
 refine Bn rfl .n ?_
 intro w1 hS
 have hS:=(hS.perm (Ay.perm (.c .h (.c .h .n)))).A4
 exact⟨_,⟨_,rfl,by assumption,rfl⟩,hS⟩
theorem SC (b:Nat)(T:AF)(g:Hd)(o:Order)(hg:g.len=T.out.length)(hF:T.Fit)(hu:o.second.length≤5000000)(hn:T.out.length≤90000):Fa Tryz.prog 105 #[.pointer (some ⟨b,0,none⟩), .agg o.enc.toArray] [Ad.box b 163 (Ae.enc ⟨T.w,T.b,g⟩),Ad.own g 56 16 (T.out.flatMap Ing.Event.enc)] (fun w=>(G3 7 w∧7 ∉ Cj [Ad.box b 163 (Ae.enc ⟨T.w,T.b,g⟩),Ad.own g 56 16 (T.out.flatMap Ing.Event.enc)])∧(G3 8 w∧8 ∉ Cj [Ad.box b 163 (Ae.enc ⟨T.w,T.b,g⟩),Ad.own g 56 16 (T.out.flatMap Ing.Event.enc)])) (fun v B=>∃ g':Hd,v = .tuple #[]∧g'.len=(T.get o).out.length∧B = [Ad.box b 163 (Ae.enc ⟨(T.get o).w,(T.get o).b,g'⟩),Ad.own g' 56 16 ((T.get o).out.flatMap Ing.Event.enc)]):=by
 intro w hS0 hH
 obtain⟨⟨gl0,gm0⟩,⟨gl1,gm1⟩⟩:=hH
 have hb:=hF.b
 have hr:=hF.room
 refine Am _ _ Tryz.func105 rfl rfl rfl (hS0) ?_
 refine Gs ?_
 refine B0 rfl rfl rfl (fun b1=>?_)
 refine Gn (.t2 0 3) (Gs (Gm rfl ?_))
 refine Ah rfl X4 (.c rfl .n) (.c (.t .h) .n) (JS _ _ _ (by first | assumption | omega)) (fun v1 B hv=>?_)
 obtain⟨y2,rfl,y3,rfl⟩:=hv
 refine Ga rfl (Gn (.t3 0 3 4) (CD (Gt (Aj IN rfl) (Gt (AG rfl CM .m2 Order.l4 rfl rfl) (Gt (Dt rfl rfl) (Gn (.t4 0 3 4 14) ?_))))))
 refine Gc (fun c1=>?_) (fun c1=>?_)
 ·
  have c1p:=kz c1
  refine Gs (Gm rfl (Gt (Aj IN rfl) (Gt (AG rfl CM .m2 Order.l4 rfl rfl) ?_)))
  refine BJ rfl ZP (.c rfl (.c rfl .n)) (.c .h (.c (.t (.t .h)) .n)) (Mx _ T _ _ hg hF hu (by omega)) (fun w hS=>⟨gl0.pull gm0 hS (.c .h (.c (.t (.t .h)) .n)),gl1.pull gm1 hS (.c .h (.c (.t (.t .h)) .n))⟩) (fun v5 B hv=>?_)
  obtain⟨y6,rfl,y7,rfl⟩:=hv
  refine Gm rfl (Gt (AL rfl rfl) (Gt (AL rfl rfl) (Ga rfl (Ga rfl (Gn (.t4 0 3 5 6) (CD (Gm rfl ?_)))))))
  refine Gt (BR rfl) (Gn (.t4 0 3 5 23) ?_)
  refine Gc (fun c2=>?_) (fun c2=>?_)
  ·
   have c2p:=kz c2
   refine Ac (AE (AE ?_))
   refine AZ rfl .n ?_
   intro w1 hS
   have hS:=(hS.perm (Ay.perm (.c .h (.c .h .n)))).A4
   have hq:T.get o=_:=((BF c1).trans (BF c2))
   refine⟨_,⟨?gq1,rfl,?hl1,?hB1⟩,hS⟩
   case hB1=>rw [hq];(try rfl)
   case hl1=>rw [hq];assumption
  have c2p:=kz c2
  refine Aa ?_
  refine AB (.t3 0 3 5) ?_
  refine AA (AJ (Gm rfl (Gt (BV rfl) (Gt (Aj BC rfl) (Gt (AY rfl Ba .m0 Ae.l0 rfl) (Gm rfl ?_))))))
  refine Ah rfl Sr (.c rfl (.c rfl (.c rfl .n))) .n (FK _ _ _) (fun v8 B hv=>?_)
  obtain⟨y9,rfl,y10,rfl⟩:=hv
  refine Ga rfl (Gn (.t3 0 3 4) (Gs (Gm rfl (Gm rfl (Gt (Aj GZ rfl) (Gt (AG rfl A5 .m4 Order.l1 rfl rfl) (Gt (Aj Fq rfl) ?_)))))))
  refine Gt (AG rfl CM .m4 Order.l3 rfl rfl) (Gt (Aj HN rfl) (Gt (AG rfl DO .m4 Order.l2 rfl rfl) ?_))
  refine Ah rfl QS (.c rfl (.c rfl (.c rfl (.c rfl (.c rfl .n))))) (.c (.t .h) (.c .h .n)) (E1 _ (T.box o.second).1 _ _ ((T.box o.second).1.w.has 2 (T.box o.second).2.1) _ _ _ (hF.Ep (T.J6 _).1 (T.J6 _).2) (by assumption) (Nat.le_trans (AI.Ig _ _ _) (by decide)) (fun i hi=>AI.F9 hi)) (fun v12 B hv=>?_)
  obtain⟨y13,rfl,y14,rfl⟩:=hv
  refine Ga rfl (Gn (.t2 0 4) (CD (Gm rfl (Gt (Av rfl Tryz.underlying169 rfl) (Gt (Ak rfl rfl) (Gn (.t3 0 4 41) ?_))))))
  refine Gc (fun c3=>?_) (fun c3=>?_)
  ·
   have c3p:=kz c3
   rw [y14] at c3
   refine AJ (Gm rfl ?_)
   refine Ah rfl EJ (.c rfl (.c rfl .n)) (.c .h (.c (.t (.t .h)) .n)) (Bh _ (T.box o.second).1 _ _ (by assumption) (by rw [(T.J6 _).2];exact hb) (by have:=T.H8 o.second;omega)) (fun v16 B hv=>?_)
   obtain⟨y17,rfl,y18,rfl⟩:=hv
   refine Gn (.t2 0 4) (Gs (Gm rfl (Gt (Av rfl Tryz.underlying169 rfl) (Gm rfl (Gn (.t4 0 44 45 46) (Ag ?_))))))
   refine Bo (.t4 46 0 44 45) ?_
   refine Bc (.t .h) ?_
   refine Bc (.t .h) ?_
   refine D2 (fun(k:Int) (X:AF) (h:Hd)=>0≤k∧k≤((AF.BQ (T.box o.second).1.w ((T.box o.second).1.w.has 2 (T.box o.second).2.1) o.nth o.name o.Bm).length:Int)∧T.get o=X.DF ((AF.BQ (T.box o.second).1.w ((T.box o.second).1.w.has 2 (T.box o.second).2.1) o.nth o.name o.Bm).drop k.toNat)∧X.b=T.b∧(X.out.length:Int)≤T.out.length+2+k∧h.len=X.out.length∧((AF.BQ (T.box o.second).1.w ((T.box o.second).1.w.has 2 (T.box o.second).2.1) o.nth o.name o.Bm).length:Int)≤9) (fun(k:Int) (X:AF) (h:Hd)=>(((AF.BQ (T.box o.second).1.w ((T.box o.second).1.w.has 2 (T.box o.second).2.1) o.nth o.name o.Bm).length:Int) - k).toNat) (fun(k:Int) (X:AF) (h:Hd)=> [(46, .int .i64 k)]) (fun(k:Int) (X:AF) (h:Hd)=> [Ad.box b 163 (Ae.enc ⟨X.w,X.b,h⟩),Ad.own h 56 16 (X.out.flatMap Ing.Event.enc)]) (0) (_) (_) ?_ rfl rfl (fun k X h hI1=>?_)
   · exact⟨by omega,by omega,((BF c1).trans (AX c2)).trans (congrArg (fun q=>AF.DF q _) (BF c3)),(T.J6 _).2,by have:=T.H8 o.second;(try simp only [AF.CI]);omega,by assumption,by have:=(AF.Ee (T.box o.second).1.w ((T.box o.second).1.w.has 2 (T.box o.second).2.1) o.nth o.name o.Bm).length_le;have:=AI.Ig (T.box o.second).1.w 2 (T.box o.second).2.1;omega⟩
   obtain⟨hI11,hI12,hI13,hI14,hI15,hI16,hI17⟩:=hI1
   refine Gs (Gt (BA rfl rfl) (AQ (AA (Aq ?_))))
   refine Gc (fun c4=>?_) (fun c4=>?_)
   ·
    have c4p:=kz c4
    have hx:0≤(AF.BQ (T.box o.second).1.w ((T.box o.second).1.w.has 2 (T.box o.second).2.1) o.nth o.name o.Bm).getD k.toNat 0∧(AF.BQ (T.box o.second).1.w ((T.box o.second).1.w.has 2 (T.box o.second).2.1) o.nth o.name o.Bm).getD k.toNat 0 < 9:=(fun i hi=>AI.F9 (AF.D0 hi)) _ (Bi.E3 (xs:=(AF.BQ (T.box o.second).1.w ((T.box o.second).1.w.has 2 (T.box o.second).2.1) o.nth o.name o.Bm)) (i:=k.toNat) (by omega))
    refine Aa ?_
    refine AB (.t4 0 44 45 46) ?_
    refine AA (Aq (Ag (Gs ?_)))
    refine Gt (Bs G2 (by decide) (Kn.own .m3) rfl rfl (by omega) (by omega)) ?_
    refine Gt (DI rfl A5 (Kn.own .m3) (by omega)) ?_
    refine Ga rfl (Gn (.t5 0 8 44 45 46) (Gs (Gm rfl (Gm rfl (Gt (BV rfl) (Gt (Aj BC rfl) (Gt (Aj Cx rfl) ?_)))))))
    refine Gt (AN GW rfl rfl (by first | omega | exact hb.1 | exact hb.2 | (dsimp only;omega)) (by first | omega | exact hb.1 | exact hb.2 | (dsimp only;omega))) ?_
    refine Ga rfl (Gn (.t6 0 8 9 44 45 46) (Gs (Gm rfl (Gm rfl (Gm rfl (Gt (BV rfl) (Gt (Aj CV rfl) ?_)))))))
    refine Gt (AG rfl A5 .m0 Ae.l1 rfl rfl) (Gt (BV rfl) (Gt (Aj Fe rfl) ?_))
    refine AU (AK (((Ae.l0.comp AI.l1).comp (AS.ar (n:=9) Ao.fl (by first | omega | exact hb | (dsimp only;omega)))).comp Ao.l2) rfl rfl rfl DD rfl .h) ?_
    refine Gt (BV rfl) (Gt (Aj DN rfl) ?_)
    refine AU (AK (((Ae.l0.comp AI.l1).comp (AS.ar (n:=9) Ao.fl (by first | omega | exact hb | (dsimp only;omega)))).comp Ao.l3) rfl rfl rfl DD rfl .h) ?_
    refine Gn (.t5 0 8 44 45 46) ?_
    refine GK (fun _=> .h) (congrArg (fun q=>Ae.enc ⟨q,_,_⟩) (AF.Hs X hx.1 hx.2 1 X.b)) ?_
    refine AJ (Gm rfl (Gm rfl ?_))
    refine Ah rfl OZ (.c rfl (.c rfl (.c rfl .n))) (.c .h (.c .h .n)) (D9 _ (X.place ((AF.BQ (T.box o.second).1.w ((T.box o.second).1.w.has 2 (T.box o.second).2.1) o.nth o.name o.Bm).getD k.toNat 0) 1 X.b) _ 3 ((AF.BQ (T.box o.second).1.w ((T.box o.second).1.w.has 2 (T.box o.second).2.1) o.nth o.name o.Bm).getD k.toNat 0) (by assumption) (show 0≤X.b∧X.b < 6 by rw [hI14];exact hb) hx (show X.out.length≤100000 by omega)) (fun v19 B hv=>?_)
    obtain⟨y20,rfl,y21,rfl⟩:=hv
    refine AQ (AB (.t4 0 44 45 46) ?_)
    refine AV (AA (AJ ?_))
    refine Gt (Ax rfl rfl (IntWalk.i64_in _ (by first | omega | exact hb.1 | exact hb.2 | (dsimp only;omega)))) ?_
    refine Gm rfl ?_
    refine AQ (AB (.t4 0 44 45 46) ?_)
    refine B3 (k+1) _ _ ?_ ?_ (.t4 46 0 44 45) (.refl _)
    · exact⟨by omega,by omega,by rw [hI13,AF.HO hI11 (by omega)],hI14,(by rw [AF.Fl];show((X.out.length+1:Nat):Int)≤_;omega),by assumption,hI17⟩
    · omega
   have c4p:=kz c4
   obtain rfl:k=((AF.BQ (T.box o.second).1.w ((T.box o.second).1.w.has 2 (T.box o.second).2.1) o.nth o.name o.Bm).length:Int):=by omega
   rw [AF.Ju] at hI13
   refine Be (AW (AW (Ai ?_)))
   refine Bn rfl .n ?_
   intro w1 hS
   have hS:=(hS.perm (Ay.perm (.c .h (.c .h .n)))).A4
   refine⟨_,⟨?gq2,rfl,?hl2,?hB2⟩,hS⟩
   case hB2=>rw [hI13];rfl
   case hl2=>rw [hI13];exact hI16
  have c3p:=kz c3
  rw [y14] at c3
  refine Aa ?_
  refine AB (.t2 0 4) ?_
  refine AA (Gs (Gm rfl (Gt (Av rfl Tryz.underlying169 rfl) (Gm rfl (Gn (.t4 0 44 45 46) (Ag ?_))))))
  refine Bo (.t4 46 0 44 45) ?_
  refine Bc (.t (.t (.t .h))) ?_
  refine Bc (.t .h) ?_
  refine D2 (fun(k:Int) (X:AF) (h:Hd)=>0≤k∧k≤((AF.BQ (T.box o.second).1.w ((T.box o.second).1.w.has 2 (T.box o.second).2.1) o.nth o.name o.Bm).length:Int)∧T.get o=X.DF ((AF.BQ (T.box o.second).1.w ((T.box o.second).1.w.has 2 (T.box o.second).2.1) o.nth o.name o.Bm).drop k.toNat)∧X.b=T.b∧(X.out.length:Int)≤T.out.length+2+k∧h.len=X.out.length∧((AF.BQ (T.box o.second).1.w ((T.box o.second).1.w.has 2 (T.box o.second).2.1) o.nth o.name o.Bm).length:Int)≤9) (fun(k:Int) (X:AF) (h:Hd)=>(((AF.BQ (T.box o.second).1.w ((T.box o.second).1.w.has 2 (T.box o.second).2.1) o.nth o.name o.Bm).length:Int) - k).toNat) (fun(k:Int) (X:AF) (h:Hd)=> [(46, .int .i64 k)]) (fun(k:Int) (X:AF) (h:Hd)=> [Ad.box b 163 (Ae.enc ⟨X.w,X.b,h⟩),Ad.own h 56 16 (X.out.flatMap Ing.Event.enc)]) (0) (_) (_) ?_ rfl rfl (fun k X h hI1=>?_)
  · exact⟨by omega,by omega,((BF c1).trans (AX c2)).trans (congrArg (fun q=>AF.DF q _) (AX c3)),(T.J6 _).2,by have:=T.H8 o.second;(try simp only [AF.CI]);omega,by assumption,by have:=(AF.Ee (T.box o.second).1.w ((T.box o.second).1.w.has 2 (T.box o.second).2.1) o.nth o.name o.Bm).length_le;have:=AI.Ig (T.box o.second).1.w 2 (T.box o.second).2.1;omega⟩
  obtain⟨hI11,hI12,hI13,hI14,hI15,hI16,hI17⟩:=hI1
  refine Gs (Gt (BA rfl rfl) (AQ (AA (Aq ?_))))
  refine Gc (fun c5=>?_) (fun c5=>?_)
  ·
   have c5p:=kz c5
   have hx:0≤(AF.BQ (T.box o.second).1.w ((T.box o.second).1.w.has 2 (T.box o.second).2.1) o.nth o.name o.Bm).getD k.toNat 0∧(AF.BQ (T.box o.second).1.w ((T.box o.second).1.w.has 2 (T.box o.second).2.1) o.nth o.name o.Bm).getD k.toNat 0 < 9:=(fun i hi=>AI.F9 (AF.D0 hi)) _ (Bi.E3 (xs:=(AF.BQ (T.box o.second).1.w ((T.box o.second).1.w.has 2 (T.box o.second).2.1) o.nth o.name o.Bm)) (i:=k.toNat) (by omega))
   refine Aa ?_
   refine AB (.t4 0 44 45 46) ?_
   refine AA (Aq (Ag (Gs ?_)))
   refine Gt (Bs G2 (by decide) (Kn.own .m3) rfl rfl (by omega) (by omega)) ?_
   refine Gt (DI rfl A5 (Kn.own .m3) (by omega)) ?_
   refine Ga rfl (Gn (.t5 0 8 44 45 46) (Gs (Gm rfl (Gm rfl (Gt (BV rfl) (Gt (Aj BC rfl) (Gt (Aj Cx rfl) ?_)))))))
   refine Gt (AN GW rfl rfl (by first | omega | exact hb.1 | exact hb.2 | (dsimp only;omega)) (by first | omega | exact hb.1 | exact hb.2 | (dsimp only;omega))) ?_
   refine Ga rfl (Gn (.t6 0 8 9 44 45 46) (Gs (Gm rfl (Gm rfl (Gm rfl (Gt (BV rfl) (Gt (Aj CV rfl) ?_)))))))
   refine Gt (AG rfl A5 .m0 Ae.l1 rfl rfl) (Gt (BV rfl) (Gt (Aj Fe rfl) ?_))
   refine AU (AK (((Ae.l0.comp AI.l1).comp (AS.ar (n:=9) Ao.fl (by first | omega | exact hb | (dsimp only;omega)))).comp Ao.l2) rfl rfl rfl DD rfl .h) ?_
   refine Gt (BV rfl) (Gt (Aj DN rfl) ?_)
   refine AU (AK (((Ae.l0.comp AI.l1).comp (AS.ar (n:=9) Ao.fl (by first | omega | exact hb | (dsimp only;omega)))).comp Ao.l3) rfl rfl rfl DD rfl .h) ?_
   refine Gn (.t5 0 8 44 45 46) ?_
   refine GK (fun _=> .h) (congrArg (fun q=>Ae.enc ⟨q,_,_⟩) (AF.Hs X hx.1 hx.2 1 X.b)) ?_
   refine AJ (Gm rfl (Gm rfl ?_))
   refine Ah rfl OZ (.c rfl (.c rfl (.c rfl .n))) (.c .h (.c .h .n)) (D9 _ (X.place ((AF.BQ (T.box o.second).1.w ((T.box o.second).1.w.has 2 (T.box o.second).2.1) o.nth o.name o.Bm).getD k.toNat 0) 1 X.b) _ 3 ((AF.BQ (T.box o.second).1.w ((T.box o.second).1.w.has 2 (T.box o.second).2.1) o.nth o.name o.Bm).getD k.toNat 0) (by assumption) (show 0≤X.b∧X.b < 6 by rw [hI14];exact hb) hx (show X.out.length≤100000 by omega)) (fun v22 B hv=>?_)
   obtain⟨y23,rfl,y24,rfl⟩:=hv
   refine AQ (AB (.t4 0 44 45 46) ?_)
   refine AV (AA (AJ ?_))
   refine Gt (Ax rfl rfl (IntWalk.i64_in _ (by first | omega | exact hb.1 | exact hb.2 | (dsimp only;omega)))) ?_
   refine Gm rfl ?_
   refine AQ (AB (.t4 0 44 45 46) ?_)
   refine B3 (k+1) _ _ ?_ ?_ (.t4 46 0 44 45) (.refl _)
   · exact⟨by omega,by omega,by rw [hI13,AF.HO hI11 (by omega)],hI14,(by rw [AF.Fl];show((X.out.length+1:Nat):Int)≤_;omega),by assumption,hI17⟩
   · omega
  have c5p:=kz c5
  obtain rfl:k=((AF.BQ (T.box o.second).1.w ((T.box o.second).1.w.has 2 (T.box o.second).2.1) o.nth o.name o.Bm).length:Int):=by omega
  rw [AF.Ju] at hI13
  refine Be (AW (AW (Ai ?_)))
  refine Bn rfl .n ?_
  intro w1 hS
  have hS:=(hS.perm (Ay.perm (.c .h (.c .h .n)))).A4
  refine⟨_,⟨?gq3,rfl,?hl3,?hB3⟩,hS⟩
  case hB3=>rw [hI13];rfl
  case hl3=>rw [hI13];exact hI16
 have c1p:=kz c1
 refine Aa ?_
 refine AB (.t3 0 3 4) ?_
 refine AA (Gs (Gm rfl (Gm rfl (Gt (Aj GZ rfl) (Gt (AG rfl A5 .m2 Order.l1 rfl rfl) (Gt (Aj Fq rfl) (Gt (AG rfl CM .m2 Order.l3 rfl rfl) ?_)))))))
 refine Gt (Aj HN rfl) (Gt (AG rfl DO .m2 Order.l2 rfl rfl) ?_)
 refine Ah rfl QS (.c rfl (.c rfl (.c rfl (.c rfl (.c rfl .n))))) (.c .h (.c .h .n)) (E1 _ T _ _ T.seen _ _ _ hF (by assumption) (Nat.le_trans T.I2 (by decide)) (fun i hi=>AF.Ox hi)) (fun v25 B hv=>?_)
 obtain⟨y26,rfl,y27,rfl⟩:=hv
 refine Ga rfl (Gn (.t2 0 4) (CD (Gm rfl (Gt (Av rfl Tryz.underlying169 rfl) (Gt (Ak rfl rfl) (Gn (.t3 0 4 41) ?_))))))
 refine Gc (fun c6=>?_) (fun c6=>?_)
 ·
  have c6p:=kz c6
  rw [y27] at c6
  refine AJ (Gm rfl ?_)
  refine Ah rfl EJ (.c rfl (.c rfl .n)) (.c .h (.c (.t (.t (.t .h))) .n)) (Bh _ T _ _ (by assumption) (by exact hb) (by have:=T.H8 o.second;omega)) (fun v29 B hv=>?_)
  obtain⟨y30,rfl,y31,rfl⟩:=hv
  refine Gn (.t2 0 4) (Gs (Gm rfl (Gt (Av rfl Tryz.underlying169 rfl) (Gm rfl (Gn (.t4 0 44 45 46) (Ag ?_))))))
  refine Bo (.t4 46 0 44 45) ?_
  refine Bc (.t .h) ?_
  refine Bc (.t .h) ?_
  refine D2 (fun(k:Int) (X:AF) (h:Hd)=>0≤k∧k≤((AF.BQ T.w T.seen o.nth o.name o.Bm).length:Int)∧T.get o=X.DF ((AF.BQ T.w T.seen o.nth o.name o.Bm).drop k.toNat)∧X.b=T.b∧(X.out.length:Int)≤T.out.length+2+k∧h.len=X.out.length∧((AF.BQ T.w T.seen o.nth o.name o.Bm).length:Int)≤9) (fun(k:Int) (X:AF) (h:Hd)=>(((AF.BQ T.w T.seen o.nth o.name o.Bm).length:Int) - k).toNat) (fun(k:Int) (X:AF) (h:Hd)=> [(46, .int .i64 k)]) (fun(k:Int) (X:AF) (h:Hd)=> [Ad.box b 163 (Ae.enc ⟨X.w,X.b,h⟩),Ad.own h 56 16 (X.out.flatMap Ing.Event.enc)]) (0) (_) (_) ?_ rfl rfl (fun k X h hI1=>?_)
  · exact⟨by omega,by omega,(AX c1).trans (congrArg (fun q=>AF.DF q _) (BF c6)),rfl,by have:=T.H8 o.second;(try simp only [AF.CI]);omega,by assumption,by have:=(AF.Ee T.w T.seen o.nth o.name o.Bm).length_le;have:=T.I2;omega⟩
  obtain⟨hI11,hI12,hI13,hI14,hI15,hI16,hI17⟩:=hI1
  refine Gs (Gt (BA rfl rfl) (AQ (AA (Aq ?_))))
  refine Gc (fun c7=>?_) (fun c7=>?_)
  ·
   have c7p:=kz c7
   have hx:0≤(AF.BQ T.w T.seen o.nth o.name o.Bm).getD k.toNat 0∧(AF.BQ T.w T.seen o.nth o.name o.Bm).getD k.toNat 0 < 9:=(fun i hi=>AF.Ox (AF.D0 hi)) _ (Bi.E3 (xs:=(AF.BQ T.w T.seen o.nth o.name o.Bm)) (i:=k.toNat) (by omega))
   refine Aa ?_
   refine AB (.t4 0 44 45 46) ?_
   refine AA (Aq (Ag (Gs ?_)))
   refine Gt (Bs G2 (by decide) (Kn.own .m3) rfl rfl (by omega) (by omega)) ?_
   refine Gt (DI rfl A5 (Kn.own .m3) (by omega)) ?_
   refine Ga rfl (Gn (.t5 0 8 44 45 46) (Gs (Gm rfl (Gm rfl (Gt (BV rfl) (Gt (Aj BC rfl) (Gt (Aj Cx rfl) ?_)))))))
   refine Gt (AN GW rfl rfl (by first | omega | exact hb.1 | exact hb.2 | (dsimp only;omega)) (by first | omega | exact hb.1 | exact hb.2 | (dsimp only;omega))) ?_
   refine Ga rfl (Gn (.t6 0 8 9 44 45 46) (Gs (Gm rfl (Gm rfl (Gm rfl (Gt (BV rfl) (Gt (Aj CV rfl) ?_)))))))
   refine Gt (AG rfl A5 .m0 Ae.l1 rfl rfl) (Gt (BV rfl) (Gt (Aj Fe rfl) ?_))
   refine AU (AK (((Ae.l0.comp AI.l1).comp (AS.ar (n:=9) Ao.fl (by first | omega | exact hb | (dsimp only;omega)))).comp Ao.l2) rfl rfl rfl DD rfl .h) ?_
   refine Gt (BV rfl) (Gt (Aj DN rfl) ?_)
   refine AU (AK (((Ae.l0.comp AI.l1).comp (AS.ar (n:=9) Ao.fl (by first | omega | exact hb | (dsimp only;omega)))).comp Ao.l3) rfl rfl rfl DD rfl .h) ?_
   refine Gn (.t5 0 8 44 45 46) ?_
   refine GK (fun _=> .h) (congrArg (fun q=>Ae.enc ⟨q,_,_⟩) (AF.Hs X hx.1 hx.2 1 X.b)) ?_
   refine AJ (Gm rfl (Gm rfl ?_))
   refine Ah rfl OZ (.c rfl (.c rfl (.c rfl .n))) (.c .h (.c .h .n)) (D9 _ (X.place ((AF.BQ T.w T.seen o.nth o.name o.Bm).getD k.toNat 0) 1 X.b) _ 3 ((AF.BQ T.w T.seen o.nth o.name o.Bm).getD k.toNat 0) (by assumption) (show 0≤X.b∧X.b < 6 by rw [hI14];exact hb) hx (show X.out.length≤100000 by omega)) (fun v32 B hv=>?_)
   obtain⟨y33,rfl,y34,rfl⟩:=hv
   refine AQ (AB (.t4 0 44 45 46) ?_)
   refine AV (AA (AJ ?_))
   refine Gt (Ax rfl rfl (IntWalk.i64_in _ (by first | omega | exact hb.1 | exact hb.2 | (dsimp only;omega)))) ?_
   refine Gm rfl ?_
   refine AQ (AB (.t4 0 44 45 46) ?_)
   refine B3 (k+1) _ _ ?_ ?_ (.t4 46 0 44 45) (.refl _)
   · exact⟨by omega,by omega,by rw [hI13,AF.HO hI11 (by omega)],hI14,(by rw [AF.Fl];show((X.out.length+1:Nat):Int)≤_;omega),by assumption,hI17⟩
   · omega
  have c7p:=kz c7
  obtain rfl:k=((AF.BQ T.w T.seen o.nth o.name o.Bm).length:Int):=by omega
  rw [AF.Ju] at hI13
  refine Be (AW (AW (Ai ?_)))
  refine Bn rfl .n ?_
  intro w1 hS
  have hS:=(hS.perm (Ay.perm (.c .h (.c .h .n)))).A4
  refine⟨_,⟨?gq4,rfl,?hl4,?hB4⟩,hS⟩
  case hB4=>rw [hI13];rfl
  case hl4=>rw [hI13];exact hI16
 have c6p:=kz c6
 rw [y27] at c6
 refine Aa ?_
 refine AB (.t2 0 4) ?_
 refine AA (Gs (Gm rfl (Gt (Av rfl Tryz.underlying169 rfl) (Gm rfl (Gn (.t4 0 44 45 46) (Ag ?_))))))
 refine Bo (.t4 46 0 44 45) ?_
 refine Bc (.t (.t (.t (.t .h)))) ?_
 refine Bc (.t .h) ?_
 refine D2 (fun(k:Int) (X:AF) (h:Hd)=>0≤k∧k≤((AF.BQ T.w T.seen o.nth o.name o.Bm).length:Int)∧T.get o=X.DF ((AF.BQ T.w T.seen o.nth o.name o.Bm).drop k.toNat)∧X.b=T.b∧(X.out.length:Int)≤T.out.length+2+k∧h.len=X.out.length∧((AF.BQ T.w T.seen o.nth o.name o.Bm).length:Int)≤9) (fun(k:Int) (X:AF) (h:Hd)=>(((AF.BQ T.w T.seen o.nth o.name o.Bm).length:Int) - k).toNat) (fun(k:Int) (X:AF) (h:Hd)=> [(46, .int .i64 k)]) (fun(k:Int) (X:AF) (h:Hd)=> [Ad.box b 163 (Ae.enc ⟨X.w,X.b,h⟩),Ad.own h 56 16 (X.out.flatMap Ing.Event.enc)]) (0) (_) (_) ?_ rfl rfl (fun k X h hI1=>?_)
 · exact⟨by omega,by omega,(AX c1).trans (congrArg (fun q=>AF.DF q _) (AX c6)),rfl,by have:=T.H8 o.second;(try simp only [AF.CI]);omega,by assumption,by have:=(AF.Ee T.w T.seen o.nth o.name o.Bm).length_le;have:=T.I2;omega⟩
 obtain⟨hI11,hI12,hI13,hI14,hI15,hI16,hI17⟩:=hI1
 refine Gs (Gt (BA rfl rfl) (AQ (AA (Aq ?_))))
 refine Gc (fun c8=>?_) (fun c8=>?_)
 ·
  have c8p:=kz c8
  have hx:0≤(AF.BQ T.w T.seen o.nth o.name o.Bm).getD k.toNat 0∧(AF.BQ T.w T.seen o.nth o.name o.Bm).getD k.toNat 0 < 9:=(fun i hi=>AF.Ox (AF.D0 hi)) _ (Bi.E3 (xs:=(AF.BQ T.w T.seen o.nth o.name o.Bm)) (i:=k.toNat) (by omega))
  refine Aa ?_
  refine AB (.t4 0 44 45 46) ?_
  refine AA (Aq (Ag (Gs ?_)))
  refine Gt (Bs G2 (by decide) (Kn.own .m3) rfl rfl (by omega) (by omega)) ?_
  refine Gt (DI rfl A5 (Kn.own .m3) (by omega)) ?_
  refine Ga rfl (Gn (.t5 0 8 44 45 46) (Gs (Gm rfl (Gm rfl (Gt (BV rfl) (Gt (Aj BC rfl) (Gt (Aj Cx rfl) ?_)))))))
  refine Gt (AN GW rfl rfl (by first | omega | exact hb.1 | exact hb.2 | (dsimp only;omega)) (by first | omega | exact hb.1 | exact hb.2 | (dsimp only;omega))) ?_
  refine Ga rfl (Gn (.t6 0 8 9 44 45 46) (Gs (Gm rfl (Gm rfl (Gm rfl (Gt (BV rfl) (Gt (Aj CV rfl) ?_)))))))
  refine Gt (AG rfl A5 .m0 Ae.l1 rfl rfl) (Gt (BV rfl) (Gt (Aj Fe rfl) ?_))
  refine AU (AK (((Ae.l0.comp AI.l1).comp (AS.ar (n:=9) Ao.fl (by first | omega | exact hb | (dsimp only;omega)))).comp Ao.l2) rfl rfl rfl DD rfl .h) ?_
  refine Gt (BV rfl) (Gt (Aj DN rfl) ?_)
  refine AU (AK (((Ae.l0.comp AI.l1).comp (AS.ar (n:=9) Ao.fl (by first | omega | exact hb | (dsimp only;omega)))).comp Ao.l3) rfl rfl rfl DD rfl .h) ?_
  refine Gn (.t5 0 8 44 45 46) ?_
  refine GK (fun _=> .h) (congrArg (fun q=>Ae.enc ⟨q,_,_⟩) (AF.Hs X hx.1 hx.2 1 X.b)) ?_
  refine AJ (Gm rfl (Gm rfl ?_))
  refine Ah rfl OZ (.c rfl (.c rfl (.c rfl .n))) (.c .h (.c .h .n)) (D9 _ (X.place ((AF.BQ T.w T.seen o.nth o.name o.Bm).getD k.toNat 0) 1 X.b) _ 3 ((AF.BQ T.w T.seen o.nth o.name o.Bm).getD k.toNat 0) (by assumption) (show 0≤X.b∧X.b < 6 by rw [hI14];exact hb) hx (show X.out.length≤100000 by omega)) (fun v35 B hv=>?_)
  obtain⟨y36,rfl,y37,rfl⟩:=hv
  refine AQ (AB (.t4 0 44 45 46) ?_)
  refine AV (AA (AJ ?_))
  refine Gt (Ax rfl rfl (IntWalk.i64_in _ (by first | omega | exact hb.1 | exact hb.2 | (dsimp only;omega)))) ?_
  refine Gm rfl ?_
  refine AQ (AB (.t4 0 44 45 46) ?_)
  refine B3 (k+1) _ _ ?_ ?_ (.t4 46 0 44 45) (.refl _)
  · exact⟨by omega,by omega,by rw [hI13,AF.HO hI11 (by omega)],hI14,(by rw [AF.Fl];show((X.out.length+1:Nat):Int)≤_;omega),by assumption,hI17⟩
  · omega
 have c8p:=kz c8
 obtain rfl:k=((AF.BQ T.w T.seen o.nth o.name o.Bm).length:Int):=by omega
 rw [AF.Ju] at hI13
 refine Be (AW (AW (Ai ?_)))
 refine Bn rfl .n ?_
 intro w1 hS
 have hS:=(hS.perm (Ay.perm (.c .h (.c .h .n)))).A4
 refine⟨_,⟨?gq5,rfl,?hl5,?hB5⟩,hS⟩
 case hB5=>rw [hI13];rfl
 case hl5=>rw [hI13];exact hI16
theorem MO (X:AI)(i box:Int)(w:World):En Tryz.prog 137 #[.agg X.enc.toArray, .int .i64 i, .int .i64 box] w fun v w'=>v = .bool (X.Tt i box)∧B9 w w':=by
 refine Am [] [] Tryz.func137 rfl rfl rfl (St.start w []) ?_
 refine Gs ?_
 refine B0 rfl rfl rfl (fun b1=>?_)
 refine Ga rfl (Gn (.t3 1 2 3) (CD (Gm rfl (AQ (AA (Ag ?_))))))
 refine Bo (.t4 1 7 2 3) ?_
 refine HY (fun(k:Int) (j:Int)=>0≤k∧k≤10∧X.Tt i box=X.inside box (10 - k).toNat j) (fun(k:Int) (j:Int)=>(10 - k).toNat) (fun(k:Int) (j:Int)=> [(1, .int .i64 j),(7, .int .i64 k)]) (fun(k:Int) (j:Int)=> []) (0) (i) ?_ rfl rfl (fun k j hI1=>?_)
 · exact⟨Int.le_refl _,by omega,rfl⟩
 obtain⟨hI11,hI12,hI13⟩:=hI1
 refine Gs (Gt (BA rfl rfl) (AQ (AA (Aq ?_))))
 refine Gc (fun c1=>?_) (fun c1=>?_)
 ·
  have c1p:=kz c1
  rw [show(10 - k).toNat=(10 - (k+1)).toNat+1 from by omega,AI.inside] at hI13
  refine Aa ?_
  refine AB (.t4 1 2 3 7) ?_
  refine AA (Aq (Ag (CD (Gm rfl (Gm rfl (Gt (Ak rfl rfl) (Gn (.t5 1 2 3 7 11) ?_)))))))
  refine Gc (fun c2=>?_) (fun c2=>?_)
  ·
   refine Gs (Ga rfl (Gn (.t1 6) (Ac (AE (AT (AE (AE ?_)))))))
   refine AT (AE ?_)
   refine AZ rfl (.tmp rfl .n) ?_
   intro w1 hS;refine⟨congrArg Value.bool ?_,hS.Al⟩;rw [hI13];simp only [c1,c2,↓reduceIte,Bool.false_eq_true]
  have c2p:=kz c2
  refine Aa ?_
  refine AB (.t4 1 2 3 7) ?_
  refine AA (CD (Gm rfl (Gt (BA rfl rfl) (Gm rfl (Bg 14 rfl rfl (fun q=>AD rfl) (Bg 14 rfl rfl (fun q=>CK (cF rfl q) rfl) ?_))))))
  refine Gt (BU rfl rfl (fun h=>by rw [h];rfl)) ?_
  refine Gm rfl (Bg 18 rfl rfl (fun q=>AD rfl) (Bg 18 rfl rfl (fun q=>Aj Cx rfl) ?_))
  refine Bg 18 rfl rfl (fun q=>by have q1:=q;(try simp at q1);exact AN GW (cF rfl q) (cF rfl q) (by omega) (by omega)) ?_
  refine Bg 18 rfl rfl (fun q=>Aj Fe (cF rfl q)) ?_
  refine Bg 18 rfl rfl (fun q=>by have q1:=q;(try simp at q1);exact AG (cF rfl q) A5 .m0 ((AI.l1.comp (AS.ar (n:=9) Ao.fl (by omega))).comp Ao.l2) rfl rfl) ?_
  refine Bg 18 rfl rfl (fun q=>CN (cF rfl q) rfl) ?_
  refine Gt (BU rfl rfl (fun h=>by rw [h];rfl)) ?_
  refine Gn (.t5 1 2 3 7 25) ?_
  refine Gc (fun c3=>?_) (fun c3=>?_)
  ·
   refine Gs (Ga rfl (Gn (.t1 6) (Ac (AE (AT (AE (AE ?_)))))))
   refine AT (AE ?_)
   refine AZ rfl (.tmp rfl .n) ?_
   intro w1 hS;refine⟨congrArg Value.bool ?_,hS.Al⟩;rw [hI13];simp only [c1,c2,c3,↓reduceIte,Bool.false_eq_true]
  have c3p:=kz c3
  have h9:0≤j∧j < 9:=by simp at c3;omega
  refine Aa ?_
  refine AB (.t4 1 2 3 7) ?_
  refine AA (AJ (Gm rfl (Gt (Aj Cx rfl) ?_)))
  refine Gt (AN GW rfl rfl (by omega) (by omega)) ?_
  refine Gt (Aj DN rfl) ?_
  refine Gt (AG rfl A5 .m0 ((AI.l1.comp (AS.ar (n:=9) Ao.fl (by omega))).comp Ao.l3) rfl rfl) ?_
  refine Ga rfl ?_
  refine AQ (AB (.t4 1 2 3 7) ?_)
  refine AV (AA (AJ ?_))
  refine Gt (Ax rfl rfl (IntWalk.i64_in _ (by omega))) ?_
  refine Gm rfl ?_
  refine AQ (AB (.t4 1 2 3 7) ?_)
  refine Ds (k+1) ((X.AP.at j).at_) ?_ ?_ (.t4 1 7 2 3) (.refl _)
  · exact⟨by omega,by omega,by rw [hI13];simp only [c1,c2,c3,↓reduceIte,Bool.false_eq_true]⟩
  · omega
 have c1p:=kz c1
 obtain rfl:k=10:=by omega
 refine Be (AW (AW (Ai ?_)))
 refine AB (.nil _) ?_
 refine AA (Gs (Ga rfl (AQ (AA (Ac ?_)))))
 refine AZ rfl (.tmp rfl .n) ?_
 intro w1 hS;refine⟨congrArg Value.bool ?_,hS.Al⟩;rw [hI13];rfl
end Go.Proofs.YtoidpggbbfncpaaGreatDoor

/- What the functions that the law TopSilent reaches compute: walks, part 3. No condition. -/
import Derived.Test.YtoidpggbbfncpaaGreatDoorCards
import Derived.Test.YtoidpggbbfncpaaGreatDoorTie
import Derived.Deep.DeepHandedRow
import Derived.Test.YtoidpggbbfncpaaGreatDoorRows
import Derived.Test.YtoidpggbbfncpaaGreatDoorTopSilentEc3
import Derived.Test.YtoidpggbbfncpaaGreatDoorTopSilentRa1
import Derived.Test.YtoidpggbbfncpaaGreatDoorTopSilentRb1
import Derived.Test.YtoidpggbbfncpaaGreatDoorTopSilentRc1
import Derived.Test.YtoidpggbbfncpaaGreatDoorTopSilentWalks
import Derived.Test.YtoidpggbbfncpaaGreatDoorTopSilentWalks2
set_option linter.unusedSimpArgs false
set_option linter.unusedVariables false
set_option maxRecDepth 100000
set_option maxHeartbeats 1000000
namespace Go.Proofs.YtoidpggbbfncpaaGreatDoor
open Go Go.Ing Go.RowKit Go.ChangeShapes Go.WideShapes Go.ChangeAt
theorem FZ (u:As)(hu:u.length≤5000000)(w:World)(gl0:HI 7 w)(gl1:HI 8 w):Ee Tryz.prog 154 #[BW u] w fun v w'=>v = .tuple #[.int .i64 (Words.ER u).1,BW (Words.ER u).2.1, .bool (Words.ER u).2.2.1, .int .i64 (Words.ER u).2.2.2]∧B9 w w':=by
 have hcut:=Words.Nf 46 u
 refine Ao [] [] Tryz.func154 rfl rfl rfl (St.start w []) ?_
 refine Gs (Ga rfl (Ga rfl (Ga rfl (Ga rfl (Gn (.t1 0) (CH (Gm rfl ?_)))))))
 refine Gt (Bv rfl rfl) (Gn (.t2 0 14) ?_)
 refine Gc (fun c1=>?_) (fun c1=>?_)
 ·
  refine Gs (Ga rfl (Ga rfl (Ga rfl (Ga rfl (Gn (.t4 2 3 4 5) (Ae (AE ?_)))))))
  refine AZ rfl (.tmp rfl (.tmp rfl (.tmp rfl (.tmp rfl .n)))) ?_
  intro w1 hS;refine⟨?_,hS.Al⟩;rw [show Words.ER u=_ from(BJ c1)];rfl
 have c1p:=kz c1
 refine Aa ?_
 refine AB (.t1 0) ?_
 refine AA (CH (Gm rfl ?_))
 refine BE rfl cn (.c rfl (.c rfl .n)) (fun w hS=>Jb _ _ w) ?_
 refine Gm rfl (Gt (AM rfl rfl) (Gt (AM rfl rfl) (Ga rfl (Ga rfl (Gn (.t3 0 6 7) (Gs (Gm rfl ?_)))))))
 refine Gm rfl (Bg 21 rfl rfl (fun q=>AD rfl) (Bg 21 rfl rfl (fun q=>Dp (Bc rfl q) rfl) (Gt (BM rfl rfl (fun h=>h)) (Gm rfl (Bg 25 rfl rfl (fun q=>AD rfl) ?_)))))
 refine LD (t:=25) rfl rfl rfl (fun q=>EB Z9 (.c (Bc rfl q) (.c rfl .n)) (fun w hS=>GK _ 46 w)) ?_
 refine Bg 25 rfl rfl (fun q=>BX (Bc rfl q)) (Gt (BM rfl rfl (fun h=>h)) (Gn (.t3 0 6 29) ?_))
 refine Gc (fun c2=>?_) (fun c2=>?_)
 ·
  refine Gs (Gm rfl (Ga rfl (Ga rfl (Ga rfl (Ga rfl (Gn (.t4 2 3 4 5) (Ae ?_)))))))
  refine AE ?_
  refine AZ rfl (.tmp rfl (.tmp rfl (.tmp rfl (.tmp rfl .n)))) ?_
  intro w1 hS;refine⟨?_,hS.Al⟩;rw [show Words.ER u=_ from((AX c1).trans (BJ c2))];rfl
 have c2p:=kz c2
 refine Aa ?_
 refine AB (.t1 0) ?_
 refine AA (Gs (Gm rfl ?_))
 refine BE rfl dj (.c rfl (.c rfl .n)) (fun w hS=>JC _ 46 (by omega) w) ?_
 refine Gm rfl (Gt (AM rfl rfl) (Gt (AM rfl rfl) (Gt (AM rfl rfl) (Ga rfl (Ga rfl (Ga rfl (Gn (.t4 0 8 9 10) ?_)))))))
 refine CH (Gm rfl (Gt (BX rfl) (Gn (.t4 0 8 9 38) ?_)))
 refine Gc (fun c3=>?_) (fun c3=>?_)
 ·
  refine CH (Gm rfl (Gt (Bv rfl rfl) (Gn (.t2 0 40) ?_)))
  refine Gc (fun c4=>?_) (fun c4=>?_)
  ·
   refine Gs (Ga rfl (Ga rfl (Ga rfl (Ga rfl (Gn (.t4 2 3 4 5) (Ae (AE ?_)))))))
   refine AE ?_
   refine AZ rfl (.tmp rfl (.tmp rfl (.tmp rfl (.tmp rfl .n)))) ?_
   intro w1 hS;refine⟨?_,hS.Al⟩;rw [show Words.ER u=_ from((AX c1).trans ((AX c2).trans ((BJ c3).trans (BJ c4))))];rfl
  refine Aa ?_
  refine AB (.t1 0) ?_
  refine AA (Gs (Gm rfl (Ga rfl (Ga rfl (Ga rfl (Ga rfl (Gn (.t4 2 3 4 5) ?_)))))))
  refine Ae (AE ?_)
  refine AZ rfl (.tmp rfl (.tmp rfl (.tmp rfl (.tmp rfl .n)))) ?_
  intro w1 hS;refine⟨?_,hS.Al⟩;rw [show Words.ER u=_ from((AX c1).trans ((AX c2).trans ((BJ c3).trans (AX c4))))];rfl
 have c3p:=kz c3
 refine Aa ?_
 refine AB (.t2 8 9) ?_
 refine AA (Gs (Gm rfl ?_))
 refine BB rfl cz (.c rfl .n) .n (MO _ (by omega)) (fun w hS=>⟨gl0.st hS,gl1.st hS⟩) (fun v1 B hv=>?_)
 rcases hv with ⟨y2,y3,rfl,rfl⟩ | ⟨y4,y5,y6,y7,rfl,rfl⟩
 ·
  refine Gm rfl (Gt (AM rfl rfl) (Gt (AM rfl rfl) (Ga rfl (Ga rfl (Gn (.t4 8 9 11 12) (CH (Gm rfl ?_)))))))
  refine Gt (S9 Tryz.underlying109 rfl) (Gm rfl ?_)
  refine C3 (t:=49) rfl rfl rfl (AD rfl) ?_
  refine C3 (t:=49) rfl rfl rfl (BC rfl rfl) ?_
  refine Gt (C1 rfl rfl) (Gm rfl (Bf 53 rfl rfl (fun q=>AD rfl) (Bf 53 rfl rfl (fun q=>Cn (cF rfl q) rfl) ?_)))
  refine Gt (BU rfl rfl (fun h=>by rw [h];rfl)) ?_
  refine Gm rfl (Bf 57 rfl rfl (fun q=>AD rfl) ?_)
  refine Bf 57 rfl rfl (fun q=>by have q1:=q;(try simp at q1);exact Bp Tryz.underlying9 (cF rfl q) rfl (by decide) (by first | omega | (have hq:=Words.Si (by assumption);omega))) ?_
  refine Bf 57 rfl rfl (fun q=>BC (cF rfl q) rfl) ?_
  refine Gt (BU rfl rfl (fun h=>by rw [h];rfl)) ?_
  refine Gm rfl (Bf 62 rfl rfl (fun q=>AD rfl) ?_)
  refine Bf 62 rfl rfl (fun q=>by have q1:=q;(try simp at q1);exact Bp Tryz.underlying9 (cF rfl q) rfl (by decide) (by first | omega | (have hq:=Words.Si (by assumption);omega))) ?_
  refine Bf 62 rfl rfl (fun q=>Cn (cF rfl q) rfl) ?_
  refine Gt (BU rfl rfl (fun h=>by rw [h];rfl)) ?_
  refine Gm rfl (Bf 67 rfl rfl (fun q=>AD rfl) (Bf 67 rfl rfl (fun q=>Bv (cF rfl q) rfl) ?_))
  refine Gt (BU rfl rfl (fun h=>by rw [h];rfl)) ?_
  refine Gm rfl (Bf 71 rfl rfl (fun q=>AD rfl) ?_)
  refine RA (t:=71) rfl rfl rfl (fun q=>by have q1:=q;(try simp at q1);exact EB Z9 (.c (cF rfl q) (.c rfl .n)) (fun w hS=>GK _ 46 w)) ?_
  refine Gt (BU rfl rfl (fun h=>by rw [h];rfl)) ?_
  refine Gn (.t3 9 11 74) ?_
  refine Gc (fun c5=>?_) (fun c5=>?_)
  ·
   refine Gs (Ga rfl (Ga rfl (Ga rfl (Ga rfl (Gn (.t4 2 3 4 5) (Ae (AE ?_)))))))
   refine AZ rfl (.tmp rfl (.tmp rfl (.tmp rfl (.tmp rfl .n)))) ?_
   intro w1 hS;refine⟨?_,hS.Al⟩;rw [show Words.ER u=_ from((AX c1).trans ((AX c2).trans (AX c3))),Words.U5 y3,BJ c5];rfl
  refine Aa ?_
  refine AB (.t2 9 11) ?_
  refine AA (Gs (Gm rfl (Gm rfl (Ga rfl (Ga rfl (Ga rfl (Ga rfl ?_)))))))
  refine Gn (.t4 2 3 4 5) (Ae ?_)
  refine AZ rfl (.tmp rfl (.tmp rfl (.tmp rfl (.tmp rfl .n)))) ?_
  intro w1 hS;refine⟨?_,hS.Al⟩;rw [show Words.ER u=_ from((AX c1).trans ((AX c2).trans (AX c3))),Words.U5 y3,AX c5];rfl
 refine Gm rfl (Gt (AM rfl rfl) (Gt (AM rfl rfl) (Ga rfl (Ga rfl (Gn (.t4 8 9 11 12) (CH (Gm rfl ?_)))))))
 refine Gt (Zs Tryz.underlying109 rfl) (Gm rfl ?_)
 refine DK (t:=49) rfl rfl rfl rfl ?_
 refine DK (t:=49) rfl rfl rfl rfl ?_
 refine Gt (De rfl rfl) (Gm rfl ?_)
 refine DK (t:=53) rfl rfl rfl rfl ?_
 refine DK (t:=53) rfl rfl rfl rfl ?_
 refine Gt (De rfl rfl) (Gm rfl ?_)
 refine DK (t:=57) rfl rfl rfl rfl ?_
 refine DK (t:=57) rfl rfl rfl rfl ?_
 refine DK (t:=57) rfl rfl rfl rfl ?_
 refine Gt (De rfl rfl) (Gm rfl ?_)
 refine DK (t:=62) rfl rfl rfl rfl ?_
 refine DK (t:=62) rfl rfl rfl rfl ?_
 refine DK (t:=62) rfl rfl rfl rfl ?_
 refine Gt (De rfl rfl) (Gm rfl ?_)
 refine DK (t:=67) rfl rfl rfl rfl ?_
 refine DK (t:=67) rfl rfl rfl rfl ?_
 refine Gt (De rfl rfl) (Gm rfl ?_)
 refine DK (t:=71) rfl rfl rfl rfl ?_
 refine DK (t:=71) rfl rfl rfl rfl ?_
 refine Gt (De rfl rfl) (Gn (.t3 9 11 74) ?_)
 refine HG rfl rfl ?_
 refine Gs (Ga rfl (Ga rfl (Ga rfl (Ga rfl (Gn (.t4 2 3 4 5) (Ae (AE ?_)))))))
 refine AZ rfl (.tmp rfl (.tmp rfl (.tmp rfl (.tmp rfl .n)))) ?_
 intro w1 hS;refine⟨?_,hS.Al⟩;rw [show Words.ER u=_ from((AX c1).trans ((AX c2).trans (AX c3))),Words.W3 y7];rfl
theorem Jj (z:Int)(w:World):Ee Tryz.prog 155 #[.int .i64 z] w fun v w'=>v = .bool (Words.many z)∧B9 w w':=by
 refine Ao [] [] Tryz.func155 rfl rfl rfl (St.start w []) ?_
 refine Gs (Ga rfl (Gn (.t1 0) (Gs (Gm rfl (Gt (Ai rfl rfl) (Gm rfl (Bf 5 rfl rfl (fun q=>AD rfl) ?_)))))))
 refine Bf 5 rfl rfl (fun q=>Ai (cF rfl q) rfl) ?_
 refine Gt (BU rfl rfl (fun h=>by rw [h];rfl)) ?_
 refine Gm rfl (Bf 9 rfl rfl (fun q=>AD rfl) (Bf 9 rfl rfl (fun q=>Ai (cF rfl q) rfl) ?_))
 refine Gt (BU rfl rfl (fun h=>by rw [h];rfl)) ?_
 refine Ga rfl (Gn (.t1 2) (Ae ?_))
 refine AZ rfl (.tmp rfl .n) ?_
 intro w1 hS;refine⟨?_,hS.Al⟩;rfl
theorem JF (z:Int)(w:World):Ee Tryz.prog 156 #[.int .i64 z] w fun v w'=>v = .tuple #[BW (Words.OZ z).1, .bool (Words.OZ z).2]∧B9 w w':=by
 refine Ao [] [] Tryz.func156 rfl rfl rfl (St.start w []) ?_
 refine Gs (Ga rfl (Ga rfl (Gn (.t1 0) (CH (Gm rfl (Gn (.t1 4) (Ak ?_)))))))
 refine Gs (Gt (Ai rfl rfl) (Ga rfl (Gn (.t2 4 5) ?_)))
 refine Gc (fun c1=>?_) (fun c1=>?_)
 ·
  refine Gs (Ga rfl (Ga rfl (Gn (.t2 2 3) (Ae (AS (AE ?_))))))
  refine AZ rfl (.tmp rfl (.tmp rfl .n)) ?_
  intro w1 hS;refine⟨?_,hS.Al⟩;rw [show Words.OZ z=_ from(BJ c1)];rfl
 refine Gs (Gt (Ai rfl rfl) (Ga rfl (Gn (.t2 4 7) ?_)))
 refine Gc (fun c2=>?_) (fun c2=>?_)
 ·
  refine Gs (Ga rfl (Ga rfl (Gn (.t2 2 3) (Ae (AS (AE ?_))))))
  refine AZ rfl (.tmp rfl (.tmp rfl .n)) ?_
  intro w1 hS;refine⟨?_,hS.Al⟩;rw [show Words.OZ z=_ from((AX c1).trans (BJ c2))];rfl
 refine Gs (Gt (Ai rfl rfl) (Ga rfl (Gn (.t1 9) ?_)))
 refine Gc (fun c3=>?_) (fun c3=>?_)
 ·
  refine Gs (Ga rfl (Ga rfl (Gn (.t2 2 3) (Ae (AS (AE ?_))))))
  refine AZ rfl (.tmp rfl (.tmp rfl .n)) ?_
  intro w1 hS;refine⟨?_,hS.Al⟩;rw [show Words.OZ z=_ from((AX c1).trans ((AX c2).trans (BJ c3)))];rfl
 refine Aa ?_
 refine AB (.nil _) ?_
 refine AW (AA (Gs (Ga rfl (Ga rfl (AT (AA (Ae ?_)))))))
 refine AZ rfl (.tmp rfl (.tmp rfl .n)) ?_
 intro w1 hS;refine⟨?_,hS.Al⟩;rw [show Words.OZ z=_ from((AX c1).trans ((AX c2).trans (AX c3)))];rfl
theorem MX (s:As)(hs:s.length≤4000000)(w:World)(gl0:GV 0 AI.DT w)(gl1:HI 7 w)(gl2:HI 8 w):Ee Tryz.prog 122 #[BW s] w fun v w'=>v = .tuple #[.agg (Words.parse s).1.enc.toArray, .int .i64 (Words.parse s).2]∧B9 w w':=by
 refine Ao [] [] Tryz.func122 rfl rfl rfl (St.start w []) ?_
 refine Gs ?_
 refine A6 rfl Lp rfl (fun b1=>?_)
 refine Ga rfl (Gn (.t2 0 2) (Gs (Ga rfl (AT (AA (Gs (Gm rfl ?_)))))))
 refine Ah rfl de (.c rfl .n) .n (MU _ hs) (fun v1 B hv=>?_)
 obtain⟨y2,rfl,y3,rfl⟩:=hv
 refine Ga rfl (Gn (.t4 0 2 4 5) (CH (Gm rfl (Gt (Av rfl Tryz.underlying52 rfl) (Gt (Ai rfl rfl) (Gn (.t5 0 2 4 5 20) ?_))))))
 refine Gc (fun c1=>?_) (fun c1=>?_)
 ·
  have hlen:=y3
  (try simp only [Hd.cut] at c1)
  rw [hlen] at c1
  refine Gs (Gm rfl ?_)
  refine Dm rfl I3 rfl (.c rfl .n) .n (Bu _) (fun v5 B hv=>?_)
  obtain⟨rfl,rfl⟩:=hv
  refine Gt (AM rfl rfl) (Gt (AM rfl rfl) ?_)
  refine AO (AJ (AQ.id Order.fl.len Order.fl.one) rfl rfl rfl ED rfl (.t .h)) ?_
  refine Ga rfl (Gn (.t2 2 3) (Ae (AE ?_)))
  refine AZ rfl (.cell rfl .m1 (.inl ⟨(by rw [Order.fl.len];exact CB),rfl⟩) (.tmp rfl .n)) ?_
  intro w1 hS;refine⟨?_,hS.Al⟩;rw [show Words.parse s=_ from(BJ c1)];rfl
 have c1p:=kz c1
 have hlen:=y3
 (try simp only [Hd.cut] at c1)
 rw [hlen] at c1
 refine Aa ?_
 refine AB (.t4 0 2 4 5) ?_
 refine AA (Gs (Gm rfl ?_))
 refine Gt (Bs Ir (by decide) (Kn.own .m0) rfl rfl (by omega) (by first | omega | (simp only [Hd.cut] at *;omega) | (simp [Hd.cut] at q ⊢;omega))) ?_
 refine Gt (DO rfl CK (Kn.own .m0) (by first | omega | (simp only [List.length_drop,Hd.cut] at *;omega) | (simp [Hd.cut] at q ⊢;omega))) ?_
 refine BE rfl aG (.c rfl .n) (fun w hS=>Jk _ w (gl0.st hS)) ?_
 refine Gm rfl (Gt (AM rfl rfl) (Gt (AM rfl rfl) (Ga rfl (Ga rfl (Gn (.t6 0 2 4 5 6 7) (CH (Gm rfl ?_)))))))
 refine Gt (Cb rfl rfl) (Gn (.t7 0 2 4 5 6 7 33) ?_)
 refine Gc (fun c2=>?_) (fun c2=>?_)
 ·
  refine Gs (Gm rfl (Gm rfl ?_))
  refine Dm rfl I3 rfl (.c rfl .n) .n (Bu _) (fun v6 B hv=>?_)
  obtain⟨rfl,rfl⟩:=hv
  refine Gt (AM rfl rfl) (Gt (AM rfl rfl) ?_)
  refine AO (AJ (AQ.id Order.fl.len Order.fl.one) rfl rfl rfl ED rfl (.t .h)) ?_
  refine Ga rfl (Gn (.t2 2 3) (Ae (AE ?_)))
  refine AZ rfl (.cell rfl .m1 (.inl ⟨(by rw [Order.fl.len];exact CB),rfl⟩) (.tmp rfl .n)) ?_
  intro w1 hS;refine⟨?_,hS.Al⟩;rw [show Words.parse s=_ from((AX c1).trans (BJ c2))];rfl
 have c2p:=kz c2
 refine Aa ?_
 refine AB (.t5 0 2 4 5 6) ?_
 refine AA (Gs (Gm rfl (Gt (BL S3 Lp rfl (.cons Order.l0 rfl rfl rfl .nil)) ?_)))
 refine A6 rfl Lp rfl (fun b2=>?_)
 refine AO (AJ (AQ.id Order.fl.len Order.fl.one) rfl rfl rfl ED rfl .h) ?_
 refine Gn (.t6 0 2 4 5 6 8) (Gs (Gm rfl ?_))
 refine Gw DZ rfl Tryz.underlying52 Et rfl rfl (by decide) (by first | omega | (simp only [Hd.cut];omega) | (simp only [Hd.cut] at *;omega)) (fun _=>(.t .h)) ?_
 refine Ga rfl (Gn (.t6 0 2 4 5 6 8) (Au (Ak (Gs (Gm rfl (Gt (Ai rfl rfl) (Ga rfl ?_)))))))
 refine Gn (.t7 0 2 4 5 6 8 43) ?_
 refine Gc (fun c3=>?_) (fun c3=>?_)
 ·
  have c3p:=kz c3
  refine Gs (Gm rfl ?_)
  refine BE rfl cc (.c rfl (.c rfl .n)) (fun w hS=>Jo _ (by omega) w) ?_
  refine BE rfl dj (.c rfl (.c rfl .n)) (fun w hS=>JC _ 32 (by have:=Words.Lw 32 s;omega) w) ?_
  refine Gm rfl (Gt (AM rfl rfl) (Gt (AM rfl rfl) (Gt (AM rfl rfl) (Ga rfl (Ga rfl (Ga rfl (Gn (.t4 2 4 8 10) ?_)))))))
  refine CH (Gm rfl ?_)
  refine BE rfl cg (.c rfl (.c rfl .n)) (fun w hS=>IB _ (by have h1:=Words.Lw 32 s;have h2:=Words.Nf 32 (Words.Pe 32 s);omega) w) ?_
  refine Gt (Aj Rl rfl) ?_
  refine AO (AJ Order.l5 rfl rfl rfl Et rfl .h) ?_
  refine Gn (.t3 2 4 8) (Gs (Gt (Aj Rl rfl) (Gt (AG rfl CK .m0 Order.l5 rfl rfl) (Gt (Bv rfl rfl) (Gn (.t4 2 4 8 58) ?_)))))
  refine Gc (fun c4=>?_) (fun c4=>?_)
  ·
   refine Gs (Gm rfl ?_)
   refine Dm rfl I3 rfl (.c rfl .n) .n (Bu _) (fun v7 B hv=>?_)
   obtain⟨rfl,rfl⟩:=hv
   refine Gt (AM rfl rfl) (Gt (AM rfl rfl) ?_)
   refine AO (AJ (AQ.id Order.fl.len Order.fl.one) rfl rfl rfl ED rfl (.t (.t .h))) ?_
   refine Ga rfl (Gn (.t2 2 3) (Ae (AE (AS (AE ?_)))))
   refine AZ rfl (.cell rfl .m2 (.inl ⟨(by rw [Order.fl.len];exact CB),rfl⟩) (.tmp rfl .n)) ?_
   intro w1 hS;refine⟨?_,hS.Al⟩;rw [show Words.parse s=_ from((AX c1).trans ((AX c2).trans ((BJ c3).trans (BJ c4))))];rfl
  refine Aa ?_
  refine AB (.t2 2 8) ?_
  refine AA (Gs (Gt (AU rfl CB .m0 (AQ.id Order.fl.len Order.fl.one) rfl) ?_))
  refine AO (AJ (AQ.id Order.fl.len Order.fl.one) rfl rfl rfl ED rfl (.t (.t .h))) ?_
  refine Ga rfl (Gn (.t2 2 3) (Ae (AS (AE ?_))))
  refine AZ rfl (.cell rfl .m2 (.inl ⟨(by rw [Order.fl.len];exact CB),rfl⟩) (.tmp rfl .n)) ?_
  intro w1 hS;refine⟨?_,hS.Al⟩;rw [show Words.parse s=_ from((AX c1).trans ((AX c2).trans ((BJ c3).trans (AX c4))))];rfl
 have c3p:=kz c3
 refine Gs (Gm rfl (Gt (Ia rfl rfl) (Gm rfl (Bf 67 rfl rfl (fun q=>AD rfl) (Bf 67 rfl rfl (fun q=>CO (cF rfl q) rfl) ?_)))))
 refine Gt (BU rfl rfl (fun h=>by rw [h];rfl)) ?_
 refine Ga rfl (Gn (.t6 2 4 5 6 8 64) ?_)
 refine Gc (fun c5=>?_) (fun c5=>?_)
 ·
  refine CH (Gm rfl (Gt (Av rfl Tryz.underlying52 rfl) (Gt (Cn rfl rfl) (Gn (.t4 2 4 8 73) ?_))))
  refine Gc (fun c6=>?_) (fun c6=>?_)
  ·
   (try simp only [Hd.cut] at c6)
   rw [hlen] at c6
   refine Gs (Gm rfl ?_)
   refine Dm rfl I3 rfl (.c rfl .n) .n (Bu _) (fun v8 B hv=>?_)
   obtain⟨rfl,rfl⟩:=hv
   refine Gt (AM rfl rfl) (Gt (AM rfl rfl) ?_)
   refine AO (AJ (AQ.id Order.fl.len Order.fl.one) rfl rfl rfl ED rfl (.t (.t .h))) ?_
   refine Ga rfl (Gn (.t2 2 3) (Ae (AE (AS (AE ?_)))))
   refine AZ rfl (.cell rfl .m2 (.inl ⟨(by rw [Order.fl.len];exact CB),rfl⟩) (.tmp rfl .n)) ?_
   intro w1 hS;refine⟨?_,hS.Al⟩;rw [show Words.parse s=_ from((AX c1).trans ((AX c2).trans ((AX c3).trans ((BJ c5).trans (BJ c6)))))];rfl
  (try simp only [Hd.cut] at c6)
  rw [hlen] at c6
  refine Aa ?_
  refine AB (.t2 2 8) ?_
  refine AA (Gs (Gt (AU rfl CB .m0 (AQ.id Order.fl.len Order.fl.one) rfl) ?_))
  refine AO (AJ (AQ.id Order.fl.len Order.fl.one) rfl rfl rfl ED rfl (.t (.t .h))) ?_
  refine Ga rfl (Gn (.t2 2 3) (Ae (AS (AE ?_))))
  refine AZ rfl (.cell rfl .m2 (.inl ⟨(by rw [Order.fl.len];exact CB),rfl⟩) (.tmp rfl .n)) ?_
  intro w1 hS;refine⟨?_,hS.Al⟩;rw [show Words.parse s=_ from((AX c1).trans ((AX c2).trans ((AX c3).trans ((BJ c5).trans (AX c6)))))];rfl
 have c5p:=kz c5
 refine Gs (Gm rfl (Gt (Av rfl Tryz.underlying52 rfl) (Gt (Ai rfl rfl) (Ga rfl (Gn (.t6 2 4 5 6 8 79) ?_)))))
 refine Gc (fun c7=>?_) (fun c7=>?_)
 ·
  (try simp only [Hd.cut] at c7)
  rw [hlen] at c7
  refine Gs (Gm rfl ?_)
  refine Dm rfl I3 rfl (.c rfl .n) .n (Bu _) (fun v9 B hv=>?_)
  obtain⟨rfl,rfl⟩:=hv
  refine Gt (AM rfl rfl) (Gt (AM rfl rfl) ?_)
  refine AO (AJ (AQ.id Order.fl.len Order.fl.one) rfl rfl rfl ED rfl (.t (.t .h))) ?_
  refine Ga rfl (Gn (.t2 2 3) (Ae (AS (AE ?_))))
  refine AZ rfl (.cell rfl .m2 (.inl ⟨(by rw [Order.fl.len];exact CB),rfl⟩) (.tmp rfl .n)) ?_
  intro w1 hS;refine⟨?_,hS.Al⟩;rw [show Words.parse s=_ from((AX c1).trans ((AX c2).trans ((AX c3).trans ((AX c5).trans (BJ c7)))))];rfl
 have c7p:=kz c7
 (try simp only [Hd.cut] at c7)
 rw [hlen] at c7
 refine Aa ?_
 refine AB (.t5 2 4 5 6 8) ?_
 refine AW (AA (CH (Gm rfl (Gt (Ai rfl rfl) (Gm rfl (Bf 89 rfl rfl (fun q=>AD rfl) (Bf 89 rfl rfl (fun q=>Ai (cF rfl q) rfl) ?_)))))))
 refine Gt (BU rfl rfl (fun h=>by rw [h];rfl)) ?_
 refine Gn (.t6 2 4 5 6 8 92) ?_
 refine Gc (fun c8=>?_) (fun c8=>?_)
 ·
  have c8p:=kz c8
  refine Gs (Gm rfl ?_)
  refine Gt (Bs Ir (by decide) (Kn.own .m1) rfl rfl (by omega) (by first | omega | (simp only [Hd.cut] at *;omega) | (simp [Hd.cut] at q ⊢;omega))) ?_
  refine Gt (DO rfl CK (Kn.own .m1) (by first | omega | (simp only [List.length_drop,Hd.cut] at *;omega) | (simp [Hd.cut] at q ⊢;omega))) ?_
  refine BE rfl aG (.c rfl .n) (fun w hS=>Jk _ w (gl0.st hS)) ?_
  refine Gm rfl (Gt (AM rfl rfl) (Gt (AM rfl rfl) (Ga rfl (Ga rfl (Gn (.t7 2 4 5 6 8 12 13) (Gs (Gm rfl ?_)))))))
  refine Gt (Ai rfl rfl) (Gm rfl (Bg 102 rfl rfl (fun q=>AD rfl) (Bg 102 rfl rfl (fun q=>BC (Bc rfl q) rfl) (Gt (BM rfl rfl (fun h=>h)) (Gm rfl (Bg 106 rfl rfl (fun q=>AD rfl) (Bg 106 rfl rfl (fun q=>Av rfl Tryz.underlying52 (Bc rfl q)) ?_)))))))
  refine Bg 106 rfl rfl (fun q=>Ai (Bc rfl q) rfl) (Gt (BM rfl rfl (fun h=>h)) (Gn (.t7 2 4 5 6 8 12 110) ?_))
  refine Gc (fun c9=>?_) (fun c9=>?_)
  ·
   have c9p:=kz c9
   (try simp only [Hd.cut] at c9)
   rw [hlen] at c9
   have hd:0≤(Words.verb (((Words.words s).drop (1:Int).toNat).getD (0:Int).toNat [])).1∧(Words.verb (((Words.words s).drop (1:Int).toNat).getD (0:Int).toNat [])).1 < 6:=⟨(Words.Xc _).1,by have h:=c9;rw [Bool.and_eq_true,Bool.and_eq_true] at h;exact of_decide_eq_true h.1.2⟩
   refine Gs (Gm rfl ?_)
   refine Gt (AV YG rfl rfl (by first | omega | (simp only [Hd.cut];omega) | (simp only [Hd.cut] at *;omega)) (by first | omega | (simp only [Hd.cut];omega) | (simp only [Hd.cut] at *;omega))) ?_
   refine Gt (Rb gl0 rfl CK (AI.PV hd.1 hd.2)) (Gt (Aj GF rfl) ?_)
   refine AO (AJ Order.l3 rfl rfl rfl Et rfl .h) ?_
   refine Gt (Aj Gk rfl) ?_
   refine AO (AJ Order.l1 rfl rfl rfl DJ rfl .h) ?_
   refine Gn (.t2 2 8) (Gs (Gt (AU rfl CB .m0 (AQ.id Order.fl.len Order.fl.one) rfl) ?_))
   refine AO (AJ (AQ.id Order.fl.len Order.fl.one) rfl rfl rfl ED rfl (.t (.t .h))) ?_
   refine Ga rfl (Gn (.t2 2 3) (Ae (AE ?_)))
   refine AZ rfl (.cell rfl .m2 (.inl ⟨(by rw [Order.fl.len];exact CB),rfl⟩) (.tmp rfl .n)) ?_
   intro w1 hS;refine⟨?_,hS.Al⟩;rw [show Words.parse s=_ from((AX c1).trans ((AX c2).trans ((AX c3).trans ((AX c5).trans ((AX c7).trans ((BJ c8).trans (BJ c9)))))))];rfl
  have c9p:=kz c9
  (try simp only [Hd.cut] at c9)
  rw [hlen] at c9
  refine Aa ?_
  refine AB (.t5 2 4 5 6 8) ?_
  refine AA (CH (Gm rfl ?_))
  refine Gt (Bs Ir (by decide) (Kn.own .m1) rfl rfl (by omega) (by first | omega | (simp only [Hd.cut] at *;omega) | (simp [Hd.cut] at q ⊢;omega))) ?_
  refine Gt (DO rfl CK (Kn.own .m1) (by first | omega | (simp only [List.length_drop,Hd.cut] at *;omega) | (simp [Hd.cut] at q ⊢;omega))) ?_
  refine BE rfl Uv (.c rfl .n) (fun w hS=>FZ _ (by have:=Words.MZ s 0 1;exact Nat.le_trans this (by omega)) w (gl1.st hS) (gl2.st hS)) ?_
  refine Gm rfl (Gt (AM rfl rfl) (Gt (AM rfl rfl) (Gt (AM rfl rfl) (Gt (AM rfl rfl) (Gt (Aj Gk rfl) ?_)))))
  refine AO (AJ Order.l1 rfl rfl rfl DJ rfl .h) ?_
  refine Gt (Aj GF rfl) ?_
  refine AO (AJ Order.l3 rfl rfl rfl Et rfl .h) ?_
  refine Gt (Aj HR rfl) ?_
  refine AO (AJ Order.l2 rfl rfl rfl Ks rfl .h) ?_
  refine Ga rfl (Gn (.t6 2 4 5 6 7 8) (Gs (Gm rfl (Gt (Cb rfl rfl) (Gm rfl (Bf 131 rfl rfl (fun q=>Aj HR rfl) (Bf 131 rfl rfl (fun q=>AG (cF rfl q) DM .m0 Order.l2 rfl rfl) ?_)))))))
  refine Bf 131 rfl rfl (fun q=>AD (cF rfl q)) ?_
  refine C8 (t:=134) rfl rfl rfl (fun qc q=>AD rfl) ?_
  refine Uu (t:=134) rfl rfl rfl (fun qc q=>by have q1:=q;have qc1:=qc;(try simp at q1 qc1);exact EB Z5 (.c (Bc rfl (by rw [qc,q];rfl)) .n) (fun w hS=>Jj _ w)) ?_
  refine C8 (t:=134) rfl rfl rfl (fun qc q=>BX (Bc rfl (by rw [qc,q];rfl))) ?_
  refine Bf 131 rfl rfl (fun q=>BM (cF rfl q) rfl (fun h=>by rw [q,h];rfl)) ?_
  refine Gt (BU rfl rfl (fun h=>by rw [h];rfl)) ?_
  refine Gn (.t6 2 4 5 6 8 139) ?_
  refine Gc (fun c10=>?_) (fun c10=>?_)
  ·
   refine Gs (Gm rfl ?_)
   refine Dm rfl I3 rfl (.c rfl .n) .n (Bu _) (fun v10 B hv=>?_)
   obtain⟨rfl,rfl⟩:=hv
   refine Gt (AM rfl rfl) (Gt (AM rfl rfl) ?_)
   refine AO (AJ (AQ.id Order.fl.len Order.fl.one) rfl rfl rfl ED rfl (.t (.t .h))) ?_
   refine Ga rfl (Gn (.t2 2 3) (Ae (AE ?_)))
   refine AZ rfl (.cell rfl .m2 (.inl ⟨(by rw [Order.fl.len];exact CB),rfl⟩) (.tmp rfl .n)) ?_
   intro w1 hS;refine⟨?_,hS.Al⟩;rw [show Words.parse s=_ from((AX c1).trans ((AX c2).trans ((AX c3).trans ((AX c5).trans ((AX c7).trans ((BJ c8).trans ((AX c9).trans (BJ c10))))))))];rfl
  have c10p:=kz c10
  refine Aa ?_
  refine AB (.t5 2 4 5 6 8) ?_
  refine AA (Gs (Gm rfl ?_))
  refine BE rfl aE (.c rfl .n) (fun w hS=>JF _ w) ?_
  refine Gm rfl (Gt (AM rfl rfl) (Gt (AM rfl rfl) (Ga rfl (Ga rfl (Gn (.t6 2 4 5 8 14 15) (Gs (Gm rfl ?_)))))))
  refine Gw DZ rfl Tryz.underlying52 Et rfl rfl (by decide) (by first | omega | (simp only [Hd.cut];omega) | (simp only [Hd.cut] at *;omega)) (fun _=>(.t .h)) ?_
  refine Ga rfl (Gn (.t6 2 4 5 8 14 15) (CH (Gm rfl (Gt (Av rfl Tryz.underlying52 rfl) (Gt (Cn rfl rfl) (Gm rfl (Bg 154 rfl rfl (fun q=>AD rfl) ?_)))))))
  refine Bg 154 rfl rfl (fun q=>Dp (Bc rfl q) rfl) (Gt (BM rfl rfl (fun h=>h)) (Gm rfl (Bg 158 rfl rfl (fun q=>AD rfl) ?_)))
  refine Bg 158 rfl rfl (fun q=>by have q1:=q;(try simp at q1);exact Bs Ir (by decide) (Kn.own .m1) (Bc rfl q) rfl (by omega) (by first | omega | (simp only [Hd.cut] at *;omega) | (simp [Hd.cut] at q ⊢;omega))) ?_
  refine Bg 158 rfl rfl (fun q=>by have q1:=q;(try simp at q1);exact DO (Bc rfl q) CK (Kn.own .m1) (by first | omega | (simp only [List.length_drop,Hd.cut] at *;omega) | (simp [Hd.cut] at q ⊢;omega))) ?_
  refine Bg 158 rfl rfl (fun q=>AD rfl) (Bg 158 rfl rfl (fun q=>Bv (Bc rfl q) (Bc rfl q)) (Gt (BM rfl rfl (fun h=>h)) (Gn (.t7 2 4 5 8 14 15 164) ?_)))
  refine Gc (fun c11=>?_) (fun c11=>?_)
  ·
   have c11p:=kz c11
   (try simp only [Hd.cut] at c11)
   rw [hlen] at c11
   refine Gs (Gm rfl ?_)
   refine Gw DZ rfl Tryz.underlying52 Et rfl rfl (by decide) (by first | omega | (simp only [Hd.cut];omega) | (simp only [Hd.cut] at *;omega)) (fun _=>(.t .h)) ?_
   refine Ga rfl (Gn (.t6 2 4 5 8 14 15) (Gs (Gm rfl (Gt (Av rfl Tryz.underlying52 rfl) (Gt (Ai rfl rfl) (Gn (.t7 2 4 5 8 14 15 169) ?_))))))
   refine Gc (fun c12=>?_) (fun c12=>?_)
   ·
    (try simp only [Hd.cut] at c12)
    rw [hlen] at c12
    refine Gs (Gm rfl ?_)
    refine Dm rfl I3 rfl (.c rfl .n) .n (Bu _) (fun v11 B hv=>?_)
    obtain⟨rfl,rfl⟩:=hv
    refine Gt (AM rfl rfl) (Gt (AM rfl rfl) ?_)
    refine AO (AJ (AQ.id Order.fl.len Order.fl.one) rfl rfl rfl ED rfl (.t (.t .h))) ?_
    refine Ga rfl (Gn (.t2 2 3) (Ae (AE ?_)))
    refine AZ rfl (.cell rfl .m2 (.inl ⟨(by rw [Order.fl.len];exact CB),rfl⟩) (.tmp rfl .n)) ?_
    intro w1 hS;refine⟨?_,hS.Al⟩;rw [show Words.parse s=_ from((AX c1).trans ((AX c2).trans ((AX c3).trans ((AX c5).trans ((AX c7).trans ((BJ c8).trans ((AX c9).trans ((AX c10).trans ((BJ c11).trans (BJ c12))))))))))];rfl
   have c12p:=kz c12
   (try simp only [Hd.cut] at c12)
   rw [hlen] at c12
   refine Aa ?_
   refine AB (.t6 2 4 5 8 14 15) ?_
   refine AA (Au (Ak (Gs (Gm rfl (Gt (Av rfl Tryz.underlying52 rfl) (Gt (Ai rfl rfl) (Gm rfl ?_)))))))
   refine Bg 178 rfl rfl (fun q=>AD rfl) (Bg 178 rfl rfl (fun q=>BX (Bc rfl q)) (Gt (BM rfl rfl (fun h=>h)) (Ga rfl (Gn (.t6 2 4 5 8 14 174) ?_))))
   refine Gc (fun c13=>?_) (fun c13=>?_)
   ·
    (try simp only [Hd.cut] at c13)
    rw [hlen] at c13
    refine Gs (Gt (AU rfl CB .m0 (AQ.id Order.fl.len Order.fl.one) rfl) ?_)
    refine AO (AJ (AQ.id Order.fl.len Order.fl.one) rfl rfl rfl ED rfl (.t (.t .h))) ?_
    refine Ga rfl (Gn (.t2 2 3) (Ae (AS (AE ?_))))
    refine AZ rfl (.cell rfl .m2 (.inl ⟨(by rw [Order.fl.len];exact CB),rfl⟩) (.tmp rfl .n)) ?_
    intro w1 hS;refine⟨?_,hS.Al⟩;rw [show Words.parse s=_ from((AX c1).trans ((AX c2).trans ((AX c3).trans ((AX c5).trans ((AX c7).trans ((BJ c8).trans ((AX c9).trans ((AX c10).trans ((BJ c11).trans ((AX c12).trans (BJ c13)))))))))))];rfl
   have c13p:=kz c13
   (try simp only [Hd.cut] at c13)
   rw [hlen] at c13
   refine Gs (Gm rfl (Gt (Av rfl Tryz.underlying52 rfl) (Gt (Cb rfl rfl) (Gm rfl (Bf 187 rfl rfl (fun q=>AD rfl) (Bf 187 rfl rfl (fun q=>Bv (cF rfl q) rfl) ?_))))))
   refine Gt (BU rfl rfl (fun h=>by rw [h];rfl)) ?_
   refine Ga rfl (Gn (.t5 2 4 5 8 183) ?_)
   refine Gc (fun c14=>?_) (fun c14=>?_)
   ·
    (try simp only [Hd.cut] at c14)
    rw [hlen] at c14
    refine Gs (Gm rfl ?_)
    refine Dm rfl I3 rfl (.c rfl .n) .n (Bu _) (fun v12 B hv=>?_)
    obtain⟨rfl,rfl⟩:=hv
    refine Gt (AM rfl rfl) (Gt (AM rfl rfl) ?_)
    refine AO (AJ (AQ.id Order.fl.len Order.fl.one) rfl rfl rfl ED rfl (.t (.t .h))) ?_
    refine Ga rfl (Gn (.t2 2 3) (Ae (AS (AE ?_))))
    refine AZ rfl (.cell rfl .m2 (.inl ⟨(by rw [Order.fl.len];exact CB),rfl⟩) (.tmp rfl .n)) ?_
    intro w1 hS;refine⟨?_,hS.Al⟩;rw [show Words.parse s=_ from((AX c1).trans ((AX c2).trans ((AX c3).trans ((AX c5).trans ((AX c7).trans ((BJ c8).trans ((AX c9).trans ((AX c10).trans ((BJ c11).trans ((AX c12).trans ((AX c13).trans (BJ c14))))))))))))];rfl
   have c14p:=kz c14
   (try simp only [Hd.cut] at c14)
   rw [hlen] at c14
   refine Aa ?_
   refine AB (.t3 2 5 8) ?_
   refine AW (AA (Gs (Gm rfl ?_)))
   refine Gt (Bs Ir (by decide) (Kn.own .m1) rfl rfl (by omega) (by first | omega | (simp only [Hd.cut] at *;omega) | (simp [Hd.cut] at q ⊢;omega))) ?_
   refine Gt (DO rfl CK (Kn.own .m1) (by first | omega | (simp only [List.length_drop,Hd.cut] at *;omega) | (simp [Hd.cut] at q ⊢;omega))) ?_
   refine Gt (Aj IL rfl) ?_
   refine AO (AJ Order.l4 rfl rfl rfl Et rfl .h) ?_
   refine Gn (.t2 2 8) (Gs (Gt (AU rfl CB .m0 (AQ.id Order.fl.len Order.fl.one) rfl) ?_))
   refine AO (AJ (AQ.id Order.fl.len Order.fl.one) rfl rfl rfl ED rfl (.t (.t .h))) ?_
   refine Ga rfl (Gn (.t2 2 3) (Ae ?_))
   refine AZ rfl (.cell rfl .m2 (.inl ⟨(by rw [Order.fl.len];exact CB),rfl⟩) (.tmp rfl .n)) ?_
   intro w1 hS;refine⟨?_,hS.Al⟩;rw [show Words.parse s=_ from((AX c1).trans ((AX c2).trans ((AX c3).trans ((AX c5).trans ((AX c7).trans ((BJ c8).trans ((AX c9).trans ((AX c10).trans ((BJ c11).trans ((AX c12).trans ((AX c13).trans (AX c14))))))))))))];rfl
  have c11p:=kz c11
  (try simp only [Hd.cut] at c11)
  rw [hlen] at c11
  refine Aa ?_
  refine AB (.t6 2 4 5 8 14 15) ?_
  refine AA (Au (Ak (Gs (Gm rfl (Gt (Av rfl Tryz.underlying52 rfl) (Gt (Ai rfl rfl) (Gm rfl ?_)))))))
  refine Bg 178 rfl rfl (fun q=>AD rfl) (Bg 178 rfl rfl (fun q=>BX (Bc rfl q)) (Gt (BM rfl rfl (fun h=>h)) (Ga rfl (Gn (.t6 2 4 5 8 14 174) ?_))))
  refine Gc (fun c15=>?_) (fun c15=>?_)
  ·
   (try simp only [Hd.cut] at c15)
   rw [hlen] at c15
   refine Gs (Gt (AU rfl CB .m0 (AQ.id Order.fl.len Order.fl.one) rfl) ?_)
   refine AO (AJ (AQ.id Order.fl.len Order.fl.one) rfl rfl rfl ED rfl (.t (.t .h))) ?_
   refine Ga rfl (Gn (.t2 2 3) (Ae (AS (AE ?_))))
   refine AZ rfl (.cell rfl .m2 (.inl ⟨(by rw [Order.fl.len];exact CB),rfl⟩) (.tmp rfl .n)) ?_
   intro w1 hS;refine⟨?_,hS.Al⟩;rw [show Words.parse s=_ from((AX c1).trans ((AX c2).trans ((AX c3).trans ((AX c5).trans ((AX c7).trans ((BJ c8).trans ((AX c9).trans ((AX c10).trans ((AX c11).trans (BJ c15))))))))))];rfl
  have c15p:=kz c15
  (try simp only [Hd.cut] at c15)
  rw [hlen] at c15
  refine Gs (Gm rfl (Gt (Av rfl Tryz.underlying52 rfl) (Gt (Cb rfl rfl) (Gm rfl (Bf 187 rfl rfl (fun q=>AD rfl) (Bf 187 rfl rfl (fun q=>Bv (cF rfl q) rfl) ?_))))))
  refine Gt (BU rfl rfl (fun h=>by rw [h];rfl)) ?_
  refine Ga rfl (Gn (.t5 2 4 5 8 183) ?_)
  refine Gc (fun c16=>?_) (fun c16=>?_)
  ·
   (try simp only [Hd.cut] at c16)
   rw [hlen] at c16
   refine Gs (Gm rfl ?_)
   refine Dm rfl I3 rfl (.c rfl .n) .n (Bu _) (fun v13 B hv=>?_)
   obtain⟨rfl,rfl⟩:=hv
   refine Gt (AM rfl rfl) (Gt (AM rfl rfl) ?_)
   refine AO (AJ (AQ.id Order.fl.len Order.fl.one) rfl rfl rfl ED rfl (.t (.t .h))) ?_
   refine Ga rfl (Gn (.t2 2 3) (Ae (AS (AE ?_))))
   refine AZ rfl (.cell rfl .m2 (.inl ⟨(by rw [Order.fl.len];exact CB),rfl⟩) (.tmp rfl .n)) ?_
   intro w1 hS;refine⟨?_,hS.Al⟩;rw [show Words.parse s=_ from((AX c1).trans ((AX c2).trans ((AX c3).trans ((AX c5).trans ((AX c7).trans ((BJ c8).trans ((AX c9).trans ((AX c10).trans ((AX c11).trans ((AX c15).trans (BJ c16)))))))))))];rfl
  have c16p:=kz c16
  (try simp only [Hd.cut] at c16)
  rw [hlen] at c16
  refine Aa ?_
  refine AB (.t3 2 5 8) ?_
  refine AW (AA (Gs (Gm rfl ?_)))
  refine Gt (Bs Ir (by decide) (Kn.own .m1) rfl rfl (by omega) (by first | omega | (simp only [Hd.cut] at *;omega) | (simp [Hd.cut] at q ⊢;omega))) ?_
  refine Gt (DO rfl CK (Kn.own .m1) (by first | omega | (simp only [List.length_drop,Hd.cut] at *;omega) | (simp [Hd.cut] at q ⊢;omega))) ?_
  refine Gt (Aj IL rfl) ?_
  refine AO (AJ Order.l4 rfl rfl rfl Et rfl .h) ?_
  refine Gn (.t2 2 8) (Gs (Gt (AU rfl CB .m0 (AQ.id Order.fl.len Order.fl.one) rfl) ?_))
  refine AO (AJ (AQ.id Order.fl.len Order.fl.one) rfl rfl rfl ED rfl (.t (.t .h))) ?_
  refine Ga rfl (Gn (.t2 2 3) (Ae ?_))
  refine AZ rfl (.cell rfl .m2 (.inl ⟨(by rw [Order.fl.len];exact CB),rfl⟩) (.tmp rfl .n)) ?_
  intro w1 hS;refine⟨?_,hS.Al⟩;rw [show Words.parse s=_ from((AX c1).trans ((AX c2).trans ((AX c3).trans ((AX c5).trans ((AX c7).trans ((BJ c8).trans ((AX c9).trans ((AX c10).trans ((AX c11).trans ((AX c15).trans (AX c16)))))))))))];rfl
 have c8p:=kz c8
 refine Aa ?_
 refine AB (.t5 2 4 5 6 8) ?_
 refine AA (CH (Gm rfl ?_))
 refine Gt (Bs Ir (by decide) (Kn.own .m1) rfl rfl (by omega) (by first | omega | (simp only [Hd.cut] at *;omega) | (simp [Hd.cut] at q ⊢;omega))) ?_
 refine Gt (DO rfl CK (Kn.own .m1) (by first | omega | (simp only [List.length_drop,Hd.cut] at *;omega) | (simp [Hd.cut] at q ⊢;omega))) ?_
 refine BE rfl Uv (.c rfl .n) (fun w hS=>FZ _ (by have:=Words.MZ s 0 1;exact Nat.le_trans this (by omega)) w (gl1.st hS) (gl2.st hS)) ?_
 refine Gm rfl (Gt (AM rfl rfl) (Gt (AM rfl rfl) (Gt (AM rfl rfl) (Gt (AM rfl rfl) (Gt (Aj Gk rfl) ?_)))))
 refine AO (AJ Order.l1 rfl rfl rfl DJ rfl .h) ?_
 refine Gt (Aj GF rfl) ?_
 refine AO (AJ Order.l3 rfl rfl rfl Et rfl .h) ?_
 refine Gt (Aj HR rfl) ?_
 refine AO (AJ Order.l2 rfl rfl rfl Ks rfl .h) ?_
 refine Ga rfl (Gn (.t6 2 4 5 6 7 8) (Gs (Gm rfl (Gt (Cb rfl rfl) (Gm rfl (Bf 131 rfl rfl (fun q=>Aj HR rfl) (Bf 131 rfl rfl (fun q=>AG (cF rfl q) DM .m0 Order.l2 rfl rfl) ?_)))))))
 refine Bf 131 rfl rfl (fun q=>AD (cF rfl q)) ?_
 refine C8 (t:=134) rfl rfl rfl (fun qc q=>AD rfl) ?_
 refine Uu (t:=134) rfl rfl rfl (fun qc q=>by have q1:=q;have qc1:=qc;(try simp at q1 qc1);exact EB Z5 (.c (Bc rfl (by rw [qc,q];rfl)) .n) (fun w hS=>Jj _ w)) ?_
 refine C8 (t:=134) rfl rfl rfl (fun qc q=>BX (Bc rfl (by rw [qc,q];rfl))) ?_
 refine Bf 131 rfl rfl (fun q=>BM (cF rfl q) rfl (fun h=>by rw [q,h];rfl)) ?_
 refine Gt (BU rfl rfl (fun h=>by rw [h];rfl)) ?_
 refine Gn (.t6 2 4 5 6 8 139) ?_
 refine Gc (fun c17=>?_) (fun c17=>?_)
 ·
  refine Gs (Gm rfl ?_)
  refine Dm rfl I3 rfl (.c rfl .n) .n (Bu _) (fun v14 B hv=>?_)
  obtain⟨rfl,rfl⟩:=hv
  refine Gt (AM rfl rfl) (Gt (AM rfl rfl) ?_)
  refine AO (AJ (AQ.id Order.fl.len Order.fl.one) rfl rfl rfl ED rfl (.t (.t .h))) ?_
  refine Ga rfl (Gn (.t2 2 3) (Ae (AE ?_)))
  refine AZ rfl (.cell rfl .m2 (.inl ⟨(by rw [Order.fl.len];exact CB),rfl⟩) (.tmp rfl .n)) ?_
  intro w1 hS;refine⟨?_,hS.Al⟩;rw [show Words.parse s=_ from((AX c1).trans ((AX c2).trans ((AX c3).trans ((AX c5).trans ((AX c7).trans ((AX c8).trans (BJ c17)))))))];rfl
 have c17p:=kz c17
 refine Aa ?_
 refine AB (.t5 2 4 5 6 8) ?_
 refine AA (Gs (Gm rfl ?_))
 refine BE rfl aE (.c rfl .n) (fun w hS=>JF _ w) ?_
 refine Gm rfl (Gt (AM rfl rfl) (Gt (AM rfl rfl) (Ga rfl (Ga rfl (Gn (.t6 2 4 5 8 14 15) (Gs (Gm rfl ?_)))))))
 refine Gw DZ rfl Tryz.underlying52 Et rfl rfl (by decide) (by first | omega | (simp only [Hd.cut];omega) | (simp only [Hd.cut] at *;omega)) (fun _=>(.t .h)) ?_
 refine Ga rfl (Gn (.t6 2 4 5 8 14 15) (CH (Gm rfl (Gt (Av rfl Tryz.underlying52 rfl) (Gt (Cn rfl rfl) (Gm rfl (Bg 154 rfl rfl (fun q=>AD rfl) ?_)))))))
 refine Bg 154 rfl rfl (fun q=>Dp (Bc rfl q) rfl) (Gt (BM rfl rfl (fun h=>h)) (Gm rfl (Bg 158 rfl rfl (fun q=>AD rfl) ?_)))
 refine Bg 158 rfl rfl (fun q=>by have q1:=q;(try simp at q1);exact Bs Ir (by decide) (Kn.own .m1) (Bc rfl q) rfl (by omega) (by first | omega | (simp only [Hd.cut] at *;omega) | (simp [Hd.cut] at q ⊢;omega))) ?_
 refine Bg 158 rfl rfl (fun q=>by have q1:=q;(try simp at q1);exact DO (Bc rfl q) CK (Kn.own .m1) (by first | omega | (simp only [List.length_drop,Hd.cut] at *;omega) | (simp [Hd.cut] at q ⊢;omega))) ?_
 refine Bg 158 rfl rfl (fun q=>AD rfl) (Bg 158 rfl rfl (fun q=>Bv (Bc rfl q) (Bc rfl q)) (Gt (BM rfl rfl (fun h=>h)) (Gn (.t7 2 4 5 8 14 15 164) ?_)))
 refine Gc (fun c18=>?_) (fun c18=>?_)
 ·
  have c18p:=kz c18
  (try simp only [Hd.cut] at c18)
  rw [hlen] at c18
  refine Gs (Gm rfl ?_)
  refine Gw DZ rfl Tryz.underlying52 Et rfl rfl (by decide) (by first | omega | (simp only [Hd.cut];omega) | (simp only [Hd.cut] at *;omega)) (fun _=>(.t .h)) ?_
  refine Ga rfl (Gn (.t6 2 4 5 8 14 15) (Gs (Gm rfl (Gt (Av rfl Tryz.underlying52 rfl) (Gt (Ai rfl rfl) (Gn (.t7 2 4 5 8 14 15 169) ?_))))))
  refine Gc (fun c19=>?_) (fun c19=>?_)
  ·
   (try simp only [Hd.cut] at c19)
   rw [hlen] at c19
   refine Gs (Gm rfl ?_)
   refine Dm rfl I3 rfl (.c rfl .n) .n (Bu _) (fun v15 B hv=>?_)
   obtain⟨rfl,rfl⟩:=hv
   refine Gt (AM rfl rfl) (Gt (AM rfl rfl) ?_)
   refine AO (AJ (AQ.id Order.fl.len Order.fl.one) rfl rfl rfl ED rfl (.t (.t .h))) ?_
   refine Ga rfl (Gn (.t2 2 3) (Ae (AE ?_)))
   refine AZ rfl (.cell rfl .m2 (.inl ⟨(by rw [Order.fl.len];exact CB),rfl⟩) (.tmp rfl .n)) ?_
   intro w1 hS;refine⟨?_,hS.Al⟩;rw [show Words.parse s=_ from((AX c1).trans ((AX c2).trans ((AX c3).trans ((AX c5).trans ((AX c7).trans ((AX c8).trans ((AX c17).trans ((BJ c18).trans (BJ c19)))))))))];rfl
  have c19p:=kz c19
  (try simp only [Hd.cut] at c19)
  rw [hlen] at c19
  refine Aa ?_
  refine AB (.t6 2 4 5 8 14 15) ?_
  refine AA (Au (Ak (Gs (Gm rfl (Gt (Av rfl Tryz.underlying52 rfl) (Gt (Ai rfl rfl) (Gm rfl ?_)))))))
  refine Bg 178 rfl rfl (fun q=>AD rfl) (Bg 178 rfl rfl (fun q=>BX (Bc rfl q)) (Gt (BM rfl rfl (fun h=>h)) (Ga rfl (Gn (.t6 2 4 5 8 14 174) ?_))))
  refine Gc (fun c20=>?_) (fun c20=>?_)
  ·
   (try simp only [Hd.cut] at c20)
   rw [hlen] at c20
   refine Gs (Gt (AU rfl CB .m0 (AQ.id Order.fl.len Order.fl.one) rfl) ?_)
   refine AO (AJ (AQ.id Order.fl.len Order.fl.one) rfl rfl rfl ED rfl (.t (.t .h))) ?_
   refine Ga rfl (Gn (.t2 2 3) (Ae (AS (AE ?_))))
   refine AZ rfl (.cell rfl .m2 (.inl ⟨(by rw [Order.fl.len];exact CB),rfl⟩) (.tmp rfl .n)) ?_
   intro w1 hS;refine⟨?_,hS.Al⟩;rw [show Words.parse s=_ from((AX c1).trans ((AX c2).trans ((AX c3).trans ((AX c5).trans ((AX c7).trans ((AX c8).trans ((AX c17).trans ((BJ c18).trans ((AX c19).trans (BJ c20))))))))))];rfl
  have c20p:=kz c20
  (try simp only [Hd.cut] at c20)
  rw [hlen] at c20
  refine Gs (Gm rfl (Gt (Av rfl Tryz.underlying52 rfl) (Gt (Cb rfl rfl) (Gm rfl (Bf 187 rfl rfl (fun q=>AD rfl) (Bf 187 rfl rfl (fun q=>Bv (cF rfl q) rfl) ?_))))))
  refine Gt (BU rfl rfl (fun h=>by rw [h];rfl)) ?_
  refine Ga rfl (Gn (.t5 2 4 5 8 183) ?_)
  refine Gc (fun c21=>?_) (fun c21=>?_)
  ·
   (try simp only [Hd.cut] at c21)
   rw [hlen] at c21
   refine Gs (Gm rfl ?_)
   refine Dm rfl I3 rfl (.c rfl .n) .n (Bu _) (fun v16 B hv=>?_)
   obtain⟨rfl,rfl⟩:=hv
   refine Gt (AM rfl rfl) (Gt (AM rfl rfl) ?_)
   refine AO (AJ (AQ.id Order.fl.len Order.fl.one) rfl rfl rfl ED rfl (.t (.t .h))) ?_
   refine Ga rfl (Gn (.t2 2 3) (Ae (AS (AE ?_))))
   refine AZ rfl (.cell rfl .m2 (.inl ⟨(by rw [Order.fl.len];exact CB),rfl⟩) (.tmp rfl .n)) ?_
   intro w1 hS;refine⟨?_,hS.Al⟩;rw [show Words.parse s=_ from((AX c1).trans ((AX c2).trans ((AX c3).trans ((AX c5).trans ((AX c7).trans ((AX c8).trans ((AX c17).trans ((BJ c18).trans ((AX c19).trans ((AX c20).trans (BJ c21)))))))))))];rfl
  have c21p:=kz c21
  (try simp only [Hd.cut] at c21)
  rw [hlen] at c21
  refine Aa ?_
  refine AB (.t3 2 5 8) ?_
  refine AW (AA (Gs (Gm rfl ?_)))
  refine Gt (Bs Ir (by decide) (Kn.own .m1) rfl rfl (by omega) (by first | omega | (simp only [Hd.cut] at *;omega) | (simp [Hd.cut] at q ⊢;omega))) ?_
  refine Gt (DO rfl CK (Kn.own .m1) (by first | omega | (simp only [List.length_drop,Hd.cut] at *;omega) | (simp [Hd.cut] at q ⊢;omega))) ?_
  refine Gt (Aj IL rfl) ?_
  refine AO (AJ Order.l4 rfl rfl rfl Et rfl .h) ?_
  refine Gn (.t2 2 8) (Gs (Gt (AU rfl CB .m0 (AQ.id Order.fl.len Order.fl.one) rfl) ?_))
  refine AO (AJ (AQ.id Order.fl.len Order.fl.one) rfl rfl rfl ED rfl (.t (.t .h))) ?_
  refine Ga rfl (Gn (.t2 2 3) (Ae ?_))
  refine AZ rfl (.cell rfl .m2 (.inl ⟨(by rw [Order.fl.len];exact CB),rfl⟩) (.tmp rfl .n)) ?_
  intro w1 hS;refine⟨?_,hS.Al⟩;rw [show Words.parse s=_ from((AX c1).trans ((AX c2).trans ((AX c3).trans ((AX c5).trans ((AX c7).trans ((AX c8).trans ((AX c17).trans ((BJ c18).trans ((AX c19).trans ((AX c20).trans (AX c21)))))))))))];rfl
 have c18p:=kz c18
 (try simp only [Hd.cut] at c18)
 rw [hlen] at c18
 refine Aa ?_
 refine AB (.t6 2 4 5 8 14 15) ?_
 refine AA (Au (Ak (Gs (Gm rfl (Gt (Av rfl Tryz.underlying52 rfl) (Gt (Ai rfl rfl) (Gm rfl ?_)))))))
 refine Bg 178 rfl rfl (fun q=>AD rfl) (Bg 178 rfl rfl (fun q=>BX (Bc rfl q)) (Gt (BM rfl rfl (fun h=>h)) (Ga rfl (Gn (.t6 2 4 5 8 14 174) ?_))))
 refine Gc (fun c22=>?_) (fun c22=>?_)
 ·
  (try simp only [Hd.cut] at c22)
  rw [hlen] at c22
  refine Gs (Gt (AU rfl CB .m0 (AQ.id Order.fl.len Order.fl.one) rfl) ?_)
  refine AO (AJ (AQ.id Order.fl.len Order.fl.one) rfl rfl rfl ED rfl (.t (.t .h))) ?_
  refine Ga rfl (Gn (.t2 2 3) (Ae (AS (AE ?_))))
  refine AZ rfl (.cell rfl .m2 (.inl ⟨(by rw [Order.fl.len];exact CB),rfl⟩) (.tmp rfl .n)) ?_
  intro w1 hS;refine⟨?_,hS.Al⟩;rw [show Words.parse s=_ from((AX c1).trans ((AX c2).trans ((AX c3).trans ((AX c5).trans ((AX c7).trans ((AX c8).trans ((AX c17).trans ((AX c18).trans (BJ c22)))))))))];rfl
 have c22p:=kz c22
 (try simp only [Hd.cut] at c22)
 rw [hlen] at c22
 refine Gs (Gm rfl (Gt (Av rfl Tryz.underlying52 rfl) (Gt (Cb rfl rfl) (Gm rfl (Bf 187 rfl rfl (fun q=>AD rfl) (Bf 187 rfl rfl (fun q=>Bv (cF rfl q) rfl) ?_))))))
 refine Gt (BU rfl rfl (fun h=>by rw [h];rfl)) ?_
 refine Ga rfl (Gn (.t5 2 4 5 8 183) ?_)
 refine Gc (fun c23=>?_) (fun c23=>?_)
 ·
  (try simp only [Hd.cut] at c23)
  rw [hlen] at c23
  refine Gs (Gm rfl ?_)
  refine Dm rfl I3 rfl (.c rfl .n) .n (Bu _) (fun v17 B hv=>?_)
  obtain⟨rfl,rfl⟩:=hv
  refine Gt (AM rfl rfl) (Gt (AM rfl rfl) ?_)
  refine AO (AJ (AQ.id Order.fl.len Order.fl.one) rfl rfl rfl ED rfl (.t (.t .h))) ?_
  refine Ga rfl (Gn (.t2 2 3) (Ae (AS (AE ?_))))
  refine AZ rfl (.cell rfl .m2 (.inl ⟨(by rw [Order.fl.len];exact CB),rfl⟩) (.tmp rfl .n)) ?_
  intro w1 hS;refine⟨?_,hS.Al⟩;rw [show Words.parse s=_ from((AX c1).trans ((AX c2).trans ((AX c3).trans ((AX c5).trans ((AX c7).trans ((AX c8).trans ((AX c17).trans ((AX c18).trans ((AX c22).trans (BJ c23))))))))))];rfl
 have c23p:=kz c23
 (try simp only [Hd.cut] at c23)
 rw [hlen] at c23
 refine Aa ?_
 refine AB (.t3 2 5 8) ?_
 refine AW (AA (Gs (Gm rfl ?_)))
 refine Gt (Bs Ir (by decide) (Kn.own .m1) rfl rfl (by omega) (by first | omega | (simp only [Hd.cut] at *;omega) | (simp [Hd.cut] at q ⊢;omega))) ?_
 refine Gt (DO rfl CK (Kn.own .m1) (by first | omega | (simp only [List.length_drop,Hd.cut] at *;omega) | (simp [Hd.cut] at q ⊢;omega))) ?_
 refine Gt (Aj IL rfl) ?_
 refine AO (AJ Order.l4 rfl rfl rfl Et rfl .h) ?_
 refine Gn (.t2 2 8) (Gs (Gt (AU rfl CB .m0 (AQ.id Order.fl.len Order.fl.one) rfl) ?_))
 refine AO (AJ (AQ.id Order.fl.len Order.fl.one) rfl rfl rfl ED rfl (.t (.t .h))) ?_
 refine Ga rfl (Gn (.t2 2 3) (Ae ?_))
 refine AZ rfl (.cell rfl .m2 (.inl ⟨(by rw [Order.fl.len];exact CB),rfl⟩) (.tmp rfl .n)) ?_
 intro w1 hS;refine⟨?_,hS.Al⟩;rw [show Words.parse s=_ from((AX c1).trans ((AX c2).trans ((AX c3).trans ((AX c5).trans ((AX c7).trans ((AX c8).trans ((AX c17).trans ((AX c18).trans ((AX c22).trans (AX c23))))))))))];rfl
theorem Hm (d:Int)(w:World):Ee Tryz.prog 128 #[.int .i64 d] w fun v w'=>v = .int .i64 (AI.opposite d)∧B9 w w':=by
 refine Ao [] [] Tryz.func128 rfl rfl rfl (St.start w []) ?_
 refine Gs (Ga rfl (Gn (.t1 0) (Gs (Gm rfl (Gt (Ki rfl rfl) (Gt (Kh rfl rfl) ?_))))))
 refine Gt (Ay rfl rfl (IntWalk.i64_in _ (by omega))) ?_
 refine Gt (UM rfl rfl (by omega)) ?_
 refine Ga rfl (Gn (.t1 2) (Ae ?_))
 refine AZ rfl (.tmp rfl .n) ?_
 intro w1 hS;refine⟨?_,hS.Al⟩;rfl
theorem Qy (b:Nat)(T:AF)(g:Hd)(d:Int)(hg:g.len=T.out.length)(hF:T.Fit)(hd:0≤d∧d < 6)(hn:T.out.length≤80000):Fx Tryz.prog 99 #[.pointer (some ⟨b,0,none⟩), .int .i64 d] [Af.box b 163 (Ag.enc ⟨T.w,T.b,g⟩),Af.own g 56 16 (T.out.flatMap Ing.Event.enc)] (fun w=>(GV 0 AI.DT w∧0 ∉ Cp [Af.box b 163 (Ag.enc ⟨T.w,T.b,g⟩),Af.own g 56 16 (T.out.flatMap Ing.Event.enc)])) (fun v B=>∃ g':Hd,v = .tuple #[]∧g'.len=(T.walk d).out.length∧B = [Af.box b 163 (Ag.enc ⟨(T.walk d).w,(T.walk d).b,g'⟩),Af.own g' 56 16 ((T.walk d).out.flatMap Ing.Event.enc)]):=by
 intro w hS0 hH
 obtain⟨gl0,gm0⟩:=hH
 have hb:=hF.b
 have hr:=hF.room
 have hx:=hF.exit hd.1 hd.2
 refine Ao _ _ Tryz.func99 rfl rfl rfl (hS0) ?_
 refine Au ?_
 refine BN (N:=19) [0,0,0,4,12,28,2,66,194,510,1022,2046,1,4097,12289,32767,65535,0,262143] mix (by kernel_rfl) rfl ?_
 refine Pf 0 rfl (AD rfl) (Pf 1 rfl (AD rfl) (Pf 2 rfl (AD rfl) (Pf 3 rfl (Ba rfl) (Pf 4 rfl (Aj CW rfl) (Pf 5 rfl (AG rfl A5 .m0 Ag.l1 rfl rfl) (Pf 6 rfl (Ba rfl) (Pf 7 rfl (Aj BD rfl) ?_)))))))
 refine Pf 8 rfl (Aj Br rfl) ?_
 refine Pf 9 rfl (AV DB rfl rfl (by first | omega | exact hb.1 | exact hb.2 | (dsimp only;omega)) (by first | omega | exact hb.1 | exact hb.2 | (dsimp only;omega))) ?_
 refine Pf 10 rfl (Aj C9 rfl) ?_
 refine Pf 11 rfl (AG rfl A5 .m0 (((Ag.l0.comp AI.l2).comp (AQ.ar (n:=6) An.fl (by first | omega | exact hb | (dsimp only;omega)))).comp An.l3) rfl rfl) ?_
 refine Pf 12 rfl (Ba rfl) (Pf 13 rfl (Aj BD rfl) (Pf 14 rfl (Aj HE rfl) ?_))
 refine Pf 15 rfl (AV OQ rfl rfl (by first | omega | exact hb.1 | exact hb.2 | (dsimp only;omega)) (by first | omega | exact hb.1 | exact hb.2 | (dsimp only;omega))) ?_
 refine Pf 16 rfl (AU rfl PO .m0 ((Ag.l0.comp AI.l0).comp (AQ.ar (n:=6) Room.fl (by first | omega | exact hb | (dsimp only;omega)))) rfl) ?_
 refine Ab 17 rfl (by kernel_rfl) ?_
 refine A6 rfl OX rfl (fun b1=>?_)
 refine BH rfl ⟨?_,?_⟩
 · exact(Po rfl (AU rfl PO .m1 ((Ag.l0.comp AI.l0).comp (AQ.ar (n:=6) Room.fl (by first | omega | exact hb | (dsimp only;omega)))) rfl) rfl rfl (Po rfl (AV OQ rfl rfl (by first | omega | exact hb.1 | exact hb.2 | (dsimp only;omega)) (by first | omega | exact hb.1 | exact hb.2 | (dsimp only;omega))) rfl rfl (Po rfl (Aj HE rfl) rfl rfl (Po rfl (Aj BD rfl) rfl rfl (Po rfl (Ba rfl) rfl rfl (Po rfl (AG rfl A5 .m1 (((Ag.l0.comp AI.l2).comp (AQ.ar (n:=6) An.fl (by first | omega | exact hb | (dsimp only;omega)))).comp An.l3) rfl rfl) rfl rfl (Po rfl (Aj C9 rfl) rfl rfl (Po rfl (AV DB rfl rfl (by first | omega | exact hb.1 | exact hb.2 | (dsimp only;omega)) (by first | omega | exact hb.1 | exact hb.2 | (dsimp only;omega))) rfl rfl (Po rfl (Aj Br rfl) rfl rfl (Po rfl (Aj BD rfl) rfl rfl (Po rfl (Ba rfl) rfl rfl (Po rfl (AG rfl A5 .m1 Ag.l1 rfl rfl) rfl rfl (Po rfl (Aj CW rfl) rfl rfl (Po rfl (Ba rfl) rfl rfl (Po rfl (AD rfl) rfl rfl (Po rfl (AD rfl) rfl rfl (Po rfl (AD rfl) rfl rfl Ac)))))))))))))))))
 refine Ab 18 rfl (by kernel_rfl) ?_
 refine AO (AJ (AQ.id Room.fl.len Room.fl.one) rfl rfl rfl Q3 rfl .h) ?_
 refine A7 rfl ⟨?_,?_⟩
 · exact(Pk (Pk (Pk (Pk (Pk (Pk (Pk (Pk (Pk (Pk (Pk (Pk (Pk (Pk (Pk (Pk (Pk Ac)))))))))))))))))
 refine Az (by kernel_rfl) ?_
 refine AB (.t3 0 1 4) ?_
 refine AA (Ak (Gs (Gm rfl (Gt (Aj Mm rfl) ?_))))
 refine Gt (AV Sr rfl rfl (by first | omega | exact hb.1 | exact hb.2 | (dsimp only;omega)) (by first | omega | exact hb.1 | exact hb.2 | (dsimp only;omega))) ?_
 refine Gt (AG rfl A5 .m0 (Room.l2.comp (AQ.ar (n:=6) B5 (by first | omega | exact hb | (dsimp only;omega)))) rfl rfl) ?_
 refine Gt (Ai rfl rfl) (Ga rfl (Gn (.t4 0 1 4 58) ?_))
 refine Gc (fun c1=>?_) (fun c1=>?_)
 ·
  have c1p:=kz c1
  refine AK (Gm rfl ?_)
  refine Ah rfl EH (.c rfl (.c rfl .n)) (.c (.t .h) (.c (.t .h) .n)) (Bi _ _ _ _ hg hb (by omega)) (fun v1 B hv=>?_)
  obtain⟨y2,rfl,y3,rfl⟩:=hv
  refine AT (AB (.nil _) ?_)
  refine AW ?_
  refine Bo rfl .n ?_
  intro w1 hS
  have hS:=(hS.perm (Ax.perm (.c .h (.c .h .n)))).A3
  have hq:T.walk d=_:=(BJ c1)
  refine⟨_,⟨?gq1,rfl,?hl1,?hB1⟩,hS⟩
  case hB1=>rw [hq];(try rfl)
  case hl1=>rw [hq];assumption
 have c1p:=kz c1
 refine Gs (Gm rfl (Gt (Aj Ma rfl) ?_))
 refine Gt (AV WD rfl rfl (by first | omega | exact hb.1 | exact hb.2 | (dsimp only;omega)) (by first | omega | exact hb.1 | exact hb.2 | (dsimp only;omega))) ?_
 refine Gt (AG rfl DM .m0 (Room.l3.comp (AQ.ar (n:=6) HX (by first | omega | exact hb | (dsimp only;omega)))) rfl rfl) ?_
 refine Ga rfl (Gn (.t4 0 1 4 66) ?_)
 refine Gc (fun c2=>?_) (fun c2=>?_)
 ·
  have c2p:=kz c2
  refine AK (Gm rfl ?_)
  refine Ah rfl EH (.c rfl (.c rfl .n)) (.c (.t .h) (.c (.t .h) .n)) (Bi _ _ _ _ hg hb (by omega)) (fun v4 B hv=>?_)
  obtain⟨y5,rfl,y6,rfl⟩:=hv
  refine AT (AB (.nil _) ?_)
  refine AW ?_
  refine Bo rfl .n ?_
  intro w1 hS
  have hS:=(hS.perm (Ax.perm (.c .h (.c .h .n)))).A3
  have hq:T.walk d=_:=((AX c1).trans (BJ c2))
  refine⟨_,⟨?gq2,rfl,?hl2,?hB2⟩,hS⟩
  case hB2=>rw [hq];(try rfl)
  case hl2=>rw [hq];assumption
 have c2p:=kz c2
 have gm:=AF.OY (hF.BS { AF.F8 1 with dir:=d }) (r:=(T.w.BV.at T.me.room).CV.at d - 1) (by have h0:¬ (T.w.BV.at (T.w.AN.at T.b).room).CV.at d=0:=c1p;show 0≤(T.w.BV.at (T.w.AN.at T.b).room).CV.at d - 1∧(T.w.BV.at (T.w.AN.at T.b).room).CV.at d - 1 < 6;omega)
 refine Gs (Gm rfl (Gm rfl (Gt (BL N3 Iv rfl (.cons Ing.Event.l0 rfl rfl rfl (.cons Ing.Event.l3 rfl rfl rfl (.cons Ing.Event.l4 rfl rfl rfl .nil)))) ?_)))
 refine Ah rfl Nq (.c rfl (.c rfl .n)) (.c (.t .h) (.c (.t .h) .n)) (CU _ T _ { AF.F8 1 with dir:=d } hg hb (show(-1:Int) < 6 by decide) (by omega)) (fun v7 B hv=>?_)
 obtain⟨y8,rfl,y9,rfl⟩:=hv
 refine Gn (.t3 0 1 4) (Au ?_)
 refine BN (N:=16) [0,0,2,6,14,0,0,96,224,480,1,1025,3073,8191,16383,32767] mix (by kernel_rfl) rfl ?_
 refine Pf 0 rfl (AD rfl) (Pf 1 rfl (AD rfl) (Pf 2 rfl (Ba rfl) (Pf 3 rfl (Aj CW rfl) (Pf 4 rfl (AG rfl A5 .m0 Ag.l1 rfl rfl) (Pf 5 rfl (AD rfl) (Pf 6 rfl (Aj Mm rfl) ?_))))))
 refine Pf 7 rfl (AV Sr rfl rfl (by first | omega | exact hb.1 | exact hb.2 | (dsimp only;omega)) (by first | omega | exact hb.1 | exact hb.2 | (dsimp only;omega))) ?_
 refine Pf 8 rfl (AG rfl A5 .m2 (Room.l2.comp (AQ.ar (n:=6) B5 (by first | omega | exact hb | (dsimp only;omega)))) rfl rfl) ?_
 refine Pf 9 rfl (Fi rfl rfl (IntWalk.i64_in _ (by first | omega | exact hb.1 | exact hb.2 | (dsimp only;omega)))) ?_
 refine Pf 10 rfl (Ba rfl) (Pf 11 rfl (Aj BD rfl) (Pf 12 rfl (Aj Br rfl) ?_))
 refine Pf 13 rfl (AV DB rfl rfl (by first | omega | exact hb.1 | exact hb.2 | (dsimp only;omega)) (by first | omega | exact hb.1 | exact hb.2 | (dsimp only;omega))) ?_
 refine Pf 14 rfl (Aj C9 rfl) ?_
 refine Ab 15 rfl (by kernel_rfl) ?_
 refine AO (AJ (((Ag.l0.comp AI.l2).comp (AQ.ar (n:=6) An.fl (by first | omega | exact hb | (dsimp only;omega)))).comp An.l3) rfl rfl rfl DJ rfl .h) ?_
 refine A7 rfl ⟨?_,?_⟩
 · exact(Pk (Pk (Pk (Pk (Pk (Pk (Pk (Pk (Pk (Pk (Pk (Pk (Pk (Pk (Pk Ac)))))))))))))))
 refine Az (by kernel_rfl) ?_
 refine AB (.t2 0 1) ?_
 refine AA (Au ?_)
 refine BN (N:=11) [0,0,2,6,14,1,33,97,255,511,1023] mix (by kernel_rfl) rfl ?_
 refine Pf 0 rfl (AD rfl) (Pf 1 rfl (AD rfl) (Pf 2 rfl (Ba rfl) (Pf 3 rfl (Aj CW rfl) (Pf 4 rfl (AG rfl A5 .m0 Ag.l1 rfl rfl) (Pf 5 rfl (Ba rfl) (Pf 6 rfl (Aj BD rfl) (Pf 7 rfl (Aj Br rfl) ?_)))))))
 refine Pf 8 rfl (AV DB rfl rfl (by first | omega | exact hb.1 | exact hb.2 | (dsimp only;omega)) (by first | omega | exact hb.1 | exact hb.2 | (dsimp only;omega))) ?_
 refine Pf 9 rfl (Aj GS rfl) ?_
 refine Ab 10 rfl (by kernel_rfl) ?_
 refine AO (AJ (((Ag.l0.comp AI.l2).comp (AQ.ar (n:=6) An.fl (by first | omega | exact hb | (dsimp only;omega)))).comp An.l5) rfl rfl rfl DJ rfl .h) ?_
 refine A7 rfl ⟨?_,?_⟩
 · exact(Pk (Pk (Pk (Pk (Pk (Pk (Pk (Pk (Pk (Pk Ac))))))))))
 refine Az (by kernel_rfl) ?_
 refine AB (.t2 0 1) ?_
 refine AA (Au ?_)
 refine GR (fun _=> .h) (congrArg (fun q=>Ag.enc ⟨q,_,_⟩) (AF.Xr (T.BS { AF.F8 1 with dir:=d }) hb _)) ?_
 refine AK (Gm rfl (Gm rfl ?_))
 refine BE rfl Zv (.c rfl .n) (fun w hS=>Hm _ w) ?_
 refine Gt (BL N3 Iv rfl (.cons Ing.Event.l0 rfl rfl rfl (.cons Ing.Event.l3 rfl rfl rfl (.cons Ing.Event.l4 rfl rfl rfl .nil)))) ?_
 refine Ah rfl Nq (.c rfl (.c rfl .n)) (.c .h (.c .h .n)) (CU _ (AF.GN (T.BS { AF.F8 1 with dir:=d }) ((T.w.BV.at T.me.room).CV.at d - 1)) _ { AF.F8 2 with dir:=AI.opposite d } (by assumption) hb (show(-1:Int) < 6 by decide) (show(AF.out (T.BS { AF.F8 1 with dir:=d })).length≤100000 by simp only [AF.Cf];omega)) (fun v10 B hv=>?_)
 obtain⟨y11,rfl,y12,rfl⟩:=hv
 refine Gn (.t1 0) (AK (Gm rfl ?_))
 refine BB rfl VB (.c rfl .n) (.c .h (.c .h .n)) (HL _ (AF.BS (AF.GN (T.BS { AF.F8 1 with dir:=d }) ((T.w.BV.at T.me.room).CV.at d - 1)) { AF.F8 2 with dir:=AI.opposite d }) _ (by assumption) hb gm.fit.br (show _≤90000 by simp only [AF.Cf];show(AF.out (T.BS { AF.F8 1 with dir:=d })).length+1≤90000;simp only [AF.Cf];omega)) (fun w hS=>gl0.pull gm0 hS (.c .h (.c .h .n))) (fun v13 B hv=>?_)
 obtain⟨y14,rfl,y15,rfl⟩:=hv
 refine AT (AB (.nil _) ?_)
 refine AW ?_
 refine Bo rfl .n ?_
 intro w1 hS
 have hS:=(hS.perm (Ax.perm (.c .h (.c .h .n)))).A3
 have hq:T.walk d=_:=((AX c1).trans (AX c2))
 refine⟨_,⟨?gq3,rfl,?hl3,?hB3⟩,hS⟩
 case hB3=>rw [hq];(try rfl)
 case hl3=>rw [hq];assumption
theorem II (b:Nat)(T:AF)(g:Hd)(hF:T.Fit):Jp Tryz.prog 136 #[.pointer (some ⟨b,0,none⟩)] [Af.box b 163 (Ag.enc ⟨T.w,T.b,g⟩)] (fun v B=>∃ f:Hd,v=f.val∧f.len=(T.own).length∧B = [Af.box b 163 (Ag.enc ⟨T.w,T.b,g⟩),Af.own f 3 1 ((T.own).flatMap A0)]):=by
 intro w hS0
 have hb:=hF.b
 have hr:=hF.room
 refine Ao _ _ Tryz.func136 rfl rfl rfl (hS0) ?_
 refine Gs (Ga rfl (Gn (.t1 0) (Au ?_)))
 refine BN (N:=10) [0,1,3,7,0,16,48,112,255,511] mix (by kernel_rfl) rfl ?_
 refine Pf 0 rfl (AD rfl) (Pf 1 rfl (Ba rfl) (Pf 2 rfl (Aj BD rfl) (Pf 3 rfl (AU rfl Be .m0 Ag.l0 rfl) (Pf 4 rfl (AD rfl) (Pf 5 rfl (Ba rfl) (Pf 6 rfl (Aj CW rfl) (Pf 7 rfl (AG rfl A5 .m0 Ag.l1 rfl rfl) ?_)))))))
 refine Ab 8 rfl (by kernel_rfl) ?_
 refine Ah rfl TB (.c rfl (.c rfl (.c rfl .n))) .n (FV _ _ _) (fun v1 B hv=>?_)
 obtain⟨y2,rfl,y3,rfl⟩:=hv
 refine BH rfl ⟨?_,?_⟩
 · exact(Pk (Pk (Pk (Pk (Pk (Pk (Pk (Pk Ac))))))))
 refine Pf 9 rfl (A1 rfl) ?_
 refine Az (by kernel_rfl) ?_
 refine AB (.t1 2) ?_
 refine AA (Ae ?_)
 refine AZ rfl (.tmp rfl .n) ?_
 intro w1 hS
 have hS:=(hS.perm (Ax.perm (.c (.t .h) (.c .h .n)))).A3
 exact⟨_,⟨_,rfl,by assumption,rfl⟩,hS⟩
theorem MM (b:Nat)(T:AF)(g:Hd)(hF:T.Fit):Jp Tryz.prog 125 #[.pointer (some ⟨b,0,none⟩)] [Af.box b 163 (Ag.enc ⟨T.w,T.b,g⟩)] (fun v B=>∃ F:AI,F=T.FH.w∧v = .tuple #[]∧B = [Af.box b 163 (Ag.enc ⟨F,T.b,g⟩)]):=by
 intro w hS0
 have hb:=hF.b
 have hr:=hF.room
 have ho9:=T.KW
 refine Ao _ _ Tryz.func125 rfl rfl rfl (hS0) ?_
 refine CH (Gm rfl ?_)
 refine Ah rfl Uf (.c rfl .n) (.c .h .n) (II _ _ _ (by first | assumption | omega)) (fun v1 B hv=>?_)
 obtain⟨y2,rfl,y3,rfl⟩:=hv
 refine Gt (Av rfl Tryz.underlying169 rfl) (Gm rfl (Gn (.t4 0 7 8 9) (Ak ?_)))
 refine Bt (.t4 9 0 7 8) ?_
 refine Ho (fun(k:Int) (X:AF)=>0≤k∧T.Cd T.own=X.Cd (T.own.drop k.toNat)∧X.b=T.b∧k≤(T.own.length:Int)) (fun(k:Int) (X:AF)=>((T.own.length:Int) - k).toNat) (fun(k:Int) (X:AF)=> [(9, .int .i64 k)]) (fun(k:Int) (X:AF)=> [Af.box b 163 (Ag.enc ⟨X.w,X.b,g⟩)]) (0) (_) ?_ rfl rfl (fun k X hI1=>?_)
 · exact⟨by omega,rfl,rfl,by omega⟩
 obtain⟨hI11,hI12,hI13,hI14⟩:=hI1
 refine Gs (Gt (BC rfl rfl) (AT (AA (Au ?_))))
 refine Gc (fun c1=>?_) (fun c1=>?_)
 ·
  have c1p:=kz c1
  have hx:=AF.MC (Bj.E5 (xs:=T.own) (i:=k.toNat) (by omega))
  refine Aa ?_
  refine AB (.t4 0 7 8 9) ?_
  refine AA (Au (Ak (Gs ?_)))
  refine Gt (Bs Gr (by decide) (Kn.own .m1) rfl rfl (by omega) (by omega)) ?_
  refine Gt (DP rfl A5 (Kn.own .m1) (by omega)) ?_
  refine Ga rfl (Gn (.t5 0 3 7 8 9) (Gs (Gm rfl (Gm rfl (Gt (Ba rfl) (Gt (Aj BD rfl) (Gt (Aj Cz rfl) ?_)))))))
  refine Gt (AV Gd rfl rfl (by first | omega | (rw [hI13];first | exact hb.1 | exact hb.2) | (dsimp only;omega)) (by first | omega | (rw [hI13];first | exact hb.1 | exact hb.2) | (dsimp only;omega))) ?_
  refine Ga rfl (Gn (.t5 0 4 7 8 9) (CH (Gm rfl (Gt (Ba rfl) (Gt (Aj HC rfl) ?_)))))
  refine Gt (AG rfl A5 .m0 (((Ag.l0.comp AI.l1).comp (AQ.arr (n:=9) Ap.fl (by first | omega | (rw [hI13];first | exact hb.1 | exact hb.2) | (dsimp only;omega)) (by first | omega | (rw [hI13];first | exact hb.1 | exact hb.2) | (dsimp only;omega)))).comp Ap.l1) rfl rfl) ?_
  refine Gt (Ai rfl rfl) (Gn (.t6 0 4 7 8 9 23) ?_)
  refine Gc (fun c2=>?_) (fun c2=>?_)
  ·
   have c2p:=kz c2
   refine AK (Gm rfl (Gt (Ba rfl) (Gt (Aj GX rfl) ?_)))
   refine AO (AJ (((Ag.l0.comp AI.l1).comp (AQ.arr (n:=9) Ap.fl (by first | omega | (rw [hI13];first | exact hb.1 | exact hb.2) | (dsimp only;omega)) (by first | omega | (rw [hI13];first | exact hb.1 | exact hb.2) | (dsimp only;omega)))).comp Ap.l4) rfl rfl rfl Ks rfl .h) ?_
   refine Gn (.t5 0 4 7 8 9) ?_
   refine BN (N:=19) [0,0,0,0,8,24,56,4,132,388,1020,2044,4092,8189,16381,32765,65535,131071,262143] mix (by kernel_rfl) rfl ?_
   refine Pf 0 rfl (AD rfl) (Pf 1 rfl (AD rfl) (Pf 2 rfl (AD rfl) (Pf 3 rfl (AD rfl) (Pf 4 rfl (Ba rfl) (Pf 5 rfl (Aj CW rfl) (Pf 6 rfl (AG rfl A5 .m0 Ag.l1 rfl rfl) (Pf 7 rfl (Ba rfl) ?_)))))))
   refine Pf 8 rfl (Aj BD rfl) (Pf 9 rfl (Aj Br rfl) ?_)
   refine Pf 10 rfl (AV DB rfl rfl (by first | omega | (rw [hI13];first | exact hb.1 | exact hb.2) | (dsimp only;omega)) (by first | omega | (rw [hI13];first | exact hb.1 | exact hb.2) | (dsimp only;omega))) ?_
   refine Pf 11 rfl (Aj C9 rfl) ?_
   refine Pf 12 rfl (AG rfl A5 .m0 (((Ag.l0.comp AI.l2).comp (AQ.arr (n:=6) An.fl (by first | omega | (rw [hI13];first | exact hb.1 | exact hb.2) | (dsimp only;omega)) (by first | omega | (rw [hI13];first | exact hb.1 | exact hb.2) | (dsimp only;omega)))).comp An.l3) rfl rfl) ?_
   refine Pf 13 rfl (Ba rfl) (Pf 14 rfl (Aj Fh rfl) ?_)
   refine Ab 15 rfl (by kernel_rfl) ?_
   refine AO (AJ (((Ag.l0.comp AI.l1).comp (AQ.arr (n:=9) Ap.fl (by first | omega | (rw [hI13];first | exact hb.1 | exact hb.2) | (dsimp only;omega)) (by first | omega | (rw [hI13];first | exact hb.1 | exact hb.2) | (dsimp only;omega)))).comp Ap.l2) rfl rfl rfl DJ rfl .h) ?_
   refine A7 rfl ⟨?_,?_⟩
   · exact(Pk (Pk (Pk (Pk (Pk (Pk (Pk (Pk (Pk (Pk (Pk (Pk (Pk (Po rfl (AD rfl) rfl rfl (Pk Ac)))))))))))))))
   refine Pf 16 rfl (Ba rfl) (Pf 17 rfl (Aj DN rfl) ?_)
   refine Ab 18 rfl (by kernel_rfl) ?_
   refine AO (AJ (((Ag.l0.comp AI.l1).comp (AQ.arr (n:=9) Ap.fl (by first | omega | (rw [hI13];first | exact hb.1 | exact hb.2) | (dsimp only;omega)) (by first | omega | (rw [hI13];first | exact hb.1 | exact hb.2) | (dsimp only;omega)))).comp Ap.l3) rfl rfl rfl DJ rfl .h) ?_
   refine A7 rfl ⟨?_,?_⟩
   · exact(Pk (Pk (Pk (Pk (Pk (Pk (Pk (Pk (Pk (Pk (Pk (Pk (Pk (Pk (Pk (Pk (Pk Ac)))))))))))))))))
   refine Az (by kernel_rfl) ?_
   refine AB (.t4 0 7 8 9) ?_
   refine AW (AA ?_)
   refine GR (fun _=> .h) (congrArg (fun q=>Ag.enc ⟨q,_,_⟩) (AF.Vx X hx.1 hx.2 c2)) ?_
   refine AK ?_
   refine Gt (Ay rfl rfl (IntWalk.i64_in _ (by first | omega | (rw [hI13];first | exact hb.1 | exact hb.2) | (dsimp only;omega)))) ?_
   refine Gm rfl ?_
   refine AT (AB (.t4 0 7 8 9) ?_)
   refine Dn (k+1) _ ?_ ?_ (.t4 9 0 7 8) (.refl _)
   · exact⟨by omega,by rw [hI12,AF.MQ hI11 (by omega)],hI13,by omega⟩
   · omega
  have c2p:=kz c2
  refine Aa ?_
  refine AB (.t5 0 4 7 8 9) ?_
  refine AA ?_
  refine BN (N:=19) [0,0,0,0,8,24,56,4,132,388,1020,2044,4092,8189,16381,32765,65535,131071,262143] mix (by kernel_rfl) rfl ?_
  refine Pf 0 rfl (AD rfl) (Pf 1 rfl (AD rfl) (Pf 2 rfl (AD rfl) (Pf 3 rfl (AD rfl) (Pf 4 rfl (Ba rfl) (Pf 5 rfl (Aj CW rfl) (Pf 6 rfl (AG rfl A5 .m0 Ag.l1 rfl rfl) (Pf 7 rfl (Ba rfl) ?_)))))))
  refine Pf 8 rfl (Aj BD rfl) (Pf 9 rfl (Aj Br rfl) ?_)
  refine Pf 10 rfl (AV DB rfl rfl (by first | omega | (rw [hI13];first | exact hb.1 | exact hb.2) | (dsimp only;omega)) (by first | omega | (rw [hI13];first | exact hb.1 | exact hb.2) | (dsimp only;omega))) ?_
  refine Pf 11 rfl (Aj C9 rfl) ?_
  refine Pf 12 rfl (AG rfl A5 .m0 (((Ag.l0.comp AI.l2).comp (AQ.arr (n:=6) An.fl (by first | omega | (rw [hI13];first | exact hb.1 | exact hb.2) | (dsimp only;omega)) (by first | omega | (rw [hI13];first | exact hb.1 | exact hb.2) | (dsimp only;omega)))).comp An.l3) rfl rfl) ?_
  refine Pf 13 rfl (Ba rfl) (Pf 14 rfl (Aj Fh rfl) ?_)
  refine Ab 15 rfl (by kernel_rfl) ?_
  refine AO (AJ (((Ag.l0.comp AI.l1).comp (AQ.arr (n:=9) Ap.fl (by first | omega | (rw [hI13];first | exact hb.1 | exact hb.2) | (dsimp only;omega)) (by first | omega | (rw [hI13];first | exact hb.1 | exact hb.2) | (dsimp only;omega)))).comp Ap.l2) rfl rfl rfl DJ rfl .h) ?_
  refine A7 rfl ⟨?_,?_⟩
  · exact(Pk (Pk (Pk (Pk (Pk (Pk (Pk (Pk (Pk (Pk (Pk (Pk (Pk (Po rfl (AD rfl) rfl rfl (Pk Ac)))))))))))))))
  refine Pf 16 rfl (Ba rfl) (Pf 17 rfl (Aj DN rfl) ?_)
  refine Ab 18 rfl (by kernel_rfl) ?_
  refine AO (AJ (((Ag.l0.comp AI.l1).comp (AQ.arr (n:=9) Ap.fl (by first | omega | (rw [hI13];first | exact hb.1 | exact hb.2) | (dsimp only;omega)) (by first | omega | (rw [hI13];first | exact hb.1 | exact hb.2) | (dsimp only;omega)))).comp Ap.l3) rfl rfl rfl DJ rfl .h) ?_
  refine A7 rfl ⟨?_,?_⟩
  · exact(Pk (Pk (Pk (Pk (Pk (Pk (Pk (Pk (Pk (Pk (Pk (Pk (Pk (Pk (Pk (Pk (Pk Ac)))))))))))))))))
  refine Az (by kernel_rfl) ?_
  refine AB (.t4 0 7 8 9) ?_
  refine AW (AA ?_)
  refine GR (fun _=> .h) (congrArg (fun q=>Ag.enc ⟨q,_,_⟩) (AF.WX X hx.1 hx.2 c2)) ?_
  refine AK ?_
  refine Gt (Ay rfl rfl (IntWalk.i64_in _ (by first | omega | (rw [hI13];first | exact hb.1 | exact hb.2) | (dsimp only;omega)))) ?_
  refine Gm rfl ?_
  refine AT (AB (.t4 0 7 8 9) ?_)
  refine Dn (k+1) _ ?_ ?_ (.t4 9 0 7 8) (.refl _)
  · exact⟨by omega,by rw [hI12,AF.MQ hI11 (by omega)],hI13,by omega⟩
  · omega
 have c1p:=kz c1
 obtain rfl:k=(T.own.length:Int):=by omega
 rw [AF.J3] at hI12
 have hY:X=T.Cd T.own:=hI12.symm
 refine Bl (AY (AY (Am ?_)))
 refine AB (.t1 0) ?_
 refine AA (CH (Gm rfl (AT (AA (Ak ?_)))))
 refine Bt (.t2 45 0) ?_
 refine Ho (fun(k:Int) (Y:AF)=>0≤k∧k≤6∧Y=(T.Cd T.own).DW k.toNat∧Y.b=T.b) (fun(k:Int) (Y:AF)=>(6 - k).toNat) (fun(k:Int) (Y:AF)=> [(45, .int .i64 k)]) (fun(k:Int) (Y:AF)=> [Af.box b 163 (Ag.enc ⟨Y.w,Y.b,g⟩)]) (0) (_) ?_ rfl rfl (fun k Y hI2=>?_)
 · exact⟨by omega,by omega,hY,hI13⟩
 obtain⟨hI21,hI22,hI23,hI24⟩:=hI2
 refine Gs (Gt (BC rfl rfl) (AT (AA (Au ?_))))
 refine Gc (fun c3=>?_) (fun c3=>?_)
 ·
  have c3p:=kz c3
  refine Aa ?_
  refine AB (.t2 0 45) ?_
  refine AA (Au (Ak (Gs (Gm rfl (Ga rfl (Gn (.t3 0 5 45) (Au ?_)))))))
  refine BN (N:=14) [0,0,1,5,13,31,63,127,0,256,768,1792,3840,8191] mix (by kernel_rfl) rfl ?_
  refine Pf 0 rfl (AD rfl) (Pf 1 rfl (AD rfl) (Pf 2 rfl (Ba rfl) (Pf 3 rfl (Aj BD rfl) (Pf 4 rfl (Aj Br rfl) ?_))))
  refine Pf 5 rfl (AV DB rfl rfl (by first | omega | (rw [hI13];first | exact hb.1 | exact hb.2) | (dsimp only;omega)) (by first | omega | (rw [hI13];first | exact hb.1 | exact hb.2) | (dsimp only;omega))) ?_
  refine Pf 6 rfl (Aj GS rfl) ?_
  refine Pf 7 rfl (AG rfl A5 .m0 (((Ag.l0.comp AI.l2).comp (AQ.arr (n:=6) An.fl (by first | omega | (rw [hI13];first | exact hb.1 | exact hb.2) | (dsimp only;omega)) (by first | omega | (rw [hI13];first | exact hb.1 | exact hb.2) | (dsimp only;omega)))).comp An.l5) rfl rfl) ?_
  refine Pf 8 rfl (AD rfl) (Pf 9 rfl (Ba rfl) (Pf 10 rfl (Aj CW rfl) (Pf 11 rfl (AG rfl A5 .m0 Ag.l1 rfl rfl) ?_)))
  refine Pf 12 rfl (Ay rfl rfl (IntWalk.i64_in _ (by first | omega | (rw [hI13];first | exact hb.1 | exact hb.2) | (dsimp only;omega)))) ?_
  refine Pf 13 rfl (Ai rfl rfl) ?_
  refine Az (by kernel_rfl) ?_
  refine AB (.t4 0 5 45 61) ?_
  refine AA ?_
  refine Gc (fun c4=>?_) (fun c4=>?_)
  ·
   have c4p:=kz c4
   have hcb:decide ((Y.w.AN.at k).B2=(T.Cd T.own).b+1)=true:=by rw [(AF.Im T.own T).1,← hI24];exact c4
   refine AK (Gm rfl (Gm rfl (Gt (Ba rfl) (Gt (Aj BD rfl) (Gt (Aj Br rfl) ?_)))))
   refine Gt (AV DB rfl rfl (by first | omega | (rw [hI13];first | exact hb.1 | exact hb.2) | (dsimp only;omega)) (by first | omega | (rw [hI13];first | exact hb.1 | exact hb.2) | (dsimp only;omega))) ?_
   refine Gt (Aj GS rfl) ?_
   refine AO (AJ (((Ag.l0.comp AI.l2).comp (AQ.arr (n:=6) An.fl (by first | omega | (rw [hI13];first | exact hb.1 | exact hb.2) | (dsimp only;omega)) (by first | omega | (rw [hI13];first | exact hb.1 | exact hb.2) | (dsimp only;omega)))).comp An.l5) rfl rfl rfl DJ rfl .h) ?_
   refine AT (AB (.t2 0 45) ?_)
   refine AW (AA (AK ?_))
   refine Gt (Ay rfl rfl (IntWalk.i64_in _ (by first | omega | (rw [hI13];first | exact hb.1 | exact hb.2) | (dsimp only;omega)))) ?_
   refine Gm rfl ?_
   refine AT (AB (.t2 0 45) ?_)
   refine Dn (k+1) (Y.Cj k 0) ?_ ?_ (.t2 45 0) (.refl _)
   · exact⟨by omega,by omega,by rw [AF.Oz hI21,← hI23,BJ hcb],hI24⟩
   · omega
  have c4p:=kz c4
  have hcb:decide ((Y.w.AN.at k).B2=(T.Cd T.own).b+1)=false:=by rw [(AF.Im T.own T).1,← hI24];exact c4
  refine Aa ?_
  refine AB (.t2 0 45) ?_
  refine AW (AA (AK ?_))
  refine Gt (Ay rfl rfl (IntWalk.i64_in _ (by first | omega | (rw [hI13];first | exact hb.1 | exact hb.2) | (dsimp only;omega)))) ?_
  refine Gm rfl ?_
  refine AT (AB (.t2 0 45) ?_)
  refine Dn (k+1) (Y) ?_ ?_ (.t2 45 0) (.refl _)
  · exact⟨by omega,by omega,by rw [AF.Oz hI21,← hI23,AX hcb],hI24⟩
  · omega
 have c3p:=kz c3
 obtain rfl:k=6:=by omega
 refine Bl (AY (AY (Am ?_)))
 refine AB (.t1 0) ?_
 refine AA ?_
 refine BN (N:=11) [0,0,2,6,14,1,33,97,255,511,1023] mix (by kernel_rfl) rfl ?_
 refine Pf 0 rfl (AD rfl) (Pf 1 rfl (AD rfl) (Pf 2 rfl (Ba rfl) (Pf 3 rfl (Aj CW rfl) (Pf 4 rfl (AG rfl A5 .m0 Ag.l1 rfl rfl) (Pf 5 rfl (Ba rfl) (Pf 6 rfl (Aj BD rfl) (Pf 7 rfl (Aj Br rfl) ?_)))))))
 refine Pf 8 rfl (AV DB rfl rfl (by first | omega | (rw [hI13];first | exact hb.1 | exact hb.2) | (dsimp only;omega)) (by first | omega | (rw [hI13];first | exact hb.1 | exact hb.2) | (dsimp only;omega))) ?_
 refine Pf 9 rfl (Aj GS rfl) ?_
 refine Ab 10 rfl (by kernel_rfl) ?_
 refine AO (AJ (((Ag.l0.comp AI.l2).comp (AQ.arr (n:=6) An.fl (by first | omega | (rw [hI13];first | exact hb.1 | exact hb.2) | (dsimp only;omega)) (by first | omega | (rw [hI13];first | exact hb.1 | exact hb.2) | (dsimp only;omega)))).comp An.l5) rfl rfl rfl DJ rfl .h) ?_
 refine A7 rfl ⟨?_,?_⟩
 · exact(Pk (Pk (Pk (Pk (Pk (Pk (Pk (Pk (Pk (Pk Ac))))))))))
 refine Az (by kernel_rfl) ?_
 refine Bo rfl .n ?_
 intro w1 hS
 have hS:=(hS.perm (Ax.perm (.c .h .n))).A3
 have hq:T.FH=Y.Cj Y.b 0:=by rw [hI24,hI23];unfold AF.FH;rfl
 exact⟨_,⟨_,rfl,rfl,by rw [hq,← hI24];rfl⟩,hS⟩
theorem Re (b:Nat)(T:AF)(g:Hd)(hg:g.len=T.out.length)(hF:T.Fit)(hn:T.out.length≤90000):Jp Tryz.prog 103 #[.pointer (some ⟨b,0,none⟩)] [Af.box b 163 (Ag.enc ⟨T.w,T.b,g⟩),Af.own g 56 16 (T.out.flatMap Ing.Event.enc)] (fun v B=>∃ g':Hd,v = .tuple #[]∧g'.len=(T.G3).out.length∧B = [Af.box b 163 (Ag.enc ⟨(T.G3).w,(T.G3).b,g'⟩),Af.own g' 56 16 ((T.G3).out.flatMap Ing.Event.enc)]):=by
 intro w hS0
 have hb:=hF.b
 have hr:=hF.room
 refine Ao _ _ Tryz.func103 rfl rfl rfl (hS0) ?_
 refine Gs (Gm rfl ?_)
 refine Ah rfl VH (.c rfl (.c rfl .n)) (.c .h (.c .h .n)) (Gi _ T _ 18 hg hb (by omega)) (fun v1 B hv=>?_)
 obtain⟨y2,rfl,y3,rfl⟩:=hv
 refine Gn (.t1 0) (Gs (Gm rfl ?_))
 refine Ah rfl aF (.c rfl .n) (.c .h .n) (MM _ (T.kind 18) _ (hF.Em rfl rfl)) (fun v4 B hv=>?_)
 obtain⟨y5,y6,rfl,rfl⟩:=hv
 refine Gn (.t1 0) ?_
 refine BN (N:=11) [0,0,2,6,14,0,1,65,193,511,1023] mix (by kernel_rfl) rfl ?_
 refine Pf 0 rfl (AD rfl) (Pf 1 rfl (AD rfl) (Pf 2 rfl (Ba rfl) (Pf 3 rfl (Aj CW rfl) (Pf 4 rfl (AG rfl A5 .m0 Ag.l1 rfl rfl) (Pf 5 rfl (BL Yn L0 rfl .nil) (Pf 6 rfl (Ba rfl) (Pf 7 rfl (Aj BD rfl) ?_)))))))
 refine Pf 8 rfl (Aj Br rfl) ?_
 refine Pf 9 rfl (AV DB rfl rfl (by first | exact hb.1 | exact hb.2 | omega | (dsimp only;omega)) (by first | exact hb.1 | exact hb.2 | omega | (dsimp only;omega))) ?_
 refine Ab 10 rfl (by kernel_rfl) ?_
 refine AO (AJ ((Ag.l0.comp AI.l2).comp (AQ.arr (n:=6) An.fl (by first | exact hb.1 | exact hb.2 | omega | (dsimp only;omega)) (by first | exact hb.1 | exact hb.2 | omega | (dsimp only;omega)))) rfl rfl rfl Kr rfl .h) ?_
 refine A7 rfl ⟨?_,?_⟩
 · exact(Pk (Pk (Pk (Pk (Pk (Pk (Pk (Pk (Pk (Pk Ac))))))))))
 refine Az (by kernel_rfl) ?_
 refine Bo rfl .n ?_
 intro w1 hS
 have hS:=(hS.perm (Ax.perm (.c .h (.c .h .n)))).A3
 obtain⟨hf1,hf2,hf3⟩:=T.PW
 refine⟨_,⟨?gq,rfl,?hl,?hB⟩,hS⟩
 case hB=>rw [hf1,hf2,hf3,← y6]
 case hl=>rw [hf2];exact y3
theorem I8 (b:Nat)(T:AF)(g:Hd)(u:As)(hg:g.len=T.out.length)(hF:T.Fit)(hu:u.length≤5000000)(hn:T.out.length≤99000):Fx Tryz.prog 131 #[.pointer (some ⟨b,0,none⟩),BW u] [Af.box b 163 (Ag.enc ⟨T.w,T.b,g⟩),Af.own g 56 16 (T.out.flatMap Ing.Event.enc)] (fun w=>(HI 7 w∧7 ∉ Cp [Af.box b 163 (Ag.enc ⟨T.w,T.b,g⟩),Af.own g 56 16 (T.out.flatMap Ing.Event.enc)])∧(HI 8 w∧8 ∉ Cp [Af.box b 163 (Ag.enc ⟨T.w,T.b,g⟩),Af.own g 56 16 (T.out.flatMap Ing.Event.enc)])) (fun v B=>∃ g':Hd,v = .tuple #[.int .i64 (T.BA u).2.1, .bool (T.BA u).2.2]∧g'.len=((T.BA u).1).out.length∧B = [Af.box b 163 (Ag.enc ⟨((T.BA u).1).w,((T.BA u).1).b,g'⟩),Af.own g' 56 16 (((T.BA u).1).out.flatMap Ing.Event.enc)]):=by
 intro w hS0 hH
 obtain⟨⟨gl0,gm0⟩,⟨gl1,gm1⟩⟩:=hH
 have hb:=hF.b
 have hr:=hF.room
 refine Ao _ _ Tryz.func131 rfl rfl rfl (hS0) ?_
 refine Gs (Ga rfl (Ga rfl (Gn (.t2 0 1) (Gs (Gm rfl ?_)))))
 refine BE rfl Uv (.c rfl .n) (fun w hS=>FZ _ (by first | assumption | omega) w (gl0.stM gm0 hS) (gl1.stM gm1 hS)) ?_
 refine Gm rfl (Gt (AM rfl rfl) (Gt (AM rfl rfl) (Gt (AM rfl rfl) (Gt (AM rfl rfl) (Ga rfl (Ga rfl (Ga rfl ?_)))))))
 refine Ga rfl (Gn (.t5 0 6 7 8 9) (CH (Gm rfl (Gt (Ai rfl rfl) (Gm rfl (Bg 20 rfl rfl (fun q=>AD rfl) (Bg 20 rfl rfl (fun q=>BX (Bc rfl q)) ?_)))))))
 refine Gt (BM rfl rfl (fun h=>h)) (Gn (.t4 0 6 7 23) ?_)
 refine Gc (fun c1=>?_) (fun c1=>?_)
 ·
  have c1p:=kz c1
  have hnf:=Words.WC u (of_decide_eq_true (Bool.and_eq_true_iff.1 c1).1)
  refine Gs (Gm rfl (Gn (.t4 0 6 7 24) (Ak ?_)))
  refine Bt (.t4 6 24 0 7) ?_
  refine Ho (fun(k:Int) (n:Int)=>0≤k∧k≤6∧T.Il (Words.ER u).2.1 6 (Words.ER u).1=T.Il (Words.ER u).2.1 (6 - k).toNat n∧-k≤n∧n≤99) (fun(k:Int) (n:Int)=>(6 - k).toNat) (fun(k:Int) (n:Int)=> [(6, .int .i64 n),(24, .int .i64 k)]) (fun(k:Int) (n:Int)=> []) (0) (_) ?_ rfl rfl (fun k n hI1=>?_)
  · exact⟨by omega,by omega,rfl,by omega,by omega⟩
  obtain⟨hI11,hI12,hI13,hI14,hI15⟩:=hI1
  refine Gs (Gt (BC rfl rfl) (AT (AA (Au ?_))))
  refine Gc (fun c2=>?_) (fun c2=>?_)
  ·
   have c2p:=kz c2
   refine Aa ?_
   refine AB (.t4 0 6 7 24) ?_
   refine AA (Au (Ak (Gs (Gm rfl (Ga rfl (Gn (.t5 0 6 7 10 24) (Au ?_)))))))
   refine Au ?_
   refine BN (N:=31) [0,0,2,6,14,31,63,127,127,255,767,1791,4095,8191,16383,127,65535,131071,262143,524287,1048575,2097151,4194303,524287,8912895,25690111,59244543,524287,268435455,536870911,1073741823] mix (by kernel_rfl) rfl ?_
   refine Pf 0 rfl (AD rfl) (Pf 1 rfl (AD rfl) (Pf 2 rfl (Ba rfl) (Pf 3 rfl (Aj CW rfl) (Pf 4 rfl (AG rfl A5 .m0 Ag.l1 rfl rfl) (Pf 5 rfl (Ai rfl rfl) (Pf 6 rfl (AD rfl) (Hx 7 33 rfl rfl rfl (fun q=>AD rfl) ?_)))))))
   refine Hx 8 33 rfl rfl rfl (fun q=>AD rfl) (Hx 9 33 rfl rfl rfl (fun q=>Ba (cF rfl q)) (Hx 10 33 rfl rfl rfl (fun q=>Aj BD (cF rfl q)) (Hx 11 33 rfl rfl rfl (fun q=>Aj Br (cF rfl q)) ?_)))
   refine Bh 12 rfl rfl (by kernel_rfl) (HH (t:=33) rfl rfl (fun q=>by have q1:=q;(try simp at q1);exact I1 (AV DB (cF rfl q) (cF rfl q) (by first | omega | exact hb.1 | exact hb.2 | (dsimp only;omega)) (by first | omega | exact hb.1 | exact hb.2 | (dsimp only;omega))))) ?_
   refine Hx 13 33 rfl rfl rfl (fun q=>Aj LG (cF rfl q)) ?_
   refine Bh 14 rfl rfl (by kernel_rfl) (HH (t:=33) rfl rfl (fun q=>by have q1:=q;(try simp at q1);exact I1 (AG (cF rfl q) CK .m0 (((Ag.l0.comp AI.l2).comp (AQ.ar (n:=6) An.fl (by first | omega | exact hb | (dsimp only;omega)))).comp An.l0) rfl rfl))) ?_
   refine Hx 15 33 rfl rfl rfl (fun q=>AD rfl) (Hx 16 33 rfl rfl rfl (fun q=>Dp (cF rfl q) (cF rfl q)) ?_)
   refine Pf 17 rfl (BU rfl rfl (fun h=>by rw [h];rfl)) ?_
   refine Pf 18 rfl (AD rfl) (Hx 19 45 rfl rfl rfl (fun q=>AD rfl) (Hx 20 45 rfl rfl rfl (fun q=>Ba (cF rfl q)) (Hx 21 45 rfl rfl rfl (fun q=>Aj BD (cF rfl q)) (Hx 22 45 rfl rfl rfl (fun q=>AU (cF rfl q) Be .m0 Ag.l0 rfl) (Hx 23 45 rfl rfl rfl (fun q=>AD rfl) (Hx 24 45 rfl rfl rfl (fun q=>Ba (cF rfl q)) (Hx 25 45 rfl rfl rfl (fun q=>Aj CW (cF rfl q)) ?_)))))))
   refine Hx 26 45 rfl rfl rfl (fun q=>AG (cF rfl q) A5 .m0 Ag.l1 rfl rfl) (Hx 27 45 rfl rfl rfl (fun q=>AD rfl) ?_)
   refine Bh 28 rfl rfl (by kernel_rfl) (HH (t:=45) rfl rfl (fun q=>by have q1:=q;(try simp at q1);exact K3 (EB O5 (.c (cF rfl q) (.c (cF rfl q) (.c (cF rfl q) .n))) (fun w hS=>DS _ _ _ w)))) ?_
   refine Hx 29 45 rfl rfl rfl (fun q=>BX (cF rfl q)) ?_
   refine Pf 30 rfl (BU rfl rfl (fun h=>by rw [h];rfl)) ?_
   refine Az (by kernel_rfl) ?_
   refine AB (.t6 0 6 7 10 24 57) ?_
   refine AA ?_
   refine Gc (fun c3=>?_) (fun c3=>?_)
   ·
    have c3p:=kz c3
    refine Bl (AY (Am ?_))
    refine AB (.t4 0 6 7 24) ?_
    refine AA (AK ?_)
    refine Gt (Ay rfl rfl (IntWalk.i64_in _ (by first | omega | exact hb.1 | exact hb.2 | (dsimp only;omega)))) ?_
    refine Gm rfl ?_
    refine AT (AB (.t4 0 6 7 24) ?_)
    refine Dn (k+1) (n) ?_ ?_ (.t4 6 24 0 7) (.refl _)
    · exact⟨by omega,by omega,by rw [hI13,AF.LA hI11 (by omega),BJ c3],by omega,by omega⟩
    · omega
   have c3p:=kz c3
   refine Aa ?_
   refine AB (.t5 0 6 7 10 24) ?_
   refine AA (Gs (Gm rfl ?_))
   refine Gt (Fi rfl rfl (IntWalk.i64_in _ (by first | omega | exact hb.1 | exact hb.2 | (dsimp only;omega)))) ?_
   refine Ga rfl (Gn (.t5 0 6 7 10 24) (Gs (Gm rfl (Gt (Ai rfl rfl) (Gn (.t6 0 6 7 10 24 61) ?_)))))
   refine Gc (fun c4=>?_) (fun c4=>?_)
   ·
    have c4p:=kz c4
    refine Gs (Gm rfl (Ga rfl (Ga rfl (Gn (.t2 4 5) (Ae (AS (AE ?_)))))))
    refine AE (AS (AE ?_))
    refine AZ rfl (.tmp rfl (.tmp rfl .n)) ?_
    intro w1 hS
    have hS:=(hS.perm (Ax.perm (.c .h (.c .h .n)))).A3
    have hs:T.Il (Words.ER u).2.1 6 (Words.ER u).1=some k:=by rw [hI13,AF.LA hI11 (by omega),AX c3,BJ c4]
    have hq:T.BA u=(T,k,true):=(show T.BA u=_ from BJ c1).trans (by simp only [hs])
    refine⟨_,⟨?gq1,?hv1,?hl1,?hB1⟩,hS⟩
    case hB1=>rw [hq];(try rfl)
    case hv1=>rw [hq];(try rfl)
    case hl1=>rw [hq];assumption
   have c4p:=kz c4
   refine Aa ?_
   refine AB (.t4 0 6 7 24) ?_
   refine AW (AA (AK ?_))
   refine Gt (Ay rfl rfl (IntWalk.i64_in _ (by first | omega | exact hb.1 | exact hb.2 | (dsimp only;omega)))) ?_
   refine Gm rfl ?_
   refine AT (AB (.t4 0 6 7 24) ?_)
   refine Dn (k+1) (n - 1) ?_ ?_ (.t4 6 24 0 7) (.refl _)
   · exact⟨by omega,by omega,by rw [hI13,AF.LA hI11 (by omega),AX c3,AX c4],by omega,by omega⟩
   · omega
  have c2p:=kz c2
  obtain rfl:k=6:=by omega
  refine Bl (AY (AY (Am ?_)))
  refine AB (.t1 0) ?_
  refine AA (Gs (Gm rfl ?_))
  refine Ah rfl EH (.c rfl (.c rfl .n)) (.c .h (.c .h .n)) (Bi _ _ _ _ hg hb (by omega)) (fun v1 B hv=>?_)
  obtain⟨y2,rfl,y3,rfl⟩:=hv
  refine Gn (.nil _) (Gs (Ga rfl (Ga rfl (AT (AA (Ae ?_))))))
  refine AZ rfl (.tmp rfl (.tmp rfl .n)) ?_
  intro w1 hS
  have hS:=(hS.perm (Ax.perm (.c .h (.c .h .n)))).A3
  have hs:T.Il (Words.ER u).2.1 6 (Words.ER u).1=none:=by rw [hI13];rfl
  have hq:T.BA u=(T.tell AF.Oh,0,false):=(show T.BA u=_ from BJ c1).trans (by simp only [hs])
  refine⟨_,⟨?gq2,?hv2,?hl2,?hB2⟩,hS⟩
  case hB2=>rw [hq];(try rfl)
  case hv2=>rw [hq];(try rfl)
  case hl2=>rw [hq];assumption
 have c1p:=kz c1
 refine Aa ?_
 refine AB (.t1 0) ?_
 refine AA (Gs (Gm rfl ?_))
 refine Ah rfl EH (.c rfl (.c rfl .n)) (.c .h (.c .h .n)) (Bi _ _ _ _ hg hb (by omega)) (fun v4 B hv=>?_)
 obtain⟨y5,rfl,y6,rfl⟩:=hv
 refine Gn (.nil _) (Gs (Ga rfl (Ga rfl (AT (AA (Ae ?_))))))
 refine AZ rfl (.tmp rfl (.tmp rfl .n)) ?_
 intro w1 hS
 have hS:=(hS.perm (Ax.perm (.c .h (.c .h .n)))).A3
 have hq:T.BA u=(T.tell AF.Oh,0,false):=AX c1
 refine⟨_,⟨?gq3,?hv3,?hl3,?hB3⟩,hS⟩
 case hB3=>rw [hq];(try rfl)
 case hv3=>rw [hq];(try rfl)
 case hl3=>rw [hq];assumption
theorem Pl (b:Nat)(T:AF)(g:Hd)(o:Order)(hg:g.len=T.out.length)(hF:T.Fit)(hm:o.name.length≤5000000)(hn:T.out.length≤90000):Fx Tryz.prog 104 #[.pointer (some ⟨b,0,none⟩), .agg o.enc.toArray] [Af.box b 163 (Ag.enc ⟨T.w,T.b,g⟩),Af.own g 56 16 (T.out.flatMap Ing.Event.enc)] (fun w=>(HI 7 w∧7 ∉ Cp [Af.box b 163 (Ag.enc ⟨T.w,T.b,g⟩),Af.own g 56 16 (T.out.flatMap Ing.Event.enc)])∧(HI 8 w∧8 ∉ Cp [Af.box b 163 (Ag.enc ⟨T.w,T.b,g⟩),Af.own g 56 16 (T.out.flatMap Ing.Event.enc)])) (fun v B=>∃ g':Hd,v = .tuple #[]∧g'.len=(T.FC o).out.length∧B = [Af.box b 163 (Ag.enc ⟨(T.FC o).w,(T.FC o).b,g'⟩),Af.own g' 56 16 ((T.FC o).out.flatMap Ing.Event.enc)]):=by
 intro w hS0 hH
 obtain⟨⟨gl0,gm0⟩,⟨gl1,gm1⟩⟩:=hH
 have hb:=hF.b
 have hr:=hF.room
 have hsr:=T.L4 (if (!decide (o.nth=1) || o.Bn)=true then [] else o.name)
 have hsb:0≤(T.BA (if (!decide (o.nth=1) || o.Bn)=true then [] else o.name)).1.b∧(T.BA (if (!decide (o.nth=1) || o.Bn)=true then [] else o.name)).1.b < 6:=by rw [(T.JX _).2];exact hb
 refine Ao _ _ Tryz.func104 rfl rfl rfl (hS0) ?_
 refine Gs ?_
 refine B4 rfl rfl rfl (fun b1=>?_)
 refine Gn (.t2 0 3) (Gs (Gt (Aj GF rfl) (Gt (AG rfl CK .m0 Order.l3 rfl rfl) (Ga rfl (Gn (.t3 0 3 4) (CH (Gt (Aj Gk rfl) ?_)))))))
 refine Gt (AG rfl A5 .m0 Order.l1 rfl rfl) (Gt (Cb rfl rfl) (Gm rfl (Bf 12 rfl rfl (fun q=>Aj HR rfl) (Bf 12 rfl rfl (fun q=>AG (cF rfl q) DM .m0 Order.l2 rfl rfl) ?_))))
 refine Gt (BU rfl rfl (fun h=>by rw [h];rfl)) ?_
 refine Gn (.t3 0 4 15) ?_
 refine Q7 (BW) (s:=(if (!decide (o.nth=1) || o.Bn)=true then [] else o.name)) rfl rfl rfl rfl rfl ?_
 refine AB (.t2 0 4) ?_
 refine AA (Gs (Gm rfl (Gm rfl ?_)))
 refine BB rfl Z8 (.c rfl (.c rfl .n)) (.c (.t .h) (.c (.t .h) .n)) (I8 _ T _ _ hg hF (by split<;>(try simp)<;>omega) (by omega)) (fun w hS=>⟨gl0.pull gm0 hS (.c (.t .h) (.c (.t .h) .n)),gl1.pull gm1 hS (.c (.t .h) (.c (.t .h) .n))⟩) (fun v1 B hv=>?_)
 obtain⟨y2,rfl,y3,rfl⟩:=hv
 refine Gm rfl (Gt (AM rfl rfl) (Gt (AM rfl rfl) (Ga rfl (Ga rfl (Gn (.t3 0 5 6) (CH (Gm rfl ?_)))))))
 refine Gt (BX rfl) (Gn (.t3 0 5 23) ?_)
 refine Gc (fun c1=>?_) (fun c1=>?_)
 ·
  have c1p:=kz c1
  refine Ae (AE ?_)
  refine AZ rfl .n ?_
  intro w1 hS
  have hS:=(hS.perm (Ax.perm (.c .h (.c .h .n)))).A3
  have hq:T.FC o=_:=BJ c1
  refine⟨_,⟨?gq1,rfl,?hl1,?hB1⟩,hS⟩
  case hB1=>rw [hq];(try rfl)
  case hl1=>rw [hq];assumption
 have c1p:=kz c1
 refine Aa ?_
 refine AB (.t2 0 5) ?_
 refine AA (Au ?_)
 refine BN (N:=13) [0,0,2,6,14,0,32,1,129,385,1023,2047,4095] mix (by kernel_rfl) rfl ?_
 refine Pf 0 rfl (AD rfl) (Pf 1 rfl (AD rfl) (Pf 2 rfl (Ba rfl) (Pf 3 rfl (Aj CW rfl) (Pf 4 rfl (AG rfl A5 .m0 Ag.l1 rfl rfl) (Pf 5 rfl (AD rfl) ?_)))))
 refine Pf 6 rfl (Ay rfl rfl (IntWalk.i64_in _ (by first | omega | exact hsb.1 | exact hsb.2 | (dsimp only;omega)))) ?_
 refine Pf 7 rfl (Ba rfl) (Pf 8 rfl (Aj BD rfl) (Pf 9 rfl (Aj Br rfl) ?_))
 refine Pf 10 rfl (AV DB rfl rfl (by first | omega | exact hsb.1 | exact hsb.2 | (dsimp only;omega)) (by first | omega | exact hsb.1 | exact hsb.2 | (dsimp only;omega))) ?_
 refine Pf 11 rfl (Aj GS rfl) ?_
 refine Ab 12 rfl (by kernel_rfl) ?_
 refine AO (AJ (((Ag.l0.comp AI.l2).comp (AQ.ar (n:=6) An.fl (by first | omega | exact hsb | (dsimp only;omega)))).comp An.l5) rfl rfl rfl DJ rfl .h) ?_
 refine A7 rfl ⟨?_,?_⟩
 · exact(Pk (Pk (Pk (Pk (Pk (Pk (Pk (Pk (Pk (Pk (Pk (Pk Ac))))))))))))
 refine Az (by kernel_rfl) ?_
 refine AB (.t2 0 5) ?_
 refine AA (CH (Gm rfl (Gm rfl (Gt (Ba rfl) (Gt (Aj BD rfl) (Gt (Aj Br rfl) ?_))))))
 refine Gt (AV DB rfl rfl (by first | omega | exact hsb.1 | exact hsb.2 | (dsimp only;omega)) (by first | omega | exact hsb.1 | exact hsb.2 | (dsimp only;omega))) ?_
 refine Gt (Aj GS rfl) ?_
 refine Gt (AG rfl A5 .m0 (((Ag.l0.comp AI.l2).comp (AQ.ar (n:=6) An.fl (by first | omega | exact hsb | (dsimp only;omega)))).comp An.l5) rfl rfl) ?_
 refine Gt (Ai rfl rfl) (Gn (.t3 0 5 44) ?_)
 refine Gc (fun c2=>?_) (fun c2=>?_)
 ·
  have c2p:=kz c2
  refine BN (N:=13) [0,0,0,4,12,28,60,1,129,385,1023,2047,4095] mix (by kernel_rfl) rfl ?_
  refine Pf 0 rfl (AD rfl) (Pf 1 rfl (AD rfl) (Pf 2 rfl (AD rfl) (Pf 3 rfl (Ba rfl) (Pf 4 rfl (Aj CW rfl) (Pf 5 rfl (AG rfl A5 .m0 Ag.l1 rfl rfl) ?_)))))
  refine Pf 6 rfl (Ay rfl rfl (IntWalk.i64_in _ (by first | omega | exact hsb.1 | exact hsb.2 | (dsimp only;omega)))) ?_
  refine Pf 7 rfl (Ba rfl) (Pf 8 rfl (Aj BD rfl) (Pf 9 rfl (Aj Br rfl) ?_))
  refine Pf 10 rfl (AV DB rfl rfl (by first | omega | exact hsb.1 | exact hsb.2 | (dsimp only;omega)) (by first | omega | exact hsb.1 | exact hsb.2 | (dsimp only;omega))) ?_
  refine Pf 11 rfl (Aj GS rfl) ?_
  refine Ab 12 rfl (by kernel_rfl) ?_
  refine AO (AJ (((Ag.l0.comp AI.l2).comp (AQ.ar (n:=6) An.fl (by first | omega | exact hsb | (dsimp only;omega)))).comp An.l5) rfl rfl rfl DJ rfl .h) ?_
  refine A7 rfl ⟨?_,?_⟩
  · exact(Pk (Pk (Pk (Pk (Pk (Pk (Pk (Pk (Pk (Pk (Pk (Pk Ac))))))))))))
  refine Az (by kernel_rfl) ?_
  refine AB (.t1 0) ?_
  refine AA (AK (Gm rfl ?_))
  refine Ah rfl EH (.c rfl (.c rfl .n)) (.c .h (.c .h .n)) (Bi _ (AF.Cj (AF.Cj (T.BA (if (!decide (o.nth=1) || o.Bn)=true then [] else o.name)).1 (T.BA (if (!decide (o.nth=1) || o.Bn)=true then [] else o.name)).1.b ((T.BA (if (!decide (o.nth=1) || o.Bn)=true then [] else o.name)).2.1+1)) (T.BA (if (!decide (o.nth=1) || o.Bn)=true then [] else o.name)).2.1 ((T.BA (if (!decide (o.nth=1) || o.Bn)=true then [] else o.name)).1.b+1)) _ _ (by assumption) hsb (by show(T.BA (if (!decide (o.nth=1) || o.Bn)=true then [] else o.name)).1.out.length≤100000;have:=T.HT (if (!decide (o.nth=1) || o.Bn)=true then [] else o.name);omega)) (fun v4 B hv=>?_)
  obtain⟨y5,rfl,y6,rfl⟩:=hv
  refine AT ?_
  refine Bo rfl .n ?_
  intro w1 hS
  have hS:=(hS.perm (Ax.perm (.c .h (.c .h .n)))).A3
  have hq:T.FC o=_:=(show T.FC o=_ from AX c1).trans (congrArg (fun q=>AF.tell q AF.Q0) (BJ c2))
  refine⟨_,⟨?gq2,rfl,?hl2,?hB2⟩,hS⟩
  case hB2=>rw [hq];(try rfl)
  case hl2=>rw [hq];assumption
 have c2p:=kz c2
 refine Aa ?_
 refine AB (.t1 0) ?_
 refine AA (AK (Gm rfl ?_))
 refine Ah rfl EH (.c rfl (.c rfl .n)) (.c .h (.c .h .n)) (Bi _ (AF.Cj (T.BA (if (!decide (o.nth=1) || o.Bn)=true then [] else o.name)).1 (T.BA (if (!decide (o.nth=1) || o.Bn)=true then [] else o.name)).1.b ((T.BA (if (!decide (o.nth=1) || o.Bn)=true then [] else o.name)).2.1+1)) _ _ (by assumption) hsb (by show(T.BA (if (!decide (o.nth=1) || o.Bn)=true then [] else o.name)).1.out.length≤100000;have:=T.HT (if (!decide (o.nth=1) || o.Bn)=true then [] else o.name);omega)) (fun v7 B hv=>?_)
 obtain⟨y8,rfl,y9,rfl⟩:=hv
 refine AT ?_
 refine Bo rfl .n ?_
 intro w1 hS
 have hS:=(hS.perm (Ax.perm (.c .h (.c .h .n)))).A3
 have hq:T.FC o=_:=(show T.FC o=_ from AX c1).trans (congrArg (fun q=>AF.tell q AF.Q0) (AX c2))
 refine⟨_,⟨?gq3,rfl,?hl3,?hB3⟩,hS⟩
 case hB3=>rw [hq];(try rfl)
 case hl3=>rw [hq];assumption
theorem Jf (b:Nat)(T:AF)(g:Hd)(hF:T.Fit):Jp Tryz.prog 132 #[.pointer (some ⟨b,0,none⟩)] [Af.box b 163 (Ag.enc ⟨T.w,T.b,g⟩)] (fun v B=>∃ f:Hd,v=f.val∧f.len=(T.seen).length∧B = [Af.box b 163 (Ag.enc ⟨T.w,T.b,g⟩),Af.own f 3 1 ((T.seen).flatMap A0)]):=by
 intro w hS0
 have hb:=hF.b
 have hr:=hF.room
 refine Ao _ _ Tryz.func132 rfl rfl rfl (hS0) ?_
 refine Gs (Ga rfl (Gn (.t1 0) (Au ?_)))
 refine BN (N:=12) [0,0,2,6,14,1,33,97,255,511,1023,2047] mix (by kernel_rfl) rfl ?_
 refine Pf 0 rfl (AD rfl) (Pf 1 rfl (AD rfl) (Pf 2 rfl (Ba rfl) (Pf 3 rfl (Aj CW rfl) (Pf 4 rfl (AG rfl A5 .m0 Ag.l1 rfl rfl) (Pf 5 rfl (Ba rfl) (Pf 6 rfl (Aj BD rfl) (Pf 7 rfl (Aj Br rfl) ?_)))))))
 refine Pf 8 rfl (AV DB rfl rfl (by first | omega | exact hb.1 | exact hb.2 | (dsimp only;omega)) (by first | omega | exact hb.1 | exact hb.2 | (dsimp only;omega))) ?_
 refine Pf 9 rfl (Aj C9 rfl) ?_
 refine Pf 10 rfl (AG rfl A5 .m0 (((Ag.l0.comp AI.l2).comp (AQ.ar (n:=6) An.fl (by first | omega | exact hb | (dsimp only;omega)))).comp An.l3) rfl rfl) ?_
 refine Pf 11 rfl (A1 rfl) ?_
 refine Az (by kernel_rfl) ?_
 refine AB (.t2 0 3) ?_
 refine AA (CH (Gm rfl (Gt (Ba rfl) (Gt (Aj BD rfl) (Gt (AU rfl Be .m0 Ag.l0 rfl) (Gm rfl ?_))))))
 refine BE rfl Ue (.c rfl (.c rfl .n)) (fun w hS=>El _ _ w) ?_
 refine Gt (BX rfl) (Gn (.t3 0 3 21) ?_)
 refine Gc (fun c1=>?_) (fun c1=>?_)
 ·
  refine Gs (Ga rfl (Gn (.t1 2) (Ae (AE ?_))))
  refine AZ rfl (.tmp rfl .n) ?_
  intro w1 hS
  have hS:=hS.Cr 3 1
  have hS:=(hS.perm (Ax.perm (.c (.t .h) (.c .h .n)))).A3
  have hq:T.seen=_:=BJ c1
  exact⟨_,⟨⟨none,0,0⟩,rfl,by rw [hq];rfl,by rw [hq];rfl⟩,hS⟩
 have c1p:=kz c1
 refine Aa ?_
 refine AB (.t2 0 3) ?_
 refine AA (Gs (Gm rfl (Gt (Ba rfl) (Gt (Aj BD rfl) (Gt (AU rfl Be .m0 Ag.l0 rfl) (Gm rfl ?_))))))
 refine Ah rfl TB (.c rfl (.c rfl (.c rfl .n))) .n (FV _ _ _) (fun v2 B hv=>?_)
 obtain⟨y3,rfl,y4,rfl⟩:=hv
 refine Ga rfl (Gn (.t1 2) (Ae ?_))
 refine AZ rfl (.tmp rfl .n) ?_
 intro w1 hS
 have hS:=(hS.perm (Ax.perm (.c (.t .h) (.c .h .n)))).A3
 have hq:T.seen=_:=(AX c1)
 exact⟨_,⟨_,rfl,by rw [hq];first | rfl | assumption,by rw [hq];rfl⟩,hS⟩
theorem FB (b:Nat)(T:AF)(g:Hd)(f:Hd)(l:List Int)(z:Int)(u:As)(a:Bool)(hF:T.Fit)(hf:f.len=l.length)(hl:l.length≤100)(hi:∀ i∈l,0≤i∧i < 9):Jp Tryz.prog 134 #[.pointer (some ⟨b,0,none⟩),f.val, .int .i64 z,BW u, .bool a] [Af.box b 163 (Ag.enc ⟨T.w,T.b,g⟩),Af.own f 3 1 (l.flatMap A0)] (fun v B=>∃ h:Hd,v=h.val∧h.len=(AF.BT T.w l z u a).length∧B = [Af.box b 163 (Ag.enc ⟨T.w,T.b,g⟩),Af.own f 3 1 (l.flatMap A0),Af.own h 3 1 ((AF.BT T.w l z u a).flatMap A0)]):=by
 intro w hS0
 have hb:=hF.b
 have hr:=hF.room
 refine Ao _ _ Tryz.func134 rfl rfl rfl (hS0) ?_
 refine Gs (Ga rfl (Gn (.t5 0 1 2 3 4) (Gs (Ga rfl (AT (AA (CH ?_)))))))
 refine Gm rfl (Gt (Av rfl Tryz.underlying169 rfl) (Gm rfl (Gn (.t8 0 2 3 4 11 14 15 16) (Ak ?_))))
 refine Bt (.t8 11 16 0 2 3 4 14 15) ?_
 refine FE A0 3 1 ?_
 refine D1 (fun(k:Int) (xs:List Int) (h:Hd)=>0≤k∧k≤(l.length:Int)∧xs=AF.Ji T.w u (l.take k.toNat)∧h.len=xs.length∧xs.length≤k.toNat) (fun(k:Int) (xs:List Int) (h:Hd)=>((l.length:Int) - k).toNat) (fun(k:Int) (xs:List Int) (h:Hd)=> [(11,h.val),(16, .int .i64 k)]) (fun(k:Int) (xs:List Int) (h:Hd)=> [Af.own h 3 1 (xs.flatMap A0)]) (0) ([]) (_) ?_ rfl rfl (fun k xs h hI1=>?_)
 · exact⟨by omega,by omega,rfl,rfl,by simp⟩
 obtain⟨hI11,hI12,hI13,hI14,hI15⟩:=hI1
 refine Gs (Gt (BC rfl rfl) (AT (AA (Au ?_))))
 refine Gc (fun c1=>?_) (fun c1=>?_)
 ·
  have c1p:=kz c1
  have hx:=hi _ (Bj.E5 (xs:=l) (i:=k.toNat) (by omega))
  refine Aa ?_
  refine AB (.t8 0 2 3 4 11 14 15 16) ?_
  refine AA (Au (Ak (Gs ?_)))
  refine Gt (Bs Gr (by decide) (Kn.own .m2) rfl rfl (by omega) (by omega)) ?_
  refine Gt (DP rfl A5 (Kn.own .m2) (by omega)) ?_
  refine Ga rfl (Gn (.t9 0 2 3 4 11 13 14 15 16) (Gs (Gm rfl (Gt (Bv rfl rfl) (Gm rfl (Bf 22 rfl rfl (fun q=>AD rfl) (Bf 22 rfl rfl (fun q=>AD rfl) ?_)))))))
  refine Bf 22 rfl rfl (fun q=>Ba (cF rfl q)) (Bf 22 rfl rfl (fun q=>Aj BD (cF rfl q)) (Bf 22 rfl rfl (fun q=>Aj Cz (cF rfl q)) ?_))
  refine Bf 22 rfl rfl (fun q=>by have q1:=q;(try simp at q1);exact AV Gd (cF rfl q) (cF rfl q) (by first | omega | exact hb.1 | exact hb.2) (by first | omega | exact hb.1 | exact hb.2)) ?_
  refine Bf 22 rfl rfl (fun q=>Aj Mu (cF rfl q)) ?_
  refine Bf 22 rfl rfl (fun q=>by have q1:=q;(try simp at q1);exact AG (cF rfl q) CK .m1 (((Ag.l0.comp AI.l1).comp (AQ.ar (n:=9) Ap.fl (by first | omega | exact hb))).comp Ap.l0) rfl rfl) ?_
  refine Bf 22 rfl rfl (fun q=>AD rfl) (Bf 22 rfl rfl (fun q=>Bv (cF rfl q) (cF rfl q)) ?_)
  refine Gt (BU rfl rfl (fun h=>by rw [h];rfl)) ?_
  refine Gn (.t10 0 2 3 4 11 13 14 15 16 33) ?_
  refine Gc (fun c2=>?_) (fun c2=>?_)
  ·
   have c2p:=kz c2
   refine AK (Gm rfl (Gm rfl ?_))
   refine F3 A0 B5 rfl Tryz.underlying169 DJ bc rfl (by decide) (by decide) rfl rfl (fun b1=>?_)
   refine Ce B5 rfl Tryz.underlying169 DJ bc rfl dt (by decide) (by decide) rfl rfl (fun w hS=>Src.D9 Tryz.underlying169 ((Kn.own .m0) w hS)) (by(try dsimp only);omega) (fun _=>(.t .h)) (fun h1 h1l h1z=>?_)
   refine Ga rfl ?_
   refine AT (AB (.t8 0 2 3 4 11 14 15 16) ?_)
   refine AW (AA (AK ?_))
   refine Gt (Ay rfl rfl (IntWalk.i64_in _ (by first | omega | exact hb.1 | exact hb.2))) ?_
   refine Gm rfl ?_
   refine AT (AB (.t8 0 2 3 4 11 14 15 16) ?_)
   refine B0 (k+1) _ _ ?_ ?_ (.t8 11 16 0 2 3 4 14 15) (.cons _ (.refl _))
   · exact⟨by omega,by omega,by rw [AF.ZA hI11 (by omega) c2,← hI13],(by(try dsimp only at *)<;>(try simp only [List.length_append,List.length_cons,List.length_nil])<;>omega),(by(try simp only [List.length_append,List.length_cons,List.length_nil]);omega)⟩
   · omega
  have c2p:=kz c2
  refine Aa ?_
  refine AB (.t8 0 2 3 4 11 14 15 16) ?_
  refine AW (AA (AK ?_))
  refine Gt (Ay rfl rfl (IntWalk.i64_in _ (by first | omega | exact hb.1 | exact hb.2))) ?_
  refine Gm rfl ?_
  refine AT (AB (.t8 0 2 3 4 11 14 15 16) ?_)
  refine B0 (k+1) _ _ ?_ ?_ (.t8 11 16 0 2 3 4 14 15) (.refl _)
  · exact⟨by omega,by omega,by rw [AF.Yw hI11 (by omega) c2,← hI13],(by(try dsimp only at *)<;>(try simp only [List.length_append,List.length_cons,List.length_nil])<;>omega),(by(try simp only [List.length_append,List.length_cons,List.length_nil]);omega)⟩
  · omega
 have c1p:=kz c1
 obtain rfl:k=(l.length:Int):=by omega
 have hx3:=hI13
 rw [show(l.length:Int).toNat=l.length by omega,List.take_length] at hx3
 have hpa:=AF.Vs T.w u l
 rw [← hx3] at hpa
 refine Bl (AY (AY (Am ?_)))
 refine AB (.t3 2 4 11) ?_
 refine AA (CH (Gm rfl (Gn (.t3 2 11 39) ?_)))
 refine Gc (fun c3=>?_) (fun c3=>?_)
 ·
  have c3p:=kz c3
  refine Gs (Gm rfl (Ga rfl (Gn (.t1 10) (Ae (AE ?_)))))
  refine AZ rfl (.tmp rfl .n) ?_
  intro w1 hS
  have hS:=(hS.perm (Ax.perm (.c (.t .h) (.c (.t .h) (.c .h .n))))).A3
  have hq:AF.BT T.w l z u a=_:=(BJ c3)
  refine⟨_,⟨_,rfl,?hl1,?hB1⟩,hS⟩
  case hB1=>rw [hq];(try rw [← hx3]);(try rfl)
  case hl1=>rw [hq];first | rfl | (rw [← hx3];first | assumption | (simp only [Hd.cut,List.length_drop,List.length_take];omega))
 have c3p:=kz c3
 refine Aa ?_
 refine AB (.t2 2 11) ?_
 refine AA (CH (Gm rfl (Gt (BC rfl rfl) (Gm rfl (Bf 43 rfl rfl (fun q=>AD rfl) (Bf 43 rfl rfl (fun q=>AD rfl) (Bf 43 rfl rfl (fun q=>Av rfl Tryz.underlying169 (cF rfl q)) ?_)))))))
 refine Bf 43 rfl rfl (fun q=>Cn (cF rfl q) (cF rfl q)) ?_
 refine Gt (BU rfl rfl (fun h=>by rw [h];rfl)) ?_
 refine Gn (.t3 2 11 48) ?_
 refine Gc (fun c4=>?_) (fun c4=>?_)
 ·
  have c4p:=kz c4
  rw [hI14,hx3] at c4
  refine Gs (Ga rfl (Gn (.t1 10) (Ae (AE ?_))))
  refine AZ rfl (.tmp rfl .n) ?_
  intro w1 hS
  have hS:=hS.Cr 3 1
  have hS:=(hS.perm (Ax.perm (.c (.t (.t .h)) (.c (.t (.t .h)) (.c .h .n))))).A3
  have hq:AF.BT T.w l z u a=_:=((AX c3).trans (BJ c4))
  refine⟨_,⟨⟨none,0,0⟩,rfl,?hl2,?hB2⟩,hS⟩
  case hB2=>rw [hq];(try rw [← hx3]);(try rfl)
  case hl2=>rw [hq];first | rfl | (rw [← hx3];first | assumption | (simp only [Hd.cut,List.length_drop,List.length_take];omega))
 have c4p:=kz c4
 have c4q:=c4p
 rw [hI14,hx3] at c4
 refine Aa ?_
 refine AB (.t2 2 11) ?_
 refine AA (Gs (Gm rfl (Gm rfl ?_)))
 refine Gt (Fi rfl rfl (IntWalk.i64_in _ (by first | omega | exact hb.1 | exact hb.2))) ?_
 refine Gm rfl ?_
 refine Ty B5 rfl Tryz.underlying169 DJ rfl rfl rfl (by first | omega | exact hb.1 | exact hb.2) (by first | omega | exact hb.1 | exact hb.2) (by first | omega | exact hb.1 | exact hb.2) (fun _=> .h) ?_
 refine Ga rfl (Gn (.t1 10) (Ae ?_))
 refine AZ rfl (.tmp rfl .n) ?_
 intro w1 hS
 have hS:=(hS.perm (Ax.perm (.c (.t .h) (.c (.t .h) (.c .h .n))))).A3
 have hq:AF.BT T.w l z u a=_:=((AX c3).trans (AX c4))
 refine⟨_,⟨_,rfl,?hl3,?hB3⟩,hS⟩
 case hB3=>rw [hq];(try rw [← hx3]);(try rfl)
 case hl3=>rw [hq];first | rfl | (rw [← hx3];first | assumption | (simp only [Hd.cut,List.length_drop,List.length_take];omega))
theorem TA (b:Nat)(T:AF)(g:Hd)(u:As)(hF:T.Fit)(hu:u.length≤5000000):Fx Tryz.prog 161 #[.pointer (some ⟨b,0,none⟩),BW u] [Af.box b 163 (Ag.enc ⟨T.w,T.b,g⟩)] (fun w=>(HI 7 w∧7 ∉ Cp [Af.box b 163 (Ag.enc ⟨T.w,T.b,g⟩)])∧(HI 8 w∧8 ∉ Cp [Af.box b 163 (Ag.enc ⟨T.w,T.b,g⟩)])) (fun v B=>v = .tuple #[.int .i64 (T.one u).1, .bool (T.one u).2]∧B = [Af.box b 163 (Ag.enc ⟨T.w,T.b,g⟩)]):=by
 intro w hS0 hH
 obtain⟨⟨gl0,gm0⟩,⟨gl1,gm1⟩⟩:=hH
 have hb:=hF.b
 have hr:=hF.room
 have ho9:=T.KW
 have hs9:=T.Ix
 refine Ao _ _ Tryz.func161 rfl rfl rfl (hS0) ?_
 refine Gs (Ga rfl (Ga rfl (Gn (.t2 0 1) (Gs (Gm rfl ?_)))))
 refine BE rfl Uv (.c rfl .n) (fun w hS=>FZ _ (by first | assumption | omega) w (gl0.stM gm0 hS) (gl1.stM gm1 hS)) ?_
 refine Gm rfl (Gt (AM rfl rfl) (Gt (AM rfl rfl) (Gt (AM rfl rfl) (Gt (AM rfl rfl) (Ga rfl (Ga rfl (Ga rfl ?_)))))))
 refine Ga rfl (Gn (.t5 0 6 7 8 9) (CH (Gm rfl (Gt (Cb rfl rfl) (Gm rfl (Bf 20 rfl rfl (fun q=>AD rfl) ?_))))))
 refine Gt (BU rfl rfl (fun h=>by rw [h];rfl)) ?_
 refine Gn (.t4 0 6 7 22) ?_
 refine Gc (fun c1=>?_) (fun c1=>?_)
 ·
  refine Gs (Ga rfl (Ga rfl (Gn (.t2 4 5) (Ae (AE ?_)))))
  refine AZ rfl (.tmp rfl (.tmp rfl .n)) ?_
  intro w1 hS
  have hS:=(hS.perm (Ax.perm (.c .h .n))).A3
  have hq:T.one u=_:=(BJ c1)
  exact⟨_,⟨by rw [hq];rfl,rfl⟩,hS⟩
 have c1p:=kz c1
 refine Aa ?_
 refine AB (.t3 0 6 7) ?_
 refine AA (Gs (Gm rfl (Gm rfl ?_)))
 refine Ah rfl Uf (.c rfl .n) (.c .h .n) (II _ _ _ (by first | assumption | omega)) (fun v1 B hv=>?_)
 obtain⟨y2,rfl,y3,rfl⟩:=hv
 refine Gm rfl ?_
 refine Ah rfl YB (.c rfl .n) (.c .h .n) (Jf _ _ _ (by first | assumption | omega)) (fun v5 B hv=>?_)
 obtain⟨y6,rfl,y7,rfl⟩:=hv
 refine Ce B5 rfl Tryz.underlying169 DJ bc rfl dt (by decide) (by decide) rfl rfl (fun w hS=>Src.D9 Tryz.underlying169 ((Kn.own .m1) w hS)) (by(try dsimp only);omega) (fun _=>(.t (.t .h))) (fun h9 h9l h9z=>?_)
 refine Gm rfl (Gm rfl ?_)
 refine Ah rfl QW (.c rfl (.c rfl (.c rfl (.c rfl (.c rfl .n))))) (.c .h (.c (.t .h) .n)) (FB _ T _ _ (T.own++T.seen) _ _ _ hF (by rw [List.length_append];omega) (by rw [List.length_append];omega) (fun i hi=>AF.Qu hi)) (fun v10 B hv=>?_)
 obtain⟨y11,rfl,y12,rfl⟩:=hv
 refine Ga rfl (Gn (.t1 10) (CH (Gm rfl (Gt (Av rfl Tryz.underlying169 rfl) (Gt (Ai rfl rfl) (Gn (.t2 10 34) ?_))))))
 refine Gc (fun c2=>?_) (fun c2=>?_)
 ·
  have c2p:=kz c2
  have hpl:=y12
  rw [hpl] at c2 c2p
  refine Gs (Ga rfl (Ga rfl (Gn (.t2 4 5) (Ae (AE ?_)))))
  refine AZ rfl (.tmp rfl (.tmp rfl .n)) ?_
  intro w1 hS
  have hS:=(hS.perm (Ax.perm (.c .h .n))).A3
  have hq:T.one u=_:=((AX c1).trans (BJ c2))
  exact⟨_,⟨by rw [hq];rfl,rfl⟩,hS⟩
 have c2p:=kz c2
 have hpl:=y12
 rw [hpl] at c2 c2p
 refine Aa ?_
 refine AB (.t1 10) ?_
 refine AA (Gs (Gm rfl ?_))
 refine Gt (Bs Gr (by decide) (Kn.own .m2) rfl rfl (by omega) (by omega)) ?_
 refine Gt (DP rfl A5 (Kn.own .m2) (by omega)) ?_
 refine Ga rfl (Ga rfl (Gn (.t2 4 5) (Ae ?_)))
 refine AZ rfl (.tmp rfl (.tmp rfl .n)) ?_
 intro w1 hS
 have hS:=(hS.perm (Ax.perm (.c .h .n))).A3
 have hq:T.one u=_:=((AX c1).trans (AX c2))
 exact⟨_,⟨by rw [hq];rfl,rfl⟩,hS⟩
theorem NH (b:Nat)(T:AF)(g:Hd)(u:As)(hg:g.len=T.out.length)(hF:T.Fit)(hu:u.length≤5000000)(hn:T.out.length≤99000):Fx Tryz.prog 133 #[.pointer (some ⟨b,0,none⟩),BW u] [Af.box b 163 (Ag.enc ⟨T.w,T.b,g⟩),Af.own g 56 16 (T.out.flatMap Ing.Event.enc)] (fun w=>(HI 7 w∧7 ∉ Cp [Af.box b 163 (Ag.enc ⟨T.w,T.b,g⟩),Af.own g 56 16 (T.out.flatMap Ing.Event.enc)])∧(HI 8 w∧8 ∉ Cp [Af.box b 163 (Ag.enc ⟨T.w,T.b,g⟩),Af.own g 56 16 (T.out.flatMap Ing.Event.enc)])) (fun v B=>∃ g':Hd,v = .tuple #[.int .i64 (T.box u).2.1, .bool (T.box u).2.2]∧g'.len=((T.box u).1).out.length∧B = [Af.box b 163 (Ag.enc ⟨((T.box u).1).w,((T.box u).1).b,g'⟩),Af.own g' 56 16 (((T.box u).1).out.flatMap Ing.Event.enc)]):=by
 intro w hS0 hH
 obtain⟨⟨gl0,gm0⟩,⟨gl1,gm1⟩⟩:=hH
 have hb:=hF.b
 have hr:=hF.room
 have ho:=T.Ua u
 refine Ao _ _ Tryz.func133 rfl rfl rfl (hS0) ?_
 refine Gs (Ga rfl (Ga rfl (Gn (.t2 0 1) (Gs (Gm rfl (Gm rfl ?_))))))
 refine BB rfl cl (.c rfl (.c rfl .n)) (.c .h .n) (TA _ T _ _ hF hu) (fun w hS=>⟨gl0.pull gm0 hS (.c .h .n),gl1.pull gm1 hS (.c .h .n)⟩) (fun v1 B hv=>?_)
 obtain⟨rfl,rfl⟩:=hv
 refine Gm rfl (Gt (AM rfl rfl) (Gt (AM rfl rfl) (Ga rfl (Ga rfl (Gn (.t3 0 6 7) (CH (Gm rfl ?_)))))))
 refine Gt (BX rfl) (Gm rfl (Bf 16 rfl rfl (fun q=>AD rfl) (Bf 16 rfl rfl (fun q=>AD rfl) (Bf 16 rfl rfl (fun q=>Ba (cF rfl q)) (Bf 16 rfl rfl (fun q=>Aj BD (cF rfl q)) (Bf 16 rfl rfl (fun q=>Aj Cz (cF rfl q)) ?_))))))
 refine Bf 16 rfl rfl (fun q=>by have q1:=q;(try simp at q1);exact AV Gd (cF rfl q) (cF rfl q) (by first | omega | exact hb.1 | exact hb.2 | (dsimp only;omega)) (by first | omega | exact hb.1 | exact hb.2 | (dsimp only;omega))) ?_
 refine Bf 16 rfl rfl (fun q=>Aj HC (cF rfl q)) ?_
 refine Bf 16 rfl rfl (fun q=>by have q1:=q;(try simp at q1);exact AG (cF rfl q) A5 .m0 (((Ag.l0.comp AI.l1).comp (AQ.ar (n:=9) Ap.fl (by first | omega | exact hb | (dsimp only;omega)))).comp Ap.l1) rfl rfl) ?_
 refine Bf 16 rfl rfl (fun q=>Cb (cF rfl q) rfl) ?_
 refine Gt (BU rfl rfl (fun h=>by rw [h];rfl)) ?_
 refine Gn (.t3 0 6 26) ?_
 refine Gc (fun c1=>?_) (fun c1=>?_)
 ·
  have c1p:=kz c1
  refine Gs (Gm rfl ?_)
  refine Ah rfl EH (.c rfl (.c rfl .n)) (.c .h (.c .h .n)) (Bi _ _ _ _ hg hb (by omega)) (fun v2 B hv=>?_)
  obtain⟨y3,rfl,y4,rfl⟩:=hv
  refine Gn (.nil _) (Gs (Ga rfl (Ga rfl (AT (AA (Ae (AE ?_)))))))
  refine AZ rfl (.tmp rfl (.tmp rfl .n)) ?_
  intro w1 hS
  have hS:=(hS.perm (Ax.perm (.c .h (.c .h .n)))).A3
  have hq:T.box u=_:=(BJ c1)
  refine⟨_,⟨?gq1,?hv1,?hl1,?hB1⟩,hS⟩
  case hB1=>rw [hq];(try rfl)
  case hv1=>rw [hq];(try rfl)
  case hl1=>rw [hq];assumption
 have c1p:=kz c1
 refine Aa ?_
 refine AB (.t2 0 6) ?_
 refine AA (CH (Gm rfl (Gm rfl (Gt (Ba rfl) (Gt (Aj BD rfl) (Gt (Aj Cz rfl) ?_))))))
 refine Gt (AV Gd rfl rfl (by first | omega | exact hb.1 | exact hb.2 | (dsimp only;omega)) (by first | omega | exact hb.1 | exact hb.2 | (dsimp only;omega))) ?_
 refine Gt (Aj GX rfl) ?_
 refine Gt (AG rfl DM .m0 (((Ag.l0.comp AI.l1).comp (AQ.ar (n:=9) Ap.fl (by first | omega | exact hb | (dsimp only;omega)))).comp Ap.l4) rfl rfl) ?_
 refine Gt (BX rfl) (Gn (.t3 0 6 37) ?_)
 refine Gc (fun c2=>?_) (fun c2=>?_)
 ·
  have c2p:=kz c2
  refine Gs (Gm rfl ?_)
  refine Ah rfl EH (.c rfl (.c rfl .n)) (.c .h (.c .h .n)) (Bi _ _ _ _ hg hb (by omega)) (fun v5 B hv=>?_)
  obtain⟨y6,rfl,y7,rfl⟩:=hv
  refine Gn (.nil _) (Gs (Ga rfl (Ga rfl (AT (AA (Ae (AE ?_)))))))
  refine AZ rfl (.tmp rfl (.tmp rfl .n)) ?_
  intro w1 hS
  have hS:=(hS.perm (Ax.perm (.c .h (.c .h .n)))).A3
  have hq:T.box u=_:=((AX c1).trans (BJ c2))
  refine⟨_,⟨?gq2,?hv2,?hl2,?hB2⟩,hS⟩
  case hB2=>rw [hq];(try rfl)
  case hv2=>rw [hq];(try rfl)
  case hl2=>rw [hq];assumption
 have c2p:=kz c2
 refine Aa ?_
 refine AB (.t1 6) ?_
 refine AA (Gs (Gm rfl (Ga rfl (Ga rfl (Gn (.t2 4 5) (Ae ?_))))))
 refine AZ rfl (.tmp rfl (.tmp rfl .n)) ?_
 intro w1 hS
 have hS:=(hS.perm (Ax.perm (.c .h (.c .h .n)))).A3
 have hq:T.box u=_:=((AX c1).trans (AX c2))
 refine⟨_,⟨?gq3,?hv3,?hl3,?hB3⟩,hS⟩
 case hB3=>rw [hq];(try rfl)
 case hv3=>rw [hq];(try rfl)
 case hl3=>rw [hq];assumption
theorem D8 (b:Nat)(T:AF)(g:Hd)(k i:Int)(hg:g.len=T.out.length)(hb:0≤T.b∧T.b < 6)(hi:0≤i∧i < 9)(hn:T.out.length≤100000):Jp Tryz.prog 135 #[.pointer (some ⟨b,0,none⟩), .int .i64 k, .int .i64 i] [Af.box b 163 (Ag.enc ⟨T.w,T.b,g⟩),Af.own g 56 16 (T.out.flatMap Ing.Event.enc)] (fun v B=>∃ g':Hd,v = .tuple #[]∧g'.len=(T.Bw k i).out.length∧B = [Af.box b 163 (Ag.enc ⟨(T.Bw k i).w,(T.Bw k i).b,g'⟩),Af.own g' 56 16 ((T.Bw k i).out.flatMap Ing.Event.enc)]):=by
 intro w hS0
 refine Ao _ _ Tryz.func135 rfl rfl rfl (hS0) ?_
 refine AK (Gm rfl (Gm rfl (Gm rfl (Gm rfl (Gt (Ba rfl) (Gt (Aj BD rfl) (Gt (Aj Cz rfl) ?_)))))))
 refine Gt (AV Gd rfl rfl (by(try dsimp only at *);omega) (by(try dsimp only at *);omega)) ?_
 refine Gt (Aj Mu rfl) ?_
 refine Gt (AG rfl CK .m0 (((Ag.l0.comp AI.l1).comp (AQ.arr (n:=9) Ap.fl (by(try dsimp only at *);omega) (by(try dsimp only at *);omega))).comp Ap.l0) rfl rfl) ?_
 refine Gt (BL N3 Iv rfl (.cons Ing.Event.l0 rfl rfl rfl (.cons Ing.Event.l3 rfl rfl rfl (.cons Ing.Event.l8 rfl rfl rfl .nil)))) ?_
 refine Ah rfl Nq (.c rfl (.c rfl .n)) (.c .h (.c .h .n)) (CU _ _ _ { AF.F8 k with Bw:=(T.w.AP.at i).name } hg hb (show(-1:Int) < 6 by decide) hn) (fun v1 B hv=>?_)
 obtain⟨y2,rfl,y3,rfl⟩:=hv
 refine AT ?_
 refine Bo rfl .n ?_
 intro w1 hS
 have hS:=(hS.perm (Ax.perm (.c .h (.c .h .n)))).A3
 exact⟨_,⟨_,rfl,by assumption,rfl⟩,hS⟩
theorem S4 (b:Nat)(T:AF)(g:Hd)(o:Order)(hg:g.len=T.out.length)(hF:T.Fit)(hu:o.second.length≤5000000)(hn:T.out.length≤90000):Fx Tryz.prog 105 #[.pointer (some ⟨b,0,none⟩), .agg o.enc.toArray] [Af.box b 163 (Ag.enc ⟨T.w,T.b,g⟩),Af.own g 56 16 (T.out.flatMap Ing.Event.enc)] (fun w=>(HI 7 w∧7 ∉ Cp [Af.box b 163 (Ag.enc ⟨T.w,T.b,g⟩),Af.own g 56 16 (T.out.flatMap Ing.Event.enc)])∧(HI 8 w∧8 ∉ Cp [Af.box b 163 (Ag.enc ⟨T.w,T.b,g⟩),Af.own g 56 16 (T.out.flatMap Ing.Event.enc)])) (fun v B=>∃ g':Hd,v = .tuple #[]∧g'.len=(T.get o).out.length∧B = [Af.box b 163 (Ag.enc ⟨(T.get o).w,(T.get o).b,g'⟩),Af.own g' 56 16 ((T.get o).out.flatMap Ing.Event.enc)]):=by
 intro w hS0 hH
 obtain⟨⟨gl0,gm0⟩,⟨gl1,gm1⟩⟩:=hH
 have hb:=hF.b
 have hr:=hF.room
 refine Ao _ _ Tryz.func105 rfl rfl rfl (hS0) ?_
 refine Gs ?_
 refine B4 rfl rfl rfl (fun b1=>?_)
 refine Gn (.t2 0 3) (Gs (Gm rfl ?_))
 refine Ah rfl YB (.c rfl .n) (.c (.t .h) .n) (Jf _ _ _ (by first | assumption | omega)) (fun v1 B hv=>?_)
 obtain⟨y2,rfl,y3,rfl⟩:=hv
 refine Ga rfl (Gn (.t3 0 3 4) (CH (Gt (Aj IL rfl) (Gt (AG rfl CK .m2 Order.l4 rfl rfl) (Gt (Dp rfl rfl) (Gn (.t4 0 3 4 14) ?_))))))
 refine Gc (fun c1=>?_) (fun c1=>?_)
 ·
  have c1p:=kz c1
  refine Gs (Gm rfl (Gt (Aj IL rfl) (Gt (AG rfl CK .m2 Order.l4 rfl rfl) ?_)))
  refine BB rfl Z0 (.c rfl (.c rfl .n)) (.c .h (.c (.t (.t .h)) .n)) (NH _ T _ _ hg hF hu (by omega)) (fun w hS=>⟨gl0.pull gm0 hS (.c .h (.c (.t (.t .h)) .n)),gl1.pull gm1 hS (.c .h (.c (.t (.t .h)) .n))⟩) (fun v5 B hv=>?_)
  obtain⟨y6,rfl,y7,rfl⟩:=hv
  refine Gm rfl (Gt (AM rfl rfl) (Gt (AM rfl rfl) (Ga rfl (Ga rfl (Gn (.t4 0 3 5 6) (CH (Gm rfl ?_)))))))
  refine Gt (BX rfl) (Gn (.t4 0 3 5 23) ?_)
  refine Gc (fun c2=>?_) (fun c2=>?_)
  ·
   have c2p:=kz c2
   refine Ae (AE (AE ?_))
   refine AZ rfl .n ?_
   intro w1 hS
   have hS:=(hS.perm (Ax.perm (.c .h (.c .h .n)))).A3
   have hq:T.get o=_:=((BJ c1).trans (BJ c2))
   refine⟨_,⟨?gq1,rfl,?hl1,?hB1⟩,hS⟩
   case hB1=>rw [hq];(try rfl)
   case hl1=>rw [hq];assumption
  have c2p:=kz c2
  refine Aa ?_
  refine AB (.t3 0 3 5) ?_
  refine AA (AK (Gm rfl (Gt (Ba rfl) (Gt (Aj BD rfl) (Gt (AU rfl Be .m0 Ag.l0 rfl) (Gm rfl ?_))))))
  refine Ah rfl TB (.c rfl (.c rfl (.c rfl .n))) .n (FV _ _ _) (fun v8 B hv=>?_)
  obtain⟨y9,rfl,y10,rfl⟩:=hv
  refine Ga rfl (Gn (.t3 0 3 4) (Gs (Gm rfl (Gm rfl (Gt (Aj Gk rfl) (Gt (AG rfl A5 .m4 Order.l1 rfl rfl) (Gt (Aj GF rfl) ?_)))))))
  refine Gt (AG rfl CK .m4 Order.l3 rfl rfl) (Gt (Aj HR rfl) (Gt (AG rfl DM .m4 Order.l2 rfl rfl) ?_))
  refine Ah rfl QW (.c rfl (.c rfl (.c rfl (.c rfl (.c rfl .n))))) (.c (.t .h) (.c .h .n)) (FB _ (T.box o.second).1 _ _ ((T.box o.second).1.w.has 2 (T.box o.second).2.1) _ _ _ (hF.Em (T.J9 _).1 (T.J9 _).2) (by assumption) (Nat.le_trans (AI.IX _ _ _) (by decide)) (fun i hi=>AI.GB hi)) (fun v12 B hv=>?_)
  obtain⟨y13,rfl,y14,rfl⟩:=hv
  refine Ga rfl (Gn (.t2 0 4) (CH (Gm rfl (Gt (Av rfl Tryz.underlying169 rfl) (Gt (Ai rfl rfl) (Gn (.t3 0 4 41) ?_))))))
  refine Gc (fun c3=>?_) (fun c3=>?_)
  ·
   have c3p:=kz c3
   rw [y14] at c3
   refine AK (Gm rfl ?_)
   refine Ah rfl EH (.c rfl (.c rfl .n)) (.c .h (.c (.t (.t .h)) .n)) (Bi _ (T.box o.second).1 _ _ (by assumption) (by rw [(T.J9 _).2];exact hb) (by have:=T.IF o.second;omega)) (fun v16 B hv=>?_)
   obtain⟨y17,rfl,y18,rfl⟩:=hv
   refine Gn (.t2 0 4) (Gs (Gm rfl (Gt (Av rfl Tryz.underlying169 rfl) (Gm rfl (Gn (.t4 0 44 45 46) (Ak ?_))))))
   refine Bt (.t4 46 0 44 45) ?_
   refine BZ (.t .h) ?_
   refine BZ (.t .h) ?_
   refine D1 (fun(k:Int) (X:AF) (h:Hd)=>0≤k∧k≤((AF.BT (T.box o.second).1.w ((T.box o.second).1.w.has 2 (T.box o.second).2.1) o.nth o.name o.Bn).length:Int)∧T.get o=X.DI ((AF.BT (T.box o.second).1.w ((T.box o.second).1.w.has 2 (T.box o.second).2.1) o.nth o.name o.Bn).drop k.toNat)∧X.b=T.b∧(X.out.length:Int)≤T.out.length+2+k∧h.len=X.out.length∧((AF.BT (T.box o.second).1.w ((T.box o.second).1.w.has 2 (T.box o.second).2.1) o.nth o.name o.Bn).length:Int)≤9) (fun(k:Int) (X:AF) (h:Hd)=>(((AF.BT (T.box o.second).1.w ((T.box o.second).1.w.has 2 (T.box o.second).2.1) o.nth o.name o.Bn).length:Int) - k).toNat) (fun(k:Int) (X:AF) (h:Hd)=> [(46, .int .i64 k)]) (fun(k:Int) (X:AF) (h:Hd)=> [Af.box b 163 (Ag.enc ⟨X.w,X.b,h⟩),Af.own h 56 16 (X.out.flatMap Ing.Event.enc)]) (0) (_) (_) ?_ rfl rfl (fun k X h hI1=>?_)
   · exact⟨by omega,by omega,((BJ c1).trans (AX c2)).trans (congrArg (fun q=>AF.DI q _) (BJ c3)),(T.J9 _).2,by have:=T.IF o.second;(try simp only [AF.CI]);omega,by assumption,by have:=(AF.Ed (T.box o.second).1.w ((T.box o.second).1.w.has 2 (T.box o.second).2.1) o.nth o.name o.Bn).length_le;have:=AI.IX (T.box o.second).1.w 2 (T.box o.second).2.1;omega⟩
   obtain⟨hI11,hI12,hI13,hI14,hI15,hI16,hI17⟩:=hI1
   refine Gs (Gt (BC rfl rfl) (AT (AA (Au ?_))))
   refine Gc (fun c4=>?_) (fun c4=>?_)
   ·
    have c4p:=kz c4
    have hx:0≤(AF.BT (T.box o.second).1.w ((T.box o.second).1.w.has 2 (T.box o.second).2.1) o.nth o.name o.Bn).getD k.toNat 0∧(AF.BT (T.box o.second).1.w ((T.box o.second).1.w.has 2 (T.box o.second).2.1) o.nth o.name o.Bn).getD k.toNat 0 < 9:=(fun i hi=>AI.GB (AF.Dw hi)) _ (Bj.E5 (xs:=(AF.BT (T.box o.second).1.w ((T.box o.second).1.w.has 2 (T.box o.second).2.1) o.nth o.name o.Bn)) (i:=k.toNat) (by omega))
    refine Aa ?_
    refine AB (.t4 0 44 45 46) ?_
    refine AA (Au (Ak (Gs ?_)))
    refine Gt (Bs Gr (by decide) (Kn.own .m3) rfl rfl (by omega) (by omega)) ?_
    refine Gt (DP rfl A5 (Kn.own .m3) (by omega)) ?_
    refine Ga rfl (Gn (.t5 0 8 44 45 46) (Gs (Gm rfl (Gm rfl (Gt (Ba rfl) (Gt (Aj BD rfl) (Gt (Aj Cz rfl) ?_)))))))
    refine Gt (AV Gd rfl rfl (by first | omega | exact hb.1 | exact hb.2 | (dsimp only;omega)) (by first | omega | exact hb.1 | exact hb.2 | (dsimp only;omega))) ?_
    refine Ga rfl (Gn (.t6 0 8 9 44 45 46) (Gs (Gm rfl (Gm rfl (Gm rfl (Gt (Ba rfl) (Gt (Aj CW rfl) ?_)))))))
    refine Gt (AG rfl A5 .m0 Ag.l1 rfl rfl) (Gt (Ba rfl) (Gt (Aj Fh rfl) ?_))
    refine AO (AJ (((Ag.l0.comp AI.l1).comp (AQ.ar (n:=9) Ap.fl (by first | omega | exact hb | (dsimp only;omega)))).comp Ap.l2) rfl rfl rfl DJ rfl .h) ?_
    refine Gt (Ba rfl) (Gt (Aj DN rfl) ?_)
    refine AO (AJ (((Ag.l0.comp AI.l1).comp (AQ.ar (n:=9) Ap.fl (by first | omega | exact hb | (dsimp only;omega)))).comp Ap.l3) rfl rfl rfl DJ rfl .h) ?_
    refine Gn (.t5 0 8 44 45 46) ?_
    refine GR (fun _=> .h) (congrArg (fun q=>Ag.enc ⟨q,_,_⟩) (AF.Hp X hx.1 hx.2 1 X.b)) ?_
    refine AK (Gm rfl (Gm rfl ?_))
    refine Ah rfl Ox (.c rfl (.c rfl (.c rfl .n))) (.c .h (.c .h .n)) (D8 _ (X.place ((AF.BT (T.box o.second).1.w ((T.box o.second).1.w.has 2 (T.box o.second).2.1) o.nth o.name o.Bn).getD k.toNat 0) 1 X.b) _ 3 ((AF.BT (T.box o.second).1.w ((T.box o.second).1.w.has 2 (T.box o.second).2.1) o.nth o.name o.Bn).getD k.toNat 0) (by assumption) (show 0≤X.b∧X.b < 6 by rw [hI14];exact hb) hx (show X.out.length≤100000 by omega)) (fun v19 B hv=>?_)
    obtain⟨y20,rfl,y21,rfl⟩:=hv
    refine AT (AB (.t4 0 44 45 46) ?_)
    refine AW (AA (AK ?_))
    refine Gt (Ay rfl rfl (IntWalk.i64_in _ (by first | omega | exact hb.1 | exact hb.2 | (dsimp only;omega)))) ?_
    refine Gm rfl ?_
    refine AT (AB (.t4 0 44 45 46) ?_)
    refine B0 (k+1) _ _ ?_ ?_ (.t4 46 0 44 45) (.refl _)
    · exact⟨by omega,by omega,by rw [hI13,AF.HU hI11 (by omega)],hI14,(by rw [AF.Fk];show((X.out.length+1:Nat):Int)≤_;omega),by assumption,hI17⟩
    · omega
   have c4p:=kz c4
   obtain rfl:k=((AF.BT (T.box o.second).1.w ((T.box o.second).1.w.has 2 (T.box o.second).2.1) o.nth o.name o.Bn).length:Int):=by omega
   rw [AF.J3] at hI13
   refine Bl (AY (AY (Am ?_)))
   refine Bo rfl .n ?_
   intro w1 hS
   have hS:=(hS.perm (Ax.perm (.c .h (.c .h .n)))).A3
   refine⟨_,⟨?gq2,rfl,?hl2,?hB2⟩,hS⟩
   case hB2=>rw [hI13];rfl
   case hl2=>rw [hI13];exact hI16
  have c3p:=kz c3
  rw [y14] at c3
  refine Aa ?_
  refine AB (.t2 0 4) ?_
  refine AA (Gs (Gm rfl (Gt (Av rfl Tryz.underlying169 rfl) (Gm rfl (Gn (.t4 0 44 45 46) (Ak ?_))))))
  refine Bt (.t4 46 0 44 45) ?_
  refine BZ (.t (.t (.t .h))) ?_
  refine BZ (.t .h) ?_
  refine D1 (fun(k:Int) (X:AF) (h:Hd)=>0≤k∧k≤((AF.BT (T.box o.second).1.w ((T.box o.second).1.w.has 2 (T.box o.second).2.1) o.nth o.name o.Bn).length:Int)∧T.get o=X.DI ((AF.BT (T.box o.second).1.w ((T.box o.second).1.w.has 2 (T.box o.second).2.1) o.nth o.name o.Bn).drop k.toNat)∧X.b=T.b∧(X.out.length:Int)≤T.out.length+2+k∧h.len=X.out.length∧((AF.BT (T.box o.second).1.w ((T.box o.second).1.w.has 2 (T.box o.second).2.1) o.nth o.name o.Bn).length:Int)≤9) (fun(k:Int) (X:AF) (h:Hd)=>(((AF.BT (T.box o.second).1.w ((T.box o.second).1.w.has 2 (T.box o.second).2.1) o.nth o.name o.Bn).length:Int) - k).toNat) (fun(k:Int) (X:AF) (h:Hd)=> [(46, .int .i64 k)]) (fun(k:Int) (X:AF) (h:Hd)=> [Af.box b 163 (Ag.enc ⟨X.w,X.b,h⟩),Af.own h 56 16 (X.out.flatMap Ing.Event.enc)]) (0) (_) (_) ?_ rfl rfl (fun k X h hI1=>?_)
  · exact⟨by omega,by omega,((BJ c1).trans (AX c2)).trans (congrArg (fun q=>AF.DI q _) (AX c3)),(T.J9 _).2,by have:=T.IF o.second;(try simp only [AF.CI]);omega,by assumption,by have:=(AF.Ed (T.box o.second).1.w ((T.box o.second).1.w.has 2 (T.box o.second).2.1) o.nth o.name o.Bn).length_le;have:=AI.IX (T.box o.second).1.w 2 (T.box o.second).2.1;omega⟩
  obtain⟨hI11,hI12,hI13,hI14,hI15,hI16,hI17⟩:=hI1
  refine Gs (Gt (BC rfl rfl) (AT (AA (Au ?_))))
  refine Gc (fun c5=>?_) (fun c5=>?_)
  ·
   have c5p:=kz c5
   have hx:0≤(AF.BT (T.box o.second).1.w ((T.box o.second).1.w.has 2 (T.box o.second).2.1) o.nth o.name o.Bn).getD k.toNat 0∧(AF.BT (T.box o.second).1.w ((T.box o.second).1.w.has 2 (T.box o.second).2.1) o.nth o.name o.Bn).getD k.toNat 0 < 9:=(fun i hi=>AI.GB (AF.Dw hi)) _ (Bj.E5 (xs:=(AF.BT (T.box o.second).1.w ((T.box o.second).1.w.has 2 (T.box o.second).2.1) o.nth o.name o.Bn)) (i:=k.toNat) (by omega))
   refine Aa ?_
   refine AB (.t4 0 44 45 46) ?_
   refine AA (Au (Ak (Gs ?_)))
   refine Gt (Bs Gr (by decide) (Kn.own .m3) rfl rfl (by omega) (by omega)) ?_
   refine Gt (DP rfl A5 (Kn.own .m3) (by omega)) ?_
   refine Ga rfl (Gn (.t5 0 8 44 45 46) (Gs (Gm rfl (Gm rfl (Gt (Ba rfl) (Gt (Aj BD rfl) (Gt (Aj Cz rfl) ?_)))))))
   refine Gt (AV Gd rfl rfl (by first | omega | exact hb.1 | exact hb.2 | (dsimp only;omega)) (by first | omega | exact hb.1 | exact hb.2 | (dsimp only;omega))) ?_
   refine Ga rfl (Gn (.t6 0 8 9 44 45 46) (Gs (Gm rfl (Gm rfl (Gm rfl (Gt (Ba rfl) (Gt (Aj CW rfl) ?_)))))))
   refine Gt (AG rfl A5 .m0 Ag.l1 rfl rfl) (Gt (Ba rfl) (Gt (Aj Fh rfl) ?_))
   refine AO (AJ (((Ag.l0.comp AI.l1).comp (AQ.ar (n:=9) Ap.fl (by first | omega | exact hb | (dsimp only;omega)))).comp Ap.l2) rfl rfl rfl DJ rfl .h) ?_
   refine Gt (Ba rfl) (Gt (Aj DN rfl) ?_)
   refine AO (AJ (((Ag.l0.comp AI.l1).comp (AQ.ar (n:=9) Ap.fl (by first | omega | exact hb | (dsimp only;omega)))).comp Ap.l3) rfl rfl rfl DJ rfl .h) ?_
   refine Gn (.t5 0 8 44 45 46) ?_
   refine GR (fun _=> .h) (congrArg (fun q=>Ag.enc ⟨q,_,_⟩) (AF.Hp X hx.1 hx.2 1 X.b)) ?_
   refine AK (Gm rfl (Gm rfl ?_))
   refine Ah rfl Ox (.c rfl (.c rfl (.c rfl .n))) (.c .h (.c .h .n)) (D8 _ (X.place ((AF.BT (T.box o.second).1.w ((T.box o.second).1.w.has 2 (T.box o.second).2.1) o.nth o.name o.Bn).getD k.toNat 0) 1 X.b) _ 3 ((AF.BT (T.box o.second).1.w ((T.box o.second).1.w.has 2 (T.box o.second).2.1) o.nth o.name o.Bn).getD k.toNat 0) (by assumption) (show 0≤X.b∧X.b < 6 by rw [hI14];exact hb) hx (show X.out.length≤100000 by omega)) (fun v22 B hv=>?_)
   obtain⟨y23,rfl,y24,rfl⟩:=hv
   refine AT (AB (.t4 0 44 45 46) ?_)
   refine AW (AA (AK ?_))
   refine Gt (Ay rfl rfl (IntWalk.i64_in _ (by first | omega | exact hb.1 | exact hb.2 | (dsimp only;omega)))) ?_
   refine Gm rfl ?_
   refine AT (AB (.t4 0 44 45 46) ?_)
   refine B0 (k+1) _ _ ?_ ?_ (.t4 46 0 44 45) (.refl _)
   · exact⟨by omega,by omega,by rw [hI13,AF.HU hI11 (by omega)],hI14,(by rw [AF.Fk];show((X.out.length+1:Nat):Int)≤_;omega),by assumption,hI17⟩
   · omega
  have c5p:=kz c5
  obtain rfl:k=((AF.BT (T.box o.second).1.w ((T.box o.second).1.w.has 2 (T.box o.second).2.1) o.nth o.name o.Bn).length:Int):=by omega
  rw [AF.J3] at hI13
  refine Bl (AY (AY (Am ?_)))
  refine Bo rfl .n ?_
  intro w1 hS
  have hS:=(hS.perm (Ax.perm (.c .h (.c .h .n)))).A3
  refine⟨_,⟨?gq3,rfl,?hl3,?hB3⟩,hS⟩
  case hB3=>rw [hI13];rfl
  case hl3=>rw [hI13];exact hI16
 have c1p:=kz c1
 refine Aa ?_
 refine AB (.t3 0 3 4) ?_
 refine AA (Gs (Gm rfl (Gm rfl (Gt (Aj Gk rfl) (Gt (AG rfl A5 .m2 Order.l1 rfl rfl) (Gt (Aj GF rfl) (Gt (AG rfl CK .m2 Order.l3 rfl rfl) ?_)))))))
 refine Gt (Aj HR rfl) (Gt (AG rfl DM .m2 Order.l2 rfl rfl) ?_)
 refine Ah rfl QW (.c rfl (.c rfl (.c rfl (.c rfl (.c rfl .n))))) (.c .h (.c .h .n)) (FB _ T _ _ T.seen _ _ _ hF (by assumption) (Nat.le_trans T.Ix (by decide)) (fun i hi=>AF.OF hi)) (fun v25 B hv=>?_)
 obtain⟨y26,rfl,y27,rfl⟩:=hv
 refine Ga rfl (Gn (.t2 0 4) (CH (Gm rfl (Gt (Av rfl Tryz.underlying169 rfl) (Gt (Ai rfl rfl) (Gn (.t3 0 4 41) ?_))))))
 refine Gc (fun c6=>?_) (fun c6=>?_)
 ·
  have c6p:=kz c6
  rw [y27] at c6
  refine AK (Gm rfl ?_)
  refine Ah rfl EH (.c rfl (.c rfl .n)) (.c .h (.c (.t (.t (.t .h))) .n)) (Bi _ T _ _ (by assumption) (by exact hb) (by have:=T.IF o.second;omega)) (fun v29 B hv=>?_)
  obtain⟨y30,rfl,y31,rfl⟩:=hv
  refine Gn (.t2 0 4) (Gs (Gm rfl (Gt (Av rfl Tryz.underlying169 rfl) (Gm rfl (Gn (.t4 0 44 45 46) (Ak ?_))))))
  refine Bt (.t4 46 0 44 45) ?_
  refine BZ (.t .h) ?_
  refine BZ (.t .h) ?_
  refine D1 (fun(k:Int) (X:AF) (h:Hd)=>0≤k∧k≤((AF.BT T.w T.seen o.nth o.name o.Bn).length:Int)∧T.get o=X.DI ((AF.BT T.w T.seen o.nth o.name o.Bn).drop k.toNat)∧X.b=T.b∧(X.out.length:Int)≤T.out.length+2+k∧h.len=X.out.length∧((AF.BT T.w T.seen o.nth o.name o.Bn).length:Int)≤9) (fun(k:Int) (X:AF) (h:Hd)=>(((AF.BT T.w T.seen o.nth o.name o.Bn).length:Int) - k).toNat) (fun(k:Int) (X:AF) (h:Hd)=> [(46, .int .i64 k)]) (fun(k:Int) (X:AF) (h:Hd)=> [Af.box b 163 (Ag.enc ⟨X.w,X.b,h⟩),Af.own h 56 16 (X.out.flatMap Ing.Event.enc)]) (0) (_) (_) ?_ rfl rfl (fun k X h hI1=>?_)
  · exact⟨by omega,by omega,(AX c1).trans (congrArg (fun q=>AF.DI q _) (BJ c6)),rfl,by have:=T.IF o.second;(try simp only [AF.CI]);omega,by assumption,by have:=(AF.Ed T.w T.seen o.nth o.name o.Bn).length_le;have:=T.Ix;omega⟩
  obtain⟨hI11,hI12,hI13,hI14,hI15,hI16,hI17⟩:=hI1
  refine Gs (Gt (BC rfl rfl) (AT (AA (Au ?_))))
  refine Gc (fun c7=>?_) (fun c7=>?_)
  ·
   have c7p:=kz c7
   have hx:0≤(AF.BT T.w T.seen o.nth o.name o.Bn).getD k.toNat 0∧(AF.BT T.w T.seen o.nth o.name o.Bn).getD k.toNat 0 < 9:=(fun i hi=>AF.OF (AF.Dw hi)) _ (Bj.E5 (xs:=(AF.BT T.w T.seen o.nth o.name o.Bn)) (i:=k.toNat) (by omega))
   refine Aa ?_
   refine AB (.t4 0 44 45 46) ?_
   refine AA (Au (Ak (Gs ?_)))
   refine Gt (Bs Gr (by decide) (Kn.own .m3) rfl rfl (by omega) (by omega)) ?_
   refine Gt (DP rfl A5 (Kn.own .m3) (by omega)) ?_
   refine Ga rfl (Gn (.t5 0 8 44 45 46) (Gs (Gm rfl (Gm rfl (Gt (Ba rfl) (Gt (Aj BD rfl) (Gt (Aj Cz rfl) ?_)))))))
   refine Gt (AV Gd rfl rfl (by first | omega | exact hb.1 | exact hb.2 | (dsimp only;omega)) (by first | omega | exact hb.1 | exact hb.2 | (dsimp only;omega))) ?_
   refine Ga rfl (Gn (.t6 0 8 9 44 45 46) (Gs (Gm rfl (Gm rfl (Gm rfl (Gt (Ba rfl) (Gt (Aj CW rfl) ?_)))))))
   refine Gt (AG rfl A5 .m0 Ag.l1 rfl rfl) (Gt (Ba rfl) (Gt (Aj Fh rfl) ?_))
   refine AO (AJ (((Ag.l0.comp AI.l1).comp (AQ.ar (n:=9) Ap.fl (by first | omega | exact hb | (dsimp only;omega)))).comp Ap.l2) rfl rfl rfl DJ rfl .h) ?_
   refine Gt (Ba rfl) (Gt (Aj DN rfl) ?_)
   refine AO (AJ (((Ag.l0.comp AI.l1).comp (AQ.ar (n:=9) Ap.fl (by first | omega | exact hb | (dsimp only;omega)))).comp Ap.l3) rfl rfl rfl DJ rfl .h) ?_
   refine Gn (.t5 0 8 44 45 46) ?_
   refine GR (fun _=> .h) (congrArg (fun q=>Ag.enc ⟨q,_,_⟩) (AF.Hp X hx.1 hx.2 1 X.b)) ?_
   refine AK (Gm rfl (Gm rfl ?_))
   refine Ah rfl Ox (.c rfl (.c rfl (.c rfl .n))) (.c .h (.c .h .n)) (D8 _ (X.place ((AF.BT T.w T.seen o.nth o.name o.Bn).getD k.toNat 0) 1 X.b) _ 3 ((AF.BT T.w T.seen o.nth o.name o.Bn).getD k.toNat 0) (by assumption) (show 0≤X.b∧X.b < 6 by rw [hI14];exact hb) hx (show X.out.length≤100000 by omega)) (fun v32 B hv=>?_)
   obtain⟨y33,rfl,y34,rfl⟩:=hv
   refine AT (AB (.t4 0 44 45 46) ?_)
   refine AW (AA (AK ?_))
   refine Gt (Ay rfl rfl (IntWalk.i64_in _ (by first | omega | exact hb.1 | exact hb.2 | (dsimp only;omega)))) ?_
   refine Gm rfl ?_
   refine AT (AB (.t4 0 44 45 46) ?_)
   refine B0 (k+1) _ _ ?_ ?_ (.t4 46 0 44 45) (.refl _)
   · exact⟨by omega,by omega,by rw [hI13,AF.HU hI11 (by omega)],hI14,(by rw [AF.Fk];show((X.out.length+1:Nat):Int)≤_;omega),by assumption,hI17⟩
   · omega
  have c7p:=kz c7
  obtain rfl:k=((AF.BT T.w T.seen o.nth o.name o.Bn).length:Int):=by omega
  rw [AF.J3] at hI13
  refine Bl (AY (AY (Am ?_)))
  refine Bo rfl .n ?_
  intro w1 hS
  have hS:=(hS.perm (Ax.perm (.c .h (.c .h .n)))).A3
  refine⟨_,⟨?gq4,rfl,?hl4,?hB4⟩,hS⟩
  case hB4=>rw [hI13];rfl
  case hl4=>rw [hI13];exact hI16
 have c6p:=kz c6
 rw [y27] at c6
 refine Aa ?_
 refine AB (.t2 0 4) ?_
 refine AA (Gs (Gm rfl (Gt (Av rfl Tryz.underlying169 rfl) (Gm rfl (Gn (.t4 0 44 45 46) (Ak ?_))))))
 refine Bt (.t4 46 0 44 45) ?_
 refine BZ (.t (.t (.t (.t .h)))) ?_
 refine BZ (.t .h) ?_
 refine D1 (fun(k:Int) (X:AF) (h:Hd)=>0≤k∧k≤((AF.BT T.w T.seen o.nth o.name o.Bn).length:Int)∧T.get o=X.DI ((AF.BT T.w T.seen o.nth o.name o.Bn).drop k.toNat)∧X.b=T.b∧(X.out.length:Int)≤T.out.length+2+k∧h.len=X.out.length∧((AF.BT T.w T.seen o.nth o.name o.Bn).length:Int)≤9) (fun(k:Int) (X:AF) (h:Hd)=>(((AF.BT T.w T.seen o.nth o.name o.Bn).length:Int) - k).toNat) (fun(k:Int) (X:AF) (h:Hd)=> [(46, .int .i64 k)]) (fun(k:Int) (X:AF) (h:Hd)=> [Af.box b 163 (Ag.enc ⟨X.w,X.b,h⟩),Af.own h 56 16 (X.out.flatMap Ing.Event.enc)]) (0) (_) (_) ?_ rfl rfl (fun k X h hI1=>?_)
 · exact⟨by omega,by omega,(AX c1).trans (congrArg (fun q=>AF.DI q _) (AX c6)),rfl,by have:=T.IF o.second;(try simp only [AF.CI]);omega,by assumption,by have:=(AF.Ed T.w T.seen o.nth o.name o.Bn).length_le;have:=T.Ix;omega⟩
 obtain⟨hI11,hI12,hI13,hI14,hI15,hI16,hI17⟩:=hI1
 refine Gs (Gt (BC rfl rfl) (AT (AA (Au ?_))))
 refine Gc (fun c8=>?_) (fun c8=>?_)
 ·
  have c8p:=kz c8
  have hx:0≤(AF.BT T.w T.seen o.nth o.name o.Bn).getD k.toNat 0∧(AF.BT T.w T.seen o.nth o.name o.Bn).getD k.toNat 0 < 9:=(fun i hi=>AF.OF (AF.Dw hi)) _ (Bj.E5 (xs:=(AF.BT T.w T.seen o.nth o.name o.Bn)) (i:=k.toNat) (by omega))
  refine Aa ?_
  refine AB (.t4 0 44 45 46) ?_
  refine AA (Au (Ak (Gs ?_)))
  refine Gt (Bs Gr (by decide) (Kn.own .m3) rfl rfl (by omega) (by omega)) ?_
  refine Gt (DP rfl A5 (Kn.own .m3) (by omega)) ?_
  refine Ga rfl (Gn (.t5 0 8 44 45 46) (Gs (Gm rfl (Gm rfl (Gt (Ba rfl) (Gt (Aj BD rfl) (Gt (Aj Cz rfl) ?_)))))))
  refine Gt (AV Gd rfl rfl (by first | omega | exact hb.1 | exact hb.2 | (dsimp only;omega)) (by first | omega | exact hb.1 | exact hb.2 | (dsimp only;omega))) ?_
  refine Ga rfl (Gn (.t6 0 8 9 44 45 46) (Gs (Gm rfl (Gm rfl (Gm rfl (Gt (Ba rfl) (Gt (Aj CW rfl) ?_)))))))
  refine Gt (AG rfl A5 .m0 Ag.l1 rfl rfl) (Gt (Ba rfl) (Gt (Aj Fh rfl) ?_))
  refine AO (AJ (((Ag.l0.comp AI.l1).comp (AQ.ar (n:=9) Ap.fl (by first | omega | exact hb | (dsimp only;omega)))).comp Ap.l2) rfl rfl rfl DJ rfl .h) ?_
  refine Gt (Ba rfl) (Gt (Aj DN rfl) ?_)
  refine AO (AJ (((Ag.l0.comp AI.l1).comp (AQ.ar (n:=9) Ap.fl (by first | omega | exact hb | (dsimp only;omega)))).comp Ap.l3) rfl rfl rfl DJ rfl .h) ?_
  refine Gn (.t5 0 8 44 45 46) ?_
  refine GR (fun _=> .h) (congrArg (fun q=>Ag.enc ⟨q,_,_⟩) (AF.Hp X hx.1 hx.2 1 X.b)) ?_
  refine AK (Gm rfl (Gm rfl ?_))
  refine Ah rfl Ox (.c rfl (.c rfl (.c rfl .n))) (.c .h (.c .h .n)) (D8 _ (X.place ((AF.BT T.w T.seen o.nth o.name o.Bn).getD k.toNat 0) 1 X.b) _ 3 ((AF.BT T.w T.seen o.nth o.name o.Bn).getD k.toNat 0) (by assumption) (show 0≤X.b∧X.b < 6 by rw [hI14];exact hb) hx (show X.out.length≤100000 by omega)) (fun v35 B hv=>?_)
  obtain⟨y36,rfl,y37,rfl⟩:=hv
  refine AT (AB (.t4 0 44 45 46) ?_)
  refine AW (AA (AK ?_))
  refine Gt (Ay rfl rfl (IntWalk.i64_in _ (by first | omega | exact hb.1 | exact hb.2 | (dsimp only;omega)))) ?_
  refine Gm rfl ?_
  refine AT (AB (.t4 0 44 45 46) ?_)
  refine B0 (k+1) _ _ ?_ ?_ (.t4 46 0 44 45) (.refl _)
  · exact⟨by omega,by omega,by rw [hI13,AF.HU hI11 (by omega)],hI14,(by rw [AF.Fk];show((X.out.length+1:Nat):Int)≤_;omega),by assumption,hI17⟩
  · omega
 have c8p:=kz c8
 obtain rfl:k=((AF.BT T.w T.seen o.nth o.name o.Bn).length:Int):=by omega
 rw [AF.J3] at hI13
 refine Bl (AY (AY (Am ?_)))
 refine Bo rfl .n ?_
 intro w1 hS
 have hS:=(hS.perm (Ax.perm (.c .h (.c .h .n)))).A3
 refine⟨_,⟨?gq5,rfl,?hl5,?hB5⟩,hS⟩
 case hB5=>rw [hI13];rfl
 case hl5=>rw [hI13];exact hI16
theorem Ml (X:AI)(i box:Int)(w:World):Ee Tryz.prog 137 #[.agg X.enc.toArray, .int .i64 i, .int .i64 box] w fun v w'=>v = .bool (X.Tt i box)∧B9 w w':=by
 refine Ao [] [] Tryz.func137 rfl rfl rfl (St.start w []) ?_
 refine Gs ?_
 refine B4 rfl rfl rfl (fun b1=>?_)
 refine Ga rfl (Gn (.t3 1 2 3) (CH (Gm rfl (AT (AA (Ak ?_))))))
 refine Bt (.t4 1 7 2 3) ?_
 refine Ho (fun(k:Int) (j:Int)=>0≤k∧k≤10∧X.Tt i box=X.inside box (10 - k).toNat j) (fun(k:Int) (j:Int)=>(10 - k).toNat) (fun(k:Int) (j:Int)=> [(1, .int .i64 j),(7, .int .i64 k)]) (fun(k:Int) (j:Int)=> []) (0) (i) ?_ rfl rfl (fun k j hI1=>?_)
 · exact⟨Int.le_refl _,by omega,rfl⟩
 obtain⟨hI11,hI12,hI13⟩:=hI1
 refine Gs (Gt (BC rfl rfl) (AT (AA (Au ?_))))
 refine Gc (fun c1=>?_) (fun c1=>?_)
 ·
  have c1p:=kz c1
  rw [show(10 - k).toNat=(10 - (k+1)).toNat+1 from by omega,AI.inside] at hI13
  refine Aa ?_
  refine AB (.t4 1 2 3 7) ?_
  refine AA (Au (Ak (CH (Gm rfl (Gm rfl (Gt (Ai rfl rfl) (Gn (.t5 1 2 3 7 11) ?_)))))))
  refine Gc (fun c2=>?_) (fun c2=>?_)
  ·
   refine Gs (Ga rfl (Gn (.t1 6) (Ae (AE (AS (AE (AE ?_)))))))
   refine AS (AE ?_)
   refine AZ rfl (.tmp rfl .n) ?_
   intro w1 hS;refine⟨congrArg Value.bool ?_,hS.Al⟩;rw [hI13];simp only [c1,c2,↓reduceIte,Bool.false_eq_true]
  have c2p:=kz c2
  refine Aa ?_
  refine AB (.t4 1 2 3 7) ?_
  refine AA (CH (Gm rfl (Gt (BC rfl rfl) (Gm rfl (Bf 14 rfl rfl (fun q=>AD rfl) (Bf 14 rfl rfl (fun q=>CO (cF rfl q) rfl) ?_))))))
  refine Gt (BU rfl rfl (fun h=>by rw [h];rfl)) ?_
  refine Gm rfl (Bf 18 rfl rfl (fun q=>AD rfl) (Bf 18 rfl rfl (fun q=>Aj Cz rfl) ?_))
  refine Bf 18 rfl rfl (fun q=>by have q1:=q;(try simp at q1);exact AV Gd (cF rfl q) (cF rfl q) (by omega) (by omega)) ?_
  refine Bf 18 rfl rfl (fun q=>Aj Fh (cF rfl q)) ?_
  refine Bf 18 rfl rfl (fun q=>by have q1:=q;(try simp at q1);exact AG (cF rfl q) A5 .m0 ((AI.l1.comp (AQ.ar (n:=9) Ap.fl (by omega))).comp Ap.l2) rfl rfl) ?_
  refine Bf 18 rfl rfl (fun q=>Cb (cF rfl q) rfl) ?_
  refine Gt (BU rfl rfl (fun h=>by rw [h];rfl)) ?_
  refine Gn (.t5 1 2 3 7 25) ?_
  refine Gc (fun c3=>?_) (fun c3=>?_)
  ·
   refine Gs (Ga rfl (Gn (.t1 6) (Ae (AE (AS (AE (AE ?_)))))))
   refine AS (AE ?_)
   refine AZ rfl (.tmp rfl .n) ?_
   intro w1 hS;refine⟨congrArg Value.bool ?_,hS.Al⟩;rw [hI13];simp only [c1,c2,c3,↓reduceIte,Bool.false_eq_true]
  have c3p:=kz c3
  have h9:0≤j∧j < 9:=by simp at c3;omega
  refine Aa ?_
  refine AB (.t4 1 2 3 7) ?_
  refine AA (AK (Gm rfl (Gt (Aj Cz rfl) ?_)))
  refine Gt (AV Gd rfl rfl (by omega) (by omega)) ?_
  refine Gt (Aj DN rfl) ?_
  refine Gt (AG rfl A5 .m0 ((AI.l1.comp (AQ.ar (n:=9) Ap.fl (by omega))).comp Ap.l3) rfl rfl) ?_
  refine Ga rfl ?_
  refine AT (AB (.t4 1 2 3 7) ?_)
  refine AW (AA (AK ?_))
  refine Gt (Ay rfl rfl (IntWalk.i64_in _ (by omega))) ?_
  refine Gm rfl ?_
  refine AT (AB (.t4 1 2 3 7) ?_)
  refine Dn (k+1) ((X.AP.at j).at_) ?_ ?_ (.t4 1 7 2 3) (.refl _)
  · exact⟨by omega,by omega,by rw [hI13];simp only [c1,c2,c3,↓reduceIte,Bool.false_eq_true]⟩
  · omega
 have c1p:=kz c1
 obtain rfl:k=10:=by omega
 refine Bl (AY (AY (Am ?_)))
 refine AB (.nil _) ?_
 refine AA (Gs (Ga rfl (AT (AA (Ae ?_)))))
 refine AZ rfl (.tmp rfl .n) ?_
 intro w1 hS;refine⟨congrArg Value.bool ?_,hS.Al⟩;rw [hI13];rfl
end Go.Proofs.YtoidpggbbfncpaaGreatDoor

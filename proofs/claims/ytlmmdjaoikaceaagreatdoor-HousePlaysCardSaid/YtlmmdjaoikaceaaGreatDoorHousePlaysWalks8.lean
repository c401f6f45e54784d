/- What the functions that the law HousePlays reaches compute: walks, part 8. No condition. -/
import Derived.Test.YtlmmdjaoikaceaaGreatDoorCards
import Derived.Test.YtlmmdjaoikaceaaGreatDoorTie
import Derived.Deep.DeepHandedRow
import Derived.Test.YtlmmdjaoikaceaaGreatDoorRows
import Derived.Test.YtlmmdjaoikaceaaGreatDoorHousePlaysEc3
import Derived.Test.YtlmmdjaoikaceaaGreatDoorHousePlaysRa1
import Derived.Test.YtlmmdjaoikaceaaGreatDoorHousePlaysRb1
import Derived.Test.YtlmmdjaoikaceaaGreatDoorHousePlaysRc1
import Derived.Test.YtlmmdjaoikaceaaGreatDoorHousePlaysRd1
import Derived.Test.YtlmmdjaoikaceaaGreatDoorHousePlaysWalks
import Derived.Test.YtlmmdjaoikaceaaGreatDoorHousePlaysWalks2
import Derived.Test.YtlmmdjaoikaceaaGreatDoorHousePlaysWalks7
set_option linter.unusedSimpArgs false
set_option linter.unusedVariables false
set_option maxRecDepth 100000
set_option maxHeartbeats 4000000
namespace Go.Proofs.YtlmmdjaoikaceaaGreatDoor
open Go Go.Ing Go.RowKit Go.ChangeShapes Go.WideShapes Go.ChangeAt
theorem G6 (e:Ing.Event)(b:Int)(hs:AD.Small e)(w:World)(gl0:GV 3 EH w)(gl1:GV 0 AD.Be w):Ch Tryz.prog 54 #[.agg e.enc.toArray, .int .i64 b] w fun v w'=>v = .tuple #[Ag (AD.tell e b).1, .bool (AD.tell e b).2]∧BF w w':=by
 refine Rb Tryz.func54 ?_
 refine W ?_
 intro b1
 refine⟨fun c1 c1p=>?_,fun c1 c1p=>?_⟩
 ·
  try dsimp only at c1p
  refine W ?_
  rw [← AD.A1];rw [show AD.B1 e b=_ from AN c1];rfl
 try dsimp only at c1p
 have hr:0≤b∧b < 6:=by simp at c1;omega
 have htl:=hs.AQ
 have hxl:=hs.text
 have hwl:=hs.CS
 have h2l:=AD.L7 hs b
 have h5l:=AD.FB e.dir
 have h6l:=Lib.itoa_length_le e.n hs.n0 hs.n1
 refine W ?_
 intro b2
 refine Gt (Kl J J (show _=AD.MF _ _ from rfl)) ?_
 refine W ?_
 refine⟨fun c2 c2p=>?_,fun c2 c2p=>?_⟩
 ·
  try dsimp only at c2p
  refine W ?_
  refine Gt (Kl J J (show _=AD.MF _ _ from rfl)) ?_
  refine Wv ?_
  refine F2 (Ag) (s:=AD.VB e b) J J J J J ?_
  refine Wv ?_
  refine F2 (Ag) (s:=(AD.Ah e b)) J J J J J ?_
  refine W ?_
  refine Cp (fun w hS=>Fj _ hs.n0 hs.n1 w (gl0.st hS)) ?_
  refine W ?_
  intro b3
  refine⟨fun c3 c3p=>?_,fun c3 c3p=>?_⟩
  ·
   try dsimp only at c3p
   refine W ?_
   refine Cl (.c .h (.c .h .n)) (Ai _ _ _ _ _ _ (by decide) (by decide) (by first | exact hs.CS | decide)) (fun v1 B hv=>?_)
   obtain⟨y2,rfl,y3,y4,rfl⟩:=hv
   refine W ?_
   rw [← AD.A1];subst y3;have hw:AD.Ay e b=AD.BD:=AN c2
   rw [show AD.B1 e b=AD.BA (decide (b=e.Al)) (AD.Ay e b) (AD.Ah e b) (AD.called e.dir) (Lib.itoa e.n) e.AQ e.text e.kind from AB c1,hw,show AD.BA (decide (b=e.Al)) AD.BD (AD.Ah e b) (AD.called e.dir) (Lib.itoa e.n) e.AQ e.text e.kind=_ from(AN c3)];rfl
  try dsimp only at c3p
  refine W ?_
  refine⟨fun c4 c4p=>?_,fun c4 c4p=>?_⟩
  ·
   try dsimp only at c4p
   refine W ?_
   refine⟨fun c5 c5p=>?_,fun c5 c5p=>?_⟩
   ·
    try dsimp only at c5p
    refine W ?_
    rw [← AD.A1];have hw:AD.Ay e b=AD.BD:=AN c2
    rw [show AD.B1 e b=AD.BA (decide (b=e.Al)) (AD.Ay e b) (AD.Ah e b) (AD.called e.dir) (Lib.itoa e.n) e.AQ e.text e.kind from AB c1,hw,show AD.BA (decide (b=e.Al)) AD.BD (AD.Ah e b) (AD.called e.dir) (Lib.itoa e.n) e.AQ e.text e.kind=_ from((AB c3).trans ((AN c4).trans (AN c5)))];rfl
   try dsimp only at c5p
   refine W ?_
   rw [← AD.A1];have hw:AD.Ay e b=AD.BD:=AN c2
   rw [show AD.B1 e b=AD.BA (decide (b=e.Al)) (AD.Ay e b) (AD.Ah e b) (AD.called e.dir) (Lib.itoa e.n) e.AQ e.text e.kind from AB c1,hw,show AD.BA (decide (b=e.Al)) AD.BD (AD.Ah e b) (AD.called e.dir) (Lib.itoa e.n) e.AQ e.text e.kind=_ from((AB c3).trans ((AN c4).trans (AB c5)))];rfl
  try dsimp only at c4p
  refine W ?_
  refine⟨fun c6 c6p=>?_,fun c6 c6p=>?_⟩
  ·
   try dsimp only at c6p
   refine W ?_
   refine Cl (.c .h (.c .h .n)) (Ai _ _ _ _ _ _ (by decide) (by decide) (by first | exact hs.CS | decide)) (fun v5 B hv=>?_)
   obtain⟨y6,rfl,y7,y8,rfl⟩:=hv
   refine W ?_
   refine Cl (.c .h (.c (.t .h) .n)) (As _ _ _ _ hs) (fun v9 B hv=>?_)
   obtain⟨y10,rfl,y11,y12,rfl⟩:=hv
   refine W ?_
   rw [← AD.A1];subst y7;subst y11;have hw:AD.Ay e b=AD.BD:=AN c2
   rw [show AD.B1 e b=AD.BA (decide (b=e.Al)) (AD.Ay e b) (AD.Ah e b) (AD.called e.dir) (Lib.itoa e.n) e.AQ e.text e.kind from AB c1,hw,show AD.BA (decide (b=e.Al)) AD.BD (AD.Ah e b) (AD.called e.dir) (Lib.itoa e.n) e.AQ e.text e.kind=_ from((AB c3).trans ((AB c4).trans (AN c6)))];rfl
  try dsimp only at c6p
  refine W ?_
  refine⟨fun c7 c7p=>?_,fun c7 c7p=>?_⟩
  ·
   try dsimp only at c7p
   refine W ?_
   refine Cl (.c .h (.c .h .n)) (Ai _ _ _ _ _ _ (by decide) (by decide) (by first | exact hs.CS | decide)) (fun v13 B hv=>?_)
   obtain⟨y14,rfl,y15,y16,rfl⟩:=hv
   refine W ?_
   refine Cl (.c .h (.c (.t .h) .n)) (As _ _ _ _ hs) (fun v17 B hv=>?_)
   obtain⟨y18,rfl,y19,y20,rfl⟩:=hv
   refine W ?_
   rw [← AD.A1];subst y15;subst y19;have hw:AD.Ay e b=AD.BD:=AN c2
   rw [show AD.B1 e b=AD.BA (decide (b=e.Al)) (AD.Ay e b) (AD.Ah e b) (AD.called e.dir) (Lib.itoa e.n) e.AQ e.text e.kind from AB c1,hw,show AD.BA (decide (b=e.Al)) AD.BD (AD.Ah e b) (AD.called e.dir) (Lib.itoa e.n) e.AQ e.text e.kind=_ from((AB c3).trans ((AB c4).trans ((AB c6).trans (AN c7))))];rfl
  try dsimp only at c7p
  refine W ?_
  refine⟨fun c8 c8p=>?_,fun c8 c8p=>?_⟩
  ·
   try dsimp only at c8p
   refine W ?_
   refine⟨fun c9 c9p=>?_,fun c9 c9p=>?_⟩
   ·
    try dsimp only at c9p
    refine W ?_
    refine Cl (.c .h (.c .h .n)) (Ai _ _ _ _ _ _ (by decide) (by decide) (by first | exact hs.CS | decide)) (fun v21 B hv=>?_)
    obtain⟨y22,rfl,y23,y24,rfl⟩:=hv
    refine W ?_
    refine Cl (.c .h (.c (.t .h) .n)) (As _ _ _ _ hs) (fun v25 B hv=>?_)
    obtain⟨y26,rfl,y27,y28,rfl⟩:=hv
    refine W ?_
    rw [← AD.A1];subst y23;subst y27;have hw:AD.Ay e b=AD.BD:=AN c2
    rw [show AD.B1 e b=AD.BA (decide (b=e.Al)) (AD.Ay e b) (AD.Ah e b) (AD.called e.dir) (Lib.itoa e.n) e.AQ e.text e.kind from AB c1,hw,show AD.BA (decide (b=e.Al)) AD.BD (AD.Ah e b) (AD.called e.dir) (Lib.itoa e.n) e.AQ e.text e.kind=_ from((AB c3).trans ((AB c4).trans ((AB c6).trans ((AB c7).trans (AN c8))))),show AD.Bk (decide (b=e.Al)) e.text=_ from AN c9];rfl
   try dsimp only at c9p
   refine W ?_
   refine Cl (.c .h (.c .h .n)) (Ai _ _ _ _ _ _ (by decide) (by decide) (by first | exact hs.CS | decide)) (fun v29 B hv=>?_)
   obtain⟨y30,rfl,y31,y32,rfl⟩:=hv
   refine W ?_
   refine Cl (.c .h (.c (.t .h) .n)) (As _ _ _ _ hs) (fun v33 B hv=>?_)
   obtain⟨y34,rfl,y35,y36,rfl⟩:=hv
   refine W ?_
   rw [← AD.A1];subst y31;subst y35;have hw:AD.Ay e b=AD.BD:=AN c2
   rw [show AD.B1 e b=AD.BA (decide (b=e.Al)) (AD.Ay e b) (AD.Ah e b) (AD.called e.dir) (Lib.itoa e.n) e.AQ e.text e.kind from AB c1,hw,show AD.BA (decide (b=e.Al)) AD.BD (AD.Ah e b) (AD.called e.dir) (Lib.itoa e.n) e.AQ e.text e.kind=_ from((AB c3).trans ((AB c4).trans ((AB c6).trans ((AB c7).trans (AN c8))))),show AD.Bk (decide (b=e.Al)) e.text=_ from AB c9];rfl
  try dsimp only at c8p
  refine W ?_
  refine⟨fun c10 c10p=>?_,fun c10 c10p=>?_⟩
  ·
   try dsimp only at c10p
   refine W ?_
   refine Cl (.c .h (.c .h .n)) (Ai _ _ _ _ _ _ (by decide) (by decide) (by first | exact hs.CS | decide)) (fun v37 B hv=>?_)
   obtain⟨y38,rfl,y39,y40,rfl⟩:=hv
   refine W ?_
   refine Cl (.c .h (.c (.t .h) .n)) (As _ _ _ _ hs) (fun v41 B hv=>?_)
   obtain⟨y42,rfl,y43,y44,rfl⟩:=hv
   refine W ?_
   rw [← AD.A1];subst y39;subst y43;have hw:AD.Ay e b=AD.BD:=AN c2
   rw [show AD.B1 e b=AD.BA (decide (b=e.Al)) (AD.Ay e b) (AD.Ah e b) (AD.called e.dir) (Lib.itoa e.n) e.AQ e.text e.kind from AB c1,hw,show AD.BA (decide (b=e.Al)) AD.BD (AD.Ah e b) (AD.called e.dir) (Lib.itoa e.n) e.AQ e.text e.kind=_ from((AB c3).trans ((AB c4).trans ((AB c6).trans ((AB c7).trans ((AB c8).trans (AN c10))))))];rfl
  try dsimp only at c10p
  refine W ?_
  refine⟨fun c11 c11p=>?_,fun c11 c11p=>?_⟩
  ·
   try dsimp only at c11p
   refine W ?_
   refine Cl (.c .h (.c .h .n)) (Ai _ _ _ _ _ _ (by decide) (by decide) (by first | exact hs.CS | decide)) (fun v45 B hv=>?_)
   obtain⟨y46,rfl,y47,y48,rfl⟩:=hv
   refine W ?_
   rw [← AD.A1];subst y47;have hw:AD.Ay e b=AD.BD:=AN c2
   rw [show AD.B1 e b=AD.BA (decide (b=e.Al)) (AD.Ay e b) (AD.Ah e b) (AD.called e.dir) (Lib.itoa e.n) e.AQ e.text e.kind from AB c1,hw,show AD.BA (decide (b=e.Al)) AD.BD (AD.Ah e b) (AD.called e.dir) (Lib.itoa e.n) e.AQ e.text e.kind=_ from((AB c3).trans ((AB c4).trans ((AB c6).trans ((AB c7).trans ((AB c8).trans ((AB c10).trans (AN c11)))))))];rfl
  try dsimp only at c11p
  refine W ?_
  refine⟨fun c12 c12p=>?_,fun c12 c12p=>?_⟩
  ·
   try dsimp only at c12p
   refine W ?_
   refine Cl (.c .h (.c .h .n)) (Ai _ _ _ _ _ _ (by decide) (by decide) (by first | exact hs.CS | decide)) (fun v49 B hv=>?_)
   obtain⟨y50,rfl,y51,y52,rfl⟩:=hv
   refine W ?_
   refine Cl (.c .h (.c (.t .h) .n)) (As _ _ _ _ hs) (fun v53 B hv=>?_)
   obtain⟨y54,rfl,y55,y56,rfl⟩:=hv
   refine W ?_
   rw [← AD.A1];subst y51;subst y55;have hw:AD.Ay e b=AD.BD:=AN c2
   rw [show AD.B1 e b=AD.BA (decide (b=e.Al)) (AD.Ay e b) (AD.Ah e b) (AD.called e.dir) (Lib.itoa e.n) e.AQ e.text e.kind from AB c1,hw,show AD.BA (decide (b=e.Al)) AD.BD (AD.Ah e b) (AD.called e.dir) (Lib.itoa e.n) e.AQ e.text e.kind=_ from((AB c3).trans ((AB c4).trans ((AB c6).trans ((AB c7).trans ((AB c8).trans ((AB c10).trans ((AB c11).trans (AN c12))))))))];rfl
  try dsimp only at c12p
  refine W ?_
  refine⟨fun c13 c13p=>?_,fun c13 c13p=>?_⟩
  ·
   try dsimp only at c13p
   refine W ?_
   refine Cl (.c .h (.c .h .n)) (Ai _ _ _ _ _ _ (by decide) (by decide) (by first | exact hs.CS | decide)) (fun v57 B hv=>?_)
   obtain⟨y58,rfl,y59,y60,rfl⟩:=hv
   refine W ?_
   refine Cl (.c .h (.c (.t .h) .n)) (As _ _ _ _ hs) (fun v61 B hv=>?_)
   obtain⟨y62,rfl,y63,y64,rfl⟩:=hv
   refine W ?_
   rw [← AD.A1];subst y59;subst y63;have hw:AD.Ay e b=AD.BD:=AN c2
   rw [show AD.B1 e b=AD.BA (decide (b=e.Al)) (AD.Ay e b) (AD.Ah e b) (AD.called e.dir) (Lib.itoa e.n) e.AQ e.text e.kind from AB c1,hw,show AD.BA (decide (b=e.Al)) AD.BD (AD.Ah e b) (AD.called e.dir) (Lib.itoa e.n) e.AQ e.text e.kind=_ from((AB c3).trans ((AB c4).trans ((AB c6).trans ((AB c7).trans ((AB c8).trans ((AB c10).trans ((AB c11).trans ((AB c12).trans (AN c13)))))))))];rfl
  try dsimp only at c13p
  refine W ?_
  refine⟨fun c14 c14p=>?_,fun c14 c14p=>?_⟩
  ·
   try dsimp only at c14p
   refine W ?_
   refine Cl (.c .h (.c .h .n)) (Ai _ _ _ _ _ _ (by decide) (by decide) (by first | exact hs.CS | decide)) (fun v65 B hv=>?_)
   obtain⟨y66,rfl,y67,y68,rfl⟩:=hv
   refine W ?_
   refine Cl (.c .h (.c (.t .h) .n)) (As _ _ _ _ hs) (fun v69 B hv=>?_)
   obtain⟨y70,rfl,y71,y72,rfl⟩:=hv
   refine W ?_
   rw [← AD.A1];subst y67;subst y71;have hw:AD.Ay e b=AD.BD:=AN c2
   rw [show AD.B1 e b=AD.BA (decide (b=e.Al)) (AD.Ay e b) (AD.Ah e b) (AD.called e.dir) (Lib.itoa e.n) e.AQ e.text e.kind from AB c1,hw,show AD.BA (decide (b=e.Al)) AD.BD (AD.Ah e b) (AD.called e.dir) (Lib.itoa e.n) e.AQ e.text e.kind=_ from((AB c3).trans ((AB c4).trans ((AB c6).trans ((AB c7).trans ((AB c8).trans ((AB c10).trans ((AB c11).trans ((AB c12).trans ((AB c13).trans (AN c14))))))))))];rfl
  try dsimp only at c14p
  refine W ?_
  refine⟨fun c15 c15p=>?_,fun c15 c15p=>?_⟩
  ·
   try dsimp only at c15p
   refine W ?_
   refine Cl (.c .h (.c .h .n)) (Ai _ _ _ _ _ _ (by decide) (by decide) (by first | exact hs.CS | decide)) (fun v73 B hv=>?_)
   obtain⟨y74,rfl,y75,y76,rfl⟩:=hv
   refine W ?_
   refine Cl (.c .h (.c (.t .h) .n)) (As _ _ _ _ hs) (fun v77 B hv=>?_)
   obtain⟨y78,rfl,y79,y80,rfl⟩:=hv
   refine W ?_
   rw [← AD.A1];subst y75;subst y79;have hw:AD.Ay e b=AD.BD:=AN c2
   rw [show AD.B1 e b=AD.BA (decide (b=e.Al)) (AD.Ay e b) (AD.Ah e b) (AD.called e.dir) (Lib.itoa e.n) e.AQ e.text e.kind from AB c1,hw,show AD.BA (decide (b=e.Al)) AD.BD (AD.Ah e b) (AD.called e.dir) (Lib.itoa e.n) e.AQ e.text e.kind=_ from((AB c3).trans ((AB c4).trans ((AB c6).trans ((AB c7).trans ((AB c8).trans ((AB c10).trans ((AB c11).trans ((AB c12).trans ((AB c13).trans ((AB c14).trans (AN c15)))))))))))];rfl
  try dsimp only at c15p
  refine W ?_
  refine⟨fun c16 c16p=>?_,fun c16 c16p=>?_⟩
  ·
   try dsimp only at c16p
   refine W ?_
   refine Cl (.c .h (.c .h .n)) (Ai _ _ _ _ _ _ (by decide) (by decide) (by first | exact hs.CS | decide)) (fun v81 B hv=>?_)
   obtain⟨y82,rfl,y83,y84,rfl⟩:=hv
   refine W ?_
   refine Cl (.c .h (.c (.t .h) .n)) (As _ _ _ _ hs) (fun v85 B hv=>?_)
   obtain⟨y86,rfl,y87,y88,rfl⟩:=hv
   refine W ?_
   rw [← AD.A1];subst y83;subst y87;have hw:AD.Ay e b=AD.BD:=AN c2
   rw [show AD.B1 e b=AD.BA (decide (b=e.Al)) (AD.Ay e b) (AD.Ah e b) (AD.called e.dir) (Lib.itoa e.n) e.AQ e.text e.kind from AB c1,hw,show AD.BA (decide (b=e.Al)) AD.BD (AD.Ah e b) (AD.called e.dir) (Lib.itoa e.n) e.AQ e.text e.kind=_ from((AB c3).trans ((AB c4).trans ((AB c6).trans ((AB c7).trans ((AB c8).trans ((AB c10).trans ((AB c11).trans ((AB c12).trans ((AB c13).trans ((AB c14).trans ((AB c15).trans (AN c16))))))))))))];rfl
  try dsimp only at c16p
  refine W ?_
  refine⟨fun c17 c17p=>?_,fun c17 c17p=>?_⟩
  ·
   try dsimp only at c17p
   refine W ?_
   refine Cl (.c .h (.c .h .n)) (Ai _ _ _ _ _ _ (by decide) (by decide) (by first | exact hs.CS | decide)) (fun v89 B hv=>?_)
   obtain⟨y90,rfl,y91,y92,rfl⟩:=hv
   refine W ?_
   refine Cl (.c .h (.c (.t .h) .n)) (As _ _ _ _ hs) (fun v93 B hv=>?_)
   obtain⟨y94,rfl,y95,y96,rfl⟩:=hv
   refine W ?_
   rw [← AD.A1];subst y91;subst y95;have hw:AD.Ay e b=AD.BD:=AN c2
   rw [show AD.B1 e b=AD.BA (decide (b=e.Al)) (AD.Ay e b) (AD.Ah e b) (AD.called e.dir) (Lib.itoa e.n) e.AQ e.text e.kind from AB c1,hw,show AD.BA (decide (b=e.Al)) AD.BD (AD.Ah e b) (AD.called e.dir) (Lib.itoa e.n) e.AQ e.text e.kind=_ from((AB c3).trans ((AB c4).trans ((AB c6).trans ((AB c7).trans ((AB c8).trans ((AB c10).trans ((AB c11).trans ((AB c12).trans ((AB c13).trans ((AB c14).trans ((AB c15).trans ((AB c16).trans (AN c17)))))))))))))];rfl
  try dsimp only at c17p
  refine W ?_
  refine⟨fun c18 c18p=>?_,fun c18 c18p=>?_⟩
  ·
   try dsimp only at c18p
   refine W ?_
   refine Cl (.c .h (.c .h .n)) (Ai _ _ _ _ _ _ (by decide) (by decide) (by first | exact hs.CS | decide)) (fun v97 B hv=>?_)
   obtain⟨y98,rfl,y99,y100,rfl⟩:=hv
   refine W ?_
   rw [← AD.A1];subst y99;have hw:AD.Ay e b=AD.BD:=AN c2
   rw [show AD.B1 e b=AD.BA (decide (b=e.Al)) (AD.Ay e b) (AD.Ah e b) (AD.called e.dir) (Lib.itoa e.n) e.AQ e.text e.kind from AB c1,hw,show AD.BA (decide (b=e.Al)) AD.BD (AD.Ah e b) (AD.called e.dir) (Lib.itoa e.n) e.AQ e.text e.kind=_ from((AB c3).trans ((AB c4).trans ((AB c6).trans ((AB c7).trans ((AB c8).trans ((AB c10).trans ((AB c11).trans ((AB c12).trans ((AB c13).trans ((AB c14).trans ((AB c15).trans ((AB c16).trans ((AB c17).trans (AN c18))))))))))))))];rfl
  try dsimp only at c18p
  refine W ?_
  refine⟨fun c19 c19p=>?_,fun c19 c19p=>?_⟩
  ·
   try dsimp only at c19p
   refine Wv ?_
   refine F2 (Ag) (s:=_) J J J J J ?_
   refine W ?_
   rw [← AD.A1];have hw:AD.Ay e b=AD.BD:=AN c2
   rw [show AD.B1 e b=AD.BA (decide (b=e.Al)) (AD.Ay e b) (AD.Ah e b) (AD.called e.dir) (Lib.itoa e.n) e.AQ e.text e.kind from AB c1,hw,show AD.BA (decide (b=e.Al)) AD.BD (AD.Ah e b) (AD.called e.dir) (Lib.itoa e.n) e.AQ e.text e.kind=_ from((AB c3).trans ((AB c4).trans ((AB c6).trans ((AB c7).trans ((AB c8).trans ((AB c10).trans ((AB c11).trans ((AB c12).trans ((AB c13).trans ((AB c14).trans ((AB c15).trans ((AB c16).trans ((AB c17).trans ((AB c18).trans (AN c19)))))))))))))))];rfl
  try dsimp only at c19p
  refine W ?_
  refine⟨fun c20 c20p=>?_,fun c20 c20p=>?_⟩
  ·
   try dsimp only at c20p
   refine W ?_
   refine⟨fun c21 c21p=>?_,fun c21 c21p=>?_⟩
   ·
    try dsimp only at c21p
    refine W ?_
    rw [← AD.A1];have hw:AD.Ay e b=AD.BD:=AN c2
    rw [show AD.B1 e b=AD.BA (decide (b=e.Al)) (AD.Ay e b) (AD.Ah e b) (AD.called e.dir) (Lib.itoa e.n) e.AQ e.text e.kind from AB c1,hw,show AD.BA (decide (b=e.Al)) AD.BD (AD.Ah e b) (AD.called e.dir) (Lib.itoa e.n) e.AQ e.text e.kind=_ from((AB c3).trans ((AB c4).trans ((AB c6).trans ((AB c7).trans ((AB c8).trans ((AB c10).trans ((AB c11).trans ((AB c12).trans ((AB c13).trans ((AB c14).trans ((AB c15).trans ((AB c16).trans ((AB c17).trans ((AB c18).trans ((AB c19).trans ((AN c20).trans (AN c21)))))))))))))))))];rfl
   try dsimp only at c21p
   refine W ?_
   rw [← AD.A1];have hw:AD.Ay e b=AD.BD:=AN c2
   rw [show AD.B1 e b=AD.BA (decide (b=e.Al)) (AD.Ay e b) (AD.Ah e b) (AD.called e.dir) (Lib.itoa e.n) e.AQ e.text e.kind from AB c1,hw,show AD.BA (decide (b=e.Al)) AD.BD (AD.Ah e b) (AD.called e.dir) (Lib.itoa e.n) e.AQ e.text e.kind=_ from((AB c3).trans ((AB c4).trans ((AB c6).trans ((AB c7).trans ((AB c8).trans ((AB c10).trans ((AB c11).trans ((AB c12).trans ((AB c13).trans ((AB c14).trans ((AB c15).trans ((AB c16).trans ((AB c17).trans ((AB c18).trans ((AB c19).trans ((AN c20).trans (AB c21)))))))))))))))))];rfl
  try dsimp only at c20p
  refine W ?_
  refine⟨fun c22 c22p=>?_,fun c22 c22p=>?_⟩
  ·
   try dsimp only at c22p
   refine Wv ?_
   refine F2 (Ag) (s:=_) J J J J J ?_
   refine W ?_
   rw [← AD.A1];have hw:AD.Ay e b=AD.BD:=AN c2
   rw [show AD.B1 e b=AD.BA (decide (b=e.Al)) (AD.Ay e b) (AD.Ah e b) (AD.called e.dir) (Lib.itoa e.n) e.AQ e.text e.kind from AB c1,hw,show AD.BA (decide (b=e.Al)) AD.BD (AD.Ah e b) (AD.called e.dir) (Lib.itoa e.n) e.AQ e.text e.kind=_ from((AB c3).trans ((AB c4).trans ((AB c6).trans ((AB c7).trans ((AB c8).trans ((AB c10).trans ((AB c11).trans ((AB c12).trans ((AB c13).trans ((AB c14).trans ((AB c15).trans ((AB c16).trans ((AB c17).trans ((AB c18).trans ((AB c19).trans ((AB c20).trans (AN c22)))))))))))))))))];rfl
  try dsimp only at c22p
  refine W ?_
  refine⟨fun c23 c23p=>?_,fun c23 c23p=>?_⟩
  ·
   try dsimp only at c23p
   refine W ?_
   refine⟨fun c24 c24p=>?_,fun c24 c24p=>?_⟩
   ·
    try dsimp only at c24p
    refine W ?_
    rw [← AD.A1];have hw:AD.Ay e b=AD.BD:=AN c2
    rw [show AD.B1 e b=AD.BA (decide (b=e.Al)) (AD.Ay e b) (AD.Ah e b) (AD.called e.dir) (Lib.itoa e.n) e.AQ e.text e.kind from AB c1,hw,show AD.BA (decide (b=e.Al)) AD.BD (AD.Ah e b) (AD.called e.dir) (Lib.itoa e.n) e.AQ e.text e.kind=_ from((AB c3).trans ((AB c4).trans ((AB c6).trans ((AB c7).trans ((AB c8).trans ((AB c10).trans ((AB c11).trans ((AB c12).trans ((AB c13).trans ((AB c14).trans ((AB c15).trans ((AB c16).trans ((AB c17).trans ((AB c18).trans ((AB c19).trans ((AB c20).trans ((AB c22).trans ((AN c23).trans (AN c24)))))))))))))))))))];rfl
   try dsimp only at c24p
   refine W ?_
   rw [← AD.A1];have hw:AD.Ay e b=AD.BD:=AN c2
   rw [show AD.B1 e b=AD.BA (decide (b=e.Al)) (AD.Ay e b) (AD.Ah e b) (AD.called e.dir) (Lib.itoa e.n) e.AQ e.text e.kind from AB c1,hw,show AD.BA (decide (b=e.Al)) AD.BD (AD.Ah e b) (AD.called e.dir) (Lib.itoa e.n) e.AQ e.text e.kind=_ from((AB c3).trans ((AB c4).trans ((AB c6).trans ((AB c7).trans ((AB c8).trans ((AB c10).trans ((AB c11).trans ((AB c12).trans ((AB c13).trans ((AB c14).trans ((AB c15).trans ((AB c16).trans ((AB c17).trans ((AB c18).trans ((AB c19).trans ((AB c20).trans ((AB c22).trans ((AN c23).trans (AB c24)))))))))))))))))))];rfl
  try dsimp only at c23p
  refine W ?_
  rw [← AD.A1];have hw:AD.Ay e b=AD.BD:=AN c2
  rw [show AD.B1 e b=AD.BA (decide (b=e.Al)) (AD.Ay e b) (AD.Ah e b) (AD.called e.dir) (Lib.itoa e.n) e.AQ e.text e.kind from AB c1,hw,show AD.BA (decide (b=e.Al)) AD.BD (AD.Ah e b) (AD.called e.dir) (Lib.itoa e.n) e.AQ e.text e.kind=_ from((AB c3).trans ((AB c4).trans ((AB c6).trans ((AB c7).trans ((AB c8).trans ((AB c10).trans ((AB c11).trans ((AB c12).trans ((AB c13).trans ((AB c14).trans ((AB c15).trans ((AB c16).trans ((AB c17).trans ((AB c18).trans ((AB c19).trans ((AB c20).trans ((AB c22).trans (AB c23))))))))))))))))))];rfl
 try dsimp only at c2p
 refine W ?_
 refine Gt (Kl J J (show _=AD.MF _ _ from rfl)) ?_
 refine Wv ?_
 refine F2 (Ag) (s:=AD.VB e b) J J J J J ?_
 refine Wv ?_
 refine F2 (Ag) (s:=(AD.Ah e b)) J J J J J ?_
 refine W ?_
 refine Cp (fun w hS=>Fj _ hs.n0 hs.n1 w (gl0.st hS)) ?_
 refine W ?_
 intro b4
 refine⟨fun c25 c25p=>?_,fun c25 c25p=>?_⟩
 ·
  try dsimp only at c25p
  refine W ?_
  refine Cl (.c .h (.c .h .n)) (Ai _ _ _ _ _ _ (by decide) (by decide) (by first | exact hs.CS | decide)) (fun v101 B hv=>?_)
  obtain⟨y102,rfl,y103,y104,rfl⟩:=hv
  refine W ?_
  rw [← AD.A1];subst y103;have hw:AD.Ay e b=e.CS:=AB c2
  rw [show AD.B1 e b=AD.BA (decide (b=e.Al)) (AD.Ay e b) (AD.Ah e b) (AD.called e.dir) (Lib.itoa e.n) e.AQ e.text e.kind from AB c1,hw,show AD.BA (decide (b=e.Al)) e.CS (AD.Ah e b) (AD.called e.dir) (Lib.itoa e.n) e.AQ e.text e.kind=_ from(AN c25)];rfl
 try dsimp only at c25p
 refine W ?_
 refine⟨fun c26 c26p=>?_,fun c26 c26p=>?_⟩
 ·
  try dsimp only at c26p
  refine W ?_
  refine⟨fun c27 c27p=>?_,fun c27 c27p=>?_⟩
  ·
   try dsimp only at c27p
   refine W ?_
   rw [← AD.A1];have hw:AD.Ay e b=e.CS:=AB c2
   rw [show AD.B1 e b=AD.BA (decide (b=e.Al)) (AD.Ay e b) (AD.Ah e b) (AD.called e.dir) (Lib.itoa e.n) e.AQ e.text e.kind from AB c1,hw,show AD.BA (decide (b=e.Al)) e.CS (AD.Ah e b) (AD.called e.dir) (Lib.itoa e.n) e.AQ e.text e.kind=_ from((AB c25).trans ((AN c26).trans (AN c27)))];rfl
  try dsimp only at c27p
  refine W ?_
  rw [← AD.A1];have hw:AD.Ay e b=e.CS:=AB c2
  rw [show AD.B1 e b=AD.BA (decide (b=e.Al)) (AD.Ay e b) (AD.Ah e b) (AD.called e.dir) (Lib.itoa e.n) e.AQ e.text e.kind from AB c1,hw,show AD.BA (decide (b=e.Al)) e.CS (AD.Ah e b) (AD.called e.dir) (Lib.itoa e.n) e.AQ e.text e.kind=_ from((AB c25).trans ((AN c26).trans (AB c27)))];rfl
 try dsimp only at c26p
 refine W ?_
 refine⟨fun c28 c28p=>?_,fun c28 c28p=>?_⟩
 ·
  try dsimp only at c28p
  refine W ?_
  refine Cl (.c .h (.c .h .n)) (Ai _ _ _ _ _ _ (by decide) (by decide) (by first | exact hs.CS | decide)) (fun v105 B hv=>?_)
  obtain⟨y106,rfl,y107,y108,rfl⟩:=hv
  refine W ?_
  refine Cl (.c .h (.c (.t .h) .n)) (As _ _ _ _ hs) (fun v109 B hv=>?_)
  obtain⟨y110,rfl,y111,y112,rfl⟩:=hv
  refine W ?_
  rw [← AD.A1];subst y107;subst y111;have hw:AD.Ay e b=e.CS:=AB c2
  rw [show AD.B1 e b=AD.BA (decide (b=e.Al)) (AD.Ay e b) (AD.Ah e b) (AD.called e.dir) (Lib.itoa e.n) e.AQ e.text e.kind from AB c1,hw,show AD.BA (decide (b=e.Al)) e.CS (AD.Ah e b) (AD.called e.dir) (Lib.itoa e.n) e.AQ e.text e.kind=_ from((AB c25).trans ((AB c26).trans (AN c28)))];rfl
 try dsimp only at c28p
 refine W ?_
 refine⟨fun c29 c29p=>?_,fun c29 c29p=>?_⟩
 ·
  try dsimp only at c29p
  refine W ?_
  refine Cl (.c .h (.c .h .n)) (Ai _ _ _ _ _ _ (by decide) (by decide) (by first | exact hs.CS | decide)) (fun v113 B hv=>?_)
  obtain⟨y114,rfl,y115,y116,rfl⟩:=hv
  refine W ?_
  refine Cl (.c .h (.c (.t .h) .n)) (As _ _ _ _ hs) (fun v117 B hv=>?_)
  obtain⟨y118,rfl,y119,y120,rfl⟩:=hv
  refine W ?_
  rw [← AD.A1];subst y115;subst y119;have hw:AD.Ay e b=e.CS:=AB c2
  rw [show AD.B1 e b=AD.BA (decide (b=e.Al)) (AD.Ay e b) (AD.Ah e b) (AD.called e.dir) (Lib.itoa e.n) e.AQ e.text e.kind from AB c1,hw,show AD.BA (decide (b=e.Al)) e.CS (AD.Ah e b) (AD.called e.dir) (Lib.itoa e.n) e.AQ e.text e.kind=_ from((AB c25).trans ((AB c26).trans ((AB c28).trans (AN c29))))];rfl
 try dsimp only at c29p
 refine W ?_
 refine⟨fun c30 c30p=>?_,fun c30 c30p=>?_⟩
 ·
  try dsimp only at c30p
  refine W ?_
  refine⟨fun c31 c31p=>?_,fun c31 c31p=>?_⟩
  ·
   try dsimp only at c31p
   refine W ?_
   refine Cl (.c .h (.c .h .n)) (Ai _ _ _ _ _ _ (by decide) (by decide) (by first | exact hs.CS | decide)) (fun v121 B hv=>?_)
   obtain⟨y122,rfl,y123,y124,rfl⟩:=hv
   refine W ?_
   refine Cl (.c .h (.c (.t .h) .n)) (As _ _ _ _ hs) (fun v125 B hv=>?_)
   obtain⟨y126,rfl,y127,y128,rfl⟩:=hv
   refine W ?_
   rw [← AD.A1];subst y123;subst y127;have hw:AD.Ay e b=e.CS:=AB c2
   rw [show AD.B1 e b=AD.BA (decide (b=e.Al)) (AD.Ay e b) (AD.Ah e b) (AD.called e.dir) (Lib.itoa e.n) e.AQ e.text e.kind from AB c1,hw,show AD.BA (decide (b=e.Al)) e.CS (AD.Ah e b) (AD.called e.dir) (Lib.itoa e.n) e.AQ e.text e.kind=_ from((AB c25).trans ((AB c26).trans ((AB c28).trans ((AB c29).trans (AN c30))))),show AD.Bk (decide (b=e.Al)) e.text=_ from AN c31];rfl
  try dsimp only at c31p
  refine W ?_
  refine Cl (.c .h (.c .h .n)) (Ai _ _ _ _ _ _ (by decide) (by decide) (by first | exact hs.CS | decide)) (fun v129 B hv=>?_)
  obtain⟨y130,rfl,y131,y132,rfl⟩:=hv
  refine W ?_
  refine Cl (.c .h (.c (.t .h) .n)) (As _ _ _ _ hs) (fun v133 B hv=>?_)
  obtain⟨y134,rfl,y135,y136,rfl⟩:=hv
  refine W ?_
  rw [← AD.A1];subst y131;subst y135;have hw:AD.Ay e b=e.CS:=AB c2
  rw [show AD.B1 e b=AD.BA (decide (b=e.Al)) (AD.Ay e b) (AD.Ah e b) (AD.called e.dir) (Lib.itoa e.n) e.AQ e.text e.kind from AB c1,hw,show AD.BA (decide (b=e.Al)) e.CS (AD.Ah e b) (AD.called e.dir) (Lib.itoa e.n) e.AQ e.text e.kind=_ from((AB c25).trans ((AB c26).trans ((AB c28).trans ((AB c29).trans (AN c30))))),show AD.Bk (decide (b=e.Al)) e.text=_ from AB c31];rfl
 try dsimp only at c30p
 refine W ?_
 refine⟨fun Qw c32p=>?_,fun Qw c32p=>?_⟩
 ·
  try dsimp only at c32p
  refine W ?_
  refine Cl (.c .h (.c .h .n)) (Ai _ _ _ _ _ _ (by decide) (by decide) (by first | exact hs.CS | decide)) (fun v137 B hv=>?_)
  obtain⟨y138,rfl,y139,y140,rfl⟩:=hv
  refine W ?_
  refine Cl (.c .h (.c (.t .h) .n)) (As _ _ _ _ hs) (fun v141 B hv=>?_)
  obtain⟨y142,rfl,y143,y144,rfl⟩:=hv
  refine W ?_
  rw [← AD.A1];subst y139;subst y143;have hw:AD.Ay e b=e.CS:=AB c2
  rw [show AD.B1 e b=AD.BA (decide (b=e.Al)) (AD.Ay e b) (AD.Ah e b) (AD.called e.dir) (Lib.itoa e.n) e.AQ e.text e.kind from AB c1,hw,show AD.BA (decide (b=e.Al)) e.CS (AD.Ah e b) (AD.called e.dir) (Lib.itoa e.n) e.AQ e.text e.kind=_ from((AB c25).trans ((AB c26).trans ((AB c28).trans ((AB c29).trans ((AB c30).trans (AN Qw))))))];rfl
 try dsimp only at c32p
 refine W ?_
 refine⟨fun c33 c33p=>?_,fun c33 c33p=>?_⟩
 ·
  try dsimp only at c33p
  refine W ?_
  refine Cl (.c .h (.c .h .n)) (Ai _ _ _ _ _ _ (by decide) (by decide) (by first | exact hs.CS | decide)) (fun v145 B hv=>?_)
  obtain⟨y146,rfl,y147,y148,rfl⟩:=hv
  refine W ?_
  rw [← AD.A1];subst y147;have hw:AD.Ay e b=e.CS:=AB c2
  rw [show AD.B1 e b=AD.BA (decide (b=e.Al)) (AD.Ay e b) (AD.Ah e b) (AD.called e.dir) (Lib.itoa e.n) e.AQ e.text e.kind from AB c1,hw,show AD.BA (decide (b=e.Al)) e.CS (AD.Ah e b) (AD.called e.dir) (Lib.itoa e.n) e.AQ e.text e.kind=_ from((AB c25).trans ((AB c26).trans ((AB c28).trans ((AB c29).trans ((AB c30).trans ((AB Qw).trans (AN c33)))))))];rfl
 try dsimp only at c33p
 refine W ?_
 refine⟨fun c34 c34p=>?_,fun c34 c34p=>?_⟩
 ·
  try dsimp only at c34p
  refine W ?_
  refine Cl (.c .h (.c .h .n)) (Ai _ _ _ _ _ _ (by decide) (by decide) (by first | exact hs.CS | decide)) (fun v149 B hv=>?_)
  obtain⟨y150,rfl,y151,y152,rfl⟩:=hv
  refine W ?_
  refine Cl (.c .h (.c (.t .h) .n)) (As _ _ _ _ hs) (fun v153 B hv=>?_)
  obtain⟨y154,rfl,y155,y156,rfl⟩:=hv
  refine W ?_
  rw [← AD.A1];subst y151;subst y155;have hw:AD.Ay e b=e.CS:=AB c2
  rw [show AD.B1 e b=AD.BA (decide (b=e.Al)) (AD.Ay e b) (AD.Ah e b) (AD.called e.dir) (Lib.itoa e.n) e.AQ e.text e.kind from AB c1,hw,show AD.BA (decide (b=e.Al)) e.CS (AD.Ah e b) (AD.called e.dir) (Lib.itoa e.n) e.AQ e.text e.kind=_ from((AB c25).trans ((AB c26).trans ((AB c28).trans ((AB c29).trans ((AB c30).trans ((AB Qw).trans ((AB c33).trans (AN c34))))))))];rfl
 try dsimp only at c34p
 refine W ?_
 refine⟨fun c35 c35p=>?_,fun c35 c35p=>?_⟩
 ·
  try dsimp only at c35p
  refine W ?_
  refine Cl (.c .h (.c .h .n)) (Ai _ _ _ _ _ _ (by decide) (by decide) (by first | exact hs.CS | decide)) (fun v157 B hv=>?_)
  obtain⟨y158,rfl,y159,y160,rfl⟩:=hv
  refine W ?_
  refine Cl (.c .h (.c (.t .h) .n)) (As _ _ _ _ hs) (fun v161 B hv=>?_)
  obtain⟨y162,rfl,y163,y164,rfl⟩:=hv
  refine W ?_
  rw [← AD.A1];subst y159;subst y163;have hw:AD.Ay e b=e.CS:=AB c2
  rw [show AD.B1 e b=AD.BA (decide (b=e.Al)) (AD.Ay e b) (AD.Ah e b) (AD.called e.dir) (Lib.itoa e.n) e.AQ e.text e.kind from AB c1,hw,show AD.BA (decide (b=e.Al)) e.CS (AD.Ah e b) (AD.called e.dir) (Lib.itoa e.n) e.AQ e.text e.kind=_ from((AB c25).trans ((AB c26).trans ((AB c28).trans ((AB c29).trans ((AB c30).trans ((AB Qw).trans ((AB c33).trans ((AB c34).trans (AN c35)))))))))];rfl
 try dsimp only at c35p
 refine W ?_
 refine⟨fun c36 c36p=>?_,fun c36 c36p=>?_⟩
 ·
  try dsimp only at c36p
  refine W ?_
  refine Cl (.c .h (.c .h .n)) (Ai _ _ _ _ _ _ (by decide) (by decide) (by first | exact hs.CS | decide)) (fun v165 B hv=>?_)
  obtain⟨y166,rfl,y167,y168,rfl⟩:=hv
  refine W ?_
  refine Cl (.c .h (.c (.t .h) .n)) (As _ _ _ _ hs) (fun v169 B hv=>?_)
  obtain⟨y170,rfl,y171,y172,rfl⟩:=hv
  refine W ?_
  rw [← AD.A1];subst y167;subst y171;have hw:AD.Ay e b=e.CS:=AB c2
  rw [show AD.B1 e b=AD.BA (decide (b=e.Al)) (AD.Ay e b) (AD.Ah e b) (AD.called e.dir) (Lib.itoa e.n) e.AQ e.text e.kind from AB c1,hw,show AD.BA (decide (b=e.Al)) e.CS (AD.Ah e b) (AD.called e.dir) (Lib.itoa e.n) e.AQ e.text e.kind=_ from((AB c25).trans ((AB c26).trans ((AB c28).trans ((AB c29).trans ((AB c30).trans ((AB Qw).trans ((AB c33).trans ((AB c34).trans ((AB c35).trans (AN c36))))))))))];rfl
 try dsimp only at c36p
 refine W ?_
 refine⟨fun c37 c37p=>?_,fun c37 c37p=>?_⟩
 ·
  try dsimp only at c37p
  refine W ?_
  refine Cl (.c .h (.c .h .n)) (Ai _ _ _ _ _ _ (by decide) (by decide) (by first | exact hs.CS | decide)) (fun v173 B hv=>?_)
  obtain⟨y174,rfl,y175,y176,rfl⟩:=hv
  refine W ?_
  refine Cl (.c .h (.c (.t .h) .n)) (As _ _ _ _ hs) (fun v177 B hv=>?_)
  obtain⟨y178,rfl,y179,y180,rfl⟩:=hv
  refine W ?_
  rw [← AD.A1];subst y175;subst y179;have hw:AD.Ay e b=e.CS:=AB c2
  rw [show AD.B1 e b=AD.BA (decide (b=e.Al)) (AD.Ay e b) (AD.Ah e b) (AD.called e.dir) (Lib.itoa e.n) e.AQ e.text e.kind from AB c1,hw,show AD.BA (decide (b=e.Al)) e.CS (AD.Ah e b) (AD.called e.dir) (Lib.itoa e.n) e.AQ e.text e.kind=_ from((AB c25).trans ((AB c26).trans ((AB c28).trans ((AB c29).trans ((AB c30).trans ((AB Qw).trans ((AB c33).trans ((AB c34).trans ((AB c35).trans ((AB c36).trans (AN c37)))))))))))];rfl
 try dsimp only at c37p
 refine W ?_
 refine⟨fun c38 c38p=>?_,fun c38 c38p=>?_⟩
 ·
  try dsimp only at c38p
  refine W ?_
  refine Cl (.c .h (.c .h .n)) (Ai _ _ _ _ _ _ (by decide) (by decide) (by first | exact hs.CS | decide)) (fun v181 B hv=>?_)
  obtain⟨y182,rfl,y183,y184,rfl⟩:=hv
  refine W ?_
  refine Cl (.c .h (.c (.t .h) .n)) (As _ _ _ _ hs) (fun v185 B hv=>?_)
  obtain⟨y186,rfl,y187,y188,rfl⟩:=hv
  refine W ?_
  rw [← AD.A1];subst y183;subst y187;have hw:AD.Ay e b=e.CS:=AB c2
  rw [show AD.B1 e b=AD.BA (decide (b=e.Al)) (AD.Ay e b) (AD.Ah e b) (AD.called e.dir) (Lib.itoa e.n) e.AQ e.text e.kind from AB c1,hw,show AD.BA (decide (b=e.Al)) e.CS (AD.Ah e b) (AD.called e.dir) (Lib.itoa e.n) e.AQ e.text e.kind=_ from((AB c25).trans ((AB c26).trans ((AB c28).trans ((AB c29).trans ((AB c30).trans ((AB Qw).trans ((AB c33).trans ((AB c34).trans ((AB c35).trans ((AB c36).trans ((AB c37).trans (AN c38))))))))))))];rfl
 try dsimp only at c38p
 refine W ?_
 refine⟨fun c39 c39p=>?_,fun c39 c39p=>?_⟩
 ·
  try dsimp only at c39p
  refine W ?_
  refine Cl (.c .h (.c .h .n)) (Ai _ _ _ _ _ _ (by decide) (by decide) (by first | exact hs.CS | decide)) (fun v189 B hv=>?_)
  obtain⟨y190,rfl,y191,y192,rfl⟩:=hv
  refine W ?_
  refine Cl (.c .h (.c (.t .h) .n)) (As _ _ _ _ hs) (fun v193 B hv=>?_)
  obtain⟨y194,rfl,y195,y196,rfl⟩:=hv
  refine W ?_
  rw [← AD.A1];subst y191;subst y195;have hw:AD.Ay e b=e.CS:=AB c2
  rw [show AD.B1 e b=AD.BA (decide (b=e.Al)) (AD.Ay e b) (AD.Ah e b) (AD.called e.dir) (Lib.itoa e.n) e.AQ e.text e.kind from AB c1,hw,show AD.BA (decide (b=e.Al)) e.CS (AD.Ah e b) (AD.called e.dir) (Lib.itoa e.n) e.AQ e.text e.kind=_ from((AB c25).trans ((AB c26).trans ((AB c28).trans ((AB c29).trans ((AB c30).trans ((AB Qw).trans ((AB c33).trans ((AB c34).trans ((AB c35).trans ((AB c36).trans ((AB c37).trans ((AB c38).trans (AN c39)))))))))))))];rfl
 try dsimp only at c39p
 refine W ?_
 refine⟨fun c40 c40p=>?_,fun c40 c40p=>?_⟩
 ·
  try dsimp only at c40p
  refine W ?_
  refine Cl (.c .h (.c .h .n)) (Ai _ _ _ _ _ _ (by decide) (by decide) (by first | exact hs.CS | decide)) (fun v197 B hv=>?_)
  obtain⟨y198,rfl,y199,y200,rfl⟩:=hv
  refine W ?_
  rw [← AD.A1];subst y199;have hw:AD.Ay e b=e.CS:=AB c2
  rw [show AD.B1 e b=AD.BA (decide (b=e.Al)) (AD.Ay e b) (AD.Ah e b) (AD.called e.dir) (Lib.itoa e.n) e.AQ e.text e.kind from AB c1,hw,show AD.BA (decide (b=e.Al)) e.CS (AD.Ah e b) (AD.called e.dir) (Lib.itoa e.n) e.AQ e.text e.kind=_ from((AB c25).trans ((AB c26).trans ((AB c28).trans ((AB c29).trans ((AB c30).trans ((AB Qw).trans ((AB c33).trans ((AB c34).trans ((AB c35).trans ((AB c36).trans ((AB c37).trans ((AB c38).trans ((AB c39).trans (AN c40))))))))))))))];rfl
 try dsimp only at c40p
 refine W ?_
 refine⟨fun c41 c41p=>?_,fun c41 c41p=>?_⟩
 ·
  try dsimp only at c41p
  refine Wv ?_
  refine F2 (Ag) (s:=_) J J J J J ?_
  refine W ?_
  rw [← AD.A1];have hw:AD.Ay e b=e.CS:=AB c2
  rw [show AD.B1 e b=AD.BA (decide (b=e.Al)) (AD.Ay e b) (AD.Ah e b) (AD.called e.dir) (Lib.itoa e.n) e.AQ e.text e.kind from AB c1,hw,show AD.BA (decide (b=e.Al)) e.CS (AD.Ah e b) (AD.called e.dir) (Lib.itoa e.n) e.AQ e.text e.kind=_ from((AB c25).trans ((AB c26).trans ((AB c28).trans ((AB c29).trans ((AB c30).trans ((AB Qw).trans ((AB c33).trans ((AB c34).trans ((AB c35).trans ((AB c36).trans ((AB c37).trans ((AB c38).trans ((AB c39).trans ((AB c40).trans (AN c41)))))))))))))))];rfl
 try dsimp only at c41p
 refine W ?_
 refine⟨fun c42 c42p=>?_,fun c42 c42p=>?_⟩
 ·
  try dsimp only at c42p
  refine W ?_
  refine⟨fun c43 c43p=>?_,fun c43 c43p=>?_⟩
  ·
   try dsimp only at c43p
   refine W ?_
   rw [← AD.A1];have hw:AD.Ay e b=e.CS:=AB c2
   rw [show AD.B1 e b=AD.BA (decide (b=e.Al)) (AD.Ay e b) (AD.Ah e b) (AD.called e.dir) (Lib.itoa e.n) e.AQ e.text e.kind from AB c1,hw,show AD.BA (decide (b=e.Al)) e.CS (AD.Ah e b) (AD.called e.dir) (Lib.itoa e.n) e.AQ e.text e.kind=_ from((AB c25).trans ((AB c26).trans ((AB c28).trans ((AB c29).trans ((AB c30).trans ((AB Qw).trans ((AB c33).trans ((AB c34).trans ((AB c35).trans ((AB c36).trans ((AB c37).trans ((AB c38).trans ((AB c39).trans ((AB c40).trans ((AB c41).trans ((AN c42).trans (AN c43)))))))))))))))))];rfl
  try dsimp only at c43p
  refine W ?_
  rw [← AD.A1];have hw:AD.Ay e b=e.CS:=AB c2
  rw [show AD.B1 e b=AD.BA (decide (b=e.Al)) (AD.Ay e b) (AD.Ah e b) (AD.called e.dir) (Lib.itoa e.n) e.AQ e.text e.kind from AB c1,hw,show AD.BA (decide (b=e.Al)) e.CS (AD.Ah e b) (AD.called e.dir) (Lib.itoa e.n) e.AQ e.text e.kind=_ from((AB c25).trans ((AB c26).trans ((AB c28).trans ((AB c29).trans ((AB c30).trans ((AB Qw).trans ((AB c33).trans ((AB c34).trans ((AB c35).trans ((AB c36).trans ((AB c37).trans ((AB c38).trans ((AB c39).trans ((AB c40).trans ((AB c41).trans ((AN c42).trans (AB c43)))))))))))))))))];rfl
 try dsimp only at c42p
 refine W ?_
 refine⟨fun c44 c44p=>?_,fun c44 c44p=>?_⟩
 ·
  try dsimp only at c44p
  refine Wv ?_
  refine F2 (Ag) (s:=_) J J J J J ?_
  refine W ?_
  rw [← AD.A1];have hw:AD.Ay e b=e.CS:=AB c2
  rw [show AD.B1 e b=AD.BA (decide (b=e.Al)) (AD.Ay e b) (AD.Ah e b) (AD.called e.dir) (Lib.itoa e.n) e.AQ e.text e.kind from AB c1,hw,show AD.BA (decide (b=e.Al)) e.CS (AD.Ah e b) (AD.called e.dir) (Lib.itoa e.n) e.AQ e.text e.kind=_ from((AB c25).trans ((AB c26).trans ((AB c28).trans ((AB c29).trans ((AB c30).trans ((AB Qw).trans ((AB c33).trans ((AB c34).trans ((AB c35).trans ((AB c36).trans ((AB c37).trans ((AB c38).trans ((AB c39).trans ((AB c40).trans ((AB c41).trans ((AB c42).trans (AN c44)))))))))))))))))];rfl
 try dsimp only at c44p
 refine W ?_
 refine⟨fun c45 c45p=>?_,fun c45 c45p=>?_⟩
 ·
  try dsimp only at c45p
  refine W ?_
  refine⟨fun c46 c46p=>?_,fun c46 c46p=>?_⟩
  ·
   try dsimp only at c46p
   refine W ?_
   rw [← AD.A1];have hw:AD.Ay e b=e.CS:=AB c2
   rw [show AD.B1 e b=AD.BA (decide (b=e.Al)) (AD.Ay e b) (AD.Ah e b) (AD.called e.dir) (Lib.itoa e.n) e.AQ e.text e.kind from AB c1,hw,show AD.BA (decide (b=e.Al)) e.CS (AD.Ah e b) (AD.called e.dir) (Lib.itoa e.n) e.AQ e.text e.kind=_ from((AB c25).trans ((AB c26).trans ((AB c28).trans ((AB c29).trans ((AB c30).trans ((AB Qw).trans ((AB c33).trans ((AB c34).trans ((AB c35).trans ((AB c36).trans ((AB c37).trans ((AB c38).trans ((AB c39).trans ((AB c40).trans ((AB c41).trans ((AB c42).trans ((AB c44).trans ((AN c45).trans (AN c46)))))))))))))))))))];rfl
  try dsimp only at c46p
  refine W ?_
  rw [← AD.A1];have hw:AD.Ay e b=e.CS:=AB c2
  rw [show AD.B1 e b=AD.BA (decide (b=e.Al)) (AD.Ay e b) (AD.Ah e b) (AD.called e.dir) (Lib.itoa e.n) e.AQ e.text e.kind from AB c1,hw,show AD.BA (decide (b=e.Al)) e.CS (AD.Ah e b) (AD.called e.dir) (Lib.itoa e.n) e.AQ e.text e.kind=_ from((AB c25).trans ((AB c26).trans ((AB c28).trans ((AB c29).trans ((AB c30).trans ((AB Qw).trans ((AB c33).trans ((AB c34).trans ((AB c35).trans ((AB c36).trans ((AB c37).trans ((AB c38).trans ((AB c39).trans ((AB c40).trans ((AB c41).trans ((AB c42).trans ((AB c44).trans ((AN c45).trans (AB c46)))))))))))))))))))];rfl
 try dsimp only at c45p
 refine W ?_
 rw [← AD.A1];have hw:AD.Ay e b=e.CS:=AB c2
 rw [show AD.B1 e b=AD.BA (decide (b=e.Al)) (AD.Ay e b) (AD.Ah e b) (AD.called e.dir) (Lib.itoa e.n) e.AQ e.text e.kind from AB c1,hw,show AD.BA (decide (b=e.Al)) e.CS (AD.Ah e b) (AD.called e.dir) (Lib.itoa e.n) e.AQ e.text e.kind=_ from((AB c25).trans ((AB c26).trans ((AB c28).trans ((AB c29).trans ((AB c30).trans ((AB Qw).trans ((AB c33).trans ((AB c34).trans ((AB c35).trans ((AB c36).trans ((AB c37).trans ((AB c38).trans ((AB c39).trans ((AB c40).trans ((AB c41).trans ((AB c42).trans ((AB c44).trans (AB c45))))))))))))))))))];rfl
instance instP54:DI Tryz.prog 54 (type_of% @G6):=⟨@G6⟩
theorem IC (p:A9)(w:World):Ch Tryz.prog 60 #[.agg p.enc.toArray] w fun v w'=>v = .bool (Page.A5 p)∧BF w w':=by
 refine Rb Tryz.func60 ?_
 refine W ?_
 intro b1
 refine congrArg Value.bool ?_;rfl
instance instP60:DI Tryz.prog 60 (type_of% @IC):=⟨@IC⟩
theorem H8 {t0:Nat}(p:A9)(qs:List AL)(hb:qs.length≤17592186044416):Cz Tryz.prog 105 #[.agg p.enc.toArray] [] (fun w=>Rd w p.wait t0 1 (qs.flatMap AX)) (fun v B=>∃ h':Hd,v = .agg (A9.enc ⟨h',p.shown,p.BL,p.ring,p.cut⟩).toArray∧h'.len=qs.length∧B = [AJ.own h' 9 1 (qs.flatMap AX)]):=by
 intro w hS0 hH
 have r0:=hH
 have hl:=r0.Gh Cr (by decide)
 refine AR _ _ Tryz.func105 J J J (hS0) ?_
 refine W ?_
 intro b1 b2
 refine Hx AX 9 1 ?_
 refine ES (e:=AX) J Tryz.underlying56 OZ bd J dm (by decide) J J (fun w hS=>Src.FG Tryz.underlying56 ((Kn.Il r0) w hS)) J J (by omega) (fun _=> .h) (fun h1 h1l=>?_)
 refine W ?_
 intro w1 hS
 have hS:=(hS.perm (AK.perm (.c .h .n))).AM
 exact⟨_,⟨_,J,by omega,rfl⟩,hS⟩
theorem Mg {t0:Nat}(p:A9)(qs:List AL)(s:AL):Cz Tryz.prog 56 #[.agg p.enc.toArray,Ag s] [] (fun w=>Rd w p.wait t0 1 (qs.flatMap AX)) (fun v B=>(Page.A5 p=false∧v = .tuple #[.agg p.enc.toArray, .int .i64 2]∧B = [])∨(Page.A5 p=true∧p.cut=true∧v = .tuple #[.agg p.enc.toArray, .int .i64 6]∧B = [])∨(Page.A5 p=true∧p.cut=false∧qs.length=60∧∃ h':Hd,v = .tuple #[.agg (A9.enc ⟨h',p.shown,p.BL,p.ring,true⟩).toArray, .int .i64 0]∧h'.len=qs.length∧B = [AJ.own h' 9 1 (qs.flatMap AX)])∨(Page.A5 p=true∧p.cut=false∧qs.length < 60∧∃ h':Hd,v = .tuple #[.agg (A9.enc ⟨h',p.shown,p.BL,p.ring,p.cut⟩).toArray, .int .i64 0]∧h'.len=qs.length+1∧B = [AJ.own h' 9 1 ((qs ++ [s]).flatMap AX)])):=by
 intro w hS0 hH
 have r0:=hH
 have hl:=r0.Gh Cr (by decide)
 refine AR _ _ Tryz.func56 J J J (hS0) ?_
 refine W ?_
 intro b1 b2
 refine⟨fun c1 c1p=>?_,fun c1 c1p=>?_⟩
 ·
  try dsimp only at c1p
  refine W ?_
  intro w1 hS
  have hS:=(hS.perm (AK.perm .n)).AM
  exact⟨_, .inl ⟨by simpa using c1,rfl,rfl⟩,hS⟩
 try dsimp only at c1p
 have hgd:Page.A5 p=true:=by simpa using c1
 have hg:=(Page.EU p).1 hgd
 refine W ?_
 refine⟨fun c2 c2p=>?_,fun c2 c2p=>?_⟩
 ·
  try dsimp only at c2p
  refine W ?_
  intro w1 hS
  have hS:=(hS.perm (AK.perm .n)).AM
  exact⟨_, .inr (.inl ⟨hgd,c2,J,J⟩),hS⟩
 try dsimp only at c2p
 refine W ?_
 refine Cm .n (H8 _ _ (by omega)) (fun v1 B hv=>?_) (fun _=>(fun w hS=>(Kn.Il r0) w hS))
 obtain⟨y2,rfl,y3,rfl⟩:=hv
 refine W ?_
 refine⟨fun c3 c3p=>?_,fun c3 c3p=>?_⟩
 ·
  try dsimp only at c3p
  refine W ?_
  intro w1 hS
  have hS:=(hS.perm (AK.perm (.c .h .n))).AM
  dsimp only at c3
  exact⟨_, .inr (.inr (.inl ⟨hgd,by simpa using c2,by simp at c3;omega,_,rfl,by assumption,rfl⟩)),hS⟩
 try dsimp only at c3p
 refine W ?_
 intro b3 h5 h5l h5z
 intro w1 hS
 have hS:=(hS.perm (AK.perm (.c (.t .h) .n))).AM
 dsimp only at c3
 exact⟨_, .inr (.inr (.inr ⟨hgd,by simpa using c2,by simp at c3;omega,_,rfl,by(try dsimp only at *);(try simp only [List.length_cons,List.length_nil] at *);omega,rfl⟩)),hS⟩
theorem B5 (b:Nat)(V:AE)(ls:Vector Ae 4)(ev:List Ing.Event)(k:Int)(u:AL)(hk:0≤k∧k < 4)(ht:(ls.at k).told.length≤1000000):Fu Tryz.prog 27 #[.pointer (some ⟨b,0,none⟩), .int .i64 k,Ag u] [AJ.box b 65 (AE.enc V),AJ.CI (BB 9 (AE.AP V) ls),AJ.own (AE.last V) 100 16 ((ev).flatMap Ing.Event.enc)] (fun v B=>∃ V' ls' ev',v = .tuple #[]∧AO V' ls' ev'=AG.tell (AO V ls ev) k u∧B = [AJ.box b 65 (AE.enc V'),AJ.CI (BB 9 (AE.AP V') ls'),AJ.own (AE.last V') 100 16 ((ev').flatMap Ing.Event.enc)]):=by
 intro w hS0
 refine AR _ _ Tryz.func27 J J J (hS0) ?_
 refine Ws 100002 ?_
 refine Cj (k:=k) hk.1 hk.2 (fun sv sl hsv hlv hln=>?_)
 refine AY (.t (.t (.t .h))) ?_
 refine AY (.t (.t .h)) ?_
 refine OF (Lm:= [_,_]) (fun(o:A9) (w0:Hd) (ws:List AL)=>Bz { sv with out:=o } ⟨sl.queue,ws,sl.told⟩=(Bz sv sl).line u∧o.wait=w0) (fun(o:A9) (w0:Hd) (ws:List AL)=> []) (fun(o:A9) (w0:Hd) (ws:List AL)=> [AJ.own w0 9 1 (ws.flatMap AX),AJ.box b 65 (Fw V k { sv with out:=o })]) (.t3 0 1 2) J ?_ (fun o w0 ws hC=>?_)
 ·
  refine W ?_
  refine Cm .n (Mg _ _ _) (fun v1 B hv=>?_) (fun _=>(fun w hS=>(Kn.own .m0) w hS))
  rcases hv with ⟨y2,rfl,rfl⟩ | ⟨y3,y4,rfl,rfl⟩ | ⟨y5,y6,y7,y8,rfl,y9,rfl⟩ | ⟨y10,y11,y12,y13,rfl,y14,rfl⟩
  ·
   refine W ?_
   refine E3 _ _ _ ?_ (.t3 0 1 2) (.refl _)
   · exact⟨Eq.symm (UK hln.2.1 y2),J⟩
  ·
   refine W ?_
   refine E3 _ _ _ ?_ (.t3 0 1 2) (.refl _)
   · exact⟨Eq.symm (UL hln.2.1 y3 y4),J⟩
  ·
   refine W ?_
   refine Ar (.c .h (.c (.t .h) (.c (.t .h) (.c (.t .h) (.c (.t .h) (.c (.t .h) .n)))))) ?_
   refine Az ?_
   refine E3 _ _ _ ?_ (.t3 0 1 2) (.refl _)
   · exact⟨Eq.symm (RD hln.2.1 y5 y6 (by omega)),J⟩
  refine W ?_
  refine Ar (.c .h (.c (.t .h) (.c (.t .h) (.c (.t .h) (.c (.t .h) (.c (.t .h) .n)))))) ?_
  refine Az ?_
  refine E3 _ _ _ ?_ (.t3 0 1 2) (.refl _)
  · exact⟨Eq.symm (RE hln.2.1 y10 y11 y12 _),J⟩
 obtain⟨hE1,hE2⟩:=hC
 have ht2:sl.told.length≤1000000:=by rw [← hlv];exact ht
 refine W ?_
 refine⟨fun c1 c1p=>?_,fun c1 c1p=>?_⟩
 ·
  refine W ?_
  intro b1 h17 h17l h17z
  intro w1 hS
  have hS:=(hS.perm (AK.perm (.c (.t (.t (.t .h))) (.c (.t .h) (.c (.t (.t .h)) (.c (.t .h) (.c (.t .h) (.c (.t .h) .n)))))))).AM
  have hS:=hS.close' hk.1 hk.2 (by rfl) (by exact hE2) (by rfl)
  refine⟨_,⟨V.AZ k _,ls.put k ⟨_,_,_⟩,ev,J,?ga1,J⟩,hS⟩
  case ga1=>exact B4 hk.1 hk.2 hsv hlv (f:=fun x=>x.tell u) (by show _=((Bz sv sl).line u).note u;rw [← hE1];exact(aI (l:=⟨sl.queue,ws,sl.told⟩) c1 _).symm)
 refine W ?_
 intro w1 hS
 have hS:=(hS.perm (AK.perm (.c (.t (.t .h)) (.c .h (.c (.t .h) (.c .h (.c .h (.c .h .n)))))))).AM
 have hS:=hS.close' hk.1 hk.2 (by rfl) (by exact hE2) (by rfl)
 refine⟨_,⟨V.AZ k _,ls.put k ⟨_,_,_⟩,ev,J,?ga2,J⟩,hS⟩
 case ga2=>exact B4 hk.1 hk.2 hsv hlv (f:=fun x=>x.tell u) (by show _=((Bz sv sl).line u).note u;rw [← hE1];exact(aH (l:=⟨sl.queue,ws,sl.told⟩) c1).symm)
theorem Bv (b:Nat)(V:AE)(ls:Vector Ae 4)(ev:List Ing.Event)(f:Hd)(es:List Ing.Event)(n:Nat)(hf:f.len=es.length)(hn:TO ls n)(hm:n+es.length≤1000000)(hl:ev.length≤1000000)(he:(∀ e∈es,AD.Small e)):Cz Tryz.prog 24 #[.pointer (some ⟨b,0,none⟩),f.val] [AJ.box b 65 (AE.enc V),AJ.CI (BB 9 (AE.AP V) ls),AJ.own (AE.last V) 100 16 ((ev).flatMap Ing.Event.enc),AJ.own f 100 16 (es.flatMap Ing.Event.enc)] (fun w=>(GV 3 EH w∧3 ∉ BV [AJ.box b 65 (AE.enc V),AJ.CI (BB 9 (AE.AP V) ls),AJ.own (AE.last V) 100 16 ((ev).flatMap Ing.Event.enc),AJ.own f 100 16 (es.flatMap Ing.Event.enc)])∧(GV 0 AD.Be w∧0 ∉ BV [AJ.box b 65 (AE.enc V),AJ.CI (BB 9 (AE.AP V) ls),AJ.own (AE.last V) 100 16 ((ev).flatMap Ing.Event.enc),AJ.own f 100 16 (es.flatMap Ing.Event.enc)])) (fun v B=>∃ V' ls' ev',v = .tuple #[]∧AO V' ls' ev'=AG.Ft (AO V ls ev) es∧B = [AJ.box b 65 (AE.enc V'),AJ.CI (BB 9 (AE.AP V') ls'),AJ.own (AE.last V') 100 16 ((ev').flatMap Ing.Event.enc),AJ.own f 100 16 (es.flatMap Ing.Event.enc)]):=by
 intro w hS0 hH
 obtain⟨⟨gl0,gm0⟩,⟨gl1,gm1⟩⟩:=hH
 refine AR _ _ Tryz.func24 J J J (hS0) ?_
 refine Ws 0 ?_
 refine VG (fun w hS=>(Kn.own .m2 w hS).Gh Ing.Event.fl (by decide)) (fun hLl=>?_)
 refine W ?_
 intro h1 h1l h1z
 refine Af (.t4 20 0 18 19) ?_
 refine AY (.t (.t .h)) ?_
 refine AY (.t (.t .h)) ?_
 refine AY (.t (.t .h)) ?_
 refine D2 (fun(k:Int) (V1:AE) (ls1:Vector Ae 4) (ev1:List Ing.Event)=>0≤k∧k≤(es.length:Int)∧AO V1 ls1 ev1=({ (AO V ls ev) with last:=ev++es }:AG).Ix (es.take k.toNat)∧TO ls1 (n+k.toNat)) (fun(k:Int) (V1:AE) (ls1:Vector Ae 4) (ev1:List Ing.Event)=>((es.length:Int) - k).toNat) (fun(k:Int) (V1:AE) (ls1:Vector Ae 4) (ev1:List Ing.Event)=> [(20, .int .i64 k)]) (fun(k:Int) (V1:AE) (ls1:Vector Ae 4) (ev1:List Ing.Event)=> [AJ.box b 65 (AE.enc V1),AJ.CI (BB 9 (AE.AP V1) ls1),AJ.own (AE.last V1) 100 16 (ev1.flatMap Ing.Event.enc)]) (0) (_) (_) (_) ?_ J J (fun k V1 ls1 ev1 hI1=>?_)
 · exact⟨by omega,by omega,rfl,hn⟩
 obtain⟨hI11,hI12,hI13,hI14⟩:=hI1
 refine W ?_
 refine⟨fun c1 c1p=>?_,fun c1 c1p=>?_⟩
 ·
  refine W ?_
  intro b1
  refine Af (.t6 24 0 5 18 19 20) ?_
  refine AY (.t (.t (.t .h))) ?_
  refine AY (.t (.t (.t .h))) ?_
  refine AY (.t (.t (.t .h))) ?_
  refine D2 (fun(i:Int) (V2:AE) (ls2:Vector Ae 4) (ev2:List Ing.Event)=>0≤i∧i≤4∧AO V2 ls2 ev2=AG.CB (es.getD k.toNat default) (AO V1 ls1 ev1) i.toNat∧(∀ j:Int,i≤j→j < 4→(ls2.at j).told.length≤n+k.toNat)∧(∀ j:Int,0≤j→j < 4→(ls2.at j).told.length≤n+k.toNat+1)) (fun(i:Int) (V2:AE) (ls2:Vector Ae 4) (ev2:List Ing.Event)=>(4 - i).toNat) (fun(i:Int) (V2:AE) (ls2:Vector Ae 4) (ev2:List Ing.Event)=> [(24, .int .i64 i)]) (fun(i:Int) (V2:AE) (ls2:Vector Ae 4) (ev2:List Ing.Event)=> [AJ.box b 65 (AE.enc V2),AJ.CI (BB 9 (AE.AP V2) ls2),AJ.own (AE.last V2) 100 16 (ev2.flatMap Ing.Event.enc)]) (0) (V1) (ls1) (ev1) ?_ J J (fun i V2 ls2 ev2 hI2=>?_)
  · exact⟨by omega,by omega,rfl,(fun j j0 j1=>hI14 j j0 j1),(fun j j0 j1=>Nat.le_succ_of_le (hI14 j j0 j1))⟩
  obtain⟨hI21,hI22,hI23,hI24,hI25⟩:=hI2
  refine W ?_
  refine⟨fun c2 c2p=>?_,fun c2 c2p=>?_⟩
  ·
   refine W ?_
   refine⟨fun c3 c3p=>?_,fun c3 c3p=>?_⟩
   ·
    refine W ?_
    refine BR (i+1) _ _ _ ?_ ?_ (.t6 24 0 5 18 19 20) (.refl _)
    · exact⟨by omega,by omega,((F8 hI21 (by omega) hI23).trans (AN c3)).symm,(fun j j0 j1=>hI24 j (by omega) j1),hI25⟩
    · omega
   refine W ?_
   refine Cp (fun w hS=>G6 (es.getD k.toNat default) _ (he _ (Ks (d:=default) (xs:=es) (i:=k.toNat) (by omega))) w (gl0.stM gm0 hS) (gl1.stM gm1 hS)) ?_
   refine W ?_
   refine⟨fun c4 c4p=>?_,fun c4 c4p=>?_⟩
   ·
    refine W ?_
    refine Cl (.c .h (.c .h (.c .h .n))) (B5 _ V2 ls2 _ i _ (by omega) (Nat.le_trans (hI24 i (by omega) (by omega)) (by omega))) (fun v2 B hv=>?_)
    obtain⟨y3,y4,y5,rfl,y6,rfl⟩:=hv
    refine W ?_
    refine BR (i+1) _ _ _ ?_ ?_ (.t6 24 0 5 18 19 20) (.refl _)
    · exact⟨by omega,by omega,y6.trans ((F8 hI21 (by omega) hI23).trans ((AB c3).trans (AN c4))).symm,(fun j j0 j1=>by have h:=hI24 j (by omega) j1;rw [(GF hI21 (by omega) y6 (by omega) j1).2 (by omega)];exact h),(fun j j0 j1=>if c:j=i then(by subst c;have h:=hI24 j (by omega) j1;have h2:=(GF hI21 (by omega) y6 j0 j1).1;omega) else(by rw [(GF hI21 (by omega) y6 j0 j1).2 c];exact hI25 j j0 j1))⟩
    · omega
   refine W ?_
   refine BR (i+1) _ _ _ ?_ ?_ (.t6 24 0 5 18 19 20) (.refl _)
   · exact⟨by omega,by omega,((F8 hI21 (by omega) hI23).trans ((AB c3).trans (AB c4))).symm,(fun j j0 j1=>hI24 j (by omega) j1),hI25⟩
   · omega
  obtain rfl:i=4:=by omega
  refine W ?_
  refine Ar (.c .h (.c .h (.c .h (.c (.t .h) .n)))) ?_
  refine Az ?_
  refine BR (k+1) _ _ _ ?_ ?_ (.t4 20 0 18 19) (.refl _)
  · exact⟨by omega,by omega,by rw [PT hI11 (by omega),← hI13];exact hI23,fun j j0 j1=>by have h:=hI25 j j0 j1;rw [show(k+1).toNat=k.toNat+1 by omega];omega⟩
  · omega
 obtain rfl:k=(es.length:Int):=by omega
 refine W ?_
 intro w1 hS
 have hS:=(hS.perm (AK.perm (.c .h (.c .h (.c .h (.c .h .n)))))).AM
 refine⟨_,⟨V1,ls1,ev1,J,?ga,J⟩,hS⟩
 case ga=>rw [hI13,show(es.length:Int).toNat=es.length by omega,List.take_length];exact(Tz rfl).symm
theorem Fm (s:AL)(c:UInt8)(w:World):Ch Tryz.prog 131 #[Ag s, .int .u8 (c.toNat:Int)] w fun v w'=>v = .int .i64 (Lib.indexByte s c)∧BF w w':=by
 refine Rb Tryz.func131 ?_
 refine W ?_
 rfl
instance instP131:DI Tryz.prog 131 (type_of% @Fm):=⟨@Fm⟩
theorem NQ (s:AL)(hs:s.length≤4000000):Fu Tryz.prog 84 #[Ag s] [] (fun v B=>∃ h':Hd,v=h'.val∧h'.len=(Words.words s).length∧B = [AJ.own h' 9 1 ((Words.words s).flatMap AX)]):=by
 intro w hS0
 have hsl:((s ++ [32]:AL)).length=s.length+1:=by simp
 refine AR _ _ Tryz.func84 J J J (hS0) ?_
 refine W ?_
 refine GY J Tryz.underlying9 Tryz.underlying122 Tryz.underlying5 J (fun h1 h1l=>?_)
 refine W ?_
 refine Af (.t5 3 4 12 10 11) ?_
 refine CG AX 9 1 ?_
 refine D2 (fun(k:Int) (xs:List AL) (now:AL) (g:Hd)=>0≤k∧k≤((s ++ [32]).length:Int)∧(xs,now)=Words.ft ((s ++ [32]).take k.toNat)∧g.len=xs.length∧xs.length≤k.toNat∧now.length≤k.toNat) (fun(k:Int) (xs:List AL) (now:AL) (g:Hd)=>(((s ++ [32]).length:Int) - k).toNat) (fun(k:Int) (xs:List AL) (now:AL) (g:Hd)=> [(3,g.val),(4,Ag now),(12, .int .i64 k)]) (fun(k:Int) (xs:List AL) (now:AL) (g:Hd)=> [AJ.own g 9 1 (xs.flatMap AX)]) (0) ([]) ([]) (_) ?_ J J (fun k xs now g hI1=>?_)
 · exact⟨by omega,by omega,rfl,rfl,by simp,by simp⟩
 obtain⟨hI11,hI12,hI13,hI14,hI15,hI16⟩:=hI1
 refine W ?_
 refine⟨fun c1 c1p=>?_,fun c1 c1p=>?_⟩
 ·
  try dsimp only at c1p
  refine W ?_
  refine⟨fun c2 c2p=>?_,fun c2 c2p=>?_⟩
  ·
   try dsimp only at c2p
   refine W ?_
   refine⟨fun c3 c3p=>?_,fun c3 c3p=>?_⟩
   ·
    try dsimp only at c3p
    try have:=Words.Ga ((s ++ [32]).getD k.toNat 0)
    refine W ?_
    intro b1 h2 h2l h2z
    refine BR (k+1) _ _ _ ?_ ?_ (.t5 3 4 12 10 11) (.cons _ (.refl _))
    · have hst:=Words.Mv (t:=s ++ [32]) hI11 (by simp only [List.length_append,List.length_cons,List.length_nil];omega)
      rw [← hI13] at hst
      have hw2:Words.LS (xs,now) ((s ++ [32]).getD k.toNat 0)=(if now = [] then xs else xs ++ [now],[]):=if_pos (Words.Qw c2)
      rw [hw2,if_neg (by simpa using c3)] at hst
      exact⟨by omega,by simp only [List.length_append,List.length_cons,List.length_nil] at *;omega,hst.symm,(by(try dsimp only at *)<;>(try simp only [List.length_append,List.length_cons,List.length_nil])<;>omega),by(try simp only [List.length_append,List.length_cons,List.length_nil]);omega,by(try simp only [List.length_append,List.length_cons,List.length_nil]);omega⟩
    · simp only [List.length_append,List.length_cons,List.length_nil] at *;omega
   try dsimp only at c3p
   try have:=Words.Ga ((s ++ [32]).getD k.toNat 0)
   refine W ?_
   refine BR (k+1) _ _ _ ?_ ?_ (.t5 3 4 12 10 11) (.refl _)
   · have hst:=Words.Mv (t:=s ++ [32]) hI11 (by simp only [List.length_append,List.length_cons,List.length_nil];omega)
     rw [← hI13] at hst
     have hw2:Words.LS (xs,now) ((s ++ [32]).getD k.toNat 0)=(if now = [] then xs else xs ++ [now],[]):=if_pos (Words.Qw c2)
     rw [hw2,if_pos (by simpa using c3)] at hst
     exact⟨by omega,by simp only [List.length_append,List.length_cons,List.length_nil] at *;omega,hst.symm,(by(try dsimp only at *)<;>(try simp only [List.length_append,List.length_cons,List.length_nil])<;>omega),by(try simp only [List.length_append,List.length_cons,List.length_nil]);omega,by(try simp only [List.length_append,List.length_cons,List.length_nil]);omega⟩
   · simp only [List.length_append,List.length_cons,List.length_nil] at *;omega
  try dsimp only at c2p
  refine W ?_
  refine⟨fun c4 c4p=>?_,fun c4 c4p=>?_⟩
  ·
   try dsimp only at c4p
   have hbg:=Words.Ga ((s ++ [32]).getD k.toNat 0)
   unfold Words.N3 at hbg
   try have:=Words.Ga ((s ++ [32]).getD k.toNat 0)
   refine W ?_
   refine M0 J Tryz.underlying122 Qk VD J (by decide) (by decide) J J J (fun b2=>?_)
   refine Gt (HR (s:= [Words.N7 ((s ++ [32]).getD k.toNat 0)]) (by first | exact Words.UQ (by assumption) | exact Words.W2 (by assumption)) Tryz.underlying122 Tryz.underlying9 Tryz.underlying5 J (Kn.own .m0)) ?_
   try have:=Words.Ga ((s ++ [32]).getD k.toNat 0)
   refine W ?_
   refine BR (k+1) _ _ _ ?_ ?_ (.t5 3 4 12 10 11) (.cons _ (.refl _))
   · have hst:=Words.Mv (t:=s ++ [32]) hI11 (by simp only [List.length_append,List.length_cons,List.length_nil];omega)
     rw [← hI13] at hst
     have hw2:Words.LS (xs,now) ((s ++ [32]).getD k.toNat 0)=(xs,now ++ [Words.N7 ((s ++ [32]).getD k.toNat 0)]):=if_neg (Words.ke c2)
     rw [hw2] at hst
     exact⟨by omega,by simp only [List.length_append,List.length_cons,List.length_nil] at *;omega,hst.symm,(by(try dsimp only at *)<;>(try simp only [List.length_append,List.length_cons,List.length_nil])<;>omega),by(try simp only [List.length_append,List.length_cons,List.length_nil]);omega,by(try simp only [List.length_append,List.length_cons,List.length_nil]);omega⟩
   · simp only [List.length_append,List.length_cons,List.length_nil] at *;omega
  try dsimp only at c4p
  have hbg:=Words.Ga ((s ++ [32]).getD k.toNat 0)
  unfold Words.N3 at hbg
  refine W ?_
  refine M0 J Tryz.underlying122 Qk VD J (by decide) (by decide) J J J (fun b3=>?_)
  refine Gt (HR (s:= [Words.N7 ((s ++ [32]).getD k.toNat 0)]) (by first | exact Words.UQ (by assumption) | exact Words.W2 (by assumption)) Tryz.underlying122 Tryz.underlying9 Tryz.underlying5 J (Kn.own .m0)) ?_
  try have:=Words.Ga ((s ++ [32]).getD k.toNat 0)
  refine W ?_
  refine BR (k+1) _ _ _ ?_ ?_ (.t5 3 4 12 10 11) (.cons _ (.refl _))
  · have hst:=Words.Mv (t:=s ++ [32]) hI11 (by simp only [List.length_append,List.length_cons,List.length_nil];omega)
    rw [← hI13] at hst
    have hw2:Words.LS (xs,now) ((s ++ [32]).getD k.toNat 0)=(xs,now ++ [Words.N7 ((s ++ [32]).getD k.toNat 0)]):=if_neg (Words.ke c2)
    rw [hw2] at hst
    exact⟨by omega,by simp only [List.length_append,List.length_cons,List.length_nil] at *;omega,hst.symm,(by(try dsimp only at *)<;>(try simp only [List.length_append,List.length_cons,List.length_nil])<;>omega),by(try simp only [List.length_append,List.length_cons,List.length_nil]);omega,by(try simp only [List.length_append,List.length_cons,List.length_nil]);omega⟩
  · simp only [List.length_append,List.length_cons,List.length_nil] at *;omega
 try dsimp only at c1p
 refine W ?_
 intro w1 hS
 have hS:=(hS.perm (AK.perm (.c .h .n))).AM
 have hfin:Words.ft (s ++ [32])=(xs,now):=by
   have hk:k.toNat=(s ++ [32]).length:=by simp only [List.length_append,List.length_cons,List.length_nil] at *;omega
   rw [hk,List.take_length] at hI13
   exact hI13.symm
 have hx:xs=Words.words s:=by rw [← Words.Ym,hfin]
 exact⟨_,⟨_,J,by rw [← hx];assumption,by rw [← hx]⟩,hS⟩
theorem Jy (u:AL)(w:World)(gl0:GV 0 AD.Be w):Ch Tryz.prog 85 #[Ag u] w fun v w'=>v = .tuple #[.int .i64 (Words.verb u).1, .int .i64 (Words.verb u).2]∧BF w w':=by
 refine Rb Tryz.func85 ?_
 refine W ?_
 refine Gt (TC gl0 Words.QP J bO J) ?_
 refine W ?_
 refine Af (.t3 7 0 6) ?_
 refine A7 (fun(k:Int)=>0≤k∧k≤21∧Words.Hq u 21=Words.Hq u (21 - k).toNat) (fun(k:Int)=>(21 - k).toNat) (fun(k:Int)=> [(7, .int .i64 k)]) (fun(k:Int)=> []) (0) ?_ J J (fun k hI1=>?_)
 · exact⟨by omega,by omega,rfl⟩
 obtain⟨hI11,hI12,hI13⟩:=hI1
 refine W ?_
 refine⟨fun c1 c1p=>?_,fun c1 c1p=>?_⟩
 ·
  try dsimp only at c1p
  rw [Words.U6 hI11 (by omega)] at hI13
  refine W ?_
  refine⟨fun c2 c2p=>?_,fun c2 c2p=>?_⟩
  ·
   try dsimp only at c2p
   have cp:(!decide (u = []) && decide ((u.length:Int)≤((AD.DF.getD k.toNat []).length:Int)) && decide ((AD.DF.getD k.toNat []).take u.length=u))=true:=c2
   refine W ?_
   rw [← Words.U7,hI13,AN cp];rfl
  try dsimp only at c2p
  have cp:(!decide (u = []) && decide ((u.length:Int)≤((AD.DF.getD k.toNat []).length:Int)) && decide ((AD.DF.getD k.toNat []).take u.length=u))=false:=c2
  refine W ?_
  refine Aw (k+1) ?_ ?_ (.t3 7 0 6) (.refl _)
  · exact⟨by omega,by omega,by rw [hI13,AB cp]⟩
  · omega
 try dsimp only at c1p
 obtain rfl:k=21:=by omega
 refine W ?_
 rw [← Words.U7,hI13];rfl
instance instP85:DI Tryz.prog 85 (type_of% @Jy):=⟨@Jy⟩
end Go.Proofs.YtlmmdjaoikaceaaGreatDoor

/- What the functions that the law HousePlays reaches compute: walks, part 12. No condition. -/
import Derived.Test.YtlmmdjaoikaceaaGreatDoorCards
import Derived.Test.YtlmmdjaoikaceaaGreatDoorTie
import Derived.Deep.DeepHandedRow
import Derived.Test.YtlmmdjaoikaceaaGreatDoorRows
import Derived.Test.YtlmmdjaoikaceaaGreatDoorHousePlaysEc3
import Derived.Test.YtlmmdjaoikaceaaGreatDoorHousePlaysRa1
import Derived.Test.YtlmmdjaoikaceaaGreatDoorHousePlaysRb1
import Derived.Test.YtlmmdjaoikaceaaGreatDoorHousePlaysRc1
import Derived.Test.YtlmmdjaoikaceaaGreatDoorHousePlaysRd1
import Derived.Test.YtlmmdjaoikaceaaGreatDoorHousePlaysWalks
import Derived.Test.YtlmmdjaoikaceaaGreatDoorHousePlaysWalks11
set_option linter.unusedSimpArgs false
set_option linter.unusedVariables false
set_option maxRecDepth 100000
set_option maxHeartbeats 4000000
namespace Go.Proofs.YtlmmdjaoikaceaaGreatDoor
open Go Go.Ing Go.RowKit Go.ChangeShapes Go.WideShapes Go.ChangeAt
theorem KX (X:AI)(verb opt:Int)(h0:0≤opt∧opt≤255)(w:World):Ch Tryz.prog 59 #[.agg X.enc.toArray, .int .i64 verb, .int .i64 opt] w fun v w'=>v = .tuple #[.agg (X.asked verb opt).1.enc.toArray,Ag (X.asked verb opt).2]∧BF w w':=by
 have hk1:=AI.Zv opt
 refine Rb Tryz.func59 ?_
 refine W ?_
 intro b1 b2
 refine JL J (fun b3=>?_)
 refine EJ (FK Tryz.underlying171 Tryz.underlying3 J J J J .h).2 ?_
 refine EJ (FK Tryz.underlying171 Tryz.underlying3 J J J J .h).2 ?_
 refine EJ (FK Tryz.underlying171 Tryz.underlying3 J J J J .h).2 ?_
 refine W ?_
 refine Gt (OG (VQ Tryz.underlying171 Tryz.underlying3 bc J J .m0) (AI.kB opt)) ?_
 refine W ?_
 refine⟨fun c1 c1p=>?_,fun c1 c1p=>?_⟩
 ·
  try dsimp only at c1p
  refine W ?_
  refine Im (cs:=BO (n:=3) AT (Vector.replicate 3 default)) J Tryz.underlying117 ba bc (by decide) (by decide) (by kernel_rfl) (.cons (Ac.arr (n:=3) (i:=0) Bm (by decide) (by decide)) J J J (.cons (Ac.arr (n:=3) (i:=1) Bm (by decide) (by decide)) J J J (.cons (Ac.arr (n:=3) (i:=2) Bm (by decide) (by decide)) J J J .nil))) ((IY Bm).len _) (fun b4=>?_)
  refine W ?_
  refine Cp (fun w hS=>Bc _ [255,252,opt] (by intro x hx;simp at hx;omega) (by simp) w ((Kn.own .m0) w hS)) ?_
  refine W ?_
  rw [show X.asked verb opt=_ from(AN c1)];rfl
 try dsimp only at c1p
 refine W ?_
 refine⟨fun c2 c2p=>?_,fun c2 c2p=>?_⟩
 ·
  try dsimp only at c2p
  refine W ?_
  refine Im (cs:=BO (n:=3) AT (Vector.replicate 3 default)) J Tryz.underlying117 ba bc (by decide) (by decide) (by kernel_rfl) (.cons (Ac.arr (n:=3) (i:=0) Bm (by decide) (by decide)) J J J (.cons (Ac.arr (n:=3) (i:=1) Bm (by decide) (by decide)) J J J (.cons (Ac.arr (n:=3) (i:=2) Bm (by decide) (by decide)) J J J .nil))) ((IY Bm).len _) (fun b5=>?_)
  refine W ?_
  refine Cp (fun w hS=>Bc _ [255,254,opt] (by intro x hx;simp at hx;omega) (by simp) w ((Kn.own .m0) w hS)) ?_
  refine W ?_
  rw [show X.asked verb opt=_ from((AB c1).trans (AN c2))];rfl
 try dsimp only at c2p
 refine W ?_
 refine⟨fun c3 c3p=>?_,fun c3 c3p=>?_⟩
 ·
  try dsimp only at c3p
  refine W ?_
  refine⟨fun c4 c4p=>?_,fun c4 c4p=>?_⟩
  ·
   try dsimp only at c4p
   refine W ?_
   refine Im (cs:=BO (n:=3) AT (Vector.replicate 3 default)) J Tryz.underlying117 ba bc (by decide) (by decide) (by kernel_rfl) (.cons (Ac.arr (n:=3) (i:=0) Bm (by decide) (by decide)) J J J (.cons (Ac.arr (n:=3) (i:=1) Bm (by decide) (by decide)) J J J (.cons (Ac.arr (n:=3) (i:=2) Bm (by decide) (by decide)) J J J .nil))) ((IY Bm).len _) (fun b6=>?_)
   refine W ?_
   refine Cp (fun w hS=>Bc _ [255,251,opt] (by intro x hx;simp at hx;omega) (by simp) w ((Kn.own .m0) w hS)) ?_
   refine W ?_
   rw [show X.asked verb opt=_ from((AB c1).trans ((AB c2).trans ((AN c3).trans (AN c4))))];rfl
  try dsimp only at c4p
  refine W ?_
  rw [show X.asked verb opt=_ from((AB c1).trans ((AB c2).trans ((AN c3).trans (AB c4))))];rfl
 try dsimp only at c3p
 refine W ?_
 refine⟨fun c5 c5p=>?_,fun c5 c5p=>?_⟩
 ·
  try dsimp only at c5p
  refine W ?_
  refine⟨fun c6 c6p=>?_,fun c6 c6p=>?_⟩
  ·
   try dsimp only at c6p
   refine W ?_
   refine Im (cs:=BO (n:=3) AT (Vector.replicate 3 default)) J Tryz.underlying117 ba bc (by decide) (by decide) (by kernel_rfl) (.cons (Ac.arr (n:=3) (i:=0) Bm (by decide) (by decide)) J J J (.cons (Ac.arr (n:=3) (i:=1) Bm (by decide) (by decide)) J J J (.cons (Ac.arr (n:=3) (i:=2) Bm (by decide) (by decide)) J J J .nil))) ((IY Bm).len _) (fun b7=>?_)
   refine W ?_
   refine Cp (fun w hS=>Bc _ [255,253,opt] (by intro x hx;simp at hx;omega) (by simp) w ((Kn.own .m0) w hS)) ?_
   refine W ?_
   rw [show X.asked verb opt=_ from((AB c1).trans ((AB c2).trans ((AB c3).trans ((AN c5).trans (AN c6)))))];rfl
  try dsimp only at c6p
  refine W ?_
  rw [show X.asked verb opt=_ from((AB c1).trans ((AB c2).trans ((AB c3).trans ((AN c5).trans (AB c6)))))];rfl
 try dsimp only at c5p
 refine W ?_
 refine⟨fun c7 c7p=>?_,fun c7 c7p=>?_⟩
 ·
  try dsimp only at c7p
  refine W ?_
  refine⟨fun c8 c8p=>?_,fun c8 c8p=>?_⟩
  ·
   try dsimp only at c8p
   refine W ?_
   refine Im (cs:=BO (n:=3) AT (Vector.replicate 3 default)) J Tryz.underlying117 ba bc (by decide) (by decide) (by kernel_rfl) (.cons (Ac.arr (n:=3) (i:=0) Bm (by decide) (by decide)) J J J (.cons (Ac.arr (n:=3) (i:=1) Bm (by decide) (by decide)) J J J (.cons (Ac.arr (n:=3) (i:=2) Bm (by decide) (by decide)) J J J .nil))) ((IY Bm).len _) (fun b8=>?_)
   refine W ?_
   refine Cp (fun w hS=>Bc _ [255,252,opt] (by intro x hx;simp at hx;omega) (by simp) w ((Kn.own .m0) w hS)) ?_
   refine W ?_
   rw [show X.asked verb opt=_ from((AB c1).trans ((AB c2).trans ((AB c3).trans ((AB c5).trans ((AN c7).trans (AN c8))))))];rfl
  try dsimp only at c8p
  refine W ?_
  rw [show X.asked verb opt=_ from((AB c1).trans ((AB c2).trans ((AB c3).trans ((AB c5).trans ((AN c7).trans (AB c8))))))];rfl
 try dsimp only at c7p
 refine W ?_
 refine⟨fun c9 c9p=>?_,fun c9 c9p=>?_⟩
 ·
  try dsimp only at c9p
  refine W ?_
  refine⟨fun c10 c10p=>?_,fun c10 c10p=>?_⟩
  ·
   try dsimp only at c10p
   refine W ?_
   refine Im (cs:=BO (n:=3) AT (Vector.replicate 3 default)) J Tryz.underlying117 ba bc (by decide) (by decide) (by kernel_rfl) (.cons (Ac.arr (n:=3) (i:=0) Bm (by decide) (by decide)) J J J (.cons (Ac.arr (n:=3) (i:=1) Bm (by decide) (by decide)) J J J (.cons (Ac.arr (n:=3) (i:=2) Bm (by decide) (by decide)) J J J .nil))) ((IY Bm).len _) (fun b9=>?_)
   refine W ?_
   refine Cp (fun w hS=>Bc _ [255,254,opt] (by intro x hx;simp at hx;omega) (by simp) w ((Kn.own .m0) w hS)) ?_
   refine W ?_
   rw [show X.asked verb opt=_ from((AB c1).trans ((AB c2).trans ((AB c3).trans ((AB c5).trans ((AB c7).trans ((AN c9).trans (AN c10)))))))];rfl
  try dsimp only at c10p
  refine W ?_
  rw [show X.asked verb opt=_ from((AB c1).trans ((AB c2).trans ((AB c3).trans ((AB c5).trans ((AB c7).trans ((AN c9).trans (AB c10)))))))];rfl
 try dsimp only at c9p
 refine W ?_
 rw [show X.asked verb opt=_ from((AB c1).trans ((AB c2).trans ((AB c3).trans ((AB c5).trans ((AB c7).trans (AB c9))))))];rfl
instance instP59:DI Tryz.prog 59 (type_of% @KX):=⟨@KX⟩
theorem Hg (X:AI)(u:AL)(hu:u.length≤140737488351232)(w:World):Ch Tryz.prog 28 #[.agg X.enc.toArray,Ag u] w fun v w'=>v = .tuple #[.agg (X.CM u).1.enc.toArray,Ag (X.CM u).2.1,Ag (X.CM u).2.2.1, .int .i64 (X.CM u).2.2.2]∧BF w w':=by
 refine Rb Tryz.func28 ?_
 refine W ?_
 intro b1 b2
 refine⟨fun c1 c1p=>?_,fun c1 c1p=>?_⟩
 ·
  try dsimp only at c1p
  refine W ?_
  rw [show X.CM u=_ from AN (by rw [← AI.Cd];exact c1)];rfl
 try dsimp only at c1p
 have hg:X.A5=true:=by rw [← AI.Cd];simpa using c1
 refine W ?_
 refine Af (.t6 8 9 10 1 2 4) ?_
 refine CG CE 5 1 ?_
 refine CG CE 5 1 ?_
 refine AY (.t (.t (.t .h))) ?_
 refine AY (.t (.t .h)) ?_
 refine AY (.t (.t .h)) ?_
 refine S9 (fun(k:Int) (t:AI) (x:AL) (y:AL) (h:Hd) (g:Hd)=>AI.FR X u k t x y∧AI.Rk t∧h.len=x.length∧g.len=y.length) (fun(k:Int) (t:AI) (x:AL) (y:AL) (h:Hd) (g:Hd)=>((u.length:Int) - k).toNat) (fun(k:Int) (t:AI) (x:AL) (y:AL) (h:Hd) (g:Hd)=> [(8,h.val),(9,g.val),(10, .int .i64 k)]) (fun(k:Int) (t:AI) (x:AL) (y:AL) (h:Hd) (g:Hd)=> [AJ.own g 5 1 (y.flatMap CE),AJ.own h 5 1 (x.flatMap CE),AJ.box b1 55 (AI.enc t)]) (0) (X) ([]) ([]) (_) (_) ?_ J J (fun k t x y h g hI1=>?_)
 · exact⟨AI.FR.start (AI.Tx hg),AI.cm hg,J,J⟩
 obtain⟨hI11,hat,hlx,hly⟩:=hI1;have hk0:=hI11.k0;have hk1:=hI11.k1;have hsub:=hI11.sub;have hxl:=hI11.xl;have hyl:=hI11.yl;have hc8:=(u.getD k.toNat 0).toNat_lt;have ha0:=hat.a0;have ha1:=hat.a1;have hyb:=hI11.yb
 refine W ?_
 refine⟨fun c2 c2p=>?_,fun c2 c2p=>?_⟩
 ·
  try dsimp only at c2p
  try have:=(t.sub.getD (Int.toNat 3) 0).toNat_lt
  try have:=(t.sub.getD (Int.toNat 4) 0).toNat_lt
  refine W ?_
  intro b3
  refine⟨fun c3 c3p=>?_,fun c3 c3p=>?_⟩
  ·
   try dsimp only at c3p
   try have:=(t.sub.getD (Int.toNat 3) 0).toNat_lt
   try have:=(t.sub.getD (Int.toNat 4) 0).toNat_lt
   refine W ?_
   refine CN (k+1) _ _ _ _ _ ?_ ?_ (.t6 8 9 10 1 2 4) (.cons _ (.refl _))
   · have e:t.EO (u.getD k.toNat 0)=_:=(AN c3)
     exact hI11.HB hat (by omega) (by rw [e]<;>rfl) (by rw [e]<;>simp) (by rw [e]<;>simp) (by(try dsimp only at *)<;>(try simp only [List.length_append,List.length_cons,List.length_nil])<;>omega) (by(try dsimp only at *)<;>(try simp only [List.length_append,List.length_cons,List.length_nil])<;>omega)
   · omega
  try dsimp only at c3p
  refine W ?_
  refine⟨fun c4 c4p=>?_,fun c4 c4p=>?_⟩
  ·
   try dsimp only at c4p
   refine W ?_
   refine Kh CE (a:=255) SI J Tryz.underlying122 Qk VD J (by decide) (by decide) J J (fun b4=>?_)
   refine F1 SI J Tryz.underlying122 Qk VD J fx (by decide) (by decide) J J (fun w hS=>Src.FG Tryz.underlying122 ((Kn.own .m0) w hS)) (by have hal:=AI.M5 t t.verb ((u.getD k.toNat 0).toNat:Int);(try dsimp only at *);omega) (fun _=>(.t (.t (.t .h)))) (fun h1 h1l h1z=>?_)
   try have:=(t.sub.getD (Int.toNat 3) 0).toNat_lt
   try have:=(t.sub.getD (Int.toNat 4) 0).toNat_lt
   refine W ?_
   refine CN (k+1) _ _ _ _ _ ?_ ?_ (.t6 8 9 10 1 2 4) (.cons _ (.cons _ (.refl _)))
   · have e:t.EO (u.getD k.toNat 0)=_:=((AB c3).trans (AN c4))
     exact hI11.HB hat (by omega) (by rw [e]<;>rfl) (by rw [e]<;>simp) (by rw [e]<;>simp) (by(try dsimp only at *)<;>(try simp only [List.length_append,List.length_cons,List.length_nil])<;>omega) (by(try dsimp only at *)<;>(try simp only [List.length_append,List.length_cons,List.length_nil])<;>omega)
   · omega
  try dsimp only at c4p
  refine W ?_
  refine⟨fun c5 c5p=>?_,fun c5 c5p=>?_⟩
  ·
   try dsimp only at c5p
   try have:=(t.sub.getD (Int.toNat 3) 0).toNat_lt
   try have:=(t.sub.getD (Int.toNat 4) 0).toNat_lt
   refine W ?_
   refine CN (k+1) _ _ _ _ _ ?_ ?_ (.t6 8 9 10 1 2 4) (.cons _ (.refl _))
   · have e:t.EO (u.getD k.toNat 0)=_:=((AB c3).trans ((AB c4).trans (AN c5)))
     exact hI11.HB hat (by omega) (by rw [e]<;>rfl) (by rw [e]<;>simp) (by rw [e]<;>simp) (by(try dsimp only at *)<;>(try simp only [List.length_append,List.length_cons,List.length_nil])<;>omega) (by(try dsimp only at *)<;>(try simp only [List.length_append,List.length_cons,List.length_nil])<;>omega)
   · omega
  try dsimp only at c5p
  refine W ?_
  refine⟨fun c6 c6p=>?_,fun c6 c6p=>?_⟩
  ·
   try dsimp only at c6p
   try have:=(t.sub.getD (Int.toNat 3) 0).toNat_lt
   try have:=(t.sub.getD (Int.toNat 4) 0).toNat_lt
   refine W ?_
   refine CN (k+1) _ _ _ _ _ ?_ ?_ (.t6 8 9 10 1 2 4) (.cons _ (.refl _))
   · have e:t.EO (u.getD k.toNat 0)=_:=((AB c3).trans ((AB c4).trans ((AB c5).trans (AN c6))))
     exact hI11.HB hat (by omega) (by rw [e]<;>rfl) (by rw [e]<;>simp) (by rw [e]<;>simp) (by(try dsimp only at *)<;>(try simp only [List.length_append,List.length_cons,List.length_nil])<;>omega) (by(try dsimp only at *)<;>(try simp only [List.length_append,List.length_cons,List.length_nil])<;>omega)
   · omega
  try dsimp only at c6p
  refine W ?_
  refine⟨fun c7 c7p=>?_,fun c7 c7p=>?_⟩
  ·
   try dsimp only at c7p
   try have:=(t.sub.getD (Int.toNat 3) 0).toNat_lt
   try have:=(t.sub.getD (Int.toNat 4) 0).toNat_lt
   refine W ?_
   refine CN (k+1) _ _ _ _ _ ?_ ?_ (.t6 8 9 10 1 2 4) (.cons _ (.refl _))
   · have e:t.EO (u.getD k.toNat 0)=_:=((AB c3).trans ((AB c4).trans ((AB c5).trans ((AB c6).trans (AN c7)))))
     exact hI11.HB hat (by omega) (by rw [e]<;>rfl) (by rw [e]<;>simp) (by rw [e]<;>simp) (by(try dsimp only at *)<;>(try simp only [List.length_append,List.length_cons,List.length_nil])<;>omega) (by(try dsimp only at *)<;>(try simp only [List.length_append,List.length_cons,List.length_nil])<;>omega)
   · omega
  try dsimp only at c7p
  refine W ?_
  refine⟨fun c8 c8p=>?_,fun c8 c8p=>?_⟩
  ·
   try dsimp only at c8p
   try have:=(t.sub.getD (Int.toNat 3) 0).toNat_lt
   try have:=(t.sub.getD (Int.toNat 4) 0).toNat_lt
   refine W ?_
   refine CN (k+1) _ _ _ _ _ ?_ ?_ (.t6 8 9 10 1 2 4) (.cons _ (.refl _))
   · have e:t.EO (u.getD k.toNat 0)=_:=((AB c3).trans ((AB c4).trans ((AB c5).trans ((AB c6).trans ((AB c7).trans (AN c8))))))
     exact hI11.HB hat (by omega) (by rw [e]<;>rfl) (by rw [e]<;>simp) (by rw [e]<;>simp) (by(try dsimp only at *)<;>(try simp only [List.length_append,List.length_cons,List.length_nil])<;>omega) (by(try dsimp only at *)<;>(try simp only [List.length_append,List.length_cons,List.length_nil])<;>omega)
   · omega
  try dsimp only at c8p
  refine W ?_
  refine⟨fun c9 c9p=>?_,fun c9 c9p=>?_⟩
  ·
   try dsimp only at c9p
   try have:=(t.sub.getD (Int.toNat 3) 0).toNat_lt
   try have:=(t.sub.getD (Int.toNat 4) 0).toNat_lt
   refine W ?_
   refine CN (k+1) _ _ _ _ _ ?_ ?_ (.t6 8 9 10 1 2 4) (.cons _ (.refl _))
   · have e:t.EO (u.getD k.toNat 0)=_:=((AB c3).trans ((AB c4).trans ((AB c5).trans ((AB c6).trans ((AB c7).trans ((AB c8).trans (AN c9)))))))
     exact hI11.HB hat (by omega) (by rw [e]<;>rfl) (by rw [e]<;>simp) (by rw [e]<;>simp) (by(try dsimp only at *)<;>(try simp only [List.length_append,List.length_cons,List.length_nil])<;>omega) (by(try dsimp only at *)<;>(try simp only [List.length_append,List.length_cons,List.length_nil])<;>omega)
   · omega
  try dsimp only at c9p
  refine W ?_
  refine⟨fun c10 c10p=>?_,fun c10 c10p=>?_⟩
  ·
   try dsimp only at c10p
   try have:=(t.sub.getD (Int.toNat 3) 0).toNat_lt
   try have:=(t.sub.getD (Int.toNat 4) 0).toNat_lt
   refine W ?_
   refine CN (k+1) _ _ _ _ _ ?_ ?_ (.t6 8 9 10 1 2 4) (.cons _ (.refl _))
   · have e:t.EO (u.getD k.toNat 0)=_:=((AB c3).trans ((AB c4).trans ((AB c5).trans ((AB c6).trans ((AB c7).trans ((AB c8).trans ((AB c9).trans (AN c10))))))))
     exact hI11.HB hat (by omega) (by rw [e]<;>rfl) (by rw [e]<;>simp) (by rw [e]<;>simp) (by(try dsimp only at *)<;>(try simp only [List.length_append,List.length_cons,List.length_nil])<;>omega) (by(try dsimp only at *)<;>(try simp only [List.length_append,List.length_cons,List.length_nil])<;>omega)
   · omega
  try dsimp only at c10p
  refine W ?_
  refine⟨fun c11 c11p=>?_,fun c11 c11p=>?_⟩
  ·
   try dsimp only at c11p
   refine W ?_
   refine Cl (.c (.t (.t (.t .h))) (.c .h .n)) (Gl _ _ _ _ (by first | assumption | omega)) (fun v2 B hv=>?_)
   obtain⟨rfl,rfl⟩:=hv
   try have:=(t.sub.getD (Int.toNat 3) 0).toNat_lt
   try have:=(t.sub.getD (Int.toNat 4) 0).toNat_lt
   refine W ?_
   refine Ar (.c (.t (.t .h)) (.c (.t (.t .h)) (.c .h (.c (.t .h) .n)))) ?_
   refine Az ?_
   refine CN (k+1) _ _ _ _ _ ?_ ?_ (.t6 8 9 10 1 2 4) (.refl _)
   · have e:t.EO (u.getD k.toNat 0)=_:=((AB c3).trans ((AB c4).trans ((AB c5).trans ((AB c6).trans ((AB c7).trans ((AB c8).trans ((AB c9).trans ((AB c10).trans (AN c11)))))))))
     exact hI11.HB hat (by omega) (by rw [e]<;>rfl) (by rw [e]<;>simp) (by rw [e]<;>simp) (by(try dsimp only at *)<;>(try simp only [List.length_append,List.length_cons,List.length_nil])<;>omega) (by(try dsimp only at *)<;>(try simp only [List.length_append,List.length_cons,List.length_nil])<;>omega)
   · omega
  try dsimp only at c11p
  refine W ?_
  refine⟨fun c12 c12p=>?_,fun c12 c12p=>?_⟩
  ·
   try dsimp only at c12p
   try have:=(t.sub.getD (Int.toNat 3) 0).toNat_lt
   try have:=(t.sub.getD (Int.toNat 4) 0).toNat_lt
   refine W ?_
   refine Kh CE SI J Tryz.underlying122 Qk VD J (by decide) (by decide) J J (fun b5=>?_)
   refine F1 SI J Tryz.underlying122 Qk VD J fx (by decide) (by decide) J J (fun w hS=>Src.FG Tryz.underlying122 ((Kn.own .m0) w hS)) (by have hal:=AI.M5 t t.verb ((u.getD k.toNat 0).toNat:Int);(try dsimp only at *);omega) (fun _=>(.t (.t (.t .h)))) (fun h3 h3l h3z=>?_)
   try have:=(t.sub.getD (Int.toNat 3) 0).toNat_lt
   try have:=(t.sub.getD (Int.toNat 4) 0).toNat_lt
   refine W ?_
   refine CN (k+1) _ _ _ _ _ ?_ ?_ (.t6 8 9 10 1 2 4) (.cons _ (.cons _ (.refl _)))
   · have e:t.EO (u.getD k.toNat 0)=_:=((AB c3).trans ((AB c4).trans ((AB c5).trans ((AB c6).trans ((AB c7).trans ((AB c8).trans ((AB c9).trans ((AB c10).trans ((AB c11).trans (AN c12))))))))))
     exact hI11.HB hat (by omega) (by rw [e]<;>rfl) (by rw [e]<;>simp) (by rw [e]<;>simp) (by(try dsimp only at *)<;>(try simp only [List.length_append,List.length_cons,List.length_nil])<;>omega) (by(try dsimp only at *)<;>(try simp only [List.length_append,List.length_cons,List.length_nil])<;>omega)
   · omega
  try dsimp only at c12p
  refine W ?_
  refine⟨fun c13 c13p=>?_,fun c13 c13p=>?_⟩
  ·
   try dsimp only at c13p
   try have:=(t.sub.getD (Int.toNat 3) 0).toNat_lt
   try have:=(t.sub.getD (Int.toNat 4) 0).toNat_lt
   refine W ?_
   refine CN (k+1) _ _ _ _ _ ?_ ?_ (.t6 8 9 10 1 2 4) (.cons _ (.refl _))
   · have e:t.EO (u.getD k.toNat 0)=_:=((AB c3).trans ((AB c4).trans ((AB c5).trans ((AB c6).trans ((AB c7).trans ((AB c8).trans ((AB c9).trans ((AB c10).trans ((AB c11).trans ((AB c12).trans (AN c13)))))))))))
     exact hI11.HB hat (by omega) (by rw [e]<;>rfl) (by rw [e]<;>simp) (by rw [e]<;>simp) (by(try dsimp only at *)<;>(try simp only [List.length_append,List.length_cons,List.length_nil])<;>omega) (by(try dsimp only at *)<;>(try simp only [List.length_append,List.length_cons,List.length_nil])<;>omega)
   · omega
  try dsimp only at c13p
  refine W ?_
  refine⟨fun c14 c14p=>?_,fun c14 c14p=>?_⟩
  ·
   try dsimp only at c14p
   try have:=AI.M5 t t.verb ((u.getD k.toNat 0).toNat:Int)
   try have:=(t.sub.getD (Int.toNat 3) 0).toNat_lt
   try have:=(t.sub.getD (Int.toNat 4) 0).toNat_lt
   refine W ?_
   intro h4 h4l h4z
   refine CN (k+1) _ _ _ _ _ ?_ ?_ (.t6 8 9 10 1 2 4) (.cons _ (.refl _))
   · have e:t.EO (u.getD k.toNat 0)=_:=((AB c3).trans ((AB c4).trans ((AB c5).trans ((AB c6).trans ((AB c7).trans ((AB c8).trans ((AB c9).trans ((AB c10).trans ((AB c11).trans ((AB c12).trans ((AB c13).trans (AN c14))))))))))))
     exact hI11.HB hat (by omega) (by rw [e]<;>rfl) (by rw [e]<;>simp) (by rw [e]<;>simp) (by(try dsimp only at *)<;>(try simp only [List.length_append,List.length_cons,List.length_nil])<;>omega) (by(try dsimp only at *)<;>(try simp only [List.length_append,List.length_cons,List.length_nil])<;>omega)
   · omega
  try dsimp only at c14p
  refine W ?_
  refine⟨fun c15 c15p=>?_,fun c15 c15p=>?_⟩
  ·
   try dsimp only at c15p
   refine W ?_
   refine Cl (.c (.t (.t (.t .h))) (.c .h .n)) (Gl _ _ _ _ (by first | assumption | omega)) (fun v5 B hv=>?_)
   obtain⟨rfl,rfl⟩:=hv
   try have:=(t.sub.getD (Int.toNat 3) 0).toNat_lt
   try have:=(t.sub.getD (Int.toNat 4) 0).toNat_lt
   refine W ?_
   refine Ar (.c (.t (.t .h)) (.c (.t (.t .h)) (.c .h (.c (.t .h) .n)))) ?_
   refine Az ?_
   refine CN (k+1) _ _ _ _ _ ?_ ?_ (.t6 8 9 10 1 2 4) (.refl _)
   · have e:t.EO (u.getD k.toNat 0)=_:=((AB c3).trans ((AB c4).trans ((AB c5).trans ((AB c6).trans ((AB c7).trans ((AB c8).trans ((AB c9).trans ((AB c10).trans ((AB c11).trans ((AB c12).trans ((AB c13).trans ((AB c14).trans (AN c15)))))))))))))
     exact hI11.HB hat (by omega) (by rw [e]<;>rfl) (by rw [e]<;>simp) (by rw [e]<;>simp) (by(try dsimp only at *)<;>(try simp only [List.length_append,List.length_cons,List.length_nil])<;>omega) (by(try dsimp only at *)<;>(try simp only [List.length_append,List.length_cons,List.length_nil])<;>omega)
   · omega
  try dsimp only at c15p
  refine W ?_
  refine⟨fun c16 c16p=>?_,fun c16 c16p=>?_⟩
  ·
   try dsimp only at c16p
   try have:=(t.sub.getD (Int.toNat 3) 0).toNat_lt
   try have:=(t.sub.getD (Int.toNat 4) 0).toNat_lt
   refine W ?_
   refine⟨fun c17 c17p=>?_,fun c17 c17p=>?_⟩
   ·
    try dsimp only at c17p
    try have:=(t.sub.getD (Int.toNat 3) 0).toNat_lt
    try have:=(t.sub.getD (Int.toNat 4) 0).toNat_lt
    refine W ?_
    refine CN (k+1) _ _ _ _ _ ?_ ?_ (.t6 8 9 10 1 2 4) (.cons _ (.refl _))
    · have e:t.EO (u.getD k.toNat 0)=_:=((AB c3).trans ((AB c4).trans ((AB c5).trans ((AB c6).trans ((AB c7).trans ((AB c8).trans ((AB c9).trans ((AB c10).trans ((AB c11).trans ((AB c12).trans ((AB c13).trans ((AB c14).trans ((AB c15).trans ((AN c16).trans (AN c17)))))))))))))))
      exact hI11.HB hat (by omega) (by rw [e]<;>rfl) (by rw [e]<;>simp) (by rw [e]<;>simp) (by(try dsimp only at *)<;>(try simp only [List.length_append,List.length_cons,List.length_nil])<;>omega) (by(try dsimp only at *)<;>(try simp only [List.length_append,List.length_cons,List.length_nil])<;>omega)
    · omega
   try dsimp only at c17p
   try have:=(t.sub.getD (Int.toNat 3) 0).toNat_lt
   try have:=(t.sub.getD (Int.toNat 4) 0).toNat_lt
   refine W ?_
   refine CN (k+1) _ _ _ _ _ ?_ ?_ (.t6 8 9 10 1 2 4) (.cons _ (.refl _))
   · have e:t.EO (u.getD k.toNat 0)=_:=((AB c3).trans ((AB c4).trans ((AB c5).trans ((AB c6).trans ((AB c7).trans ((AB c8).trans ((AB c9).trans ((AB c10).trans ((AB c11).trans ((AB c12).trans ((AB c13).trans ((AB c14).trans ((AB c15).trans ((AN c16).trans (AB c17)))))))))))))))
     exact hI11.HB hat (by omega) (by rw [e]<;>rfl) (by rw [e]<;>simp) (by rw [e]<;>simp) (by(try dsimp only at *)<;>(try simp only [List.length_append,List.length_cons,List.length_nil])<;>omega) (by(try dsimp only at *)<;>(try simp only [List.length_append,List.length_cons,List.length_nil])<;>omega)
   · omega
  try dsimp only at c16p
  try have:=(t.sub.getD (Int.toNat 3) 0).toNat_lt
  try have:=(t.sub.getD (Int.toNat 4) 0).toNat_lt
  refine W ?_
  refine CN (k+1) _ _ _ _ _ ?_ ?_ (.t6 8 9 10 1 2 4) (.cons _ (.refl _))
  · have e:t.EO (u.getD k.toNat 0)=_:=((AB c3).trans ((AB c4).trans ((AB c5).trans ((AB c6).trans ((AB c7).trans ((AB c8).trans ((AB c9).trans ((AB c10).trans ((AB c11).trans ((AB c12).trans ((AB c13).trans ((AB c14).trans ((AB c15).trans (AB c16))))))))))))))
    exact hI11.HB hat (by omega) (by rw [e]<;>rfl) (by rw [e]<;>simp) (by rw [e]<;>simp) (by(try dsimp only at *)<;>(try simp only [List.length_append,List.length_cons,List.length_nil])<;>omega) (by(try dsimp only at *)<;>(try simp only [List.length_append,List.length_cons,List.length_nil])<;>omega)
  · omega
 try dsimp only at c2p
 refine W ?_
 rw [show X.CM u=_ from AB (by rw [← AI.Cd];exact c1),hI11.done (by omega)];rfl
instance instP28:DI Tryz.prog 28 (type_of% @Hg):=⟨@Hg⟩
theorem Hj (s:AL)(hs:s.length≤9223372036854775807)(w:World):Ch Tryz.prog 107 #[Ag s] w fun v w'=>v = .bool (Aa.G0 s)∧BF w w':=by
 refine Rb Tryz.func107 ?_
 refine W ?_
 refine GY J Tryz.underlying9 Tryz.underlying122 Tryz.underlying5 J (fun h1 h1l=>?_)
 refine W ?_
 refine Af (.t4 8 0 6 7) ?_
 refine A7 (fun(i:Int)=>0≤i∧i≤s.length∧Aa.G0 s=((s.drop i.toNat).all Aa.KV && decide ((s.length:Int)≤60))) (fun(i:Int)=>((s.length:Int) - i).toNat) (fun(i:Int)=> [(8, .int .i64 i)]) (fun(i:Int)=> []) (0) ?_ J J (fun i hI1=>?_)
 · exact⟨by omega,by omega,rfl⟩
 obtain⟨hI11,hI12,hI13⟩:=hI1
 refine W ?_
 refine⟨fun c1 c1p=>?_,fun c1 c1p=>?_⟩
 ·
  try dsimp only at c1p
  refine W ?_
  refine⟨fun c2 c2p=>?_,fun c2 c2p=>?_⟩
  ·
   try dsimp only at c2p
   refine W ?_
   refine congrArg Value.bool ?_;rw [hI13,Aa.DK (d:=0) hI11 (by omega),show Aa.KV _=false from by simp only [Aa.KV,c2];rfl];rfl
  try dsimp only at c2p
  refine W ?_
  refine Aw (i+1) ?_ ?_ (.t4 8 0 6 7) (.refl _)
  · exact⟨by omega,by omega,by rw [hI13,Aa.DK (d:=0) hI11 (by omega),show Aa.KV _=true from by simp only [Aa.KV,c2];rfl];rfl⟩
  · omega
 try dsimp only at c1p
 refine W ?_
 refine congrArg Value.bool ?_;rw [hI13,show i.toNat=s.length from by omega,List.drop_length];rfl
instance instP107:DI Tryz.prog 107 (type_of% @Hj):=⟨@Hj⟩
theorem IB {t0:Nat}(l:BN)(qs:List AL)(hs:∀ s∈qs,s.length≤9223372036854775807)(hn:l.now.length≤9223372036854775807)(hx:qs.length≤9223372036854775807)(w:World)(r0:Rd w l.queue t0 1 (qs.flatMap AX)):Ch Tryz.prog 61 #[.agg l.enc.toArray] w fun v w'=>v = .bool (Aa.C2 l qs)∧BF w w':=by
 have hl:=r0.Gh Cr (by decide)
 refine Rb Tryz.func61 ?_
 refine W ?_
 intro b1
 refine Af (.t4 8 1 6 7) ?_
 refine A7 (fun(i:Int)=>0≤i∧i≤qs.length∧qs.all Aa.G0=(qs.drop i.toNat).all Aa.G0) (fun(i:Int)=>((qs.length:Int) - i).toNat) (fun(i:Int)=> [(8, .int .i64 i)]) (fun(i:Int)=> []) (0) ?_ J J (fun i hI1=>?_)
 · exact⟨by omega,by omega,rfl⟩
 obtain⟨hI11,hI12,hI13⟩:=hI1
 refine W ?_
 refine⟨fun c1 c1p=>?_,fun c1 c1p=>?_⟩
 ·
  try dsimp only at c1p
  refine W ?_
  refine Cp (fun w hS=>Hj _ (Aa.cj hs _) w) ?_
  refine W ?_
  refine⟨fun c2 c2p=>?_,fun c2 c2p=>?_⟩
  ·
   try dsimp only at c2p
   refine W ?_
   refine congrArg Value.bool ?_;rw [Aa.C2,hI13,Aa.DK (d:= []) hI11 (by omega),show Aa.G0 _=false from by simpa using c2];rfl
  try dsimp only at c2p
  refine W ?_
  refine Aw (i+1) ?_ ?_ (.t4 8 1 6 7) (.refl _)
  · exact⟨by omega,by omega,by rw [hI13,Aa.DK (d:= []) hI11 (by omega),show Aa.G0 _=true from by simpa using c2];rfl⟩
  · omega
 try dsimp only at c1p
 refine W ?_
 refine congrArg Value.bool ?_;rw [Aa.C2,hI13,show i.toNat=qs.length from by omega,List.drop_length];rfl
instance instP61:DI Tryz.prog 61 (type_of% @IB):=⟨@IB⟩
theorem Ma {t0:Nat}(l:BN)(qs:List AL)(hb:qs.length≤17592186044416):Cz Tryz.prog 62 #[.agg l.enc.toArray] [] (fun w=>Rd w l.queue t0 1 (qs.flatMap AX)) (fun v B=>∃ h':Hd,v = .agg (BN.enc ⟨l.now,l.long,l.ret,h'⟩).toArray∧h'.len=qs.length∧B = [AJ.own h' 9 1 (qs.flatMap AX)]):=by
 intro w hS0 hH
 have r0:=hH
 have hl:=r0.Gh Cr (by decide)
 refine AR _ _ Tryz.func62 J J J (hS0) ?_
 refine W ?_
 intro b1 b2
 refine Hx AX 9 1 ?_
 refine ES (e:=AX) J Tryz.underlying56 OZ bd J dm (by decide) J J (fun w hS=>Src.FG Tryz.underlying56 ((Kn.Il r0) w hS)) J J (by omega) (fun _=> .h) (fun h1 h1l=>?_)
 refine W ?_
 intro w1 hS
 have hS:=(hS.perm (AK.perm (.c .h .n))).AM
 exact⟨_,⟨_,J,by omega,rfl⟩,hS⟩
theorem Dd (b c:Nat)(now:AL)(long ret:Bool)(queue:List AL)(g:Hd)(lost:Int)(hg:g.len=queue.length)(hq:queue.length≤6)(hl:0≤lost∧lost≤9000000000000000000):Fu Tryz.prog 63 #[.pointer (some ⟨b,0,none⟩), .pointer (some ⟨c,0,none⟩)] [AJ.box b 58 (BN.enc ⟨now,long,ret,g⟩),AJ.own g 9 1 (queue.flatMap AX),AJ.box c 3 [.int .i64 lost]] (fun v B=>∃ g':Hd,v = .tuple #[]∧g'.len=(if decide ((queue.length:Int)=6)=true then queue else queue ++ [now]).length∧B = [AJ.box b 58 (BN.enc ⟨[],false,ret,g'⟩),AJ.own g' 9 1 ((if decide ((queue.length:Int)=6)=true then queue else queue ++ [now]).flatMap AX),AJ.box c 3 [.int .i64 (if decide ((queue.length:Int)=6)=true then lost+1 else lost)]]):=by
 intro w hS0
 refine AR _ _ Tryz.func63 J J J (hS0) ?_
 refine W ?_
 refine⟨fun c1 c1p=>?_,fun c1 c1p=>?_⟩
 ·
  try dsimp only at c1p
  refine W ?_
  intro w1 hS
  have hS:=(hS.perm (AK.perm (.c .h (.c .h (.c .h .n))))).AM
  rw [hg] at c1
  exact⟨_,⟨_,J,by rw [AN c1];exact hg,by rw [AN c1,AN c1]⟩,hS⟩
 try dsimp only at c1p
 refine W ?_
 intro b1 h1 h1l h1z
 intro w1 hS
 have hS:=(hS.perm (AK.perm (.c (.t .h) (.c (.t .h) (.c (.t .h) .n))))).AM
 rw [hg] at c1
 exact⟨_,⟨h1,J,by rw [AB c1,List.length_append,List.length_singleton];(try dsimp only at *);omega,by rw [AB c1,AB c1]⟩,hS⟩
theorem Mb {t0:Nat}(l:BN)(qs:List AL)(u:AL)(hu:u.length≤9000000000000000000)(hs:∀ s∈qs,s.length≤9223372036854775807)(hn:l.now.length≤9223372036854775807)(hx:qs.length≤9223372036854775807):Cz Tryz.prog 30 #[.agg l.enc.toArray,Ag u] [] (fun w=>Rd w l.queue t0 1 (qs.flatMap AX)) (fun v B=>(Aa.A5 l qs=false∧v = .tuple #[.agg l.enc.toArray, .int .i64 0, .int .i64 2]∧B = [])∨(Aa.A5 l qs=true∧∃ h':Hd,v = .tuple #[.agg (BN.enc ⟨(Aa.feed (Aa.start l qs) u).now,(Aa.feed (Aa.start l qs) u).long,(Aa.feed (Aa.start l qs) u).ret,h'⟩).toArray, .int .i64 (Aa.feed (Aa.start l qs) u).lost, .int .i64 0]∧h'.len=(Aa.feed (Aa.start l qs) u).queue.length∧B = [AJ.own h' 9 1 ((Aa.feed (Aa.start l qs) u).queue.flatMap AX)])):=by
 intro w hS0 hH
 have r0:=hH
 have hl0:=r0.Gh Cr (by decide)
 refine AR _ _ Tryz.func30 J J J (hS0) ?_
 refine W ?_
 intro b1 b2
 refine⟨fun c1 c1p=>?_,fun c1 c1p=>?_⟩
 ·
  try dsimp only at c1p
  refine W ?_
  intro w1 hS
  have hS:=(hS.perm (AK.perm .n)).AM
  exact⟨_, .inl ⟨by rw [← Aa.Cd];simpa using c1,rfl,rfl⟩,hS⟩
 try dsimp only at c1p
 have hgd:Aa.A5 l qs=true:=by rw [← Aa.Cd];simpa using c1
 have hok:=Aa.bF hgd hl0
 have hq6:qs.length≤6:=hok.len
 refine W ?_
 refine Cm .n (Ma _ _ (by omega)) (fun v1 B hv=>?_) (fun _=>(fun w hS=>(Kn.Il r0) w hS))
 obtain⟨y2,rfl,y3,rfl⟩:=hv
 refine W ?_
 intro b3
 refine Af (.t6 9 1 2 4 7 8) ?_
 refine AY (.t (.t (.t .h))) ?_
 refine AY (.t (.t .h)) ?_
 refine AY (.t (.t .h)) ?_
 refine Y2 (fun(k:Int) (now:AL) (long:Bool) (ret:Bool) (queue:List AL) (lost:Int) (g:Hd)=>Aa.RI (Aa.start l qs) u k ⟨now,long,ret,queue,lost⟩∧g.len=queue.length) (fun(k:Int) (now:AL) (long:Bool) (ret:Bool) (queue:List AL) (lost:Int) (g:Hd)=>((u.length:Int) - k).toNat) (fun(k:Int) (now:AL) (long:Bool) (ret:Bool) (queue:List AL) (lost:Int) (g:Hd)=> [(9, .int .i64 k)]) (fun(k:Int) (now:AL) (long:Bool) (ret:Bool) (queue:List AL) (lost:Int) (g:Hd)=> [AJ.box b3 3 [.int .i64 lost],AJ.own g 9 1 (queue.flatMap AX),AJ.box b1 58 (BN.enc ⟨now,long,ret,g⟩)]) (0) (l.now) (l.long) (l.ret) (qs) (0) (_) ?_ J J (fun k now long ret queue lost g hI1=>?_)
 · exact⟨Aa.RI.start hok J,by assumption⟩
 obtain⟨hI11,hg⟩:=hI1;have hk0:=hI11.k0;have hk1:=hI11.k1;have hn6:now.length≤60:=((Aa.Di _).1 hI11.ok.now).1;have hq:queue.length≤6:=hI11.ok.len;have hlo:0≤lost∧lost≤k:=hI11.lost;have hc8:=(u.getD k.toNat 0).toNat_lt
 refine W ?_
 refine⟨fun c2 c2p=>?_,fun c2 c2p=>?_⟩
 ·
  try dsimp only at c2p
  refine W ?_
  refine⟨fun c3 c3p=>?_,fun c3 c3p=>?_⟩
  ·
   try dsimp only at c3p
   dsimp only at c3
   refine W ?_
   refine⟨fun c4 c4p=>?_,fun c4 c4p=>?_⟩
   ·
    try dsimp only at c4p
    refine W ?_
    refine C8 (k+1) _ _ _ _ _ _ ?_ ?_ (.t6 9 1 2 4 7 8) (.refl _)
    · exact⟨hI11.next (by omega) (by unfold Aa.Db;dsimp only;rw [AN c3,AN c4]),by assumption⟩
    · omega
   try dsimp only at c4p
   refine W ?_
   refine⟨fun c5 c5p=>?_,fun c5 c5p=>?_⟩
   ·
    try dsimp only at c5p
    refine W ?_
    refine Cl (.c (.t (.t .h)) (.c (.t .h) (.c .h .n))) (Dd _ _ _ _ _ _ _ _ hg hq (by omega)) (fun v5 B hv=>?_)
    obtain⟨y6,rfl,y7,rfl⟩:=hv
    refine W ?_
    refine Ar (.c (.t (.t .h)) (.c (.t .h) (.c .h (.c .h .n)))) ?_
    refine Az ?_
    refine C8 (k+1) _ _ _ _ _ _ ?_ ?_ (.t6 9 1 2 4 7 8) (.refl _)
    · exact⟨hI11.next (by omega) (by unfold Aa.Db;dsimp only;rw [AN c3,AB c4];(try dsimp only at c5);simp only [Aa.LC,Aa.FE,Aa.E9,hg,Bool.false_and,Bool.and_false,Bool.true_and,Bool.and_true,c5,↓reduceIte,Bool.false_eq_true]),by assumption⟩
    · omega
   try dsimp only at c5p
   refine W ?_
   refine⟨fun c6 c6p=>?_,fun c6 c6p=>?_⟩
   ·
    try dsimp only at c6p
    refine W ?_
    refine Cl (.c (.t (.t .h)) (.c (.t .h) (.c .h .n))) (Dd _ _ _ _ _ _ _ _ hg hq (by omega)) (fun v8 B hv=>?_)
    obtain⟨y9,rfl,y10,rfl⟩:=hv
    refine W ?_
    refine Ar (.c (.t (.t .h)) (.c (.t .h) (.c .h (.c .h .n)))) ?_
    refine Az ?_
    refine C8 (k+1) _ _ _ _ _ _ ?_ ?_ (.t6 9 1 2 4 7 8) (.refl _)
    · exact⟨hI11.next (by omega) (by unfold Aa.Db;dsimp only;rw [AN c3,AB c4];(try dsimp only at c5);(try dsimp only at c6);(try rw [c6,Bool.true_and] at c5);simp only [Aa.LC,Aa.FE,Aa.E9,hg,Bool.false_and,Bool.and_false,Bool.true_and,Bool.and_true,c5,c6,↓reduceIte,Bool.false_eq_true]),by assumption⟩
    · omega
   try dsimp only at c6p
   refine W ?_
   refine⟨fun c7 c7p=>?_,fun c7 c7p=>?_⟩
   ·
    try dsimp only at c7p
    refine W ?_
    refine C8 (k+1) _ _ _ _ _ _ ?_ ?_ (.t6 9 1 2 4 7 8) (.refl _)
    · exact⟨hI11.next (by omega) (by unfold Aa.Db;dsimp only;rw [AN c3,AB c4];(try dsimp only at c5);(try dsimp only at c6);(try dsimp only at c7);(try rw [c6,Bool.true_and] at c5);(try rw [c7,Bool.true_and] at c6);simp only [Aa.LC,Aa.FE,Aa.E9,hg,Bool.false_and,Bool.and_false,Bool.true_and,Bool.and_true,c5,c6,c7,↓reduceIte,Bool.false_eq_true]),by assumption⟩
    · omega
   try dsimp only at c7p
   refine W ?_
   refine⟨fun c8 c8p=>?_,fun c8 c8p=>?_⟩
   ·
    try dsimp only at c8p
    refine W ?_
    refine C8 (k+1) _ _ _ _ _ _ ?_ ?_ (.t6 9 1 2 4 7 8) (.refl _)
    · exact⟨hI11.next (by omega) (by unfold Aa.Db;dsimp only;rw [AN c3,AB c4];(try dsimp only at c5);(try dsimp only at c6);(try dsimp only at c7);(try dsimp only at c8);(try rw [c6,Bool.true_and] at c5);(try rw [c7,Bool.true_and] at c6);(try rw [c8,Bool.true_and] at c7);simp only [Aa.LC,Aa.FE,Aa.E9,hg,Bool.false_and,Bool.and_false,Bool.true_and,Bool.and_true,c5,c6,c7,c8,↓reduceIte,Bool.false_eq_true]),by assumption⟩
    · omega
   try dsimp only at c8p
   refine W ?_
   refine⟨fun c9 c9p=>?_,fun c9 c9p=>?_⟩
   ·
    try dsimp only at c9p
    refine W ?_
    intro b4
    refine Cp (fun w hS=>Bc _ [((u.getD k.toNat 0).toNat:Int)] (by intro x hx;rw [List.mem_singleton.1 hx];omega) (by simp) w ((Kn.own .m0) w hS)) ?_
    refine W ?_
    refine C8 (k+1) _ _ _ _ _ _ ?_ ?_ (.t6 9 1 2 4 7 8) (.cons _ (.refl _))
    · exact⟨hI11.next (by omega) (by unfold Aa.Db;dsimp only;rw [AN c3,AB c4];(try dsimp only at c5);(try dsimp only at c6);(try dsimp only at c7);(try dsimp only at c8);(try dsimp only at c9);(try rw [c6,Bool.true_and] at c5);(try rw [c7,Bool.true_and] at c6);(try rw [c8,Bool.true_and] at c7);(try rw [c9,Bool.true_and] at c8);simp only [Aa.LC,Aa.FE,Aa.E9,hg,Bool.false_and,Bool.and_false,Bool.true_and,Bool.and_true,c5,c6,c7,c8,c9,↓reduceIte,Bool.false_eq_true]),by assumption⟩
    · omega
   try dsimp only at c9p
   refine W ?_
   refine C8 (k+1) _ _ _ _ _ _ ?_ ?_ (.t6 9 1 2 4 7 8) (.refl _)
   · exact⟨hI11.next (by omega) (by unfold Aa.Db;dsimp only;rw [AN c3,AB c4];(try dsimp only at c5);(try dsimp only at c6);(try dsimp only at c7);(try dsimp only at c8);(try dsimp only at c9);(try rw [c6,Bool.true_and] at c5);(try rw [c7,Bool.true_and] at c6);(try rw [c8,Bool.true_and] at c7);(try rw [c9,Bool.true_and] at c8);simp only [Aa.LC,Aa.FE,Aa.E9,hg,Bool.false_and,Bool.and_false,Bool.true_and,Bool.and_true,c5,c6,c7,c8,c9,↓reduceIte,Bool.false_eq_true]),by assumption⟩
   · omega
  try dsimp only at c3p
  dsimp only at c3
  refine W ?_
  refine⟨fun c10 c10p=>?_,fun c10 c10p=>?_⟩
  ·
   try dsimp only at c10p
   refine W ?_
   refine Cl (.c (.t (.t .h)) (.c (.t .h) (.c .h .n))) (Dd _ _ _ _ _ _ _ _ hg hq (by omega)) (fun v11 B hv=>?_)
   obtain⟨y12,rfl,y13,rfl⟩:=hv
   refine W ?_
   refine Ar (.c (.t (.t .h)) (.c (.t .h) (.c .h (.c .h .n)))) ?_
   refine Az ?_
   refine C8 (k+1) _ _ _ _ _ _ ?_ ?_ (.t6 9 1 2 4 7 8) (.refl _)
   · exact⟨hI11.next (by omega) (by unfold Aa.Db;dsimp only;rw [AB c3];(try dsimp only at c10);simp only [Aa.LC,Aa.FE,Aa.E9,hg,Bool.false_and,Bool.and_false,Bool.true_and,Bool.and_true,c10,↓reduceIte,Bool.false_eq_true]),by assumption⟩
   · omega
  try dsimp only at c10p
  refine W ?_
  refine⟨fun c11 c11p=>?_,fun c11 c11p=>?_⟩
  ·
   try dsimp only at c11p
   refine W ?_
   refine Cl (.c (.t (.t .h)) (.c (.t .h) (.c .h .n))) (Dd _ _ _ _ _ _ _ _ hg hq (by omega)) (fun v14 B hv=>?_)
   obtain⟨y15,rfl,y16,rfl⟩:=hv
   refine W ?_
   refine Ar (.c (.t (.t .h)) (.c (.t .h) (.c .h (.c .h .n)))) ?_
   refine Az ?_
   refine C8 (k+1) _ _ _ _ _ _ ?_ ?_ (.t6 9 1 2 4 7 8) (.refl _)
   · exact⟨hI11.next (by omega) (by unfold Aa.Db;dsimp only;rw [AB c3];(try dsimp only at c10);(try dsimp only at c11);(try rw [c11,Bool.true_and] at c10);simp only [Aa.LC,Aa.FE,Aa.E9,hg,Bool.false_and,Bool.and_false,Bool.true_and,Bool.and_true,c10,c11,↓reduceIte,Bool.false_eq_true]),by assumption⟩
   · omega
  try dsimp only at c11p
  refine W ?_
  refine⟨fun c12 c12p=>?_,fun c12 c12p=>?_⟩
  ·
   try dsimp only at c12p
   refine W ?_
   refine C8 (k+1) _ _ _ _ _ _ ?_ ?_ (.t6 9 1 2 4 7 8) (.refl _)
   · exact⟨hI11.next (by omega) (by unfold Aa.Db;dsimp only;rw [AB c3];(try dsimp only at c10);(try dsimp only at c11);(try dsimp only at c12);(try rw [c11,Bool.true_and] at c10);(try rw [c12,Bool.true_and] at c11);simp only [Aa.LC,Aa.FE,Aa.E9,hg,Bool.false_and,Bool.and_false,Bool.true_and,Bool.and_true,c10,c11,c12,↓reduceIte,Bool.false_eq_true]),by assumption⟩
   · omega
  try dsimp only at c12p
  refine W ?_
  refine⟨fun c13 c13p=>?_,fun c13 c13p=>?_⟩
  ·
   try dsimp only at c13p
   refine W ?_
   refine C8 (k+1) _ _ _ _ _ _ ?_ ?_ (.t6 9 1 2 4 7 8) (.refl _)
   · exact⟨hI11.next (by omega) (by unfold Aa.Db;dsimp only;rw [AB c3];(try dsimp only at c10);(try dsimp only at c11);(try dsimp only at c12);(try dsimp only at c13);(try rw [c11,Bool.true_and] at c10);(try rw [c12,Bool.true_and] at c11);(try rw [c13,Bool.true_and] at c12);simp only [Aa.LC,Aa.FE,Aa.E9,hg,Bool.false_and,Bool.and_false,Bool.true_and,Bool.and_true,c10,c11,c12,c13,↓reduceIte,Bool.false_eq_true]),by assumption⟩
   · omega
  try dsimp only at c13p
  refine W ?_
  refine⟨fun c14 c14p=>?_,fun c14 c14p=>?_⟩
  ·
   try dsimp only at c14p
   refine W ?_
   intro b5
   refine Cp (fun w hS=>Bc _ [((u.getD k.toNat 0).toNat:Int)] (by intro x hx;rw [List.mem_singleton.1 hx];omega) (by simp) w ((Kn.own .m0) w hS)) ?_
   refine W ?_
   refine C8 (k+1) _ _ _ _ _ _ ?_ ?_ (.t6 9 1 2 4 7 8) (.cons _ (.refl _))
   · exact⟨hI11.next (by omega) (by unfold Aa.Db;dsimp only;rw [AB c3];(try dsimp only at c10);(try dsimp only at c11);(try dsimp only at c12);(try dsimp only at c13);(try dsimp only at c14);(try rw [c11,Bool.true_and] at c10);(try rw [c12,Bool.true_and] at c11);(try rw [c13,Bool.true_and] at c12);(try rw [c14,Bool.true_and] at c13);simp only [Aa.LC,Aa.FE,Aa.E9,hg,Bool.false_and,Bool.and_false,Bool.true_and,Bool.and_true,c10,c11,c12,c13,c14,↓reduceIte,Bool.false_eq_true]),by assumption⟩
   · omega
  try dsimp only at c14p
  refine W ?_
  refine C8 (k+1) _ _ _ _ _ _ ?_ ?_ (.t6 9 1 2 4 7 8) (.refl _)
  · exact⟨hI11.next (by omega) (by unfold Aa.Db;dsimp only;rw [AB c3];(try dsimp only at c10);(try dsimp only at c11);(try dsimp only at c12);(try dsimp only at c13);(try dsimp only at c14);(try rw [c11,Bool.true_and] at c10);(try rw [c12,Bool.true_and] at c11);(try rw [c13,Bool.true_and] at c12);(try rw [c14,Bool.true_and] at c13);simp only [Aa.LC,Aa.FE,Aa.E9,hg,Bool.false_and,Bool.and_false,Bool.true_and,Bool.and_true,c10,c11,c12,c13,c14,↓reduceIte,Bool.false_eq_true]),by assumption⟩
  · omega
 try dsimp only at c2p
 refine W ?_
 intro w1 hS
 have hS:=(hS.perm (AK.perm (.c (.t .h) .n))).AM
 have e:=hI11.done (by omega)
 exact⟨_, .inr ⟨hgd,_,by rw [e];rfl,by rw [e];exact hg,by rw [e]⟩,hS⟩
theorem IH (p:A9)(n:Int)(w:World):Ch Tryz.prog 31 #[.agg p.enc.toArray, .int .i64 n] w fun v w'=>v = .tuple #[.agg (A9.enc ⟨p.wait,p.shown,p.BL,p.ring.drop (Page.K n p.ring),p.cut⟩).toArray,Ag (p.ring.take (Page.K n p.ring))]∧BF w w':=by
 refine Rb Tryz.func31 ?_
 refine W ?_
 intro b1 b2
 refine⟨fun c1 c1p=>?_,fun c1 c1p=>?_⟩
 ·
  try dsimp only at c1p
  refine W ?_
  rw [show Page.K n p.ring=0 from by simp only [Page.K];omega];rfl
 try dsimp only at c1p
 refine W ?_
 refine⟨fun c2 c2p=>?_,fun c2 c2p=>?_⟩
 ·
  try dsimp only at c2p
  refine W ?_
  rw [show Page.K n p.ring=p.ring.length from by simp only [Page.K];omega,List.drop_length,List.take_length];rfl
 try dsimp only at c2p
 refine W ?_
 rw [show Page.K n p.ring=n.toNat from by simp only [Page.K];omega];rfl
instance instP31:DI Tryz.prog 31 (type_of% @IH):=⟨@IH⟩
end Go.Proofs.YtlmmdjaoikaceaaGreatDoor

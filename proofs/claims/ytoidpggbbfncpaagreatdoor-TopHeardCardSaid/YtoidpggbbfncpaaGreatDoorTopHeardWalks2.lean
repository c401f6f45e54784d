/- What the functions that the law TopHeard reaches compute: walks, part 2. No condition. -/
import Derived.Test.YtoidpggbbfncpaaGreatDoorCards
import Derived.Test.YtoidpggbbfncpaaGreatDoorTie
import Derived.Deep.DeepHandedRow
import Derived.Test.YtoidpggbbfncpaaGreatDoorRows
import Derived.Test.YtoidpggbbfncpaaGreatDoorTopHeardEc3
import Derived.Test.YtoidpggbbfncpaaGreatDoorTopHeardRa1
import Derived.Test.YtoidpggbbfncpaaGreatDoorTopHeardRb1
import Derived.Test.YtoidpggbbfncpaaGreatDoorTopHeardRc1
import Derived.Test.YtoidpggbbfncpaaGreatDoorTopHeardWalks
set_option linter.unusedSimpArgs false
set_option linter.unusedVariables false
set_option maxRecDepth 100000
set_option maxHeartbeats 1000000
namespace Go.Proofs.YtoidpggbbfncpaaGreatDoor
open Go Go.Ing Go.RowKit Go.ChangeShapes Go.WideShapes Go.ChangeAt
theorem Eh (X:AG)(r:Int)(w:World):Ej Tryz.prog 129 #[.agg X.enc.toArray, .int .i64 r] w fun v w'=>v = .bool (X.Hr r)∧CB w w':=by
 refine Al [] [] Tryz.func129 rfl rfl rfl (St.start w []) ?_
 refine Gs ?_
 refine B5 rfl rfl rfl (fun b1=>?_)
 refine Ga rfl (Gn (.t2 1 2) (CD (Gm rfl (Gt (A8 rfl rfl) (Gm rfl (Bc 11 rfl rfl (fun q=>AF rfl) (Bc 11 rfl rfl (fun q=>CV (cF rfl q) rfl) ?_)))))))
 refine Gt (BR rfl rfl (fun h=>by rw [h];rfl)) ?_
 refine Gn (.t3 1 2 14) ?_
 refine Gc (fun c1=>?_) (fun c1=>?_)
 ·
  refine Gs (Ga rfl (Gn (.t1 4) (Ab (AD ?_))))
  refine AY rfl (.tmp rfl .n) ?_
  intro w1 hS;refine⟨congrArg Value.bool ?_,hS.Ak⟩;rw [show X.Hr r=_ from BB c1]
 have c1p:=kz c1
 have hr:0≤r∧r < 6:=by simp at c1;omega
 refine Aa ?_
 refine AB (.t2 1 2) ?_
 refine AA (CD (Gm rfl (Gt (Ai G4 rfl) ?_)))
 refine Gt (AS O6 rfl rfl (by omega) (by omega)) ?_
 refine Gt (Ai cQ rfl) ?_
 refine Gt (AH rfl Dr .m0 ((AG.l0.comp (AU.ar (n:=6) Room.fl (by omega))).comp Room.l1) rfl rfl) ?_
 refine Gt (BT rfl) (Gn (.t3 1 2 20) ?_)
 refine Gc (fun c2=>?_) (fun c2=>?_)
 ·
  refine Gs (Ga rfl (Gn (.t1 4) (Ab (AD ?_))))
  refine AY rfl (.tmp rfl .n) ?_
  intro w1 hS;refine⟨congrArg Value.bool ?_,hS.Ak⟩;rw [show X.Hr r=_ from(AX c1).trans (BB c2)]
 have c2p:=kz c2
 refine Aa ?_
 refine AB (.t2 1 2) ?_
 refine AA (CD (Gt (Ai Cx rfl) (Gt (AZ rfl Xl .m0 AG.l1 rfl) (Gm rfl (Gn (.t4 1 2 22 23) (Ae ?_))))))
 refine Bl (.t4 23 1 2 22) ?_
 refine Ce (fun(k:Int)=>0≤k∧k≤9∧B8 9 (fun i=>!X.lit r i) 9=B8 9 (fun i=>!X.lit r i) (9 - k).toNat) (fun(k:Int)=>(9 - k).toNat) (fun(k:Int)=> [(23, .int .i64 k)]) (fun(k:Int)=> []) (0) ?_ rfl rfl (fun k hI1=>?_)
 · exact⟨by omega,by omega,rfl⟩
 obtain⟨hI11,hI12,hI13⟩:=hI1
 refine Gs (Gt (A8 rfl rfl) (AQ (AA (Ap ?_))))
 refine Gc (fun c3=>?_) (fun c3=>?_)
 ·
  have c3p:=kz c3
  rw [Dd _ (by omega)] at hI13
  refine Aa ?_
  refine AB (.t4 1 2 22 23) ?_
  refine AA (Ap (Ae (Gs (Gm rfl ?_))))
  refine Gt (GJ Am.fl Tryz.underlying30 M5 rfl rfl (by omega) (by omega)) ?_
  refine BH rfl Kf rfl (fun b2=>?_)
  refine Ga rfl ?_
  refine AT (AK (AU.id Am.fl.len Am.fl.one) rfl rfl rfl NT rfl .h) ?_
  refine Gn (.t6 1 2 5 6 22 23) (CD (Gt (Ai G1 rfl) (Gt (AH rfl A4 .m0 Am.l1 rfl rfl) (Gt (Ca rfl rfl) (Gm rfl (Bc 30 rfl rfl (fun q=>Ai GN rfl) (Bc 30 rfl rfl (fun q=>AH (cF rfl q) Dr .m0 Am.l4 rfl rfl) ?_)))))))
  refine Bc 30 rfl rfl (fun q=>BT (cF rfl q)) ?_
  refine Gt (BR rfl rfl (fun h=>by rw [h];rfl)) ?_
  refine Gn (.t6 1 2 5 22 23 34) ?_
  refine Gc (fun c4=>?_) (fun c4=>?_)
  ·
   have c4p:=kz c4
   refine Ba (AV (Af ?_))
   refine AB (.t4 1 2 22 23) ?_
   refine AA (AJ ?_)
   refine Gt (Av rfl rfl (IntWalk.i64_in _ (by omega))) ?_
   refine Gm rfl ?_
   refine AQ (AB (.t4 1 2 22 23) ?_)
   refine B6 (k+1) ?_ ?_ (.t4 23 1 2 22) (.cons _ (.refl _))
   · exact⟨by omega,by omega,by rw [hI13,show X.lit r k=false from by rw [AG.lit,c4];first | rfl | exact Bool.and_false _];rfl⟩
   · omega
  have c4p:=kz c4
  refine Aa ?_
  refine AB (.t5 1 2 5 22 23) ?_
  refine AA (Gs (Gt (AZ rfl BZ .m1 (AU.id AG.fl.len AG.fl.one) rfl) (Gm rfl ?_)))
  refine BA rfl fw (.c rfl (.c rfl .n)) (fun w hS=>PZ _ _ w) ?_
  refine Gm rfl (Gt (AM rfl rfl) (Gt (AM rfl rfl) (Ga rfl (Ga rfl (Gn (.t6 1 2 7 8 22 23) (Gs (Gm rfl ?_)))))))
  refine Gm rfl (Gt (Ag rfl rfl) (Gm rfl (Bo 44 rfl rfl (fun q=>AF rfl) (Gt (BK rfl rfl (fun h=>h)) (Gn (.t5 1 2 22 23 46) ?_)))))
  refine Gc (fun c5=>?_) (fun c5=>?_)
  ·
   refine Gs (Ga rfl (Gn (.t1 4) (Ab (AR (AD (AD (AR ?_)))))))
   refine AD ?_
   refine AY rfl (.tmp rfl .n) ?_
   intro w1 hS;refine⟨congrArg Value.bool ?_,hS.Ak⟩;rw [show X.Hr r=_ from(AX c1).trans (AX c2),hI13,show X.lit r k=true from by rw [AG.lit,c4,c5];rfl];rfl
  have c5p:=kz c5
  refine Aa ?_
  refine AB (.t4 1 2 22 23) ?_
  refine AW (AA (AJ ?_))
  refine Gt (Av rfl rfl (IntWalk.i64_in _ (by omega))) ?_
  refine Gm rfl ?_
  refine AQ (AB (.t4 1 2 22 23) ?_)
  refine B6 (k+1) ?_ ?_ (.t4 23 1 2 22) (.cons _ (.refl _))
  · exact⟨by omega,by omega,by rw [hI13,show X.lit r k=false from by rw [AG.lit,c5];first | rfl | exact Bool.and_false _];rfl⟩
  · omega
 have c3p:=kz c3
 obtain rfl:k=9:=by omega
 refine Ba (AV (AV (Af ?_)))
 refine AB (.nil _) ?_
 refine AA (Gs (Ga rfl (AQ (AA (Ab ?_)))))
 refine AY rfl (.tmp rfl .n) ?_
 intro w1 hS;refine⟨congrArg Value.bool ?_,hS.Ak⟩;rw [show X.Hr r=_ from(AX c1).trans (AX c2),hI13];rfl
theorem IH (X:AG)(b:Int)(w:World):Ej Tryz.prog 160 #[.agg X.enc.toArray, .int .i64 b] w fun v w'=>v = .bool (X.hidden b)∧CB w w':=by
 refine Al [] [] Tryz.func160 rfl rfl rfl (St.start w []) ?_
 refine Gs ?_
 refine B5 rfl rfl rfl (fun b1=>?_)
 refine Ga rfl (Gn (.t2 1 2) (CD (Gt (Ai Cx rfl) (Gt (AZ rfl Xl .m0 AG.l1 rfl) (Gm rfl (Gn (.t3 1 8 9) (Ae ?_)))))))
 refine Bl (.t3 9 1 8) ?_
 refine Ce (fun(k:Int)=>0≤k∧k≤9∧B8 9 (fun i=>!X.L6 b i) 9=B8 9 (fun i=>!X.L6 b i) (9 - k).toNat) (fun(k:Int)=>(9 - k).toNat) (fun(k:Int)=> [(9, .int .i64 k)]) (fun(k:Int)=> []) (0) ?_ rfl rfl (fun k hI1=>?_)
 · exact⟨by omega,by omega,rfl⟩
 obtain⟨hI11,hI12,hI13⟩:=hI1
 refine Gs (Gt (A8 rfl rfl) (AQ (AA (Ap ?_))))
 refine Gc (fun c1=>?_) (fun c1=>?_)
 ·
  have c1p:=kz c1
  rw [Dd _ (by omega)] at hI13
  refine Aa ?_
  refine AB (.t3 1 8 9) ?_
  refine AA (Ap (Ae (Gs ?_)))
  refine Gt (GJ Am.fl Tryz.underlying30 M5 rfl rfl (by omega) (by omega)) ?_
  refine BH rfl Kf rfl (fun b2=>?_)
  refine AT (AK (AU.id Am.fl.len Am.fl.one) rfl rfl rfl NT rfl .h) ?_
  refine Gn (.t4 1 6 8 9) (Gs (Gt (Ai G1 rfl) (Gt (AH rfl A4 .m0 Am.l1 rfl rfl) (Gt (Ag rfl rfl) (Gm rfl (Bo 15 rfl rfl (fun q=>Ai GN rfl) (Bo 15 rfl rfl (fun q=>AH (Bj rfl q) Dr .m0 Am.l4 rfl rfl) ?_)))))))
  refine Gt (BK rfl rfl (fun h=>h)) (Gm rfl (Bo 19 rfl rfl (fun q=>Ai FY rfl) (Bo 19 rfl rfl (fun q=>AH (Bj rfl q) A4 .m0 Am.l2 rfl rfl) (Bo 19 rfl rfl (fun q=>Ag (Bj rfl q) rfl) (Gt (BK rfl rfl (fun h=>h)) (Gm rfl (Bo 24 rfl rfl (fun q=>Ai DM rfl) ?_)))))))
  refine Bo 24 rfl rfl (fun q=>AH (Bj rfl q) A4 .m0 Am.l3 rfl rfl) (Bo 24 rfl rfl (fun q=>AF rfl) (Bo 24 rfl rfl (fun q=>Ag (Bj rfl q) (Bj rfl q)) (Gt (BK rfl rfl (fun h=>h)) (Gn (.t4 1 8 9 29) ?_))))
  refine Gc (fun c2=>?_) (fun c2=>?_)
  ·
   refine Gs (Ga rfl (Gn (.t1 4) (Ab (AR (AD (AD (AR ?_)))))))
   refine AD ?_
   refine AY rfl (.tmp rfl .n) ?_
   intro w1 hS;refine⟨congrArg Value.bool ?_,hS.Ak⟩;rw [AG.hidden,hI13,show X.L6 b k=true from c2];rfl
  have c2p:=kz c2
  refine Aa ?_
  refine AB (.t3 1 8 9) ?_
  refine AW (AA (AJ ?_))
  refine Gt (Av rfl rfl (IntWalk.i64_in _ (by omega))) ?_
  refine Gm rfl ?_
  refine AQ (AB (.t3 1 8 9) ?_)
  refine B6 (k+1) ?_ ?_ (.t3 9 1 8) (.cons _ (.refl _))
  · exact⟨by omega,by omega,by rw [hI13,show X.L6 b k=false from c2];rfl⟩
  · omega
 have c1p:=kz c1
 obtain rfl:k=9:=by omega
 refine Ba (AV (AV (Af ?_)))
 refine AB (.nil _) ?_
 refine AA (Gs (Ga rfl (AQ (AA (Ab ?_)))))
 refine AY rfl (.tmp rfl .n) ?_
 intro w1 hS;refine⟨congrArg Value.bool ?_,hS.Ak⟩;rw [AG.hidden,hI13];rfl
theorem DU (X:AG)(a b:Int)(w:World):Ej Tryz.prog 130 #[.agg X.enc.toArray, .int .i64 a, .int .i64 b] w fun v w'=>v = .bool (X.I5 a b)∧CB w w':=by
 refine Al [] [] Tryz.func130 rfl rfl rfl (St.start w []) ?_
 refine Gs ?_
 refine B5 rfl rfl rfl (fun b1=>?_)
 refine Ga rfl (Gn (.t3 1 2 3) (CD (Gt (AZ rfl BZ .m0 (AU.id AG.fl.len AG.fl.one) rfl) (Gm rfl ?_))))
 refine BA rfl ZD (.c rfl (.c rfl .n)) (fun w hS=>GD _ _ w) ?_
 refine Gt (BT rfl) (Gm rfl (Bc 13 rfl rfl (fun q=>AZ rfl BZ .m0 (AU.id AG.fl.len AG.fl.one) rfl) (Bc 13 rfl rfl (fun q=>AF rfl) ?_)))
 refine RQ (t:=13) rfl rfl rfl (fun q=>by have q1:=q;(try simp at q1);exact EB ZD (.c (cF rfl q) (.c (cF rfl q) .n)) (fun w hS=>GD _ _ w)) ?_
 refine Bc 13 rfl rfl (fun q=>BT (cF rfl q)) ?_
 refine Gt (BR rfl rfl (fun h=>by rw [h];rfl)) ?_
 refine Gn (.t4 1 2 3 18) ?_
 refine Gc (fun c1=>?_) (fun c1=>?_)
 ·
  refine Gs (Ga rfl (Gn (.t1 6) (Ab (AD ?_))))
  refine AY rfl (.tmp rfl .n) ?_
  intro w1 hS;refine⟨congrArg Value.bool ?_,hS.Ak⟩;rw [show X.I5 a b=_ from(BB c1)]
 have c1p:=kz c1
 have hr:(0≤a∧a < 6)∧0≤b∧b < 6:=by simp at c1;have h1:=AG.HP c1.1;have h2:=AG.HP c1.2;omega
 refine Aa ?_
 refine AB (.t3 1 2 3) ?_
 refine AA (CD (Gm rfl (Gm rfl (Gt (Ag rfl rfl) (Gn (.t4 1 2 3 21) ?_)))))
 refine Gc (fun c2=>?_) (fun c2=>?_)
 ·
  refine Gs (Ga rfl (Gn (.t1 6) (Ab (AD ?_))))
  refine AY rfl (.tmp rfl .n) ?_
  intro w1 hS;refine⟨congrArg Value.bool ?_,hS.Ak⟩;rw [show X.I5 a b=_ from((AX c1).trans (BB c2))]
 have c2p:=kz c2
 refine Aa ?_
 refine AB (.t3 1 2 3) ?_
 refine AA (Ap ?_)
 refine BD (N:=12) [0,0,3,7,0,0,48,112,0,0,783,2047] mix (by kernel_rfl) rfl ?_
 refine Pf 0 rfl (AF rfl) (Pf 1 rfl (Ai Bs rfl) ?_)
 refine Pf 2 rfl (AS C8 rfl rfl (by omega) (by omega)) ?_
 refine Pf 3 rfl (AZ rfl F6 .m0 (AG.l2.comp (AU.ar (n:=6) Aj.fl (by omega))) rfl) ?_
 refine Pf 4 rfl (AF rfl) (Pf 5 rfl (Ai Bs rfl) ?_)
 refine Pf 6 rfl (AS C8 rfl rfl (by omega) (by omega)) ?_
 refine Pf 7 rfl (AZ rfl F6 .m0 (AG.l2.comp (AU.ar (n:=6) Aj.fl (by omega))) rfl) ?_
 refine J7 8 9 rfl rfl (by kernel_rfl) ?_ ?_
 ·
  refine BH rfl ME rfl (fun b2=>?_)
  refine Bu rfl ⟨?_,?_⟩
  · exact(Po rfl (AZ rfl F6 .m1 (AG.l2.comp (AU.ar (n:=6) Aj.fl (by omega))) rfl) rfl rfl (Po rfl (AS C8 rfl rfl (by omega) (by omega)) rfl rfl (Po rfl (Ai Bs rfl) rfl rfl (Po rfl (AF rfl) rfl rfl (Po rfl (AZ rfl F6 .m1 (AG.l2.comp (AU.ar (n:=6) Aj.fl (by omega))) rfl) rfl rfl (Po rfl (AS C8 rfl rfl (by omega) (by omega)) rfl rfl (Po rfl (Ai Bs rfl) rfl rfl (Po rfl (AF rfl) rfl rfl As))))))))
  refine An 9 rfl (by kernel_rfl) ?_
  refine BH rfl ME rfl (fun b3=>?_)
  refine Bu rfl ⟨?_,?_⟩
  · exact(Po rfl (AZ rfl F6 .m2 (AG.l2.comp (AU.ar (n:=6) Aj.fl (by omega))) rfl) rfl rfl (Po rfl (AS C8 rfl rfl (by omega) (by omega)) rfl rfl (Po rfl (Ai Bs rfl) rfl rfl (Po rfl (AF rfl) rfl rfl (Po rfl (AZ rfl F6 .m2 (AG.l2.comp (AU.ar (n:=6) Aj.fl (by omega))) rfl) rfl rfl (Po rfl (AS C8 rfl rfl (by omega) (by omega)) rfl rfl (Po rfl (Ai Bs rfl) rfl rfl (Po rfl (AF rfl) rfl rfl As))))))))
  refine An 10 rfl (by kernel_rfl) ?_
  refine AT (AK (AU.id Aj.fl.len Aj.fl.one) rfl rfl rfl KZ rfl (.t .h)) ?_
  refine BO rfl ⟨?_,?_⟩
  · exact(Po rfl (AZ rfl F6 .m2 (AG.l2.comp (AU.ar (n:=6) Aj.fl (by omega))) rfl) rfl rfl (Po rfl (AS C8 rfl rfl (by omega) (by omega)) rfl rfl (Po rfl (Ai Bs rfl) rfl rfl (Po rfl (AF rfl) rfl rfl (Pk (Pk (Pk (Pk As))))))))
  refine An 11 rfl (by kernel_rfl) ?_
  refine AT (AK (AU.id Aj.fl.len Aj.fl.one) rfl rfl rfl KZ rfl .h) ?_
  refine BO rfl ⟨?_,?_⟩
  · exact(Pk (Pk (Pk (Pk (Pk (Pk (Pk (Pk As))))))))
  refine A3 (by kernel_rfl) ?_
  refine AB (.t4 2 3 7 8) ?_
  refine AA (Gs (Gt (Ai C4 rfl) (Gt (AH rfl A4 .m1 Aj.l3 rfl rfl) (Gt (Ai C4 rfl) (Gt (AH rfl A4 .m0 Aj.l3 rfl rfl) (Gt (Ag rfl rfl) (Gm rfl ?_)))))))
  refine Bo 35 rfl rfl (fun q=>AZ rfl BZ .m2 (AU.id AG.fl.len AG.fl.one) rfl) (Bo 35 rfl rfl (fun q=>Ai C4 rfl) (Bo 35 rfl rfl (fun q=>AH (Bj rfl q) A4 .m1 Aj.l3 rfl rfl) ?_))
  refine MO (t:=35) rfl rfl rfl (fun q=>EB VK (.c (Bj rfl q) (.c (Bj rfl q) .n)) (fun w hS=>Eh _ _ w)) ?_
  refine Gt (BK rfl rfl (fun h=>h)) (Gm rfl (Bo 41 rfl rfl (fun q=>Ai Ya rfl) (Bo 41 rfl rfl (fun q=>AH (Bj rfl q) Dr .m1 Aj.l2 rfl rfl) (Bo 41 rfl rfl (fun q=>AF (Bj rfl q)) ?_))))
  refine C5 (t:=44) rfl rfl rfl (fun qc q=>AZ rfl BZ .m2 (AU.id AG.fl.len AG.fl.one) rfl) ?_
  refine C5 (t:=44) rfl rfl rfl (fun qc q=>AF rfl) ?_
  refine Ue (t:=44) rfl rfl rfl (fun qc q=>by have q1:=q;have qc1:=qc;(try simp at q1 qc1);exact EB ao (.c (Bj rfl (by rw [qc,q];rfl)) (.c (Bj rfl (by rw [qc,q];rfl)) .n)) (fun w hS=>IH _ _ w)) ?_
  refine C5 (t:=44) rfl rfl rfl (fun qc q=>BT (Bj rfl (by rw [qc,q];rfl))) ?_
  refine Bo 41 rfl rfl (fun q=>BR (Bj rfl q) rfl (fun h=>by rw [q,h];rfl)) ?_
  refine Gt (BK rfl rfl (fun h=>h)) (Ga rfl (Gn (.t1 6) (Ab ?_)))
  refine AY rfl (.tmp rfl .n) ?_
  intro w1 hS;refine⟨congrArg Value.bool ?_,hS.Ak⟩;rw [show X.I5 a b=_ from((AX c1).trans (AX c2))]
 ·
  refine BH rfl ME rfl (fun b4=>?_)
  refine Bu rfl ⟨?_,?_⟩
  · exact(Po rfl (AZ rfl F6 .m1 (AG.l2.comp (AU.ar (n:=6) Aj.fl (by omega))) rfl) rfl rfl (Po rfl (AS C8 rfl rfl (by omega) (by omega)) rfl rfl (Po rfl (Ai Bs rfl) rfl rfl (Po rfl (AF rfl) rfl rfl (Po rfl (AZ rfl F6 .m1 (AG.l2.comp (AU.ar (n:=6) Aj.fl (by omega))) rfl) rfl rfl (Po rfl (AS C8 rfl rfl (by omega) (by omega)) rfl rfl (Po rfl (Ai Bs rfl) rfl rfl (Po rfl (AF rfl) rfl rfl As))))))))
  refine An 8 rfl (by kernel_rfl) ?_
  refine BH rfl ME rfl (fun b5=>?_)
  refine Bu rfl ⟨?_,?_⟩
  · exact(Po rfl (AZ rfl F6 .m2 (AG.l2.comp (AU.ar (n:=6) Aj.fl (by omega))) rfl) rfl rfl (Po rfl (AS C8 rfl rfl (by omega) (by omega)) rfl rfl (Po rfl (Ai Bs rfl) rfl rfl (Po rfl (AF rfl) rfl rfl (Po rfl (AZ rfl F6 .m2 (AG.l2.comp (AU.ar (n:=6) Aj.fl (by omega))) rfl) rfl rfl (Po rfl (AS C8 rfl rfl (by omega) (by omega)) rfl rfl (Po rfl (Ai Bs rfl) rfl rfl (Po rfl (AF rfl) rfl rfl As))))))))
  refine An 10 rfl (by kernel_rfl) ?_
  refine AT (AK (AU.id Aj.fl.len Aj.fl.one) rfl rfl rfl KZ rfl .h) ?_
  refine BO rfl ⟨?_,?_⟩
  · exact(Po rfl (AZ rfl F6 .m2 (AG.l2.comp (AU.ar (n:=6) Aj.fl (by omega))) rfl) rfl rfl (Po rfl (AS C8 rfl rfl (by omega) (by omega)) rfl rfl (Po rfl (Ai Bs rfl) rfl rfl (Po rfl (AF rfl) rfl rfl (Pk (Pk (Pk (Pk As))))))))
  refine An 11 rfl (by kernel_rfl) ?_
  refine AT (AK (AU.id Aj.fl.len Aj.fl.one) rfl rfl rfl KZ rfl (.t .h)) ?_
  refine BO rfl ⟨?_,?_⟩
  · exact(Pk (Pk (Pk (Pk (Pk (Pk (Pk (Pk As))))))))
  refine A3 (by kernel_rfl) ?_
  refine AB (.t4 2 3 7 8) ?_
  refine AA (Gs (Gt (Ai C4 rfl) (Gt (AH rfl A4 .m0 Aj.l3 rfl rfl) (Gt (Ai C4 rfl) (Gt (AH rfl A4 .m1 Aj.l3 rfl rfl) (Gt (Ag rfl rfl) (Gm rfl ?_)))))))
  refine Bo 35 rfl rfl (fun q=>AZ rfl BZ .m2 (AU.id AG.fl.len AG.fl.one) rfl) (Bo 35 rfl rfl (fun q=>Ai C4 rfl) (Bo 35 rfl rfl (fun q=>AH (Bj rfl q) A4 .m0 Aj.l3 rfl rfl) ?_))
  refine MO (t:=35) rfl rfl rfl (fun q=>EB VK (.c (Bj rfl q) (.c (Bj rfl q) .n)) (fun w hS=>Eh _ _ w)) ?_
  refine Gt (BK rfl rfl (fun h=>h)) (Gm rfl (Bo 41 rfl rfl (fun q=>Ai Ya rfl) (Bo 41 rfl rfl (fun q=>AH (Bj rfl q) Dr .m0 Aj.l2 rfl rfl) (Bo 41 rfl rfl (fun q=>AF (Bj rfl q)) ?_))))
  refine C5 (t:=44) rfl rfl rfl (fun qc q=>AZ rfl BZ .m2 (AU.id AG.fl.len AG.fl.one) rfl) ?_
  refine C5 (t:=44) rfl rfl rfl (fun qc q=>AF rfl) ?_
  refine Ue (t:=44) rfl rfl rfl (fun qc q=>by have q1:=q;have qc1:=qc;(try simp at q1 qc1);exact EB ao (.c (Bj rfl (by rw [qc,q];rfl)) (.c (Bj rfl (by rw [qc,q];rfl)) .n)) (fun w hS=>IH _ _ w)) ?_
  refine C5 (t:=44) rfl rfl rfl (fun qc q=>BT (Bj rfl (by rw [qc,q];rfl))) ?_
  refine Bo 41 rfl rfl (fun q=>BR (Bj rfl q) rfl (fun h=>by rw [q,h];rfl)) ?_
  refine Gt (BK rfl rfl (fun h=>h)) (Ga rfl (Gn (.t1 6) (Ab ?_)))
  refine AY rfl (.tmp rfl .n) ?_
  intro w1 hS;refine⟨congrArg Value.bool ?_,hS.Ak⟩;rw [show X.I5 a b=_ from((AX c1).trans (AX c2))]
theorem NO (k:Int)(w:World):Ej Tryz.prog 173 #[.int .i64 k] w fun v w'=>v = .bool (AG.dA k)∧CB w w':=by
 refine Al [] [] Tryz.func173 rfl rfl rfl (St.start w []) ?_
 refine Gs (Ga rfl (Gn (.t1 0) (Gs (Gm rfl (Gt (Ag rfl rfl) (Gm rfl (Bc 5 rfl rfl (fun q=>AF rfl) ?_)))))))
 refine Bc 5 rfl rfl (fun q=>Ag (cF rfl q) rfl) ?_
 refine Gt (BR rfl rfl (fun h=>by rw [h];rfl)) ?_
 refine Gm rfl (Bc 9 rfl rfl (fun q=>AF rfl) (Bc 9 rfl rfl (fun q=>Ag (cF rfl q) rfl) ?_))
 refine Gt (BR rfl rfl (fun h=>by rw [h];rfl)) ?_
 refine Ga rfl (Gn (.t1 2) (Ab ?_))
 refine AY rfl (.tmp rfl .n) ?_
 intro w1 hS;refine⟨?_,hS.Ak⟩;rfl
theorem KG (X:AG)(b:Int)(e:Ing.Event)(w:World):Ej Tryz.prog 157 #[.agg X.enc.toArray, .int .i64 b, .agg e.enc.toArray] w fun v w'=>v = .int .i64 (X.Du b e)∧CB w w':=by
 refine Al [] [] Tryz.func157 rfl rfl rfl (St.start w []) ?_
 refine Gs ?_
 refine B5 rfl rfl rfl (fun b1=>?_)
 refine B5 rfl rfl rfl (fun b2=>?_)
 refine Ga rfl (Gn (.t3 1 3 5) (Ap (Ae (Gs (Gt (AZ rfl BZ .m1 (AU.id AG.fl.len AG.fl.one) rfl) (Gm rfl ?_))))))
 refine BA rfl ZD (.c rfl (.c rfl .n)) (fun w hS=>GD _ _ w) ?_
 refine Gt (BT rfl) (Ga rfl (Gn (.t4 1 3 5 8) ?_))
 refine Gc (fun c1=>?_) (fun c1=>?_)
 ·
  refine Gs (Ga rfl (Gn (.t1 6) (Ab (AR (AD ?_)))))
  refine AY rfl (.tmp rfl .n) ?_
  intro w1 hS;refine⟨?_,hS.Ak⟩;rw [show X.Du b e=_ from(BB c1)];rfl
 have c1p:=kz c1
 have hr:0≤b∧b < 6:=by simp at c1;have h1:=AG.HP c1;omega
 refine Gs (Gm rfl (Gt (Ai Qn rfl) (Gt (AH rfl A4 .m0 Ing.Event.l2 rfl rfl) (Gt (Ag rfl rfl) (Ga rfl (Gn (.t4 1 3 5 13) ?_))))))
 refine Gc (fun c2=>?_) (fun c2=>?_)
 ·
  refine CD (Gt (Ai G8 rfl) (Gt (AH rfl A4 .m0 Ing.Event.l3 rfl rfl) (Gt (A8 rfl rfl) (Gm rfl (Bc 21 rfl rfl (fun q=>Ai G8 rfl) (Bc 21 rfl rfl (fun q=>AH (cF rfl q) A4 .m0 Ing.Event.l3 rfl rfl) (Bc 21 rfl rfl (fun q=>CV (cF rfl q) rfl) ?_)))))))
  refine Gt (BR rfl rfl (fun h=>by rw [h];rfl)) ?_
  refine Gm rfl (Bc 26 rfl rfl (fun q=>AZ rfl BZ .m1 (AU.id AG.fl.len AG.fl.one) rfl) (Bc 26 rfl rfl (fun q=>AF rfl) (Bc 26 rfl rfl (fun q=>Ai G8 rfl) (Bc 26 rfl rfl (fun q=>AH (cF rfl q) A4 .m0 Ing.Event.l3 rfl rfl) ?_))))
  refine RQ (t:=26) rfl rfl rfl (fun q=>by have q1:=q;(try simp at q1);exact EB OK (.c (cF rfl q) (.c (cF rfl q) (.c (cF rfl q) .n))) (fun w hS=>DU _ _ _ w)) ?_
  refine Gt (BR rfl rfl (fun h=>by rw [h];rfl)) ?_
  refine Gn (.t1 32) ?_
  refine Gc (fun c3=>?_) (fun c3=>?_)
  ·
   refine Gs (Ga rfl (Gn (.t1 6) (Ab (AD (AR (AD ?_))))))
   refine AY rfl (.tmp rfl .n) ?_
   intro w1 hS;refine⟨?_,hS.Ak⟩;rw [show X.Du b e=_ from((AX c1).trans ((BB c2).trans (BB c3)))];rfl
  refine Aa ?_
  refine AB (.nil _) ?_
  refine AA (Gs (Ga rfl (AQ (AA (Ab (AR (AD ?_)))))))
  refine AY rfl (.tmp rfl .n) ?_
  intro w1 hS;refine⟨?_,hS.Ak⟩;rw [show X.Du b e=_ from((AX c1).trans ((BB c2).trans (AX c3)))];rfl
 have c2p:=kz c2
 refine Ap ?_
 refine BD (N:=14) [0,1,3,7,15,15,63,127,255,15,527,2047,4095,8191] mix (by kernel_rfl) rfl ?_
 refine Pf 0 rfl (Ai TZ rfl) (Pf 1 rfl (AH rfl A4 .m0 Ing.Event.l0 rfl rfl) (Pf 2 rfl (Ag rfl rfl) (Pf 3 rfl (AF rfl) (Ht 4 37 rfl rfl rfl (fun q=>AF rfl) (Ht 5 37 rfl rfl rfl (fun q=>Ai Bs rfl) ?_)))))
 refine Bb 6 rfl rfl (by kernel_rfl) (HE (t:=37) rfl rfl (fun q=>by have q1:=q;(try simp at q1);exact Is (AS C8 (cF rfl q) (cF rfl q) (by omega) (by omega)))) ?_
 refine Ht 7 37 rfl rfl rfl (fun q=>Ai C4 (cF rfl q)) ?_
 refine Bb 8 rfl rfl (by kernel_rfl) (HE (t:=37) rfl rfl (fun q=>by have q1:=q;(try simp at q1);exact Is (AH (cF rfl q) A4 .m1 ((AG.l2.comp (AU.ar (n:=6) Aj.fl (by omega))).comp Aj.l3) rfl rfl))) ?_
 refine Ht 9 37 rfl rfl rfl (fun q=>Ai X0 rfl) (Ht 10 37 rfl rfl rfl (fun q=>AH (cF rfl q) A4 .m0 Ing.Event.l1 rfl rfl) (Ht 11 37 rfl rfl rfl (fun q=>Ca (cF rfl q) (cF rfl q)) ?_))
 refine Pf 12 rfl (BR rfl rfl (fun h=>by rw [h];rfl)) ?_
 refine Pf 13 rfl (A0 rfl) ?_
 refine A3 (by kernel_rfl) ?_
 refine AB (.t4 1 3 5 33) ?_
 refine AA ?_
 refine Gc (fun c4=>?_) (fun c4=>?_)
 ·
  refine Gs (Ga rfl (Gn (.t1 6) (Ab (AR (AD ?_)))))
  refine AY rfl (.tmp rfl .n) ?_
  intro w1 hS;refine⟨?_,hS.Ak⟩;rw [show X.Du b e=_ from((AX c1).trans ((AX c2).trans (BB c4)))];rfl
 have c4p:=kz c4
 refine Aa ?_
 refine AB (.t3 1 3 5) ?_
 refine AW (AA (Gs (Ga rfl (AQ (AA (CD (Gt (AZ rfl BZ .m1 (AU.id AG.fl.len AG.fl.one) rfl) ?_)))))))
 refine Gm rfl (Gt (Ai Qn rfl) (Gt (AH rfl A4 .m0 Ing.Event.l2 rfl rfl) ?_))
 refine BA rfl OK (.c rfl (.c rfl (.c rfl .n))) (fun w hS=>DU _ _ _ w) ?_
 refine Gt (BT rfl) (Gn (.t5 1 3 5 7 52) ?_)
 refine Gc (fun c5=>?_) (fun c5=>?_)
 ·
  have c5p:=kz c5
  refine CD (Gt (Ai TZ rfl) (Gt (AH rfl A4 .m0 Ing.Event.l0 rfl rfl) ?_))
  refine BA rfl dn (.c rfl .n) (fun w hS=>NO _ w) ?_
  refine Gt (BT rfl) (Gn (.t5 1 3 5 7 56) ?_)
  refine Gc (fun c6=>?_) (fun c6=>?_)
  ·
   refine Gs (Ga rfl (Gn (.t1 6) (Ab (AD (AD ?_)))))
   refine AY rfl (.tmp rfl .n) ?_
   intro w1 hS;refine⟨?_,hS.Ak⟩;rw [show X.Du b e=_ from((AX c1).trans ((AX c2).trans ((AX c4).trans ((BB c5).trans (BB c6)))))];rfl
  have c6p:=kz c6
  refine Aa ?_
  refine AB (.t4 1 3 5 7) ?_
  refine AA (AJ (Gm rfl ?_))
  refine Gt (Av rfl rfl (IntWalk.i64_in _ (by omega))) ?_
  refine Ga rfl (Gn (.t4 1 3 5 7) (CD (Gt (Ai G8 rfl) (Gt (AH rfl A4 .m0 Ing.Event.l3 rfl rfl) (Gt (CV rfl rfl) (Gm rfl (Bo 62 rfl rfl (fun q=>Ai G8 rfl) ?_)))))))
  refine Bo 62 rfl rfl (fun q=>AH (Bj rfl q) A4 .m0 Ing.Event.l3 rfl rfl) (Bo 62 rfl rfl (fun q=>A8 (Bj rfl q) rfl) (Gt (BK rfl rfl (fun h=>h)) (Gm rfl (Bo 67 rfl rfl (fun q=>AZ rfl BZ .m1 (AU.id AG.fl.len AG.fl.one) rfl) (Bo 67 rfl rfl (fun q=>AF rfl) (Bo 67 rfl rfl (fun q=>Ai G8 rfl) (Bo 67 rfl rfl (fun q=>AH (Bj rfl q) A4 .m0 Ing.Event.l3 rfl rfl) ?_)))))))
  refine MO (t:=67) rfl rfl rfl (fun q=>EB OK (.c (Bj rfl q) (.c (Bj rfl q) (.c (Bj rfl q) .n))) (fun w hS=>DU _ _ _ w)) ?_
  refine Bo 67 rfl rfl (fun q=>BT (Bj rfl q)) (Gt (BK rfl rfl (fun h=>h)) (Gn (.t2 7 74) ?_))
  refine Gc (fun c7=>?_) (fun c7=>?_)
  ·
   have c7p:=kz c7
   refine AJ (Gm rfl ?_)
   refine Gt (Av rfl rfl (IntWalk.i64_in _ (by omega))) ?_
   refine Ga rfl (Gn (.t1 7) (Gs (Gm rfl (Ga rfl (Gn (.t1 6) (Ab ?_))))))
   refine AY rfl (.tmp rfl .n) ?_
   intro w1 hS;refine⟨?_,hS.Ak⟩;rw [show X.Du b e=_ from((AX c1).trans ((AX c2).trans ((AX c4).trans ((BB c5).trans ((AX c6).trans (BB c7))))))];rfl
  refine Aa ?_
  refine AB (.t1 7) ?_
  refine AA (Gs (Gm rfl (Ga rfl (Gn (.t1 6) (Ab ?_)))))
  refine AY rfl (.tmp rfl .n) ?_
  intro w1 hS;refine⟨?_,hS.Ak⟩;rw [show X.Du b e=_ from((AX c1).trans ((AX c2).trans ((AX c4).trans ((BB c5).trans ((AX c6).trans (AX c7))))))];rfl
 have c5p:=kz c5
 refine Aa ?_
 refine AB (.t4 1 3 5 7) ?_
 refine AA (CD (Gt (Ai G8 rfl) (Gt (AH rfl A4 .m0 Ing.Event.l3 rfl rfl) (Gt (CV rfl rfl) (Gm rfl (Bo 62 rfl rfl (fun q=>Ai G8 rfl) (Bo 62 rfl rfl (fun q=>AH (Bj rfl q) A4 .m0 Ing.Event.l3 rfl rfl) ?_)))))))
 refine Bo 62 rfl rfl (fun q=>A8 (Bj rfl q) rfl) (Gt (BK rfl rfl (fun h=>h)) (Gm rfl (Bo 67 rfl rfl (fun q=>AZ rfl BZ .m1 (AU.id AG.fl.len AG.fl.one) rfl) (Bo 67 rfl rfl (fun q=>AF rfl) (Bo 67 rfl rfl (fun q=>Ai G8 rfl) (Bo 67 rfl rfl (fun q=>AH (Bj rfl q) A4 .m0 Ing.Event.l3 rfl rfl) ?_))))))
 refine MO (t:=67) rfl rfl rfl (fun q=>EB OK (.c (Bj rfl q) (.c (Bj rfl q) (.c (Bj rfl q) .n))) (fun w hS=>DU _ _ _ w)) ?_
 refine Bo 67 rfl rfl (fun q=>BT (Bj rfl q)) (Gt (BK rfl rfl (fun h=>h)) (Gn (.t2 7 74) ?_))
 refine Gc (fun c8=>?_) (fun c8=>?_)
 ·
  have c8p:=kz c8
  refine AJ (Gm rfl ?_)
  refine Gt (Av rfl rfl (IntWalk.i64_in _ (by omega))) ?_
  refine Ga rfl (Gn (.t1 7) (Gs (Gm rfl (Ga rfl (Gn (.t1 6) (Ab ?_))))))
  refine AY rfl (.tmp rfl .n) ?_
  intro w1 hS;refine⟨?_,hS.Ak⟩;rw [show X.Du b e=_ from((AX c1).trans ((AX c2).trans ((AX c4).trans ((AX c5).trans (BB c8)))))];rfl
 refine Aa ?_
 refine AB (.t1 7) ?_
 refine AA (Gs (Gm rfl (Ga rfl (Gn (.t1 6) (Ab ?_)))))
 refine AY rfl (.tmp rfl .n) ?_
 intro w1 hS;refine⟨?_,hS.Ak⟩;rw [show X.Du b e=_ from((AX c1).trans ((AX c2).trans ((AX c4).trans ((AX c5).trans (AX c8)))))];rfl
theorem KH (X:AG)(e:Ing.Event)(w:World):Ej Tryz.prog 123 #[.agg X.enc.toArray, .agg e.enc.toArray] w fun v w'=>v = .agg (X.Hz e 6).enc.toArray∧CB w w':=by
 refine Al [] [] Tryz.func123 rfl rfl rfl (St.start w []) ?_
 refine Gs ?_
 refine B5 rfl rfl rfl (fun b1=>?_)
 refine B5 rfl rfl rfl (fun b2=>?_)
 refine BH rfl Hx rfl (fun b3=>?_)
 refine Gn (.t3 2 3 4) (CD (Gm rfl (AQ (AA (Ae ?_)))))
 refine Bl (.t4 6 2 3 4) ?_
 refine Bf (.t .h) ?_
 refine Ce (fun(k:Int)=>0≤k∧k≤6) (fun(k:Int)=>(6 - k).toNat) (fun(k:Int)=> [(6, .int .i64 k)]) (fun(k:Int)=> [Ac.box b2 56 (Ing.Event.enc (X.Hz e k.toNat))]) (0) ?_ rfl rfl (fun k hI1=>?_)
 · exact⟨Int.le_refl _,by omega⟩
 obtain⟨hI11,hI12⟩:=hI1
 refine Gs (Gt (A8 rfl rfl) (AQ (AA (Ap ?_))))
 refine Gc (fun c1=>?_) (fun c1=>?_)
 ·
  have c1p:=kz c1
  refine Aa ?_
  refine AB (.t4 2 3 4 6) ?_
  refine AA (Ap (Ae (Gs (Gm rfl (Ga rfl (Gn (.t5 2 3 4 5 6) (AJ ?_)))))))
  refine Gm rfl (Gt (AZ rfl BZ .m2 (AU.id AG.fl.len AG.fl.one) rfl) (Gm rfl (Gt (AZ rfl Ln .m0 (AU.id Ing.Event.fl.len Ing.Event.fl.one) rfl) ?_)))
  refine BA rfl eW (.c rfl (.c rfl (.c rfl .n))) (fun w hS=>KG _ _ _ w) ?_
  refine Gt (Ai Nb rfl) ?_
  refine Gt (AS SP rfl rfl (by omega) (by omega)) ?_
  refine AT (AK (Ing.Event.l10.comp (AU.ar (n:=6) B1 (by omega))) rfl rfl rfl DB rfl .h) ?_
  refine AQ (AB (.t4 2 3 4 6) ?_)
  refine AW (AA (AJ ?_))
  refine Gt (Av rfl rfl (IntWalk.i64_in _ (by omega))) ?_
  refine Gm rfl ?_
  refine AQ (AB (.t4 2 3 4 6) ?_)
  refine B6 (k+1) ?_ ?_ (.t4 6 2 3 4) (by rw [AG.Vl (by omega)];exact(.refl _))
  · exact⟨by omega,by omega⟩
  · omega
 have c1p:=kz c1
 obtain rfl:k=6:=by omega
 refine Ba (AV (AV (Af ?_)))
 refine AB (.t2 3 4) ?_
 refine AA (Gs (Gt (AZ rfl Ln .m0 (AU.id Ing.Event.fl.len Ing.Event.fl.one) rfl) ?_))
 refine AT (AK (AU.id Ing.Event.fl.len Ing.Event.fl.one) rfl rfl rfl MJ rfl (.t .h)) ?_
 refine Gn (.t1 4) (Ab ?_)
 refine AY rfl (.cell rfl .m1 (.inl ⟨(by rw [Ing.Event.fl.len];exact Ln),rfl⟩) .n) ?_
 intro w1 hS;refine⟨?_,hS.Ak⟩;rfl
theorem CQ (b:Nat)(T:AE)(g:Hd)(e:Ing.Event)(hg:g.len=T.out.length)(hb:0≤T.b∧T.b < 6)(ho:e.other < 6)(hn:T.out.length≤100000):Jg Tryz.prog 96 #[.pointer (some ⟨b,0,none⟩), .agg e.enc.toArray] [Ac.box b 163 (Ad.enc ⟨T.w,T.b,g⟩),Ac.own g 56 16 (T.out.flatMap Ing.Event.enc)] (fun v B=>∃ g':Hd,v = .tuple #[]∧g'.len=(T.BP e).out.length∧B = [Ac.box b 163 (Ad.enc ⟨(T.BP e).w,(T.BP e).b,g'⟩),Ac.own g' 56 16 ((T.BP e).out.flatMap Ing.Event.enc)]):=by
 intro w hS0
 refine Al _ _ Tryz.func96 rfl rfl rfl (hS0) ?_
 refine Gs ?_
 refine B5 rfl rfl rfl (fun b1=>?_)
 refine Gn (.t2 0 3) (Ap ?_)
 refine BD (N:=12) [0,0,2,6,14,1,33,97,255,511,0,2047] mix (by kernel_rfl) rfl ?_
 refine Pf 0 rfl (AF rfl) (Pf 1 rfl (AF rfl) (Pf 2 rfl (BV rfl) (Pf 3 rfl (Ai CR rfl) (Pf 4 rfl (AH rfl A4 .m1 Ad.l1 rfl rfl) (Pf 5 rfl (BV rfl) (Pf 6 rfl (Ai A9 rfl) (Pf 7 rfl (Ai Bs rfl) ?_)))))))
 refine Pf 8 rfl (AS C8 rfl rfl (by(try dsimp only at *);omega) (by(try dsimp only at *);omega)) ?_
 refine Pf 9 rfl (AZ rfl F6 .m1 ((Ad.l0.comp AG.l2).comp (AU.arr (n:=6) Aj.fl (by(try dsimp only at *);omega) (by(try dsimp only at *);omega))) rfl) ?_
 refine An 10 rfl (by kernel_rfl) ?_
 refine BH rfl ME rfl (fun b2=>?_)
 refine Bu rfl ⟨?_,?_⟩
 · exact(Po rfl (AZ rfl F6 .m2 ((Ad.l0.comp AG.l2).comp (AU.arr (n:=6) Aj.fl (by(try dsimp only at *);omega) (by(try dsimp only at *);omega))) rfl) rfl rfl (Po rfl (AS C8 rfl rfl (by(try dsimp only at *);omega) (by(try dsimp only at *);omega)) rfl rfl (Po rfl (Ai Bs rfl) rfl rfl (Po rfl (Ai A9 rfl) rfl rfl (Po rfl (BV rfl) rfl rfl (Po rfl (AH rfl A4 .m2 Ad.l1 rfl rfl) rfl rfl (Po rfl (Ai CR rfl) rfl rfl (Po rfl (BV rfl) rfl rfl (Po rfl (AF rfl) rfl rfl (Po rfl (AF rfl) rfl rfl As))))))))))
 refine An 11 rfl (by kernel_rfl) ?_
 refine AT (AK (AU.id Aj.fl.len Aj.fl.one) rfl rfl rfl KZ rfl .h) ?_
 refine BO rfl ⟨?_,?_⟩
 · exact(Pk (Pk (Pk (Pk (Pk (Pk (Pk (Pk (Pk (Pk As))))))))))
 refine A3 (by kernel_rfl) ?_
 refine AB (.t3 0 3 4) ?_
 refine AA (Ap ?_)
 refine BD (N:=14) [0,1,3,7,0,16,0,64,15,271,831,1855,4095,8191] mix (by kernel_rfl) rfl ?_
 refine Pf 0 rfl (AF rfl) (Pf 1 rfl (BV rfl) (Pf 2 rfl (Ai CR rfl) (Pf 3 rfl (AH rfl A4 .m2 Ad.l1 rfl rfl) (Pf 4 rfl (Ai K3 rfl) (Pf 5 rfl (AH rfl CO .m0 Aj.l0 rfl rfl) (Pf 6 rfl (Ai C4 rfl) (Pf 7 rfl (AH rfl A4 .m0 Aj.l3 rfl rfl) ?_)))))))
 refine Pf 8 rfl (Ai Qn rfl) ?_
 refine An 9 rfl (by kernel_rfl) ?_
 refine AT (AK Ing.Event.l2 rfl rfl rfl DB rfl (.t .h)) ?_
 refine BO rfl ⟨?_,?_⟩
 · exact(Pk (Po rfl (AH rfl A4 .m0 Aj.l3 rfl rfl) rfl rfl (Po rfl (Ai C4 rfl) rfl rfl (Po rfl (AH rfl CO .m0 Aj.l0 rfl rfl) rfl rfl (Po rfl (Ai K3 rfl) rfl rfl (Pk (Pk (Pk (Pk As)))))))))
 refine Pf 10 rfl (Ai Xg rfl) ?_
 refine An 11 rfl (by kernel_rfl) ?_
 refine AT (AK Ing.Event.l6 rfl rfl rfl Em rfl (.t .h)) ?_
 refine BO rfl ⟨?_,?_⟩
 · exact(Pk (Pk (Po rfl (AH rfl A4 .m0 Aj.l3 rfl rfl) rfl rfl (Po rfl (Ai C4 rfl) rfl rfl (Pk (Pk (Pk (Pk (Pk (Pk As))))))))))
 refine Pf 12 rfl (Ai X0 rfl) ?_
 refine An 13 rfl (by kernel_rfl) ?_
 refine AT (AK Ing.Event.l1 rfl rfl rfl DB rfl (.t .h)) ?_
 refine BO rfl ⟨?_,?_⟩
 · exact(Pk (Pk (Pk (Pk (Pk (Pk (Pk (Pk (Pk (Pk (Pk As)))))))))))
 refine A3 (by kernel_rfl) ?_
 refine AB (.t2 0 3) ?_
 refine AA (CD (Gt (Ai G8 rfl) (Gt (AH rfl A4 .m1 Ing.Event.l3 rfl rfl) (Gt (CV rfl rfl) (Gn (.t3 0 3 28) ?_)))))
 refine Gc (fun c1=>?_) (fun c1=>?_)
 ·
  have c1p:=kz c1
  refine BD (N:=11) [0,0,2,1,9,25,63,127,255,511,1023] mix (by kernel_rfl) rfl ?_
  refine Pf 0 rfl (AF rfl) (Pf 1 rfl (Ai G8 rfl) (Pf 2 rfl (AH rfl A4 .m1 Ing.Event.l3 rfl rfl) (Pf 3 rfl (BV rfl) (Pf 4 rfl (Ai A9 rfl) (Pf 5 rfl (Ai Bs rfl) ?_)))))
  refine Pf 6 rfl (AS C8 rfl rfl (by(try dsimp only at *);omega) (by(try dsimp only at *);omega)) ?_
  refine Pf 7 rfl (Ai K3 rfl) ?_
  refine Pf 8 rfl (AH rfl CO .m2 (((Ad.l0.comp AG.l2).comp (AU.arr (n:=6) Aj.fl (by(try dsimp only at *);omega) (by(try dsimp only at *);omega))).comp Aj.l0) rfl rfl) ?_
  refine Pf 9 rfl (Ai Xs rfl) ?_
  refine An 10 rfl (by kernel_rfl) ?_
  refine AT (AK Ing.Event.l7 rfl rfl rfl Em rfl (.t .h)) ?_
  refine BO rfl ⟨?_,?_⟩
  · exact(Pk (Pk (Pk (Pk (Pk (Pk (Pk (Pk (Pk (Pk As))))))))))
  refine A3 (by kernel_rfl) ?_
  refine AB (.t2 0 3) ?_
  refine AA ?_
  refine BD (N:=16) [0,0,2,6,14,0,32,96,224,0,992,2016,4094,8191,16383,32767] mix (by kernel_rfl) rfl ?_
  refine Pf 0 rfl (AF rfl) (Pf 1 rfl (AF rfl) (Pf 2 rfl (BV rfl) (Pf 3 rfl (Ai CL rfl) (Pf 4 rfl (AH rfl Dn .m2 Ad.l2 rfl rfl) (Pf 5 rfl (AF rfl) (Pf 6 rfl (BV rfl) (Pf 7 rfl (Ai A9 rfl) ?_)))))))
  refine Pf 8 rfl (AZ rfl BZ .m2 Ad.l0 rfl) (Pf 9 rfl (AZ rfl Ln .m1 (AU.id Ing.Event.fl.len Ing.Event.fl.one) rfl) ?_)
  refine Bb 10 rfl rfl (by kernel_rfl) (L9 (K9 (EB av (.c rfl (.c rfl .n)) (fun w hS=>KH _ _ w)))) ?_
  refine An 11 rfl (by kernel_rfl) ?_
  refine E2 Ing.Event.enc Ing.Event.fl rfl Tryz.underlying53 MJ Hx rfl (by decide) (by decide) rfl rfl (fun b3=>?_)
  refine Bu rfl ⟨?_,?_⟩
  · exact(Pk (Pk (Pk (Pk (Pk (Pk (Po rfl (AH rfl Dn .m3 Ad.l2 rfl rfl) rfl rfl (Po rfl (Ai CL rfl) rfl rfl (Po rfl (BV rfl) rfl rfl (Po rfl (AF rfl) rfl rfl (Po rfl (AF rfl) rfl rfl As)))))))))))
  refine An 12 rfl (by kernel_rfl) ?_
  refine CM Ing.Event.fl rfl Tryz.underlying53 MJ Hx rfl Vf (by decide) (by decide) rfl rfl (fun w hS=>Src.Dq Tryz.underlying53 ((Kn.own .m0) w hS)) (by(try dsimp only);omega) (fun _=>(.t (.t (.t (.t .h))))) (fun h1 h1l h1z=>?_)
  refine Bu rfl ⟨?_,?_⟩
  · exact(Pk (Pk (Pk (Pk (Pk (Pk (Pk (Pk (Pk (Pk (Po rfl (AF rfl) rfl rfl As)))))))))))
  refine Pf 13 rfl (BV rfl) (Pf 14 rfl (Ai CL rfl) ?_)
  refine An 15 rfl (by kernel_rfl) ?_
  refine AT (AK Ad.l2 rfl rfl rfl S9 rfl (.t (.t (.t .h)))) ?_
  refine BO rfl ⟨?_,?_⟩
  · exact(Pk (Pk (Pk (Pk (Pk (Pk (Pk (Pk (Pk (Pk (Pk (Pk (Pk As)))))))))))))
  refine A3 (by kernel_rfl) ?_
  refine Bk rfl .n ?_
  intro w1 hS
  have hS:=(hS.perm (Ay.perm (.c (.t (.t (.t .h))) (.c (.t (.t (.t .h))) .n)))).A1
  refine⟨_,⟨?gqTrue,rfl,?hlTrue,?hBTrue⟩,hS⟩
  case hBTrue=>rw [AE.BP,show T.Da e=_ from BB c1];rfl
  case hlTrue=>simp only [AE.Cg];(try dsimp only at *);omega
 have c1p:=kz c1
 refine Aa ?_
 refine AB (.t2 0 3) ?_
 refine AA ?_
 refine BD (N:=16) [0,0,2,6,14,0,32,96,224,0,992,2016,4094,8191,16383,32767] mix (by kernel_rfl) rfl ?_
 refine Pf 0 rfl (AF rfl) (Pf 1 rfl (AF rfl) (Pf 2 rfl (BV rfl) (Pf 3 rfl (Ai CL rfl) (Pf 4 rfl (AH rfl Dn .m2 Ad.l2 rfl rfl) (Pf 5 rfl (AF rfl) (Pf 6 rfl (BV rfl) (Pf 7 rfl (Ai A9 rfl) ?_)))))))
 refine Pf 8 rfl (AZ rfl BZ .m2 Ad.l0 rfl) (Pf 9 rfl (AZ rfl Ln .m1 (AU.id Ing.Event.fl.len Ing.Event.fl.one) rfl) ?_)
 refine Bb 10 rfl rfl (by kernel_rfl) (L9 (K9 (EB av (.c rfl (.c rfl .n)) (fun w hS=>KH _ _ w)))) ?_
 refine An 11 rfl (by kernel_rfl) ?_
 refine E2 Ing.Event.enc Ing.Event.fl rfl Tryz.underlying53 MJ Hx rfl (by decide) (by decide) rfl rfl (fun b4=>?_)
 refine Bu rfl ⟨?_,?_⟩
 · exact(Pk (Pk (Pk (Pk (Pk (Pk (Po rfl (AH rfl Dn .m3 Ad.l2 rfl rfl) rfl rfl (Po rfl (Ai CL rfl) rfl rfl (Po rfl (BV rfl) rfl rfl (Po rfl (AF rfl) rfl rfl (Po rfl (AF rfl) rfl rfl As)))))))))))
 refine An 12 rfl (by kernel_rfl) ?_
 refine CM Ing.Event.fl rfl Tryz.underlying53 MJ Hx rfl Vf (by decide) (by decide) rfl rfl (fun w hS=>Src.Dq Tryz.underlying53 ((Kn.own .m0) w hS)) (by(try dsimp only);omega) (fun _=>(.t (.t (.t (.t .h))))) (fun h2 h2l h2z=>?_)
 refine Bu rfl ⟨?_,?_⟩
 · exact(Pk (Pk (Pk (Pk (Pk (Pk (Pk (Pk (Pk (Pk (Po rfl (AF rfl) rfl rfl As)))))))))))
 refine Pf 13 rfl (BV rfl) (Pf 14 rfl (Ai CL rfl) ?_)
 refine An 15 rfl (by kernel_rfl) ?_
 refine AT (AK Ad.l2 rfl rfl rfl S9 rfl (.t (.t (.t .h)))) ?_
 refine BO rfl ⟨?_,?_⟩
 · exact(Pk (Pk (Pk (Pk (Pk (Pk (Pk (Pk (Pk (Pk (Pk (Pk (Pk As)))))))))))))
 refine A3 (by kernel_rfl) ?_
 refine Bk rfl .n ?_
 intro w1 hS
 have hS:=(hS.perm (Ay.perm (.c (.t (.t (.t .h))) (.c (.t (.t (.t .h))) .n)))).A1
 refine⟨_,⟨?gqFalse,rfl,?hlFalse,?hBFalse⟩,hS⟩
 case hBFalse=>rw [AE.BP,show T.Da e=_ from AX c1];rfl
 case hlFalse=>simp only [AE.Cg];(try dsimp only at *);omega
theorem Gd (b:Nat)(T:AE)(g:Hd)(k:Int)(hg:g.len=T.out.length)(hb:0≤T.b∧T.b < 6)(hn:T.out.length≤100000):Jg Tryz.prog 124 #[.pointer (some ⟨b,0,none⟩), .int .i64 k] [Ac.box b 163 (Ad.enc ⟨T.w,T.b,g⟩),Ac.own g 56 16 (T.out.flatMap Ing.Event.enc)] (fun v B=>∃ g':Hd,v = .tuple #[]∧g'.len=(T.kind k).out.length∧B = [Ac.box b 163 (Ad.enc ⟨(T.kind k).w,(T.kind k).b,g'⟩),Ac.own g' 56 16 ((T.kind k).out.flatMap Ing.Event.enc)]):=by
 intro w hS0
 refine Al _ _ Tryz.func124 rfl rfl rfl (hS0) ?_
 refine AJ (Gm rfl (Gm rfl (Gt (BC OY Hx rfl (.cons Ing.Event.l0 rfl rfl rfl (.cons Ing.Event.l3 rfl rfl rfl .nil))) ?_)))
 refine Ah rfl ON (.c rfl (.c rfl .n)) (.c .h (.c .h .n)) (CQ _ _ _ (AE.F2 k) hg hb (show(-1:Int) < 6 by decide) hn) (fun v1 B hv=>?_)
 obtain⟨y2,rfl,y3,rfl⟩:=hv
 refine AQ ?_
 refine Bk rfl .n ?_
 intro w1 hS
 have hS:=(hS.perm (Ay.perm (.c .h (.c .h .n)))).A1
 exact⟨_,⟨_,rfl,by assumption,rfl⟩,hS⟩
theorem Be (b:Nat)(T:AE)(g:Hd)(u:Ao)(hg:g.len=T.out.length)(hb:0≤T.b∧T.b < 6)(hn:T.out.length≤100000):Jg Tryz.prog 127 #[.pointer (some ⟨b,0,none⟩),BU u] [Ac.box b 163 (Ad.enc ⟨T.w,T.b,g⟩),Ac.own g 56 16 (T.out.flatMap Ing.Event.enc)] (fun v B=>∃ g':Hd,v = .tuple #[]∧g'.len=(T.tell u).out.length∧B = [Ac.box b 163 (Ad.enc ⟨(T.tell u).w,(T.tell u).b,g'⟩),Ac.own g' 56 16 ((T.tell u).out.flatMap Ing.Event.enc)]):=by
 intro w hS0
 refine Al _ _ Tryz.func127 rfl rfl rfl (hS0) ?_
 refine AJ (Gm rfl (Gm rfl (Gt (BC OY Hx rfl (.cons Ing.Event.l0 rfl rfl rfl (.cons Ing.Event.l3 rfl rfl rfl (.cons Ing.Event.l9 rfl rfl rfl .nil)))) ?_)))
 refine Ah rfl ON (.c rfl (.c rfl .n)) (.c .h (.c .h .n)) (CQ _ _ _ { AE.F2 16 with text:=u } hg hb (show(-1:Int) < 6 by decide) hn) (fun v1 B hv=>?_)
 obtain⟨y2,rfl,y3,rfl⟩:=hv
 refine AQ ?_
 refine Bk rfl .n ?_
 intro w1 hS
 have hS:=(hS.perm (Ay.perm (.c .h (.c .h .n)))).A1
 exact⟨_,⟨_,rfl,by assumption,rfl⟩,hS⟩
theorem FF (X:AG)(CZ at_:Int):Jg Tryz.prog 102 #[.agg X.enc.toArray, .int .i64 CZ, .int .i64 at_] [] (fun v B=>∃ h':Hd,v=h'.val∧h'.len=(X.has CZ at_).length∧B = [Ac.own h' 3 1 ((X.has CZ at_).flatMap Aw)]):=by
 intro w hS0
 refine Al _ _ Tryz.func102 rfl rfl rfl (hS0) ?_
 refine Gs ?_
 refine B5 rfl rfl rfl (fun b1=>?_)
 refine Ga rfl (Gn (.t3 1 2 3) (Gs (Ga rfl (AQ (AA (CD (Gt (Ai Cx rfl) ?_)))))))
 refine Gt (AZ rfl Xl .m0 AG.l1 rfl) (Gm rfl (Gn (.t5 1 2 7 11 12) (Ae ?_)))
 refine Bl (.t5 7 12 1 2 11) ?_
 refine Eb Aw 3 1 ?_
 refine DX (fun(k:Int) (xs:List Int) (g:Hd)=>0≤k∧k≤9∧xs=X.P0 CZ at_ k.toNat∧g.len=xs.length) (fun(k:Int) (xs:List Int) (g:Hd)=>(9 - k).toNat) (fun(k:Int) (xs:List Int) (g:Hd)=> [(7,g.val),(12, .int .i64 k)]) (fun(k:Int) (xs:List Int) (g:Hd)=> [Ac.own g 3 1 (xs.flatMap Aw)]) (0) ([]) (_) ?_ rfl rfl (fun k xs g hI1=>?_)
 · exact⟨by omega,by omega,rfl,rfl⟩
 obtain⟨hI11,hI12,hI13,hI14⟩:=hI1
 refine Gs (Gt (A8 rfl rfl) (AQ (AA (Ap ?_))))
 refine Gc (fun c1=>?_) (fun c1=>?_)
 ·
  have c1p:=kz c1
  have hxl:=AG.SM X CZ at_ k.toNat
  rw [← hI13] at hxl
  refine Aa ?_
  refine AB (.t5 1 2 7 11 12) ?_
  refine AA (Ap (Ae (Gs (Gm rfl ?_))))
  refine Gt (GJ Am.fl Tryz.underlying30 M5 rfl rfl (by omega) (by omega)) ?_
  refine BH rfl Kf rfl (fun b2=>?_)
  refine Ga rfl ?_
  refine AT (AK (AU.id Am.fl.len Am.fl.one) rfl rfl rfl NT rfl .h) ?_
  refine Gn (.t7 1 2 7 8 9 11 12) (Gs (Gt (Ai FY rfl) (Gt (AH rfl A4 .m0 Am.l2 rfl rfl) (Gm rfl (Gt (Ag rfl rfl) (Gm rfl (Bo 20 rfl rfl (fun q=>Ai DM rfl) ?_)))))))
  refine Bo 20 rfl rfl (fun q=>AH (Bj rfl q) A4 .m0 Am.l3 rfl rfl) (Bo 20 rfl rfl (fun q=>AF rfl) (Bo 20 rfl rfl (fun q=>Ag (Bj rfl q) (Bj rfl q)) (Gt (BK rfl rfl (fun h=>h)) (Gn (.t7 1 2 7 8 11 12 25) ?_))))
  refine Gc (fun c2=>?_) (fun c2=>?_)
  ·
   have c2p:=kz c2
   refine AJ (Gm rfl (Gm rfl ?_))
   refine E2 Aw B1 rfl Tryz.underlying169 DB cT rfl (by decide) (by decide) rfl rfl (fun b3=>?_)
   refine CM B1 rfl Tryz.underlying169 DB cT rfl eh (by decide) (by decide) rfl rfl (fun w hS=>Src.Dq Tryz.underlying169 ((Kn.own .m0) w hS)) (by(try dsimp only);omega) (fun _=>(.t (.t .h))) (fun h1 h1l h1z=>?_)
   refine Ga rfl ?_
   refine AQ (AB (.t5 1 2 7 11 12) ?_)
   refine AW (AA (AJ ?_))
   refine Gt (Av rfl rfl (IntWalk.i64_in _ (by omega))) ?_
   refine Gm rfl ?_
   refine AQ (AB (.t5 1 2 7 11 12) ?_)
   refine Bt (k+1) _ _ ?_ ?_ (.t5 7 12 1 2 11) (.cons _ (.cons _ (.refl _)))
   · exact⟨by omega,by omega,by rw [AG.bl hI11 c2,← hI13],(by(try dsimp only at *)<;>(try simp only [List.length_append,List.length_cons,List.length_nil])<;>omega)⟩
   · omega
  have c2p:=kz c2
  refine Aa ?_
  refine AB (.t5 1 2 7 11 12) ?_
  refine AW (AA (AJ ?_))
  refine Gt (Av rfl rfl (IntWalk.i64_in _ (by omega))) ?_
  refine Gm rfl ?_
  refine AQ (AB (.t5 1 2 7 11 12) ?_)
  refine Bt (k+1) _ _ ?_ ?_ (.t5 7 12 1 2 11) (.cons _ (.refl _))
  · exact⟨by omega,by omega,by rw [AG.bq hI11 c2,← hI13],(by(try dsimp only at *)<;>(try simp only [List.length_append,List.length_cons,List.length_nil])<;>omega)⟩
  · omega
 have c1p:=kz c1
 obtain rfl:k=9:=by omega
 refine Ba (AV (AV (Af ?_)))
 refine AB (.t1 7) ?_
 refine AA (Gs (Gm rfl (Ga rfl (Gn (.t1 6) (Ab ?_)))))
 refine AY rfl (.tmp rfl .n) ?_
 intro w1 hS
 have hS:=(hS.perm (Ay.perm (.c .h .n))).A1
 exact⟨_,⟨_,rfl,by rw [AG.UQ,← hI13];assumption,by rw [AG.UQ,← hI13]⟩,hS⟩
theorem Lt (b:Nat)(T:AE)(g:Hd)(u:Ao)(f:Hd)(l:List Int)(hg:g.len=T.out.length)(hb:0≤T.b∧T.b < 6)(hf:f.len=l.length)(hl:l.length≤9)(hi:∀ i∈l,0≤i∧i < 9)(hw:T.w.DL)(hu:u.length≤1000)(hn:T.out.length≤100000):Jg Tryz.prog 101 #[.pointer (some ⟨b,0,none⟩),BU u,f.val] [Ac.box b 163 (Ad.enc ⟨T.w,T.b,g⟩),Ac.own g 56 16 (T.out.flatMap Ing.Event.enc),Ac.own f 3 1 (l.flatMap Aw)] (fun v B=>∃ g':Hd,v = .tuple #[]∧g'.len=(T.list u l).out.length∧B = [Ac.box b 163 (Ad.enc ⟨(T.list u l).w,(T.list u l).b,g'⟩),Ac.own g' 56 16 ((T.list u l).out.flatMap Ing.Event.enc),Ac.own f 3 1 (l.flatMap Aw)]):=by
 intro w hS0
 refine Al _ _ Tryz.func101 rfl rfl rfl (hS0) ?_
 refine CD (Gm rfl (Gt (Ar rfl Tryz.underlying169 rfl) (Gm rfl (AQ (AA (Ae ?_))))))
 refine Bl (.t6 1 10 0 2 8 9) ?_
 refine Fq (fun(k:Int) (x:Ao)=>0≤k∧k≤(l.length:Int)∧AE.HB T.w u l=AE.HB T.w x (l.drop k.toNat)∧x.length≤1000+k.toNat * 140737488351300) (fun(k:Int) (x:Ao)=>((l.length:Int) - k).toNat) (fun(k:Int) (x:Ao)=> [(1,BU x),(10, .int .i64 k)]) (fun(k:Int) (x:Ao)=> []) (0) (u) ?_ rfl rfl (fun k x hI1=>?_)
 · exact⟨by omega,by omega,by simp,by simp;omega⟩
 obtain⟨hI11,hI12,hI13,hI14⟩:=hI1
 refine Gs (Gt (A8 rfl rfl) (AQ (AA (Ap ?_))))
 refine Gc (fun c1=>?_) (fun c1=>?_)
 ·
  have c1p:=kz c1
  have hx:=hi _ (Bg.Ez (xs:=l) (i:=k.toNat) (by omega))
  have hnl:=hw.th (l.getD k.toNat 0)
  refine Aa ?_
  refine AB (.t6 0 1 2 8 9 10) ?_
  refine AA (Ap (Ae (Gs ?_)))
  refine Gt (Bp Gg (by decide) (Kn.own .m2) rfl rfl (by omega) (by omega)) ?_
  refine Gt (DN rfl A4 (Kn.own .m2) (by omega)) ?_
  refine Ga rfl (Gn (.t7 0 1 2 7 8 9 10) (Gs (Gm rfl (Gm rfl (Gm rfl (Gt (BV rfl) (Gt (Ai A9 rfl) ?_)))))))
  refine Gt (Ai Cx rfl) ?_
  refine Gt (AS GO rfl rfl (by(try dsimp only at *);(try simp only [List.length_append,List.length_cons,List.length_nil]);omega) (by(try dsimp only at *);(try simp only [List.length_append,List.length_cons,List.length_nil]);omega)) ?_
  refine Gt (Ai Mv rfl) ?_
  refine Gt (AH rfl CO .m0 (((Ad.l0.comp AG.l1).comp (AU.arr (n:=9) Am.fl (by(try dsimp only at *);(try simp only [List.length_append,List.length_cons,List.length_nil]);omega) (by(try dsimp only at *);(try simp only [List.length_append,List.length_cons,List.length_nil]);omega))).comp Am.l0) rfl rfl) ?_
  refine Gt (CX rfl rfl (by(try dsimp only at *);(try simp only [List.length_append,List.length_cons,List.length_nil]);omega)) ?_
  refine Gt (CX rfl rfl (by(try dsimp only at *);(try simp only [List.length_append,List.length_cons,List.length_nil]);omega)) ?_
  refine Ga rfl (Gn (.t7 0 1 2 7 8 9 10) (Gs (Gm rfl (Gm rfl (Gt (BV rfl) (Gt (Ai A9 rfl) (Gt (Ai Cx rfl) ?_)))))))
  refine Gt (AS GO rfl rfl (by(try dsimp only at *);(try simp only [List.length_append,List.length_cons,List.length_nil]);omega) (by(try dsimp only at *);(try simp only [List.length_append,List.length_cons,List.length_nil]);omega)) ?_
  refine Gt (Ai GN rfl) ?_
  refine Gt (AH rfl Dr .m0 (((Ad.l0.comp AG.l1).comp (AU.arr (n:=9) Am.fl (by(try dsimp only at *);(try simp only [List.length_append,List.length_cons,List.length_nil]);omega) (by(try dsimp only at *);(try simp only [List.length_append,List.length_cons,List.length_nil]);omega))).comp Am.l4) rfl rfl) ?_
  refine Gn (.t7 0 1 2 8 9 10 32) ?_
  refine Gc (fun c2=>?_) (fun c2=>?_)
  ·
   have c2p:=kz c2
   refine AJ (Gm rfl ?_)
   refine Gt (CX rfl rfl (by(try dsimp only at *);(try simp only [List.length_append,List.length_cons,List.length_nil]);omega)) ?_
   refine Ga rfl ?_
   refine AQ (AB (.t6 0 1 2 8 9 10) ?_)
   refine AW (AA (AJ ?_))
   refine Gt (Av rfl rfl (IntWalk.i64_in _ (by(try dsimp only at *);(try simp only [List.length_append,List.length_cons,List.length_nil]);omega))) ?_
   refine Gm rfl ?_
   refine AQ (AB (.t6 0 1 2 8 9 10) ?_)
   refine C0 (k+1) _ ?_ ?_ (.t6 1 10 0 2 8 9) (.refl _)
   · exact⟨by omega,by omega,by rw [hI13,AE.Zs hI11 (by omega) c2],by simp only [List.length_append,List.length_cons,List.length_nil];omega⟩
   · omega
  have c2p:=kz c2
  refine Aa ?_
  refine AB (.t6 0 1 2 8 9 10) ?_
  refine AW (AA (AJ ?_))
  refine Gt (Av rfl rfl (IntWalk.i64_in _ (by(try dsimp only at *);(try simp only [List.length_append,List.length_cons,List.length_nil]);omega))) ?_
  refine Gm rfl ?_
  refine AQ (AB (.t6 0 1 2 8 9 10) ?_)
  refine C0 (k+1) _ ?_ ?_ (.t6 1 10 0 2 8 9) (.refl _)
  · exact⟨by omega,by omega,by rw [hI13,AE.aI hI11 (by omega) c2],by simp only [List.length_append,List.length_cons,List.length_nil];omega⟩
  · omega
 have c1p:=kz c1
 obtain rfl:k=(l.length:Int):=by omega
 rw [show(l.length:Int).toNat=l.length by omega,List.drop_length] at hI13
 refine Ba (AV (AV (Af ?_)))
 refine AB (.t3 0 1 2) ?_
 refine AA (CD (Gm rfl (Gt (Ar rfl Tryz.underlying169 rfl) (Gt (Ag rfl rfl) (Gn (.t3 0 1 38) ?_)))))
 refine Gc (fun c3=>?_) (fun c3=>?_)
 ·
  have c3p:=kz c3
  rw [hf] at c3
  refine AJ (Gm rfl ?_)
  refine Gt (CX rfl rfl (by(try dsimp only at *);(try simp only [List.length_append,List.length_cons,List.length_nil]);omega)) ?_
  refine Ga rfl (Gn (.t2 0 1) (AJ (Gm rfl (Gm rfl ?_))))
  refine Gt (CX rfl rfl (by(try dsimp only at *);(try simp only [List.length_append,List.length_cons,List.length_nil]);omega)) ?_
  refine Ah rfl EI (.c rfl (.c rfl .n)) (.c .h (.c .h .n)) (Be _ _ _ _ hg hb hn) (fun v1 B hv=>?_)
  obtain⟨y2,rfl,y3,rfl⟩:=hv
  refine AQ ?_
  refine Bk rfl .n ?_
  intro w1 hS
  have hS:=(hS.perm (Ay.perm (.c .h (.c .h (.c .h .n))))).A1
  refine⟨_,⟨?gqTrue,rfl,?hlTrue,?hBTrue⟩,hS⟩
  case hBTrue=>rw [AE.list,show AE.ND T.w u l=_ from BB c3,hI13];rfl
  case hlTrue=>(try simp only [AE.CG] at *);rw [(AE.Hq T u l).2.2];assumption
 have c3p:=kz c3
 rw [hf] at c3
 refine Aa ?_
 refine AB (.t2 0 1) ?_
 refine AA (AJ (Gm rfl (Gm rfl ?_)))
 refine Gt (CX rfl rfl (by(try dsimp only at *);(try simp only [List.length_append,List.length_cons,List.length_nil]);omega)) ?_
 refine Ah rfl EI (.c rfl (.c rfl .n)) (.c .h (.c .h .n)) (Be _ _ _ _ hg hb hn) (fun v4 B hv=>?_)
 obtain⟨y5,rfl,y6,rfl⟩:=hv
 refine AQ ?_
 refine Bk rfl .n ?_
 intro w1 hS
 have hS:=(hS.perm (Ay.perm (.c .h (.c .h (.c .h .n))))).A1
 refine⟨_,⟨?gqFalse,rfl,?hlFalse,?hBFalse⟩,hS⟩
 case hBFalse=>rw [AE.list,show AE.ND T.w u l=_ from AX c3,hI13];rfl
 case hlFalse=>(try simp only [AE.CG] at *);rw [(AE.Hq T u l).2.2];assumption
theorem HL (b:Nat)(T:AE)(g:Hd)(hg:g.len=T.out.length)(hb:0≤T.b∧T.b < 6)(hw:T.w.DL)(hn:T.out.length≤90000):FC Tryz.prog 100 #[.pointer (some ⟨b,0,none⟩)] [Ac.box b 163 (Ad.enc ⟨T.w,T.b,g⟩),Ac.own g 56 16 (T.out.flatMap Ing.Event.enc)] (fun w=>(GV 0 AG.DE w∧0 ∉ Cc [Ac.box b 163 (Ad.enc ⟨T.w,T.b,g⟩),Ac.own g 56 16 (T.out.flatMap Ing.Event.enc)])) (fun v B=>∃ g':Hd,v = .tuple #[]∧g'.len=(T.look).out.length∧B = [Ac.box b 163 (Ad.enc ⟨(T.look).w,(T.look).b,g'⟩),Ac.own g' 56 16 ((T.look).out.flatMap Ing.Event.enc)]):=by
 intro w hS0 hH
 obtain⟨gl0,gm0⟩:=hH
 refine Al _ _ Tryz.func100 rfl rfl rfl (hS0) ?_
 refine Ap ?_
 refine BD (N:=12) [0,0,2,6,14,1,33,97,255,511,0,2047] mix (by kernel_rfl) rfl ?_
 refine Pf 0 rfl (AF rfl) (Pf 1 rfl (AF rfl) (Pf 2 rfl (BV rfl) (Pf 3 rfl (Ai CR rfl) (Pf 4 rfl (AH rfl A4 .m0 Ad.l1 rfl rfl) (Pf 5 rfl (BV rfl) (Pf 6 rfl (Ai A9 rfl) (Pf 7 rfl (Ai Bs rfl) ?_)))))))
 refine Pf 8 rfl (AS C8 rfl rfl (by(try dsimp only at *);(try simp only [List.length_append,List.length_cons,List.length_nil]);omega) (by(try dsimp only at *);(try simp only [List.length_append,List.length_cons,List.length_nil]);omega)) ?_
 refine Pf 9 rfl (AZ rfl F6 .m0 ((Ad.l0.comp AG.l2).comp (AU.arr (n:=6) Aj.fl (by(try dsimp only at *);(try simp only [List.length_append,List.length_cons,List.length_nil]);omega) (by(try dsimp only at *);(try simp only [List.length_append,List.length_cons,List.length_nil]);omega))) rfl) ?_
 refine An 10 rfl (by kernel_rfl) ?_
 refine BH rfl ME rfl (fun b1=>?_)
 refine Bu rfl ⟨?_,?_⟩
 · exact(Po rfl (AZ rfl F6 .m1 ((Ad.l0.comp AG.l2).comp (AU.arr (n:=6) Aj.fl (by(try dsimp only at *);(try simp only [List.length_append,List.length_cons,List.length_nil]);omega) (by(try dsimp only at *);(try simp only [List.length_append,List.length_cons,List.length_nil]);omega))) rfl) rfl rfl (Po rfl (AS C8 rfl rfl (by(try dsimp only at *);(try simp only [List.length_append,List.length_cons,List.length_nil]);omega) (by(try dsimp only at *);(try simp only [List.length_append,List.length_cons,List.length_nil]);omega)) rfl rfl (Po rfl (Ai Bs rfl) rfl rfl (Po rfl (Ai A9 rfl) rfl rfl (Po rfl (BV rfl) rfl rfl (Po rfl (AH rfl A4 .m1 Ad.l1 rfl rfl) rfl rfl (Po rfl (Ai CR rfl) rfl rfl (Po rfl (BV rfl) rfl rfl (Po rfl (AF rfl) rfl rfl (Po rfl (AF rfl) rfl rfl As))))))))))
 refine An 11 rfl (by kernel_rfl) ?_
 refine AT (AK (AU.id Aj.fl.len Aj.fl.one) rfl rfl rfl KZ rfl .h) ?_
 refine BO rfl ⟨?_,?_⟩
 · exact(Pk (Pk (Pk (Pk (Pk (Pk (Pk (Pk (Pk (Pk As))))))))))
 refine A3 (by kernel_rfl) ?_
 refine AB (.t2 0 2) ?_
 refine AA (Ap (Ap ?_))
 refine BD (N:=8) [0,1,3,7,0,16,63,127] mix (by kernel_rfl) rfl ?_
 refine Pf 0 rfl (AF rfl) (Pf 1 rfl (BV rfl) (Pf 2 rfl (Ai A9 rfl) (Pf 3 rfl (AZ rfl BZ .m1 Ad.l0 rfl) (Pf 4 rfl (Ai C4 rfl) (Pf 5 rfl (AH rfl A4 .m0 Aj.l3 rfl rfl) ?_)))))
 refine Bb 6 rfl rfl (by kernel_rfl) (L9 (K9 (EB VK (.c rfl (.c rfl .n)) (fun w hS=>Eh _ _ w)))) ?_
 refine Pf 7 rfl (BT rfl) ?_
 refine A3 (by kernel_rfl) ?_
 refine AB (.t3 0 2 26) ?_
 refine AA ?_
 refine Gc (fun c1=>?_) (fun c1=>?_)
 ·
  have c1p:=kz c1
  refine Gs (Gm rfl ?_)
  refine Ah rfl EI (.c rfl (.c rfl .n)) (.c (.t .h) (.c (.t .h) .n)) (Be _ _ _ _ (by assumption) (by first | exact hb | (rw [hXb];exact hb)) (by(try simp only [AE.CG,AE.Cg,(AE.Hq _ _ _).2.2] at *);(try dsimp only at *);omega)) (fun v1 B hv=>?_)
  obtain⟨y2,rfl,y3,rfl⟩:=hv
  refine Gn (.nil _) (Ab (AD ?_))
  refine AY rfl .n ?_
  intro w1 hS
  have hS:=(hS.perm (Ay.perm (.c .h (.c .h .n)))).A1
  refine⟨_,⟨?gq1,rfl,?hl1,?hB1⟩,hS⟩
  case hB1=>rw [show T.look=_ from BB c1];rfl
  case hl1=>rw [show T.look=_ from BB c1];assumption
 have c1p:=kz c1
 have hr:=AG.US c1
 have hnr:=hw.ro (T.w.AN.at T.b).room
 refine Aa ?_
 refine AB (.t2 0 2) ?_
 refine AA (Ap ?_)
 refine BD (N:=10) [0,0,2,1,9,25,63,127,0,511] mix (by kernel_rfl) rfl ?_
 refine Pf 0 rfl (AF rfl) (Pf 1 rfl (Ai C4 rfl) (Pf 2 rfl (AH rfl A4 .m0 Aj.l3 rfl rfl) (Pf 3 rfl (BV rfl) (Pf 4 rfl (Ai A9 rfl) (Pf 5 rfl (Ai G4 rfl) ?_)))))
 refine Pf 6 rfl (AS O6 rfl rfl (by(try dsimp only at *);(try simp only [List.length_append,List.length_cons,List.length_nil]);omega) (by(try dsimp only at *);(try simp only [List.length_append,List.length_cons,List.length_nil]);omega)) ?_
 refine Pf 7 rfl (AZ rfl N7 .m1 ((Ad.l0.comp AG.l0).comp (AU.arr (n:=6) Room.fl (by(try dsimp only at *);(try simp only [List.length_append,List.length_cons,List.length_nil]);omega) (by(try dsimp only at *);(try simp only [List.length_append,List.length_cons,List.length_nil]);omega))) rfl) ?_
 refine An 8 rfl (by kernel_rfl) ?_
 refine BH rfl N6 rfl (fun b2=>?_)
 refine Bu rfl ⟨?_,?_⟩
 · exact(Po rfl (AZ rfl N7 .m2 ((Ad.l0.comp AG.l0).comp (AU.arr (n:=6) Room.fl (by(try dsimp only at *);(try simp only [List.length_append,List.length_cons,List.length_nil]);omega) (by(try dsimp only at *);(try simp only [List.length_append,List.length_cons,List.length_nil]);omega))) rfl) rfl rfl (Po rfl (AS O6 rfl rfl (by(try dsimp only at *);(try simp only [List.length_append,List.length_cons,List.length_nil]);omega) (by(try dsimp only at *);(try simp only [List.length_append,List.length_cons,List.length_nil]);omega)) rfl rfl (Po rfl (Ai G4 rfl) rfl rfl (Po rfl (Ai A9 rfl) rfl rfl (Po rfl (BV rfl) rfl rfl (Po rfl (AH rfl A4 .m1 Aj.l3 rfl rfl) rfl rfl (Po rfl (Ai C4 rfl) rfl rfl (Po rfl (AF rfl) rfl rfl As))))))))
 refine An 9 rfl (by kernel_rfl) ?_
 refine AT (AK (AU.id Room.fl.len Room.fl.one) rfl rfl rfl RW rfl .h) ?_
 refine BO rfl ⟨?_,?_⟩
 · exact(Pk (Pk (Pk (Pk (Pk (Pk (Pk (Pk As))))))))
 refine A3 (by kernel_rfl) ?_
 refine AB (.t3 0 2 3) ?_
 refine AA (Gs (Gm rfl (Gt (Ai bt rfl) (Gt (AH rfl CO .m0 Room.l0 rfl rfl) ?_))))
 refine Gt (CX rfl rfl (by(try dsimp only at *);(try simp only [List.length_append,List.length_cons,List.length_nil]);omega)) ?_
 refine Gt (CX rfl rfl (by(try dsimp only at *);(try simp only [List.length_append,List.length_cons,List.length_nil]);omega)) ?_
 refine Ah rfl EI (.c rfl (.c rfl .n)) (.c (.t (.t .h)) (.c (.t (.t .h)) .n)) (Be _ _ _ _ (by assumption) (by first | exact hb | (rw [hXb];exact hb)) (by(try simp only [AE.CG,AE.Cg,(AE.Hq _ _ _).2.2] at *);(try dsimp only at *);omega)) (fun v4 B hv=>?_)
 obtain⟨y5,rfl,y6,rfl⟩:=hv
 refine Gn (.t3 0 2 3) (Gs (Ga rfl (AQ (AA (CD (Gt (Ai Mq rfl) (Gt (AZ rfl aY .m2 Room.l2 rfl) ?_)))))))
 refine Gm rfl (Gn (.t6 0 2 3 4 44 45) (Ae ?_))
 refine Bl (.t6 4 45 0 2 3 44) ?_
 refine Fq (fun(k:Int) (x:Ao)=>0≤k∧k≤6∧x=AE.Hf (T.w.BS.at T.me.room) k.toNat) (fun(k:Int) (x:Ao)=>(6 - k).toNat) (fun(k:Int) (x:Ao)=> [(4,BU x),(45, .int .i64 k)]) (fun(k:Int) (x:Ao)=> []) (0) (_) ?_ rfl rfl (fun k x hI1=>?_)
 · exact⟨by omega,by omega,rfl⟩
 obtain⟨hI11,hI12,hI13⟩:=hI1
 refine Gs (Gt (A8 rfl rfl) (AQ (AA (Ap ?_))))
 refine Gc (fun c2=>?_) (fun c2=>?_)
 ·
  have c2p:=kz c2
  have hcl:=AG.JL k
  have hwl:=AE.MU (T.w.BS.at T.me.room) k.toNat
  rw [← hI13] at hwl
  have hst:=AE.Td (r:=T.w.BS.at T.me.room) hI11
  refine Aa ?_
  refine AB (.t6 0 2 3 4 44 45) ?_
  refine AA (Ap (Ae (Gs (Gm rfl ?_))))
  refine Gt (KQ B1 Tryz.underlying23 DB A4 rfl rfl (by(try dsimp only at *);(try simp only [List.length_append,List.length_cons,List.length_nil]);omega) (by(try dsimp only at *);(try simp only [List.length_append,List.length_cons,List.length_nil]);omega) rfl) ?_
  refine Ga rfl (Ga rfl (Gn (.t8 0 2 3 4 5 6 44 45) (CD (Gm rfl (Gt (Ag rfl rfl) (Gn (.t8 0 2 3 4 5 44 45 50) ?_))))))
  refine Gc (fun c3=>?_) (fun c3=>?_)
  ·
   have c3p:=kz c3
   have cp3:decide ((T.w.BS.at T.me.room).CP.at k=0)=true:=c3
   rw [BB cp3] at hst
   refine Ba (AV (Af ?_))
   refine AB (.t6 0 2 3 4 44 45) ?_
   refine AA (AJ ?_)
   refine Gt (Av rfl rfl (IntWalk.i64_in _ (by(try dsimp only at *);(try simp only [List.length_append,List.length_cons,List.length_nil]);omega))) ?_
   refine Gm rfl ?_
   refine AQ (AB (.t6 0 2 3 4 44 45) ?_)
   refine C0 (k+1) _ ?_ ?_ (.t6 4 45 0 2 3 44) (.refl _)
   · exact⟨by omega,by omega,by rw [hst,← hI13]⟩
   · omega
  have c3p:=kz c3
  have cp3:decide ((T.w.BS.at T.me.room).CP.at k=0)=false:=c3
  rw [AX cp3] at hst
  refine Aa ?_
  refine AB (.t7 0 2 3 4 5 44 45) ?_
  refine AA (Gs (Gm rfl (Gm rfl ?_)))
  refine BA rfl dT (.c rfl .n) (fun w hS=>H4 _ w (gl0.stM gm0 hS)) ?_
  refine Gt (CX rfl rfl (by(try dsimp only at *);(try simp only [List.length_append,List.length_cons,List.length_nil]);omega)) ?_
  refine Gt (CX rfl rfl (by(try dsimp only at *);(try simp only [List.length_append,List.length_cons,List.length_nil]);omega)) ?_
  refine Ga rfl (Gn (.t7 0 2 3 4 5 44 45) (Gs (Gm rfl (Gt (Ai Ma rfl) ?_))))
  refine Gt (AS V9 rfl rfl (by(try dsimp only at *);(try simp only [List.length_append,List.length_cons,List.length_nil]);omega) (by(try dsimp only at *);(try simp only [List.length_append,List.length_cons,List.length_nil]);omega)) ?_
  refine Gt (AH rfl Dr .m2 (Room.l3.comp (AU.arr (n:=6) HQ (by(try dsimp only at *);(try simp only [List.length_append,List.length_cons,List.length_nil]);omega) (by(try dsimp only at *);(try simp only [List.length_append,List.length_cons,List.length_nil]);omega))) rfl rfl) ?_
  refine Gn (.t7 0 2 3 4 44 45 59) ?_
  refine Gc (fun c4=>?_) (fun c4=>?_)
  ·
   have c4p:=kz c4
   have cp4:(T.w.BS.at T.me.room).shut.at k=true:=c4
   rw [BB cp4] at hst
   refine AJ (Gm rfl ?_)
   refine Gt (CX rfl rfl (by(try dsimp only at *);(try simp only [List.length_append,List.length_cons,List.length_nil]);omega)) ?_
   refine Ga rfl ?_
   refine AQ (AB (.t6 0 2 3 4 44 45) ?_)
   refine AW (AA (AJ ?_))
   refine Gt (Av rfl rfl (IntWalk.i64_in _ (by(try dsimp only at *);(try simp only [List.length_append,List.length_cons,List.length_nil]);omega))) ?_
   refine Gm rfl ?_
   refine AQ (AB (.t6 0 2 3 4 44 45) ?_)
   refine C0 (k+1) _ ?_ ?_ (.t6 4 45 0 2 3 44) (.refl _)
   · exact⟨by omega,by omega,by rw [hst,← hI13]⟩
   · omega
  have c4p:=kz c4
  have cp4:(T.w.BS.at T.me.room).shut.at k=false:=c4
  rw [AX cp4] at hst
  refine Aa ?_
  refine AB (.t6 0 2 3 4 44 45) ?_
  refine AW (AA (AJ ?_))
  refine Gt (Av rfl rfl (IntWalk.i64_in _ (by(try dsimp only at *);(try simp only [List.length_append,List.length_cons,List.length_nil]);omega))) ?_
  refine Gm rfl ?_
  refine AQ (AB (.t6 0 2 3 4 44 45) ?_)
  refine C0 (k+1) _ ?_ ?_ (.t6 4 45 0 2 3 44) (.refl _)
  · exact⟨by omega,by omega,by rw [hst,← hI13]⟩
  · omega
 have c2p:=kz c2
 obtain rfl:k=6:=by omega
 subst hI13
 refine Ba (AV (AV (Af ?_)))
 refine AB (.t3 0 2 4) ?_
 refine AA (Gs (Gm rfl (Gm rfl ?_)))
 refine Ah rfl EI (.c rfl (.c rfl .n)) (.c .h (.c .h .n)) (Be _ _ _ _ (by assumption) (by first | exact hb | (rw [hXb];exact hb)) (by(try simp only [AE.CG,AE.Cg,(AE.Hq _ _ _).2.2] at *);(try dsimp only at *);omega)) (fun v7 B hv=>?_)
 obtain⟨y8,rfl,y9,rfl⟩:=hv
 refine Gn (.t2 0 2) (Ap (Ap ?_))
 refine BD (N:=8) [0,1,3,7,0,16,63,127] mix (by kernel_rfl) rfl ?_
 refine Pf 0 rfl (AF rfl) (Pf 1 rfl (BV rfl) (Pf 2 rfl (Ai A9 rfl) (Pf 3 rfl (AZ rfl BZ .m0 Ad.l0 rfl) (Pf 4 rfl (Ai C4 rfl) (Pf 5 rfl (AH rfl A4 .m3 Aj.l3 rfl rfl) ?_)))))
 refine An 6 rfl (by kernel_rfl) ?_
 refine Ah rfl SA (.c rfl (.c rfl (.c rfl .n))) .n (FF _ _ _) (fun v10 B hv=>?_)
 obtain⟨y11,rfl,y12,rfl⟩:=hv
 refine Bu rfl ⟨?_,?_⟩
 · exact(Pk (Pk (Pk (Pk (Pk (Pk As))))))
 refine Pf 7 rfl (A0 rfl) ?_
 refine A3 (by kernel_rfl) ?_
 refine AB (.t2 0 7) ?_
 refine AA (Gs (Gm rfl (Gt (Ar rfl Tryz.underlying169 rfl) (Gt (Cn rfl rfl) (Gn (.t3 0 7 75) ?_)))))
 refine Gc (fun c5=>?_) (fun c5=>?_)
 ·
  have c5p:=kz c5
  rw [y12] at c5
  refine AJ (Gm rfl (Gm rfl ?_))
  refine Ah rfl aV (.c rfl (.c rfl (.c rfl .n))) (.c (.t .h) (.c (.t .h) (.c .h .n))) (Lt _ T.Jv _ [72,101,114,101,32,105,115] _ (T.w.has 0 T.me.room) (by assumption) hb (by assumption) (AG.IN _ _ _) (fun i hi=>AG.Fp hi) hw (by decide) (by rw [(AE.UX T).2.2];omega)) (fun v14 B hv=>?_)
  obtain⟨y15,rfl,y16,rfl⟩:=hv
  refine Gn (.t1 0) (Gs (Gm rfl (AQ (AA (Ae ?_)))))
  refine Bl (.t2 79 0) ?_
  refine Bf (.t .h) ?_
  refine Bf (.t .h) ?_
  refine DX (fun(k:Int) (X:AE) (h:Hd)=>0≤k∧k≤6∧X=T.EE.Fe k.toNat∧h.len=X.out.length) (fun(k:Int) (X:AE) (h:Hd)=>(6 - k).toNat) (fun(k:Int) (X:AE) (h:Hd)=> [(79, .int .i64 k)]) (fun(k:Int) (X:AE) (h:Hd)=> [Ac.box b 163 (Ad.enc ⟨X.w,X.b,h⟩),Ac.own h 56 16 (X.out.flatMap Ing.Event.enc)]) (0) (_) (_) ?_ rfl rfl (fun k X h hI2=>?_)
  · exact⟨by omega,by omega,(show T.EE=_ from BB c5).symm,by assumption⟩
  obtain⟨hI21,hI22,hI23,hI24⟩:=hI2
  refine Gs (Gt (A8 rfl rfl) (AQ (AA (Ap ?_))))
  refine Gc (fun c6=>?_) (fun c6=>?_)
  ·
   have c6p:=kz c6
   have hnb:=hw.be k
   have hXl:=AE.KS T.EE k.toNat
   have hBl:=AE.RR T
   rw [← hI23] at hXl
   have hXw:X.w=T.w:=hXl.1.trans hBl.1
   have hXb:X.b=T.b:=hXl.2.1.trans hBl.2.1
   rw [← hXw] at hnb
   refine Aa ?_
   refine AB (.t2 0 79) ?_
   refine AA (Ap (Ae (Gs (Gm rfl (Ga rfl (Gn (.t3 0 8 79) (Ap ?_)))))))
   refine BD (N:=18) [0,0,2,6,14,31,63,127,255,511,1023,127,2175,6271,14463,127,65535,131071] mix (by kernel_rfl) rfl ?_
   refine Pf 0 rfl (AF rfl) (Pf 1 rfl (AF rfl) (Pf 2 rfl (BV rfl) (Pf 3 rfl (Ai CR rfl) (Pf 4 rfl (AH rfl A4 .m0 Ad.l1 rfl rfl) (Pf 5 rfl (Ca rfl rfl) (Pf 6 rfl (AF rfl) (Mr 7 88 rfl rfl rfl (fun q=>AF rfl) ?_)))))))
   refine Mr 8 88 rfl rfl rfl (fun q=>BV (Bj rfl q)) (Mr 9 88 rfl rfl rfl (fun q=>Ai A9 (Bj rfl q)) (Mr 10 88 rfl rfl rfl (fun q=>AZ (Bj rfl q) BZ .m0 Ad.l0 rfl) (Mr 11 88 rfl rfl rfl (fun q=>AF rfl) (Mr 12 88 rfl rfl rfl (fun q=>BV (Bj rfl q)) (Mr 13 88 rfl rfl rfl (fun q=>Ai CR (Bj rfl q)) (Mr 14 88 rfl rfl rfl (fun q=>AH (Bj rfl q) A4 .m0 Ad.l1 rfl rfl) (Mr 15 88 rfl rfl rfl (fun q=>AF rfl) ?_)))))))
   refine Bb 16 rfl rfl (by kernel_rfl) (Sk (t:=88) rfl rfl (fun q=>K9 (EB OK (.c (Bj rfl q) (.c (Bj rfl q) (.c (Bj rfl q) .n))) (fun w hS=>DU _ _ _ w)))) ?_
   refine Pf 17 rfl (BK rfl rfl (fun h=>h)) ?_
   refine A3 (by kernel_rfl) ?_
   refine AB (.t4 0 8 79 99) ?_
   refine AA ?_
   refine Gc (fun c7=>?_) (fun c7=>?_)
   ·
    have c7p:=kz c7
    have cp7:(!decide (k=T.EE.b) && T.EE.w.I5 T.EE.b k)=true:=by rw [hBl.1,hBl.2.1,← hXw,← hXb];exact c7
    refine AJ (Gm rfl (Gm rfl (Gm rfl (Gt (BV rfl) (Gt (Ai A9 rfl) (Gt (Ai Bs rfl) ?_))))))
    refine Gt (AS C8 rfl rfl (by(try dsimp only at *);(try simp only [List.length_append,List.length_cons,List.length_nil]);omega) (by(try dsimp only at *);(try simp only [List.length_append,List.length_cons,List.length_nil]);omega)) ?_
    refine Gt (Ai K3 rfl) ?_
    refine Gt (AH rfl CO .m0 (((Ad.l0.comp AG.l2).comp (AU.arr (n:=6) Aj.fl (by(try dsimp only at *);(try simp only [List.length_append,List.length_cons,List.length_nil]);omega) (by(try dsimp only at *);(try simp only [List.length_append,List.length_cons,List.length_nil]);omega))).comp Aj.l0) rfl rfl) ?_
    refine Gt (CX rfl rfl (by(try dsimp only at *);(try simp only [List.length_append,List.length_cons,List.length_nil]);omega)) ?_
    refine Ah rfl EI (.c rfl (.c rfl .n)) (.c .h (.c .h .n)) (Be _ _ _ _ (by assumption) (by first | exact hb | (rw [hXb];exact hb)) (by(try simp only [AE.CG,AE.Cg,(AE.Hq _ _ _).2.2] at *);(try dsimp only at *);omega)) (fun v17 B hv=>?_)
    obtain⟨y18,rfl,y19,rfl⟩:=hv
    refine AQ (AB (.t2 0 79) ?_)
    refine AW (AA (AJ ?_))
    refine Gt (Av rfl rfl (IntWalk.i64_in _ (by(try dsimp only at *);(try simp only [List.length_append,List.length_cons,List.length_nil]);omega))) ?_
    refine Gm rfl ?_
    refine AQ (AB (.t2 0 79) ?_)
    refine Bt (k+1) _ _ ?_ ?_ (.t2 79 0) (.refl _)
    · exact⟨by omega,by omega,by rw [AE.JJ hI21,BB cp7,← hI23,hBl.1,← hXw],by assumption⟩
    · omega
   have c7p:=kz c7
   have cp7:(!decide (k=T.EE.b) && T.EE.w.I5 T.EE.b k)=false:=by rw [hBl.1,hBl.2.1,← hXw,← hXb];exact c7
   refine Aa ?_
   refine AB (.t2 0 79) ?_
   refine AW (AA (AJ ?_))
   refine Gt (Av rfl rfl (IntWalk.i64_in _ (by(try dsimp only at *);(try simp only [List.length_append,List.length_cons,List.length_nil]);omega))) ?_
   refine Gm rfl ?_
   refine AQ (AB (.t2 0 79) ?_)
   refine Bt (k+1) _ _ ?_ ?_ (.t2 79 0) (.refl _)
   · exact⟨by omega,by omega,by rw [AE.JJ hI21,AX cp7,← hI23],by assumption⟩
   · omega
  have c6p:=kz c6
  obtain rfl:k=6:=by omega
  refine Ba (AV (AV (Af ?_)))
  refine Bk rfl .n ?_
  intro w1 hS
  have hS:=(hS.perm (Ay.perm (.c .h (.c .h .n)))).A1
  have hq:T.look=X:=(show T.look=_ from AX c1).trans hI23.symm
  refine⟨_,⟨?gqc6,rfl,?hlc6,?hBc6⟩,hS⟩
  case hBc6=>rw [hq]
  case hlc6=>rw [hq];assumption
 have c5p:=kz c5
 rw [y12] at c5
 refine Aa ?_
 refine AB (.t1 0) ?_
 refine AA (Gs (Gm rfl (AQ (AA (Ae ?_)))))
 refine Bl (.t2 79 0) ?_
 refine Bf (.t (.t .h)) ?_
 refine Bf (.t (.t .h)) ?_
 refine DX (fun(k:Int) (X:AE) (h:Hd)=>0≤k∧k≤6∧X=T.EE.Fe k.toNat∧h.len=X.out.length) (fun(k:Int) (X:AE) (h:Hd)=>(6 - k).toNat) (fun(k:Int) (X:AE) (h:Hd)=> [(79, .int .i64 k)]) (fun(k:Int) (X:AE) (h:Hd)=> [Ac.box b 163 (Ad.enc ⟨X.w,X.b,h⟩),Ac.own h 56 16 (X.out.flatMap Ing.Event.enc)]) (0) (_) (_) ?_ rfl rfl (fun k X h hI2=>?_)
 · exact⟨by omega,by omega,(show T.EE=_ from AX c5).symm,by assumption⟩
 obtain⟨hI21,hI22,hI23,hI24⟩:=hI2
 refine Gs (Gt (A8 rfl rfl) (AQ (AA (Ap ?_))))
 refine Gc (fun c8=>?_) (fun c8=>?_)
 ·
  have c8p:=kz c8
  have hnb:=hw.be k
  have hXl:=AE.KS T.EE k.toNat
  have hBl:=AE.RR T
  rw [← hI23] at hXl
  have hXw:X.w=T.w:=hXl.1.trans hBl.1
  have hXb:X.b=T.b:=hXl.2.1.trans hBl.2.1
  rw [← hXw] at hnb
  refine Aa ?_
  refine AB (.t2 0 79) ?_
  refine AA (Ap (Ae (Gs (Gm rfl (Ga rfl (Gn (.t3 0 8 79) (Ap ?_)))))))
  refine BD (N:=18) [0,0,2,6,14,31,63,127,255,511,1023,127,2175,6271,14463,127,65535,131071] mix (by kernel_rfl) rfl ?_
  refine Pf 0 rfl (AF rfl) (Pf 1 rfl (AF rfl) (Pf 2 rfl (BV rfl) (Pf 3 rfl (Ai CR rfl) (Pf 4 rfl (AH rfl A4 .m0 Ad.l1 rfl rfl) (Pf 5 rfl (Ca rfl rfl) (Pf 6 rfl (AF rfl) (Mr 7 88 rfl rfl rfl (fun q=>AF rfl) ?_)))))))
  refine Mr 8 88 rfl rfl rfl (fun q=>BV (Bj rfl q)) (Mr 9 88 rfl rfl rfl (fun q=>Ai A9 (Bj rfl q)) (Mr 10 88 rfl rfl rfl (fun q=>AZ (Bj rfl q) BZ .m0 Ad.l0 rfl) (Mr 11 88 rfl rfl rfl (fun q=>AF rfl) (Mr 12 88 rfl rfl rfl (fun q=>BV (Bj rfl q)) (Mr 13 88 rfl rfl rfl (fun q=>Ai CR (Bj rfl q)) (Mr 14 88 rfl rfl rfl (fun q=>AH (Bj rfl q) A4 .m0 Ad.l1 rfl rfl) (Mr 15 88 rfl rfl rfl (fun q=>AF rfl) ?_)))))))
  refine Bb 16 rfl rfl (by kernel_rfl) (Sk (t:=88) rfl rfl (fun q=>K9 (EB OK (.c (Bj rfl q) (.c (Bj rfl q) (.c (Bj rfl q) .n))) (fun w hS=>DU _ _ _ w)))) ?_
  refine Pf 17 rfl (BK rfl rfl (fun h=>h)) ?_
  refine A3 (by kernel_rfl) ?_
  refine AB (.t4 0 8 79 99) ?_
  refine AA ?_
  refine Gc (fun c9=>?_) (fun c9=>?_)
  ·
   have c9p:=kz c9
   have cp7:(!decide (k=T.EE.b) && T.EE.w.I5 T.EE.b k)=true:=by rw [hBl.1,hBl.2.1,← hXw,← hXb];exact c9
   refine AJ (Gm rfl (Gm rfl (Gm rfl (Gt (BV rfl) (Gt (Ai A9 rfl) (Gt (Ai Bs rfl) ?_))))))
   refine Gt (AS C8 rfl rfl (by(try dsimp only at *);(try simp only [List.length_append,List.length_cons,List.length_nil]);omega) (by(try dsimp only at *);(try simp only [List.length_append,List.length_cons,List.length_nil]);omega)) ?_
   refine Gt (Ai K3 rfl) ?_
   refine Gt (AH rfl CO .m0 (((Ad.l0.comp AG.l2).comp (AU.arr (n:=6) Aj.fl (by(try dsimp only at *);(try simp only [List.length_append,List.length_cons,List.length_nil]);omega) (by(try dsimp only at *);(try simp only [List.length_append,List.length_cons,List.length_nil]);omega))).comp Aj.l0) rfl rfl) ?_
   refine Gt (CX rfl rfl (by(try dsimp only at *);(try simp only [List.length_append,List.length_cons,List.length_nil]);omega)) ?_
   refine Ah rfl EI (.c rfl (.c rfl .n)) (.c .h (.c .h .n)) (Be _ _ _ _ (by assumption) (by first | exact hb | (rw [hXb];exact hb)) (by(try simp only [AE.CG,AE.Cg,(AE.Hq _ _ _).2.2] at *);(try dsimp only at *);omega)) (fun v20 B hv=>?_)
   obtain⟨y21,rfl,y22,rfl⟩:=hv
   refine AQ (AB (.t2 0 79) ?_)
   refine AW (AA (AJ ?_))
   refine Gt (Av rfl rfl (IntWalk.i64_in _ (by(try dsimp only at *);(try simp only [List.length_append,List.length_cons,List.length_nil]);omega))) ?_
   refine Gm rfl ?_
   refine AQ (AB (.t2 0 79) ?_)
   refine Bt (k+1) _ _ ?_ ?_ (.t2 79 0) (.refl _)
   · exact⟨by omega,by omega,by rw [AE.JJ hI21,BB cp7,← hI23,hBl.1,← hXw],by assumption⟩
   · omega
  have c9p:=kz c9
  have cp7:(!decide (k=T.EE.b) && T.EE.w.I5 T.EE.b k)=false:=by rw [hBl.1,hBl.2.1,← hXw,← hXb];exact c9
  refine Aa ?_
  refine AB (.t2 0 79) ?_
  refine AW (AA (AJ ?_))
  refine Gt (Av rfl rfl (IntWalk.i64_in _ (by(try dsimp only at *);(try simp only [List.length_append,List.length_cons,List.length_nil]);omega))) ?_
  refine Gm rfl ?_
  refine AQ (AB (.t2 0 79) ?_)
  refine Bt (k+1) _ _ ?_ ?_ (.t2 79 0) (.refl _)
  · exact⟨by omega,by omega,by rw [AE.JJ hI21,AX cp7,← hI23],by assumption⟩
  · omega
 have c8p:=kz c8
 obtain rfl:k=6:=by omega
 refine Ba (AV (AV (Af ?_)))
 refine Bk rfl .n ?_
 intro w1 hS
 have hS:=(hS.perm (Ay.perm (.c .h (.c .h .n)))).A1
 have hq:T.look=X:=(show T.look=_ from AX c1).trans hI23.symm
 refine⟨_,⟨?gqc8,rfl,?hlc8,?hBc8⟩,hS⟩
 case hBc8=>rw [hq]
 case hlc8=>rw [hq];assumption
theorem Mk (X:AG)(s:Ao)(hw:X.DL)(hs:s.length≤100000000):FC Tryz.prog 114 #[.agg X.enc.toArray,BU s] [] (fun w=>(GV 0 AG.DE w∧0 ∉ Cc [])) (fun v B=>∃ h:Hd,v = .tuple #[.agg ((AE.BW X s).1.enc).toArray, .int .i64 (AE.BW X s).2.1,h.val, .int .i64 (AE.BW X s).2.2.2]∧h.len=(AE.BW X s).2.2.1.length∧B = [Ac.own h 56 16 ((AE.BW X s).2.2.1.flatMap Ing.Event.enc)]):=by
 intro w hS0 hH
 obtain⟨gl0,gm0⟩:=hH
 refine Al _ _ Tryz.func114 rfl rfl rfl (hS0) ?_
 refine Gs ?_
 refine B5 rfl rfl rfl (fun b1=>?_)
 refine BH rfl NS rfl (fun b2=>?_)
 refine Ga rfl (Ga rfl (Ga rfl (Gn (.t3 1 2 4) (CD (Gt (AZ rfl BZ .m1 (AU.id AG.fl.len AG.fl.one) rfl) ?_)))))
 refine BA rfl bx (.c rfl .n) (fun w hS=>HZ _ w) ?_
 refine Gt (BT rfl) (Gn (.t4 1 2 4 14) ?_)
 refine Gc (fun c1=>?_) (fun c1=>?_)
 ·
  refine Gs (Gt (AZ rfl BZ .m1 (AU.id AG.fl.len AG.fl.one) rfl) ?_)
  refine AT (AK (AU.id AG.fl.len AG.fl.one) rfl rfl rfl EC rfl .h) ?_
  refine Ga rfl (Ga rfl (Ga rfl (Gn (.t4 4 5 6 7) (Ab (AD ?_)))))
  refine AY rfl (.cell rfl .m0 (.inl ⟨(by rw [AG.fl.len];exact BZ),rfl⟩) (.tmp rfl (.tmp rfl (.tmp rfl .n)))) ?_
  intro w1 hS
  have hS:=hS.Cr 56 16
  have hS:=(hS.perm (Ay.perm (.c .h .n))).A1
  have hq:AE.BW X s=_:=BB c1
  refine⟨_,⟨⟨none,0,0⟩,?hv,?hl,?hB⟩,hS⟩
  case hv=>rw [hq];rfl
  case hl=>rw [hq];rfl
  case hB=>rw [hq];rfl
 have c1p:=kz c1
 refine Aa ?_
 refine AB (.t3 1 2 4) ?_
 refine AA (CD (Gm rfl ?_))
 refine BA rfl fk (.c rfl .n) (fun w hS=>Ml _ (by first | assumption | omega) w) ?_
 refine Gt (BT rfl) (Gn (.t4 1 2 4 18) ?_)
 refine Gc (fun c2=>?_) (fun c2=>?_)
 ·
  refine Gs (Gt (AZ rfl BZ .m1 (AU.id AG.fl.len AG.fl.one) rfl) ?_)
  refine AT (AK (AU.id AG.fl.len AG.fl.one) rfl rfl rfl EC rfl .h) ?_
  refine Ga rfl (Ga rfl (Ga rfl (Gn (.t4 4 5 6 7) (Ab (AD ?_)))))
  refine AY rfl (.cell rfl .m0 (.inl ⟨(by rw [AG.fl.len];exact BZ),rfl⟩) (.tmp rfl (.tmp rfl (.tmp rfl .n)))) ?_
  intro w1 hS
  have hS:=hS.Cr 56 16
  have hS:=(hS.perm (Ay.perm (.c .h .n))).A1
  have hq:AE.BW X s=_:=(AX c1).trans (BB c2)
  refine⟨_,⟨⟨none,0,0⟩,?hv,?hl,?hB⟩,hS⟩
  case hv=>rw [hq];rfl
  case hl=>rw [hq];rfl
  case hB=>rw [hq];rfl
 have c2p:=kz c2
 refine Aa ?_
 refine AB (.t3 1 2 4) ?_
 refine AA (CD (Gt (Ai Bs rfl) (Gt (AZ rfl aR .m1 AG.l2 rfl) (Gm rfl (Gn (.t5 1 2 4 21 22) (Ae ?_))))))
 refine Bl (.t5 22 1 2 4 21) ?_
 refine Ce (fun(k:Int)=>0≤k∧k≤6∧B8 6 (fun k=>!AE.Ik X s k) 6=B8 6 (fun k=>!AE.Ik X s k) (6 - k).toNat) (fun(k:Int)=>(6 - k).toNat) (fun(k:Int)=> [(22, .int .i64 k)]) (fun(k:Int)=> []) (0) ?_ rfl rfl (fun k hI1=>?_)
 · exact⟨by omega,by omega,rfl⟩
 obtain⟨hI11,hI12,hI13⟩:=hI1
 refine Gs (Gt (A8 rfl rfl) (AQ (AA (Ap ?_))))
 refine Gc (fun c3=>?_) (fun c3=>?_)
 ·
  have c3p:=kz c3
  refine Aa ?_
  refine AB (.t5 1 2 4 21 22) ?_
  refine AA (Ap (Ae (Gs ?_)))
  refine Gt (GJ Aj.fl Tryz.underlying33 F6 rfl rfl (by first | omega | exact hb.1 | exact hb.2 | (dsimp only;omega)) (by first | omega | exact hb.1 | exact hb.2 | (dsimp only;omega))) ?_
  refine BH rfl ME rfl (fun b3=>?_)
  refine AT (AK (AU.id Aj.fl.len Aj.fl.one) rfl rfl rfl KZ rfl .h) ?_
  refine Gn (.t6 1 2 4 9 21 22) (Gs (Gt (Ai IW rfl) (Gt (AH rfl Dr .m0 Aj.l1 rfl rfl) (Gm rfl (Bo 27 rfl rfl (fun q=>Ai K3 rfl) (Bo 27 rfl rfl (fun q=>AH (Bj rfl q) CO .m0 Aj.l0 rfl rfl) (Bo 27 rfl rfl (fun q=>AF rfl) ?_)))))))
  refine Bo 27 rfl rfl (fun q=>Bi (Bj rfl q) (Bj rfl q)) (Gt (BK rfl rfl (fun h=>h)) (Gn (.t6 1 2 4 21 22 32) ?_))
  refine Gc (fun c4=>?_) (fun c4=>?_)
  ·
   have c4p:=kz c4
   refine Gs (Gt (AZ rfl BZ .m2 (AU.id AG.fl.len AG.fl.one) rfl) ?_)
   refine AT (AK (AU.id AG.fl.len AG.fl.one) rfl rfl rfl EC rfl (.t .h)) ?_
   refine Ga rfl (Ga rfl (Ga rfl (Gn (.t4 4 5 6 7) (Ab (AR (AD (AD ?_)))))))
   refine AR (AD ?_)
   refine AY rfl (.cell rfl .m1 (.inl ⟨(by rw [AG.fl.len];exact BZ),rfl⟩) (.tmp rfl (.tmp rfl (.tmp rfl .n)))) ?_
   intro w1 hS
   have hS:=hS.Cr 56 16
   have hS:=(hS.perm (Ay.perm (.c .h .n))).A1
   have ha:(!B8 6 (fun k=>!AE.Ik X s k) 6)=true:=by rw [hI13,Dd (fun k=>!AE.Ik X s k) (show k < 6 by omega),show AE.Ik X s k=true from c4];rfl
   have hq:AE.BW X s=_:=(AX c1).trans ((AX c2).trans (BB ha))
   refine⟨_,⟨⟨none,0,0⟩,?hv,?hl,?hB⟩,hS⟩
   case hv=>rw [hq];rfl
   case hl=>rw [hq];rfl
   case hB=>rw [hq];rfl
  have c4p:=kz c4
  refine Aa ?_
  refine AB (.t5 1 2 4 21 22) ?_
  refine AW (AA (AJ ?_))
  refine Gt (Av rfl rfl (IntWalk.i64_in _ (by first | omega | exact hb.1 | exact hb.2 | (dsimp only;omega)))) ?_
  refine Gm rfl ?_
  refine AQ (AB (.t5 1 2 4 21 22) ?_)
  refine B6 (k+1) ?_ ?_ (.t5 22 1 2 4 21) (.cons _ (.refl _))
  · exact⟨by omega,by omega,by rw [hI13,Dd (fun k=>!AE.Ik X s k) (show k < 6 by omega),show AE.Ik X s k=false from c4];rfl⟩
  · omega
 have c3p:=kz c3
 have hno:(!B8 6 (fun k=>!AE.Ik X s k) 6)=false:=by rw [hI13,show(6 - k).toNat=0 by omega];rfl
 refine Ba (AV (AV (Af ?_)))
 refine AB (.t3 1 2 4) ?_
 refine AA (CD (Ga rfl (AQ (AA (Ae ?_)))))
 refine Bl (.t4 10 1 2 4) ?_
 refine Ce (fun(k:Int)=>2≤k∧k≤6∧AE.CK X 6=AE.CK X (5 - (k - 1)).toNat) (fun(k:Int)=>(6 - k).toNat) (fun(k:Int)=> [(10, .int .i64 k)]) (fun(k:Int)=> []) (2) ?_ rfl rfl (fun k hI2=>?_)
 · exact⟨by omega,by omega,AE.Vw X⟩
 obtain⟨hI21,hI22,hI23⟩:=hI2
 refine CD (Gm rfl (Gt (A8 rfl rfl) (Gn (.t5 1 2 4 10 36) ?_)))
 refine Gc (fun c5=>?_) (fun c5=>?_)
 ·
  have c5p:=kz c5
  refine Aa ?_
  refine AB (.t4 1 2 4 10) ?_
  refine AA (Ap (Ae (Gs (Gm rfl (Gt (Ai Bs rfl) ?_)))))
  refine Gt (AS C8 rfl rfl (by first | omega | exact hb.1 | exact hb.2 | (dsimp only;omega)) (by first | omega | exact hb.1 | exact hb.2 | (dsimp only;omega))) ?_
  refine Gt (Ai IW rfl) ?_
  refine Gt (AH rfl Dr .m1 ((AG.l2.comp (AU.ar (n:=6) Aj.fl (by first | omega | exact hb | (dsimp only;omega)))).comp Aj.l1) rfl rfl) ?_
  refine Gt (BT rfl) (Gn (.t5 1 2 4 10 44) ?_)
  refine Gc (fun c6=>?_) (fun c6=>?_)
  ·
   have c6p:=kz c6
   have hF:=AE.Qb (s:=s) (by simpa using c1) hw (by omega) (show 0≤k by omega) (show k < 6 by omega)
   have hb:=hF.b
   refine Gs (Gt (AZ rfl BZ .m1 (AU.id AG.fl.len AG.fl.one) rfl) (Gm rfl (Gt (BC Um VD rfl (.cons Ad.l0 rfl rfl rfl (.cons Ad.l1 rfl rfl rfl .nil))) ?_)))
   refine B5 rfl rfl rfl (fun b4=>?_)
   refine Ga rfl (Gn (.t4 1 4 10 11) (Gs (Gm rfl (Gm rfl (Gm rfl (Gt (BC Xu ME rfl (.cons Aj.l0 rfl rfl rfl (.cons Aj.l1 rfl rfl rfl (.cons Aj.l4 rfl rfl rfl .nil)))) (Gt (BV rfl) ?_)))))))
   refine Gt (Ai A9 rfl) (Gt (Ai Bs rfl) ?_)
   refine Gt (AS C8 rfl rfl (by first | omega | exact hb.1 | exact hb.2 | (dsimp only;omega)) (by first | omega | exact hb.1 | exact hb.2 | (dsimp only;omega))) ?_
   refine AT (AK ((Ad.l0.comp AG.l2).comp (AU.ar (n:=6) Aj.fl (by first | omega | exact hb | (dsimp only;omega)))) rfl rfl rfl KZ rfl .h) ?_
   refine Gn (.t3 4 10 11) (Gs (Gm rfl ?_))
   refine Dp Ing.Event.enc 56 16 ?_
   refine Ah rfl Uv (.c rfl (.c rfl .n)) (.c (.t .h) (.c .h .n)) (Gd _ (⟨X.Cw k (AE.IZ s),k,[]⟩:AE) _ 17 rfl hb (Nat.zero_le _)) (fun v5 B hv=>?_)
   obtain⟨y6,rfl,y7,rfl⟩:=hv
   refine Gn (.t3 4 10 11) (Gs (Gm rfl ?_))
   refine BE rfl VC (.c rfl .n) (.c .h (.c .h .n)) (HL _ (AE.kind (⟨X.Cw k (AE.IZ s),k,[]⟩:AE) 17) _ y7 hb hF.br (by decide:(0:Nat)+1≤90000)) (fun w hS=>gl0.pull gm0 hS (.c .h (.c .h .n))) (fun v8 B hv=>?_)
   obtain⟨y9,rfl,y10,rfl⟩:=hv
   refine Gn (.t3 4 10 11) (Ap ?_)
   refine BD (N:=13) [0,1,3,7,0,0,32,96,224,15,543,2047,4095] mix (by kernel_rfl) rfl ?_
   refine Pf 0 rfl (AF rfl) (Pf 1 rfl (BV rfl) (Pf 2 rfl (Ai A9 rfl) (Pf 3 rfl (AZ rfl BZ .m0 Ad.l0 rfl) (Pf 4 rfl (AF rfl) (Pf 5 rfl (AF rfl) (Pf 6 rfl (BV rfl) (Pf 7 rfl (Ai CL rfl) ?_)))))))
   refine Pf 8 rfl (AH rfl Dn .m0 Ad.l2 rfl rfl) ?_
   refine An 9 rfl (by kernel_rfl) ?_
   refine AT (AK (AU.id AG.fl.len AG.fl.one) rfl rfl rfl EC rfl (.t (.t .h))) ?_
   refine BO rfl ⟨?_,?_⟩
   · exact(Po rfl (AH rfl Dn .m0 Ad.l2 rfl rfl) rfl rfl (Po rfl (Ai CL rfl) rfl rfl (Po rfl (BV rfl) rfl rfl (Po rfl (AF rfl) rfl rfl (Po rfl (AF rfl) rfl rfl (Pk (Pk (Pk (Pk As)))))))))
   refine Pf 10 rfl (A0 rfl) (Pf 11 rfl (A0 rfl) (Pf 12 rfl (A0 rfl) ?_))
   refine A3 (by kernel_rfl) ?_
   refine AB (.t4 4 5 6 7) ?_
   refine AA (Ab (AR (AD (AD (AR (AD ?_))))))
   refine AY rfl (.cell rfl .m2 (.inl ⟨(by rw [AG.fl.len];exact BZ),rfl⟩) (.tmp rfl (.tmp rfl (.tmp rfl .n)))) ?_
   intro w1 hS
   have hS:=(hS.perm (Ay.perm (.c (.t .h) .n))).A1
   have hfr:AE.CK X 6=k:=hI23.trans (AE.Wi hI21 (by omega) c6)
   have hf0:decide (AE.CK X 6 < 0)=false:=decide_eq_false (by omega)
   have hq:AE.BW X s=_:=(AX c1).trans ((AX c2).trans ((AX hno).trans (AX hf0)))
   rw [hfr] at hq
   refine⟨_,⟨y9,?hv,?hl,?hB⟩,hS⟩
   case hv=>rw [hq];(try rfl)
   case hl=>rw [hq];exact y10
   case hB=>rw [hq];(try rfl)
  have c6p:=kz c6
  refine Aa ?_
  refine AB (.t4 1 2 4 10) ?_
  refine AW (AA (AJ (Gm rfl ?_)))
  refine Gt (Av rfl rfl (IntWalk.i64_in _ (by first | omega | exact hb.1 | exact hb.2 | (dsimp only;omega)))) ?_
  refine Ga rfl ?_
  refine AQ (AB (.t4 1 2 4 10) ?_)
  refine B6 (k+1) ?_ ?_ (.t4 10 1 2 4) (.refl _)
  · exact⟨by omega,by omega,by rw [hI23,AE.Xv hI21 (by omega) c6,show(5 - (k+1 - 1))=5 - k by omega]⟩
  · omega
 have c5p:=kz c5
 obtain rfl:k=6:=by omega
 refine Ba (AV (AV (Af ?_)))
 refine AB (.t2 2 4) ?_
 refine AA (Gs (Gt (AZ rfl BZ .m1 (AU.id AG.fl.len AG.fl.one) rfl) ?_))
 refine AT (AK (AU.id AG.fl.len AG.fl.one) rfl rfl rfl EC rfl .h) ?_
 refine Ga rfl (Ga rfl (Ga rfl (Gn (.t4 4 5 6 7) (Ab ?_))))
 refine AY rfl (.cell rfl .m0 (.inl ⟨(by rw [AG.fl.len];exact BZ),rfl⟩) (.tmp rfl (.tmp rfl (.tmp rfl .n)))) ?_
 intro w1 hS
 have hS:=hS.Cr 56 16
 have hS:=(hS.perm (Ay.perm (.c .h .n))).A1
 have hf0:decide (AE.CK X 6 < 0)=true:=by rw [hI23];rfl
 have hq:AE.BW X s=_:=(AX c1).trans ((AX c2).trans ((AX hno).trans (BB hf0)))
 refine⟨_,⟨⟨none,0,0⟩,?hv,?hl,?hB⟩,hS⟩
 case hv=>rw [hq];rfl
 case hl=>rw [hq];rfl
 case hB=>rw [hq];rfl
theorem G9 (p:Az)(w:World):Ej Tryz.prog 44 #[.agg p.enc.toArray] w fun v w'=>v = .bool (Page.Bh p)∧CB w w':=by
 refine Al [] [] Tryz.func44 rfl rfl rfl (St.start w []) ?_
 refine Gs ?_
 refine B5 rfl rfl rfl (fun b1=>?_)
 refine Ga rfl (Gn (.t1 1) (Gs (Gt (Ai Jm rfl) (Gt (AH rfl F9 .m0 Az.l0 rfl rfl) (Gt (Ar rfl Tryz.underlying52 rfl) (Gt (IQ rfl rfl) (Gm rfl ?_)))))))
 refine Bo 7 rfl rfl (fun q=>Ai Ji rfl) (Bo 7 rfl rfl (fun q=>AH (Bj rfl q) CO .m0 Az.l3 rfl rfl) (Bo 7 rfl rfl (fun q=>BF rfl Tryz.underlying9 (Bj rfl q)) (Bo 7 rfl rfl (fun q=>IQ (Bj rfl q) rfl) (Gt (BK rfl rfl (fun h=>h)) (Gm rfl (Bo 13 rfl rfl (fun q=>Ai MW rfl) (Bo 13 rfl rfl (fun q=>AH (Bj rfl q) A4 .m0 Az.l1 rfl rfl) ?_)))))))
 refine Bo 13 rfl rfl (fun q=>CV (Bj rfl q) rfl) (Gt (BK rfl rfl (fun h=>h)) (Gm rfl (Bo 18 rfl rfl (fun q=>Ai MW rfl) (Bo 18 rfl rfl (fun q=>AH (Bj rfl q) A4 .m0 Az.l1 rfl rfl) (Bo 18 rfl rfl (fun q=>IQ (Bj rfl q) rfl) (Gt (BK rfl rfl (fun h=>h)) (Ga rfl ?_)))))))
 refine Gn (.t1 2) (Ab ?_)
 refine AY rfl (.tmp rfl .n) ?_
 intro w1 hS;refine⟨congrArg Value.bool ?_,hS.Ak⟩;rfl
theorem NK {t0:Nat}(p:Az)(qs:List Ao)(s:Ao):FC Tryz.prog 82 #[.agg p.enc.toArray,BU s] [] (fun w=>Rd w p.wait t0 1 (qs.flatMap A7)) (fun v B=>(Page.Bh p=false∧v = .tuple #[.agg p.enc.toArray, .int .i64 2]∧B = [])∨(Page.Bh p=true∧p.cut=true∧v = .tuple #[.agg p.enc.toArray, .int .i64 6]∧B = [])∨(Page.Bh p=true∧p.cut=false∧60≤qs.length∧v = .tuple #[.agg (Az.enc ⟨p.wait,p.shown,p.CC,p.ring,true⟩).toArray, .int .i64 0]∧B = [])∨(Page.Bh p=true∧p.cut=false∧qs.length < 60∧∃ h':Hd,v = .tuple #[.agg (Az.enc ⟨h',p.shown,p.CC,p.ring,p.cut⟩).toArray, .int .i64 0]∧h'.len=qs.length+1∧B = [Ac.own h' 9 1 ((qs ++ [s]).flatMap A7)])):=by
 intro w hS0 hH
 have r0:=hH
 have hl:=r0.LO DO (by decide)
 refine Al _ _ Tryz.func82 rfl rfl rfl (hS0) ?_
 refine Gs ?_
 refine B5 rfl rfl rfl (fun b1=>?_)
 refine BH rfl Y2 rfl (fun b2=>?_)
 refine Ga rfl (Gn (.t3 1 2 4) (Ap (Ae (Gs (Gt (AZ rfl C3 .m1 (AU.id Az.fl.len Az.fl.one) rfl) ?_)))))
 refine BA rfl cN (.c rfl .n) (fun w hS=>G9 _ w) ?_
 refine Gt (BT rfl) (Ga rfl (Gn (.t4 1 2 4 6) ?_))
 refine Gc (fun c1=>?_) (fun c1=>?_)
 ·
  refine Gs (Gt (AZ rfl C3 .m1 (AU.id Az.fl.len Az.fl.one) rfl) ?_)
  refine AT (AK (AU.id Az.fl.len Az.fl.one) rfl rfl rfl Fw rfl .h) ?_
  refine Ga rfl (Gn (.t2 4 5) (Ab (AR (AD ?_))))
  refine AY rfl (.cell rfl .m0 (.inl ⟨(by rw [Az.fl.len];exact C3),rfl⟩) (.tmp rfl .n)) ?_
  intro w1 hS
  have hS:=(hS.perm (Ay.perm .n)).A1
  exact⟨_, .inl ⟨by simpa using c1,rfl,rfl⟩,hS⟩
 have c1p:=kz c1
 have hgd:Page.Bh p=true:=by simpa using c1
 have hg:=(Page.HT p).1 hgd
 refine Gs (Gt (Ai Kx rfl) (Gt (AH rfl Dr .m1 Az.l4 rfl rfl) (Ga rfl (Gn (.t4 1 2 4 11) ?_))))
 refine Gc (fun c2=>?_) (fun c2=>?_)
 ·
  refine Gs (Gt (AZ rfl C3 .m1 (AU.id Az.fl.len Az.fl.one) rfl) ?_)
  refine AT (AK (AU.id Az.fl.len Az.fl.one) rfl rfl rfl Fw rfl .h) ?_
  refine Ga rfl (Gn (.t2 4 5) (Ab (AR (AD ?_))))
  refine AY rfl (.cell rfl .m0 (.inl ⟨(by rw [Az.fl.len];exact C3),rfl⟩) (.tmp rfl .n)) ?_
  intro w1 hS
  have hS:=(hS.perm (Ay.perm .n)).A1
  exact⟨_, .inr (.inl ⟨hgd,c2,rfl,rfl⟩),hS⟩
 have c2p:=kz c2
 refine Gs (Gt (Ai Jm rfl) (Gt (AH rfl F9 .m1 Az.l0 rfl rfl) (Gt (Ar rfl Tryz.underlying52 rfl) (Gt (CV rfl rfl) (Ga rfl (Gn (.t4 1 2 4 15) ?_))))))
 refine Gc (fun c3=>?_) (fun c3=>?_)
 ·
  have c3p:=kz c3
  refine Gs (Gt (Ai Kx rfl) ?_)
  refine AT (AK Az.l4 rfl rfl rfl Kd rfl (.t .h)) ?_
  refine Gn (.t2 2 4) (Gs (Gt (AZ rfl C3 .m1 (AU.id Az.fl.len Az.fl.one) rfl) ?_))
  refine AT (AK (AU.id Az.fl.len Az.fl.one) rfl rfl rfl Fw rfl .h) ?_
  refine Ga rfl (Gn (.t2 4 5) (Ab (AR (AD ?_))))
  refine AY rfl (.cell rfl .m0 (.inl ⟨(by rw [Az.fl.len];exact C3),rfl⟩) (.tmp rfl .n)) ?_
  intro w1 hS
  have hS:=(hS.perm (Ay.perm .n)).A1
  exact⟨_, .inr (.inr (.inl ⟨hgd,by simpa using c2,by simp at c3;omega,rfl,rfl⟩)),hS⟩
 have c3p:=kz c3
 refine Aa ?_
 refine AB (.t3 1 2 4) ?_
 refine AW (AA (Gs (Gt (Ai Jm rfl) (Gt (AH rfl F9 .m1 Az.l0 rfl rfl) ?_))))
 refine BE rfl VN (.c rfl .n) .n (Bz _ _ (by first | assumption | omega)) (fun w hS=>(Kn.IX r0) w hS) (fun v1 B hv=>?_)
 obtain⟨y2,rfl,y3,rfl⟩:=hv
 refine Gm rfl ?_
 refine E2 A7 DO rfl Tryz.underlying52 Em Qw rfl (by decide) (by decide) rfl rfl (fun b3=>?_)
 refine CM DO rfl Tryz.underlying52 Em Qw rfl XE (by decide) (by decide) rfl rfl (fun w hS=>Src.Dq Tryz.underlying52 ((Kn.own .m0) w hS)) (by(try dsimp only);omega) (fun _=>(.t .h)) (fun h5 h5l h5z=>?_)
 refine Gt (Ai Jm rfl) ?_
 refine AT (AK Az.l0 rfl rfl rfl N1 rfl (.t (.t (.t .h)))) ?_
 refine Gn (.t2 2 4) (Gs (Gt (AZ rfl C3 .m3 (AU.id Az.fl.len Az.fl.one) rfl) ?_))
 refine AT (AK (AU.id Az.fl.len Az.fl.one) rfl rfl rfl Fw rfl (.t (.t .h))) ?_
 refine Ga rfl (Gn (.t2 4 5) (Ab ?_))
 refine AY rfl (.cell rfl .m2 (.inl ⟨(by rw [Az.fl.len];exact C3),rfl⟩) (.tmp rfl .n)) ?_
 intro w1 hS
 have hS:=(hS.perm (Ay.perm (.c (.t .h) .n))).A1
 exact⟨_, .inr (.inr (.inr ⟨hgd,by simpa using c2,by simp at c3;omega,_,rfl,by(try dsimp only at *);(try simp only [List.length_cons,List.length_nil] at *);omega,rfl⟩)),hS⟩
theorem EO (b:Nat)(V:AL)(ls:Vector BG 4)(ev:List Ing.Event)(k:Int)(u:Ao)(hk:0≤k∧k < 4)(ht:(ls.at k).told.length≤1000000):Jg Tryz.prog 64 #[.pointer (some ⟨b,0,none⟩), .pointer (some ⟨b,165+k.toNat * 22,none⟩),BU u] [Ac.box b 101 (AL.enc V),Ac.D7 (CJ 9 (AL.Ax V) ls),Ac.own (AL.last V) 56 16 ((ev).flatMap Ing.Event.enc)] (fun v B=>∃ V' ls' ev',v = .tuple #[]∧A5 V' ls' ev'=AI.tell (A5 V ls ev) k u∧B = [Ac.box b 101 (AL.enc V'),Ac.D7 (CJ 9 (AL.Ax V') ls'),Ac.own (AL.last V') 56 16 ((ev').flatMap Ing.Event.enc)]):=by
 intro w hS0
 refine Al _ _ Tryz.func64 rfl rfl rfl (hS0) ?_
 refine Ft (k:=k) hk.1 hk.2 (fun sv sl hsv hlv hln=>?_)
 refine Bf (.t (.t (.t .h))) ?_
 refine Bf (.t (.t .h)) ?_
 refine aF (Lm:= [_,_]) (fun(o:Az) (w0:Hd) (ws:List Ao)=>Cp { sv with out:=o } ⟨sl.queue,ws,sl.told⟩=(Cp sv sl).line u∧o.wait=w0) (fun(o:Az) (w0:Hd) (ws:List Ao)=> []) (fun(o:Az) (w0:Hd) (ws:List Ao)=> [Ac.own w0 9 1 (ws.flatMap A7),Ac.box b 101 (Jq V k { sv with out:=o })]) (.t2 1 2) rfl ?_ (fun o w0 ws hC=>?_)
 ·
  refine AJ (Gm rfl (Gm rfl (Gt (BV rfl) (Gt (Ai D2 rfl) (Gt (AZ rfl C3 .m1 ((AU.BM V hk.1 hk.2).comp A2.l4) rfl) (Gm rfl ?_))))))
  refine BE rfl fF (.c rfl (.c rfl .n)) .n (NK _ _ _) (fun w hS=>(Kn.own .m0) w hS) (fun v1 B hv=>?_)
  rcases hv with ⟨y2,rfl,rfl⟩ | ⟨y3,y4,rfl,rfl⟩ | ⟨y5,y6,y7,rfl,rfl⟩ | ⟨y8,y9,y10,y11,rfl,y12,rfl⟩
  ·
   refine Gm rfl (Gt (AM rfl rfl) (Gt (AM rfl rfl) (Gt (BV rfl) (Gt (Ai D2 rfl) ?_))))
   refine AT (AK ((AU.BM V hk.1 hk.2).comp A2.l4) rfl rfl rfl Fw rfl (.t .h)) ?_
   refine AQ (AB (.t2 1 2) ?_)
   refine Nk _ _ _ ?_ (.t2 1 2) (.refl _)
   · exact⟨(X9 hln.2.1 y2).symm,rfl⟩
  ·
   refine Gm rfl (Gt (AM rfl rfl) (Gt (AM rfl rfl) (Gt (BV rfl) (Gt (Ai D2 rfl) ?_))))
   refine AT (AK ((AU.BM V hk.1 hk.2).comp A2.l4) rfl rfl rfl Fw rfl (.t .h)) ?_
   refine AQ (AB (.t2 1 2) ?_)
   refine Nk _ _ _ ?_ (.t2 1 2) (.refl _)
   · exact⟨(ZL hln.2.1 y3 y4).symm,rfl⟩
  ·
   refine Gm rfl (Gt (AM rfl rfl) (Gt (AM rfl rfl) (Gt (BV rfl) (Gt (Ai D2 rfl) ?_))))
   refine AT (AK ((AU.BM V hk.1 hk.2).comp A2.l4) rfl rfl rfl Fw rfl (.t .h)) ?_
   refine AQ (AB (.t2 1 2) ?_)
   refine Nk _ _ _ ?_ (.t2 1 2) (.refl _)
   · exact⟨(Wt hln.2.1 y5 y6 y7).symm,rfl⟩
  refine Gm rfl (Gt (AM rfl rfl) (Gt (AM rfl rfl) (Gt (BV rfl) (Gt (Ai D2 rfl) ?_))))
  refine AT (AK ((AU.BM V hk.1 hk.2).comp A2.l4) rfl rfl rfl Fw rfl (.t (.t .h))) ?_
  refine AQ (AB (.t2 1 2) ?_)
  refine CI (.c .h (.c (.t .h) (.c (.t .h) (.c (.t .h) (.c (.t .h) (.c (.t .h) .n)))))) ?_
  refine Cf ?_
  refine Nk _ _ _ ?_ (.t2 1 2) (.refl _)
  · exact⟨(Wd hln.2.1 y8 y9 y10 _).symm,rfl⟩
 obtain⟨hE1,hE2⟩:=hC
 have ht2:sl.told.length≤1000000:=by rw [← hlv];exact ht
 refine Gs (Gm rfl (Gt (BV rfl) (Gt (Ai D2 rfl) (Gt (Ai Kx rfl) (Gt (AH rfl Dr .m1 (((AU.BM V hk.1 hk.2).comp A2.l4).comp Az.l4) rfl rfl) (Gt (BT rfl) (Gn (.t3 1 2 23) ?_)))))))
 refine Gc (fun c1=>?_) (fun c1=>?_)
 ·
  have c1p:=kz c1
  refine AJ (Gm rfl (Gm rfl (Gt (BV rfl) (Gt (Ai Rf rfl) (Gt (AH rfl F9 .m1 ((AU.BM V hk.1 hk.2).comp A2.l5) rfl rfl) (Gm rfl ?_))))))
  refine E2 A7 DO rfl Tryz.underlying52 Em Qw rfl (by decide) (by decide) rfl rfl (fun b1=>?_)
  refine CM DO rfl Tryz.underlying52 Em Qw rfl XE (by decide) (by decide) rfl rfl (fun w hS=>Src.Dq Tryz.underlying52 ((Kn.own .m0) w hS)) (by(try dsimp only);omega) (fun _=>(.t (.t (.t (.t .h))))) (fun h14 h14l h14z=>?_)
  refine Gt (BV rfl) (Gt (Ai Rf rfl) ?_)
  refine AT (AK ((AU.BM V hk.1 hk.2).comp A2.l5) rfl rfl rfl N1 rfl (.t (.t .h))) ?_
  refine AQ ?_
  refine Bk rfl .n ?_
  intro w1 hS
  have hS:=(hS.perm (Ay.perm (.c (.t (.t (.t .h))) (.c (.t .h) (.c (.t (.t .h)) (.c (.t .h) (.c (.t .h) (.c (.t .h) .n)))))))).A1
  have hS:=hS.close' hk.1 hk.2 (by rfl) (by exact hE2) (by rfl)
  refine⟨_,⟨V.BM k _,ls.put k ⟨_,_,_⟩,ev,rfl,?ga1,rfl⟩,hS⟩
  case ga1=>exact En hk.1 hk.2 hsv hlv (f:=fun x=>x.tell u) (by show _=((Cp sv sl).line u).note u;rw [← hE1];exact(bY (l:=⟨sl.queue,ws,sl.told⟩) c1 _).symm)
 refine Aa ?_
 refine Bk rfl .n ?_
 intro w1 hS
 have hS:=(hS.perm (Ay.perm (.c (.t (.t .h)) (.c .h (.c (.t .h) (.c .h (.c .h (.c .h .n)))))))).A1
 have hS:=hS.close' hk.1 hk.2 (by rfl) (by exact hE2) (by rfl)
 refine⟨_,⟨V.BM k _,ls.put k ⟨_,_,_⟩,ev,rfl,?ga2,rfl⟩,hS⟩
 case ga2=>exact En hk.1 hk.2 hsv hlv (f:=fun x=>x.tell u) (by show _=((Cp sv sl).line u).note u;rw [← hE1];exact(bN (l:=⟨sl.queue,ws,sl.told⟩) c1).symm)
theorem E1 (b:Nat)(V:AL)(ls:Vector BG 4)(ev:List Ing.Event)(f:Hd)(es:List Ing.Event)(n:Nat)(hf:f.len=es.length)(hn:Xt ls n)(hm:n+es.length≤1000000)(hl:ev.length≤1000000)(he:(∀ e∈es,∀ c:Int,(decide (c < 0) || decide (6≤c) || decide (AG.OI (e.Hj.at c) 1=0))=false→AG.Small e)):FC Tryz.prog 79 #[.pointer (some ⟨b,0,none⟩),f.val] [Ac.box b 101 (AL.enc V),Ac.D7 (CJ 9 (AL.Ax V) ls),Ac.own (AL.last V) 56 16 ((ev).flatMap Ing.Event.enc),Ac.own f 56 16 (es.flatMap Ing.Event.enc)] (fun w=>(GV 2 Fa w∧2 ∉ Cc [Ac.box b 101 (AL.enc V),Ac.D7 (CJ 9 (AL.Ax V) ls),Ac.own (AL.last V) 56 16 ((ev).flatMap Ing.Event.enc),Ac.own f 56 16 (es.flatMap Ing.Event.enc)])∧(GV 0 AG.DE w∧0 ∉ Cc [Ac.box b 101 (AL.enc V),Ac.D7 (CJ 9 (AL.Ax V) ls),Ac.own (AL.last V) 56 16 ((ev).flatMap Ing.Event.enc),Ac.own f 56 16 (es.flatMap Ing.Event.enc)])) (fun v B=>∃ V' ls' ev',v = .tuple #[]∧A5 V' ls' ev'=AI.G2 (A5 V ls ev) es∧B = [Ac.box b 101 (AL.enc V'),Ac.D7 (CJ 9 (AL.Ax V') ls'),Ac.own (AL.last V') 56 16 ((ev').flatMap Ing.Event.enc),Ac.own f 56 16 (es.flatMap Ing.Event.enc)]):=by
 intro w hS0 hH
 obtain⟨⟨gl0,gm0⟩,⟨gl1,gm1⟩⟩:=hH
 refine Al _ _ Tryz.func79 rfl rfl rfl (hS0) ?_
 refine Ap ?_
 refine Xa (fun w hS=>(Kn.own .m2 w hS).LO Ing.Event.fl (by decide)) (fun hLl=>?_)
 refine AJ (Gm rfl (Gm rfl (Gt (BV rfl) (Gt (Ai Na rfl) (Gt (AH rfl Dn .m0 AL.l3 rfl rfl) (Gm rfl ?_))))))
 refine CM Ing.Event.fl rfl Tryz.underlying53 MJ Hx rfl Vf (by decide) (by decide) rfl rfl (fun w hS=>Src.Dq Tryz.underlying53 ((Kn.own .m3) w hS)) (by(try dsimp only);omega) (fun _=>(.t (.t .h))) (fun h1 h1l h1z=>?_)
 refine Gt (BV rfl) (Gt (Ai Na rfl) ?_)
 refine AT (AK AL.l3 rfl rfl rfl S9 rfl .h) ?_
 refine Gn (.t2 0 1) (Gs (Gm rfl (Gt (Ar rfl Tryz.underlying53 rfl) (Gm rfl (Gn (.t4 0 19 20 21) (Ae ?_))))))
 refine Bl (.t4 21 0 19 20) ?_
 refine Bf (.t (.t .h)) ?_
 refine Bf (.t (.t .h)) ?_
 refine Bf (.t (.t .h)) ?_
 refine Il (fun(k:Int) (V1:AL) (ls1:Vector BG 4) (ev1:List Ing.Event)=>0≤k∧k≤(es.length:Int)∧A5 V1 ls1 ev1=({ (A5 V ls ev) with last:=ev++es }:AI).Ha (es.take k.toNat)∧Xt ls1 (n+k.toNat)) (fun(k:Int) (V1:AL) (ls1:Vector BG 4) (ev1:List Ing.Event)=>((es.length:Int) - k).toNat) (fun(k:Int) (V1:AL) (ls1:Vector BG 4) (ev1:List Ing.Event)=> [(21, .int .i64 k)]) (fun(k:Int) (V1:AL) (ls1:Vector BG 4) (ev1:List Ing.Event)=> [Ac.box b 101 (AL.enc V1),Ac.D7 (CJ 9 (AL.Ax V1) ls1),Ac.own (AL.last V1) 56 16 (ev1.flatMap Ing.Event.enc)]) (0) (_) (_) (_) ?_ rfl rfl (fun k V1 ls1 ev1 hI1=>?_)
 · exact⟨by omega,by omega,rfl,hn⟩
 obtain⟨hI11,hI12,hI13,hI14⟩:=hI1
 refine Gs (Gt (A8 rfl rfl) (AQ (AA (Ap ?_))))
 refine Gc (fun c1=>?_) (fun c1=>?_)
 ·
  have c1p:=kz c1
  refine Aa ?_
  refine AB (.t4 0 19 20 21) ?_
  refine AA (Ap (Ae (Gs ?_)))
  refine Gt (Bp cl (by decide) (Kn.own .m3) rfl rfl (by omega) (by omega)) ?_
  refine Gt (MX rfl Ln (by decide) Ing.Event.fl (Kn.own .m3) (by omega)) ?_
  refine BH rfl Hx rfl (fun b1=>?_)
  refine AT (AK (AU.id Ing.Event.fl.len Ing.Event.fl.one) rfl rfl rfl MJ rfl .h) ?_
  refine Gn (.t5 0 5 19 20 21) (Gs (Gm rfl (AQ (AA (Ae ?_)))))
  refine Bl (.t6 25 0 5 19 20 21) ?_
  refine Bf (.t (.t (.t .h))) ?_
  refine Bf (.t (.t (.t .h))) ?_
  refine Bf (.t (.t (.t .h))) ?_
  refine Il (fun(i:Int) (V2:AL) (ls2:Vector BG 4) (ev2:List Ing.Event)=>0≤i∧i≤4∧A5 V2 ls2 ev2=AI.CH (es.getD k.toNat default) (A5 V1 ls1 ev1) i.toNat∧(∀ j:Int,i≤j→j < 4→(ls2.at j).told.length≤n+k.toNat)∧(∀ j:Int,0≤j→j < 4→(ls2.at j).told.length≤n+k.toNat+1)) (fun(i:Int) (V2:AL) (ls2:Vector BG 4) (ev2:List Ing.Event)=>(4 - i).toNat) (fun(i:Int) (V2:AL) (ls2:Vector BG 4) (ev2:List Ing.Event)=> [(25, .int .i64 i)]) (fun(i:Int) (V2:AL) (ls2:Vector BG 4) (ev2:List Ing.Event)=> [Ac.box b 101 (AL.enc V2),Ac.D7 (CJ 9 (AL.Ax V2) ls2),Ac.own (AL.last V2) 56 16 (ev2.flatMap Ing.Event.enc)]) (0) (V1) (ls1) (ev1) ?_ rfl rfl (fun i V2 ls2 ev2 hI2=>?_)
  · exact⟨by omega,by omega,rfl,(fun j j0 j1=>hI14 j j0 j1),(fun j j0 j1=>Nat.le_succ_of_le (hI14 j j0 j1))⟩
  obtain⟨hI21,hI22,hI23,hI24,hI25⟩:=hI2
  refine Gs (Gt (A8 rfl rfl) (AQ (AA (Ap ?_))))
  refine Gc (fun c2=>?_) (fun c2=>?_)
  ·
   have c2p:=kz c2
   refine Aa ?_
   refine AB (.t6 0 5 19 20 21 25) ?_
   refine AA (Ap (Ae (Gs (Gm rfl (Ga rfl (Gn (.t7 0 5 6 19 20 21 25) (Gs ?_)))))))
   refine Gm rfl (Gm rfl (Gt (BV rfl) (Gt (Ai HI rfl) ?_)))
   refine Gt (AS RV rfl rfl (by omega) (by omega)) ?_
   refine Ga rfl (Gn (.t7 0 5 7 19 20 21 25) (CD (Gm rfl (Gt (BV rfl) (Gt (Ai JF rfl) ?_)))))
   refine Gt (AH rfl A4 .m0 ((AL.l1.comp (AU.ar (n:=4) A2.fl (by omega))).comp A2.l0) rfl rfl) ?_
   refine Gt (Ca rfl rfl) (Gn (.t8 0 5 7 19 20 21 25 37) ?_)
   refine Gc (fun c3=>?_) (fun c3=>?_)
   ·
    have c3p:=kz c3
    refine Ba (AV (Af ?_))
    refine AB (.t6 0 5 19 20 21 25) ?_
    refine AA (AJ ?_)
    refine Gt (Av rfl rfl (IntWalk.i64_in _ (by omega))) ?_
    refine Gm rfl ?_
    refine AQ (AB (.t6 0 5 19 20 21 25) ?_)
    refine DC (i+1) _ _ _ ?_ ?_ (.t6 25 0 5 19 20 21) (.refl _)
    · exact⟨by omega,by omega,((K4 hI21 (by omega) hI23).trans (BB c3)).symm,(fun j j0 j1=>hI24 j (by omega) j1),hI25⟩
    · omega
   have c3p:=kz c3
   refine Aa ?_
   refine AB (.t7 0 5 7 19 20 21 25) ?_
   refine AA (Ap ?_)
   refine BD (N:=11) [0,0,2,6,14,31,63,127,127,255,1023] mix (by kernel_rfl) rfl ?_
   refine Pf 0 rfl (AZ rfl Ln .m3 (AU.id Ing.Event.fl.len Ing.Event.fl.one) rfl) (Pf 1 rfl (AF rfl) (Pf 2 rfl (BV rfl) (Pf 3 rfl (Ai IV rfl) ?_)))
   refine Pf 4 rfl (AH rfl A4 .m0 ((AL.l1.comp (AU.ar (n:=4) A2.fl (by omega))).comp A2.l1) rfl rfl) ?_
   refine Bb 5 rfl rfl (by kernel_rfl) (L9 (K9 (EB dk (.c rfl (.c rfl .n)) (fun w hS=>JX (es.getD k.toNat default) _ (he _ (Mu (d:=default) (xs:=es) (i:=k.toNat) (by omega)) _) w (gl0.stM gm0 hS) (gl1.stM gm1 hS))))) ?_
   refine Pf 6 rfl (AF rfl) (Pf 7 rfl (AM rfl rfl) (Pf 8 rfl (AM rfl rfl) (Pf 9 rfl (A0 rfl) (Pf 10 rfl (A0 rfl) ?_))))
   refine A3 (by kernel_rfl) ?_
   refine AB (.t9 0 5 7 8 9 19 20 21 25) ?_
   refine AA (Gs (Gm rfl (Gn (.t9 0 5 7 8 19 20 21 25 47) ?_)))
   refine Gc (fun c4=>?_) (fun c4=>?_)
   ·
    have c4p:=kz c4
    refine AJ (Gm rfl (Gm rfl (Gm rfl ?_)))
    refine Ah rfl UR (.c rfl (.c rfl (.c rfl .n))) (.c .h (.c .h (.c .h .n))) (EO _ V2 ls2 _ i _ (by omega) (Nat.le_trans (hI24 i (by omega) (by omega)) (by omega))) (fun v2 B hv=>?_)
    obtain⟨y3,y4,y5,rfl,y6,rfl⟩:=hv
    refine AQ (AB (.t6 0 5 19 20 21 25) ?_)
    refine AW (AA (AJ ?_))
    refine Gt (Av rfl rfl (IntWalk.i64_in _ (by omega))) ?_
    refine Gm rfl ?_
    refine AQ (AB (.t6 0 5 19 20 21 25) ?_)
    refine DC (i+1) _ _ _ ?_ ?_ (.t6 25 0 5 19 20 21) (.refl _)
    · exact⟨by omega,by omega,y6.trans ((K4 hI21 (by omega) hI23).trans ((AX c3).trans (BB c4))).symm,(fun j j0 j1=>by have h:=hI24 j (by omega) j1;rw [(LD hI21 (by omega) y6 (by omega) j1).2 (by omega)];exact h),(fun j j0 j1=>if c:j=i then(by subst c;have h:=hI24 j (by omega) j1;have h2:=(LD hI21 (by omega) y6 j0 j1).1;omega) else(by rw [(LD hI21 (by omega) y6 j0 j1).2 c];exact hI25 j j0 j1))⟩
    · omega
   have c4p:=kz c4
   refine Aa ?_
   refine AB (.t6 0 5 19 20 21 25) ?_
   refine AW (AA (AJ ?_))
   refine Gt (Av rfl rfl (IntWalk.i64_in _ (by omega))) ?_
   refine Gm rfl ?_
   refine AQ (AB (.t6 0 5 19 20 21 25) ?_)
   refine DC (i+1) _ _ _ ?_ ?_ (.t6 25 0 5 19 20 21) (.refl _)
   · exact⟨by omega,by omega,((K4 hI21 (by omega) hI23).trans ((AX c3).trans (AX c4))).symm,(fun j j0 j1=>hI24 j (by omega) j1),hI25⟩
   · omega
  have c2p:=kz c2
  obtain rfl:i=4:=by omega
  refine Ba (AV (AV (Af ?_)))
  refine AB (.t4 0 19 20 21) ?_
  refine AW (AA (AJ ?_))
  refine Gt (Av rfl rfl (IntWalk.i64_in _ (by omega))) ?_
  refine Gm rfl ?_
  refine AQ (AB (.t4 0 19 20 21) ?_)
  refine CI (.c .h (.c .h (.c .h (.c (.t .h) .n)))) ?_
  refine Cf ?_
  refine DC (k+1) _ _ _ ?_ ?_ (.t4 21 0 19 20) (.refl _)
  · exact⟨by omega,by omega,by rw [TW hI11 (by omega),← hI13];exact hI23,fun j j0 j1=>by have h:=hI25 j j0 j1;rw [show(k+1).toNat=k.toNat+1 by omega];omega⟩
  · omega
 have c1p:=kz c1
 obtain rfl:k=(es.length:Int):=by omega
 refine Ba (AV (AV (Af ?_)))
 refine Bk rfl .n ?_
 intro w1 hS
 have hS:=(hS.perm (Ay.perm (.c .h (.c .h (.c .h (.c .h .n)))))).A1
 refine⟨_,⟨V1,ls1,ev1,rfl,?ga,rfl⟩,hS⟩
 case ga=>rw [hI13,show(es.length:Int).toNat=es.length by omega,List.take_length];exact(XI rfl).symm
theorem RI (b:Nat)(V:AL)(ls:Vector BG 4)(ev:List Ing.Event)(k:Int)(u:Ao)(n m:Nat)(hk:0≤k∧k < 4)(hF:AI.Fit (A5 V ls ev) n m)(hn:n≤900000)(hm:m≤900000)(hu:u.length≤1000):FC Tryz.prog 93 #[.pointer (some ⟨b,0,none⟩), .pointer (some ⟨b,165+k.toNat * 22,none⟩),BU u] [Ac.box b 101 (AL.enc V),Ac.D7 (CJ 9 (AL.Ax V) ls),Ac.own (AL.last V) 56 16 ((ev).flatMap Ing.Event.enc)] (fun w=>(GV 2 Fa w∧2 ∉ Cc [Ac.box b 101 (AL.enc V),Ac.D7 (CJ 9 (AL.Ax V) ls),Ac.own (AL.last V) 56 16 ((ev).flatMap Ing.Event.enc)])∧(GV 0 AG.DE w∧0 ∉ Cc [Ac.box b 101 (AL.enc V),Ac.D7 (CJ 9 (AL.Ax V) ls),Ac.own (AL.last V) 56 16 ((ev).flatMap Ing.Event.enc)])) (fun v B=>∃ V' ls' ev',v = .tuple #[]∧A5 V' ls' ev'=AI.named (A5 V ls ev) k u∧B = [Ac.box b 101 (AL.enc V'),Ac.D7 (CJ 9 (AL.Ax V') ls'),Ac.own (AL.last V') 56 16 ((ev').flatMap Ing.Event.enc)]):=by
 intro w hS0 hH
 obtain⟨⟨gl0,gm0⟩,⟨gl1,gm1⟩⟩:=hH
 have hel:=AE.P6 V.w u
 have hes:=AE.Hg (s:=u) hF.FP
 have htn:=Gp hF
 refine Al _ _ Tryz.func93 rfl rfl rfl (hS0) ?_
 refine Gs (Gm rfl (Gt (BV rfl) (Gt (Ai EL rfl) (Gt (AZ rfl BZ .m0 AL.l0 rfl) (Gm rfl ?_)))))
 refine BE rfl dM (.c rfl (.c rfl .n)) .n (Mk V.w u hF.FP.HS (by omega)) (fun w hS=>gl1.pull gm1 hS .n) (fun v1 B hv=>?_)
 obtain⟨y2,rfl,y3,rfl⟩:=hv
 refine Gm rfl (Gt (AM rfl rfl) (Gt (AM rfl rfl) (Gt (AM rfl rfl) (Gt (AM rfl rfl) ?_))))
 refine BH rfl NS rfl (fun b1=>?_)
 refine AT (AK (AU.id AG.fl.len AG.fl.one) rfl rfl rfl EC rfl .h) ?_
 refine Ga rfl (Ga rfl (Ga rfl (Gn (.t6 0 1 6 7 8 9) (Gs (Gm rfl (Gn (.t6 0 1 6 7 8 21) (Ae ?_)))))))
 refine Gs (Gt (Ag rfl rfl) (Ga rfl (Gn (.t7 0 1 6 7 8 21 25) ?_)))
 refine Gc (fun c1=>?_) (fun c1=>?_)
 ·
  have c1p:=kz c1
  refine Gs (Gm rfl (Gt (AZ rfl BZ .m0 (AU.id AG.fl.len AG.fl.one) rfl) (Gt (BV rfl) (Gt (Ai EL rfl) ?_))))
  refine AT (AK AL.l0 rfl rfl rfl EC rfl (.t (.t .h))) ?_
  refine Gn (.t4 0 1 7 8) (Ap ?_)
  refine Eu (.c (.t (.t .h)) (.c (.t (.t .h)) .n)) ?_
  refine Ft (k:=k) hk.1 hk.2 (fun sv sl hsv hlv hln=>?_)
  refine AJ (Gm rfl (Gm rfl (Gm rfl (Gt (BV rfl) (Gt (Ai JF rfl) ?_)))))
  refine AT (AK ((AU.BM { V with w:=(AE.BW V.w u).1 } hk.1 hk.2).comp A2.l0) rfl rfl rfl DB rfl (.t (.t (.t .h)))) ?_
  refine Gt (BV rfl) (Gt (Ai IV rfl) ?_)
  refine AT (AK ((AU.BM { V with w:=(AE.BW V.w u).1 } hk.1 hk.2).comp A2.l1) rfl rfl rfl DB rfl (.t (.t (.t .h)))) ?_
  refine Gn (.t2 0 8) ?_
  refine Eu (.c .h (.c .h (.c .h (.c .h (.c .h .n))))) ?_
  refine HG hk.1 hk.2 (by rfl) (by rfl) (by rfl) ?_
  refine AJ (Gm rfl (Gm rfl ?_))
  refine BE rfl VZ (.c rfl (.c rfl .n)) (.c .h (.c .h (.c (.t (.t .h)) (.c (.t .h) .n)))) (E1 _ (AL.BM { V with w:=(AE.BW V.w u).1 } k { sv with state:=2,Au:=(AE.BW V.w u).2.1 }) (ls.put k ⟨sl.queue,sl.wait,sl.told⟩) ev _ (AE.BW V.w u).2.2.1 n (by assumption) (Gp (by rw [(show A5 (AL.BM { V with w:=(AE.BW V.w u).1 } k { sv with state:=2,Au:=(AE.BW V.w u).2.1 }) (ls.put k ⟨sl.queue,sl.wait,sl.told⟩) ev=({ (A5 V ls ev) with w:=(AE.BW V.w u).1 }:AI).set k { AI.at_ (A5 V ls ev) k with state:=2,Au:=(AE.BW V.w u).2.1 } from En (V:={ V with w:=(AE.BW V.w u).1 }) hk.1 hk.2 hsv hlv (f:=fun x=>{ x with state:=2,Au:=(AE.BW V.w u).2.1 }) rfl)];exact hF.enters hk.1 hk.2 (of_decide_eq_true c1))) (by omega) (Nat.le_trans hF.last (by omega)) (fun e he c _=>hes.2 e he)) (fun w hS=>⟨gl0.pull gm0 hS (.c .h (.c .h (.c (.t (.t .h)) (.c (.t .h) .n)))),gl1.pull gm1 hS (.c .h (.c .h (.c (.t (.t .h)) (.c (.t .h) .n))))⟩) (fun v5 B hv=>?_)
  obtain⟨y6,y7,y8,rfl,y9,rfl⟩:=hv
  refine AQ (AB (.nil _) ?_)
  refine AW ?_
  refine Bk rfl .n ?_
  intro w1 hS
  have hS:=(hS.perm (Ay.perm (.c .h (.c .h (.c .h .n))))).A1
  refine⟨_,⟨y6,y7,y8,rfl,?ga1,rfl⟩,hS⟩
  case ga1=>exact Zd c1 (show A5 (AL.BM { V with w:=(AE.BW V.w u).1 } k { sv with state:=2,Au:=(AE.BW V.w u).2.1 }) (ls.put k ⟨sl.queue,sl.wait,sl.told⟩) ev=({ (A5 V ls ev) with w:=(AE.BW V.w u).1 }:AI).set k { AI.at_ (A5 V ls ev) k with state:=2,Au:=(AE.BW V.w u).2.1 } from En (V:={ V with w:=(AE.BW V.w u).1 }) hk.1 hk.2 hsv hlv (f:=fun x=>{ x with state:=2,Au:=(AE.BW V.w u).2.1 }) rfl) y9
 have c1p:=kz c1
 refine Gs (Gt (Ag rfl rfl) (Ga rfl (Gn (.t3 0 1 41) ?_)))
 refine Gc (fun c2=>?_) (fun c2=>?_)
 ·
  have c2p:=kz c2
  refine AJ (Gm rfl (Gm rfl ?_))
  refine Ah rfl UR (.c rfl (.c rfl (.c rfl .n))) (.c (.t (.t .h)) (.c (.t (.t .h)) (.c (.t (.t .h)) .n))) (EO _ V ls ev k _ hk (Nat.le_trans (htn k hk.1 hk.2) (by omega))) (fun v10 B hv=>?_)
  obtain⟨y11,y12,y13,rfl,y14,rfl⟩:=hv
  refine AQ (AB (.nil _) ?_)
  refine AW ?_
  refine Bk rfl .n ?_
  intro w1 hS
  have hS:=(hS.perm (Ay.perm (.c .h (.c .h (.c .h .n))))).A1
  refine⟨_,⟨y11,y12,y13,rfl,?ga2,rfl⟩,hS⟩
  case ga2=>exact Zl c1 c2 y14
 have c2p:=kz c2
 refine AJ (Gm rfl (Gm rfl ?_))
 refine Ah rfl UR (.c rfl (.c rfl (.c rfl .n))) (.c (.t (.t .h)) (.c (.t (.t .h)) (.c (.t (.t .h)) .n))) (EO _ V ls ev k _ hk (Nat.le_trans (htn k hk.1 hk.2) (by omega))) (fun v15 B hv=>?_)
 obtain⟨y16,y17,y18,rfl,y19,rfl⟩:=hv
 refine AQ (AB (.nil _) ?_)
 refine AW ?_
 refine Bk rfl .n ?_
 intro w1 hS
 have hS:=(hS.perm (Ay.perm (.c .h (.c .h (.c .h .n))))).A1
 refine⟨_,⟨y16,y17,y18,rfl,?ga3,rfl⟩,hS⟩
 case ga3=>exact ZY c1 c2 y19
theorem Bv (z:Int):Jg Tryz.prog 150 #[.int .i64 z] [] (fun v B=>v = .tuple #[.agg (Order.enc default).toArray, .int .i64 z]∧B = []):=by
 intro w hS0
 refine Al _ _ Tryz.func150 rfl rfl rfl (hS0) ?_
 refine Gs ?_
 refine BH rfl L3 rfl (fun b1=>?_)
 refine Ga rfl (Gn (.t2 0 2) (Gs (Gt (BC Sf L3 rfl .nil) (Gm rfl ?_))))
 refine AT (AK (AU.id Order.fl.len Order.fl.one) rfl rfl rfl D9 rfl .h) ?_
 refine Ga rfl (Gn (.t2 2 3) (Ab ?_))
 refine AY rfl (.cell rfl .m0 (.inl ⟨(by rw [Order.fl.len];exact CA),rfl⟩) (.tmp rfl .n)) ?_
 intro w1 hS
 have hS:=(hS.perm (Ay.perm .n)).A1
 exact⟨_,⟨rfl,rfl⟩,hS⟩
theorem FM (s:Ao)(c:UInt8)(w:World):Ej Tryz.prog 87 #[BU s, .int .u8 (c.toNat:Int)] w fun v w'=>v = .int .i64 (Lib.indexByte s c)∧CB w w':=by
 refine Al [] [] Tryz.func87 rfl rfl rfl (St.start w []) ?_
 refine Gs (Ga rfl (Gn (.t2 0 1) (Gs (Gm rfl (Gm rfl ?_)))))
 refine Gt (K2 Tryz.func112 (by kernel_rfl) (by kernel_rfl) (by kernel_rfl) (by kernel_rfl) rfl rfl) ?_
 refine Ga rfl (Gn (.t1 4) (Ab ?_))
 refine AY rfl (.tmp rfl .n) ?_
 intro w1 hS;refine⟨?_,hS.Ak⟩;rfl
theorem D8 (s:Ao)(c:UInt8)(w:World):Ej Tryz.prog 76 #[BU s,BU [c]] w fun v w'=>v = .int .i64 (Lib.indexByte s c)∧CB w w':=by
 refine Al [] [] Tryz.func76 rfl rfl rfl (St.start w []) ?_
 refine Gs (Ga rfl (Gn (.t2 0 1) (Gs (Gm rfl (Gt (BF rfl Tryz.underlying9 rfl) (Ga rfl (Gn (.t3 0 1 5) ?_)))))))
 refine Ap (Ae (Gs (Gm rfl (Gt (Ag rfl rfl) (Gm rfl (Bc 19 rfl rfl (fun q=>AF rfl) (Bc 19 rfl rfl (fun q=>AF rfl) ?_)))))))
 refine Bc 19 rfl rfl (fun q=>Bi (cF rfl q) (cF rfl q)) ?_
 refine Gt (BR rfl rfl (fun h=>by rw [h];rfl)) ?_
 refine Ga rfl (Gn (.t4 0 1 5 16) ?_)
 refine Gc (fun c1=>?_) (fun c1=>?_)
 ·
  refine Gs (Ga rfl (Gn (.t1 4) (Ab (AR (AD ?_)))))
  refine AY rfl (.tmp rfl .n) ?_
  intro w1 hS;refine⟨?_,hS.Ak⟩;have e : [c]=s:=by simpa using c1
  rw [← e,Page.Wu];rfl
 have c1p:=kz c1
 refine Gs (Gm rfl (Gt (Ag rfl rfl) (Ga rfl (Gn (.t4 0 1 5 24) ?_))))
 refine HA rfl (by simp) ?_
 refine Gs (Gm rfl (Gm rfl ?_))
 refine Gt (Br Tryz.underlying9 rfl rfl (by decide) (by first | omega | simp)) ?_
 refine BA rfl fL (.c rfl (.c rfl .n)) (fun w hS=>FM _ _ w) ?_
 refine Ga rfl (Gn (.t1 4) (Ab (AR (AD ?_))))
 refine AY rfl (.tmp rfl .n) ?_
 intro w1 hS;refine⟨?_,hS.Ak⟩;rfl
theorem FU (s:Ao)(c:UInt8)(w:World):Ej Tryz.prog 176 #[BU s,BU [c]] w fun v w'=>v = .int .i64 (Lib.indexByte s c)∧CB w w':=by
 refine Al [] [] Tryz.func176 rfl rfl rfl (St.start w []) ?_
 refine Gs (Ga rfl (Gn (.t2 0 1) (Gs (Gm rfl (Gm rfl ?_)))))
 refine BA rfl cy (.c rfl (.c rfl .n)) (fun w hS=>D8 _ _ w) ?_
 refine Ga rfl (Gn (.t1 4) (Ab ?_))
 refine AY rfl (.tmp rfl .n) ?_
 intro w1 hS;refine⟨?_,hS.Ak⟩;rfl
theorem HV (s:Ao)(c:UInt8)(w:World):Ej Tryz.prog 174 #[BU s,BU [c]] w fun v w'=>v = .int .i64 ((s.count c:Nat):Int)∧CB w w':=by
 refine Al [] [] Tryz.func174 rfl rfl rfl (St.start w []) ?_
 refine Gs (Ga rfl (Gn (.t2 0 1) (CD (Gm rfl (Gt (BF rfl Tryz.underlying9 rfl) (Gt (Ag rfl rfl) (Gn (.t3 0 1 9) ?_)))))))
 refine EP rfl (by simp) ?_
 refine Aa ?_
 refine AB (.t2 0 1) ?_
 refine AA (CD (Gm rfl (Gt (BF rfl Tryz.underlying9 rfl) (Gt (Ag rfl rfl) (Gn (.t3 0 1 15) ?_)))))
 refine HA rfl (by simp) ?_
 refine Gs (Gm rfl (Gm rfl ?_))
 refine Gt (Br Tryz.underlying9 rfl rfl (by decide) (by first | omega | simp)) ?_
 refine Gt (PB Tryz.func185 (by kernel_rfl) (by kernel_rfl) (by kernel_rfl) (by kernel_rfl) rfl rfl) ?_
 refine Ga rfl (Gn (.t1 4) (Ab (AD ?_)))
 refine AY rfl (.tmp rfl .n) ?_
 intro w1 hS;refine⟨?_,hS.Ak⟩;rfl
theorem JZ (s:Ao)(c:UInt8)(hs:s.length≤10000000):Jg Tryz.prog 179 #[BU s,BU [c], .int .i64 0, .int .i64 (-1)] [] (fun v B=>∃ h':Hd,v=h'.val∧h'.len=(Words.pieces c s).length∧B = [Ac.own h' 9 1 ((Words.pieces c s).flatMap A7)]):=by
 intro w hS0
 have hcl:=List.count_le_length (a:=c) (l:=s)
 have hpl:=Words.FT c s
 refine Al _ _ Tryz.func179 rfl rfl rfl (hS0) ?_
 refine Gs (Ga rfl (Gn (.t4 0 1 2 3) (CD (Gm rfl (Gt (Ag rfl rfl) (Gn (.t5 0 1 2 3 13) ?_))))))
 refine EP rfl (by simp) ?_
 refine Aa ?_
 refine AB (.t4 0 1 2 3) ?_
 refine AA (CD (Gm rfl (Gt (Bi rfl rfl) (Gn (.t5 0 1 2 3 15) ?_))))
 refine EP rfl (by simp) ?_
 refine Aa ?_
 refine AB (.t4 0 1 2 3) ?_
 refine AA (CD (Gm rfl (Gt (A8 rfl rfl) (Gn (.t5 0 1 2 3 20) ?_))))
 refine HA rfl (by simp) ?_
 refine AJ (Gm rfl (Gm rfl ?_))
 refine BA rfl aw (.c rfl (.c rfl .n)) (fun w hS=>HV _ c w) ?_
 refine Gt (Av rfl rfl (IntWalk.i64_in _ (by(try simp only [List.length_cons,List.length_nil]);omega))) ?_
 refine Ga rfl (Gn (.t4 0 1 2 3) (Gs (Gm rfl (Gm rfl (Gt (BF rfl Tryz.underlying9 rfl) ?_)))))
 refine Gt (Av rfl rfl (IntWalk.i64_in _ (by(try simp only [List.length_cons,List.length_nil]);omega))) ?_
 refine Gt (Lb rfl rfl) (Ga rfl (Gn (.t4 0 1 2 3) (Gs (Gm rfl ?_))))
 refine Vz rfl Tryz.underlying52 Em Qw XE rfl rfl (by(try simp only [List.length_cons,List.length_nil]);omega) (by(try simp only [List.length_cons,List.length_nil]);omega) (fun b1=>?_)
 refine Ga rfl (Gn (.t5 0 1 2 3 9) (Gs (Gm rfl ?_)))
 refine Gt (FX rfl rfl (IntWalk.i64_in _ (by(try simp only [List.length_cons,List.length_nil]);omega))) ?_
 refine Ga rfl (Gn (.t5 0 1 2 3 9) (Gs (Ga rfl (AQ (AA (Ap (Ae ?_)))))))
 refine Bl (.t6 0 10 1 2 3 9) ?_
 refine DX (fun(i:Int) (r:Ao) (xs:List Ao)=>Words.PD c s i r xs) (fun(i:Int) (r:Ao) (xs:List Ao)=>((s.count c:Int) - i).toNat) (fun(i:Int) (r:Ao) (xs:List Ao)=> [(0,BU r),(10, .int .i64 i)]) (fun(i:Int) (r:Ao) (xs:List Ao)=> [Ac.own ⟨some ⟨b1,0,none⟩,(min (((s.count c:Nat):Int)+1) ((s.length:Int)+1)).toNat,(min (((s.count c:Nat):Int)+1) ((s.length:Int)+1)).toNat⟩ 9 1 (xs.flatMap A7)]) (0) (s) (_) ?_ rfl rfl (fun i r xs hI1=>?_)
 · exact Words.PD.start c s _ (by omega)
 have hI11:=hI1;have hi0:=hI1.i0;have hi1:=hI1.i1;have hrl:=hI1.rl;have hxl:=hI1.len
 refine CD (Gm rfl (Gm rfl (Gt (A8 rfl rfl) (Gn (.t7 0 1 2 3 9 10 36) ?_))))
 refine Gc (fun c1=>?_) (fun c1=>?_)
 ·
  have c1p:=kz c1
  refine Aa ?_
  refine AB (.t6 0 1 2 3 9 10) ?_
  refine AA (Ae (Gs (Gm rfl (Gm rfl ?_))))
  refine BA rfl XD (.c rfl (.c rfl .n)) (fun w hS=>FU _ c w) ?_
  refine Ga rfl (Gn (.t7 0 1 2 3 9 10 11) (CD (Gm rfl (Gt (A8 rfl rfl) (Gn (.t8 0 1 2 3 9 10 11 41) ?_)))))
  refine Gc (fun c2=>?_) (fun c2=>?_)
  ·
   have c2p:=kz c2
   refine Ba (AV ?_)
   refine Jz rfl ?_
   refine AV (Af ?_)
   refine AB (.t3 0 9 10) ?_
   refine AA (Gs (Gm rfl (Gm rfl (Gm rfl ?_))))
   refine Gt (Bp IM (by decide) (Kn.own .m0) rfl rfl (by omega) (by(try dsimp only);omega)) ?_
   refine AT (PY rfl rfl Em (by have:=hI11.len;omega) .h) ?_
   refine Gn (.t2 9 10) (Gs (Gm rfl (Gm rfl ?_)))
   refine Gt (Av rfl rfl (IntWalk.i64_in _ (by(try simp only [List.length_cons,List.length_nil]);omega))) ?_
   refine KO DO rfl Tryz.underlying52 Em rfl rfl (by(try simp only [List.length_cons,List.length_nil]);omega) (by(try simp only [List.length_cons,List.length_nil]);omega) (fun _=> .h) ?_
   refine Ga rfl (Gn (.t1 8) (Ab ?_))
   refine AY rfl (.tmp rfl .n) ?_
   intro w1 hS
   have hS:=(hS.perm (Ay.perm (.c .h .n))).A1
   have hd:=hI11.done (by first | (right;simpa using c2) | (left;omega))
   exact⟨_,⟨_,rfl,by rw [hd.2] at *;(try simp only [Hd.cut] at *);omega,by rw [hd.2]⟩,hS⟩
  have c2p:=kz c2
  obtain⟨hm0,hm1,hnx⟩:=hI11.next rfl (by simpa using c2)
  refine Aa ?_
  refine AB (.t7 0 1 2 3 9 10 11) ?_
  refine AA (Gs (Gm rfl (Gm rfl (Gm rfl (Gm rfl (Gm rfl ?_))))))
  refine Gt (Av rfl rfl (IntWalk.i64_in _ (by(try simp only [List.length_cons,List.length_nil]);omega))) ?_
  refine Gt (Ix Tryz.underlying9 rfl rfl (by(try simp only [List.length_cons,List.length_nil]);omega) (by(try simp only [List.length_cons,List.length_nil]);omega)) ?_
  refine Gt (Bp IM (by decide) (Kn.own .m0) rfl rfl (by omega) (by(try dsimp only);omega)) ?_
  refine AT (PY rfl rfl Em (by have:=hI11.len;omega) .h) ?_
  refine Gn (.t7 0 1 2 3 9 10 11) (Gs (Gm rfl (Gm rfl (Gm rfl (Gt (BF rfl Tryz.underlying9 rfl) ?_)))))
  refine Gt (Av rfl rfl (IntWalk.i64_in _ (by(try simp only [List.length_cons,List.length_nil]);omega))) ?_
  refine Gt (Gx Tryz.underlying9 rfl rfl (by(try simp only [List.length_cons,List.length_nil]);omega) (by(try simp only [List.length_cons,List.length_nil]);omega)) ?_
  refine Ga rfl (Gn (.t6 0 1 2 3 9 10) (AJ (Gm rfl ?_)))
  refine Gt (Av rfl rfl (IntWalk.i64_in _ (by(try simp only [List.length_cons,List.length_nil]);omega))) ?_
  refine Ga rfl ?_
  refine AQ (AB (.t6 0 1 2 3 9 10) ?_)
  refine AW ?_
  refine Bt (i+1) _ _ ?_ ?_ (.t6 0 10 1 2 3 9) (.refl _)
  · rw [Int.add_zero]
    exact hnx
  · omega
 have c1p:=kz c1
 refine Ba (AV (AV (Af ?_)))
 refine AB (.t3 0 9 10) ?_
 refine AA (Gs (Gm rfl (Gm rfl (Gm rfl ?_))))
 refine Gt (Bp IM (by decide) (Kn.own .m0) rfl rfl (by omega) (by(try dsimp only);omega)) ?_
 refine AT (PY rfl rfl Em (by have:=hI11.len;omega) .h) ?_
 refine Gn (.t2 9 10) (Gs (Gm rfl (Gm rfl ?_)))
 refine Gt (Av rfl rfl (IntWalk.i64_in _ (by(try simp only [List.length_cons,List.length_nil]);omega))) ?_
 refine KO DO rfl Tryz.underlying52 Em rfl rfl (by(try simp only [List.length_cons,List.length_nil]);omega) (by(try simp only [List.length_cons,List.length_nil]);omega) (fun _=> .h) ?_
 refine Ga rfl (Gn (.t1 8) (Ab ?_))
 refine AY rfl (.tmp rfl .n) ?_
 intro w1 hS
 have hS:=(hS.perm (Ay.perm (.c .h .n))).A1
 have hd:=hI11.done (by first | (right;simpa using c1) | (left;omega))
 exact⟨_,⟨_,rfl,by rw [hd.2] at *;(try simp only [Hd.cut] at *);omega,by rw [hd.2]⟩,hS⟩
theorem LA (s:Ao)(c:UInt8)(hs:s.length≤10000000):Jg Tryz.prog 167 #[BU s,BU [c]] [] (fun v B=>∃ h':Hd,v=h'.val∧h'.len=(Words.pieces c s).length∧B = [Ac.own h' 9 1 ((Words.pieces c s).flatMap A7)]):=by
 intro w hS0
 refine Al _ _ Tryz.func167 rfl rfl rfl (hS0) ?_
 refine Gs (Ga rfl (Gn (.t2 0 1) (Gs (Gm rfl (Gm rfl ?_)))))
 refine Ah rfl eD (.c rfl (.c rfl (.c rfl (.c rfl .n)))) .n (JZ _ c hs) (fun v1 B hv=>?_)
 obtain⟨y2,rfl,y3,rfl⟩:=hv
 refine Ga rfl (Gn (.t1 4) (Ab ?_))
 refine AY rfl (.tmp rfl .n) ?_
 intro w1 hS
 have hS:=(hS.perm (Ay.perm (.c .h .n))).A1
 exact⟨_,⟨_,rfl,by assumption,rfl⟩,hS⟩
theorem Od (u:Ao)(hu:u.length≤10000000)(w:World):Ej Tryz.prog 168 #[BU u] w fun v w'=>v=BU (Words.low u)∧CB w w':=by
 refine Al [] [] Tryz.func168 rfl rfl rfl (St.start w []) ?_
 refine Gs (Ga rfl (Gn (.t1 0) (Gs (Gm rfl ?_))))
 refine PJ rfl Tryz.underlying9 Tryz.underlying105 Tryz.underlying5 rfl (fun h1 h1l=>?_)
 refine Ga rfl (Gn (.t1 3) (CD (Gm rfl (Gt (Ar rfl Tryz.underlying105 rfl) (Gm rfl (AQ (AA ?_)))))))
 refine Ae ?_
 refine Bl (.t4 10 3 8 9) ?_
 refine Ce (fun(k:Int)=>0≤k∧k≤u.length) (fun(k:Int)=>((u.length:Int) - k).toNat) (fun(k:Int)=> [(10, .int .i64 k)]) (fun(k:Int)=> [Ac.own h1 5 1 ((Words.Hv u k.toNat).flatMap DV)]) (0) ?_ rfl rfl (fun k hI1=>?_)
 · exact⟨by omega,by omega⟩
 obtain⟨hI11,hI12⟩:=hI1
 refine Gs (Gt (A8 rfl rfl) (AQ (AA (Ap ?_))))
 refine Gc (fun c1=>?_) (fun c1=>?_)
 ·
  have c1p:=kz c1
  have hat:=Words.Uu (w:=u) hI11 (by omega)
  have hc8:=(u.getD k.toNat 0).toNat_lt
  refine Aa ?_
  refine AB (.t4 3 8 9 10) ?_
  refine AA (Ap (Ae (Gs (Gm rfl ?_))))
  refine Gt (Bp XQ (by decide) (Kn.own .m0) rfl rfl (by omega) (by omega)) ?_
  refine Gt (Y9 rfl cm (Kn.own .m0) (by rw [Words.OF];omega)) ?_
  refine Ga rfl (Ga rfl (Gn (.t6 3 4 5 8 9 10) (Gs (Gm rfl (Gt (CV rfl rfl) (Gm rfl (Bo 17 rfl rfl (fun q=>AF rfl) ?_)))))))
  refine Bo 17 rfl rfl (fun q=>IQ (Bj rfl q) rfl) (Gt (BK rfl rfl (fun h=>h)) (Gn (.t7 3 4 5 8 9 10 20) ?_))
  refine Gc (fun c2=>?_) (fun c2=>?_)
  ·
   have c2p:=kz c2
   rw [hat] at c2
   have hset:=Words.S3 (w:=u) hI11 (by omega)
   rw [← Words.aB c2] at hset
   refine AJ (Gm rfl (Gm rfl (Gm rfl ?_)))
   refine Gt (Av rfl rfl (IntWalk.u8_in _ (by(try simp only [hat] at c2p ⊢);omega))) ?_
   refine Gt (FX rfl rfl (IntWalk.u8_in _ (by(try simp only [hat] at c2p ⊢);omega))) ?_
   refine Gt (Bp XQ (by decide) (Kn.own .m0) rfl rfl (by omega) (by omega)) ?_
   refine AT (cK rfl rfl (by simp only [hat] at c2p ⊢;omega) VO (by rw [Words.OF];omega) .h) ?_
   refine AQ (AB (.t4 3 8 9 10) ?_)
   refine AW (AA (AJ ?_))
   refine Gt (Av rfl rfl (IntWalk.i64_in _ (by(try simp only [hat] at c2p ⊢);omega))) ?_
   refine Gm rfl ?_
   refine AQ (AB (.t4 3 8 9 10) ?_)
   refine B6 (k+1) ?_ ?_ (.t4 10 3 8 9) (by rw [← hset];first | exact(.refl _) | (rw [← hat];exact(.refl _)))
   · exact⟨by omega,by omega⟩
   · omega
  have c2p:=kz c2
  rw [hat] at c2
  have hset:=Words.Wh (w:=u) hI11 (by omega) (Words.aJ c2)
  refine Aa ?_
  refine AB (.t4 3 8 9 10) ?_
  refine AW (AA (AJ ?_))
  refine Gt (Av rfl rfl (IntWalk.i64_in _ (by(try simp only [hat] at c2p ⊢);omega))) ?_
  refine Gm rfl ?_
  refine AQ (AB (.t4 3 8 9 10) ?_)
  refine B6 (k+1) ?_ ?_ (.t4 10 3 8 9) (by rw [← hset];first | exact(.refl _) | (rw [← hat];exact(.refl _)))
  · exact⟨by omega,by omega⟩
  · omega
 have c1p:=kz c1
 refine Ba (AV (AV (Af ?_)))
 refine AB (.t1 3) ?_
 refine AA (Gs (Gm rfl (Gt (KX Tryz.underlying105 Tryz.underlying9 Tryz.underlying5 rfl (Kn.own .m0)) (Ga rfl (Gn (.t1 2) (Ab ?_))))))
 refine AY rfl (.tmp rfl .n) ?_
 intro w1 hS;refine⟨?_,hS.Ak⟩;obtain rfl:k=u.length:=by omega
 rw [show(u.length:Int).toNat=u.length by omega,Words.ZE];rfl
theorem Mw (s:Ao)(hs:s.length≤4000000):Jg Tryz.prog 151 #[BU s] [] (fun v B=>∃ h':Hd,v=h'.val∧h'.len=(Words.words s).length∧B = [Ac.own h' 9 1 ((Words.words s).flatMap A7)]):=by
 intro w hS0
 have hpl:=Words.FT 32 s
 have hcl:=List.count_le_length (a:=(32:UInt8)) (l:=s)
 refine Al _ _ Tryz.func151 rfl rfl rfl (hS0) ?_
 refine Gs (Ga rfl (Gn (.t1 0) (Gs (Ga rfl (AQ (AA (CD ?_)))))))
 refine Gm rfl ?_
 refine Ah rfl eP (.c rfl (.c rfl .n)) .n (LA _ 32 (by omega)) (fun v1 B hv=>?_)
 obtain⟨y2,rfl,y3,rfl⟩:=hv
 refine Gt (Ar rfl Tryz.underlying52 rfl) (Gm rfl (Gn (.t4 3 7 8 9) (Ae ?_)))
 refine Bl (.t4 3 9 7 8) ?_
 refine Eb A7 9 1 ?_
 refine DX (fun(k:Int) (xs:List Ao) (g:Hd)=>0≤k∧k≤((Words.pieces 32 s).length:Int)∧xs=Words.JB s k.toNat∧g.len=xs.length∧xs.length≤k.toNat) (fun(k:Int) (xs:List Ao) (g:Hd)=>(((Words.pieces 32 s).length:Int) - k).toNat) (fun(k:Int) (xs:List Ao) (g:Hd)=> [(3,g.val),(9, .int .i64 k)]) (fun(k:Int) (xs:List Ao) (g:Hd)=> [Ac.own g 9 1 (xs.flatMap A7)]) (0) ([]) (_) ?_ rfl rfl (fun k xs g hI1=>?_)
 · exact⟨by omega,by omega,rfl,rfl,by simp⟩
 obtain⟨hI11,hI12,hI13,hI14,hI15⟩:=hI1
 refine Gs (Gt (A8 rfl rfl) (AQ (AA (Ap ?_))))
 refine Gc (fun c1=>?_) (fun c1=>?_)
 ·
  have c1p:=kz c1
  refine Aa ?_
  refine AB (.t4 3 7 8 9) ?_
  refine AA (Ap (Ae (Gs ?_)))
  refine Gt (Bp IM (by decide) (Kn.own .m1) rfl rfl (by omega) (by omega)) ?_
  refine Gt (C9 rfl CO (Kn.own .m1) (by omega)) ?_
  refine Ga rfl (Gn (.t5 3 5 7 8 9) (Gs (Gm rfl (Gt (Dl rfl rfl) (Gn (.t6 3 5 7 8 9 14) ?_)))))
  refine Gc (fun c2=>?_) (fun c2=>?_)
  ·
   have c2p:=kz c2
   refine AJ (Gm rfl (Gm rfl ?_))
   refine BA rfl cn (.c rfl .n) (fun w hS=>Od _ (by have:=Words.Vv (c:=32) (s:=s) k.toNat;omega) w) ?_
   refine E2 A7 DO rfl Tryz.underlying52 Em Qw rfl (by decide) (by decide) rfl rfl (fun b1=>?_)
   refine CM DO rfl Tryz.underlying52 Em Qw rfl XE (by decide) (by decide) rfl rfl (fun w hS=>Src.Dq Tryz.underlying52 ((Kn.own .m0) w hS)) (by(try dsimp only);omega) (fun _=>(.t .h)) (fun h5 h5l h5z=>?_)
   refine Ga rfl ?_
   refine AQ (AB (.t4 3 7 8 9) ?_)
   refine AW (AA (AJ ?_))
   refine Gt (Av rfl rfl (IntWalk.i64_in _ (by omega))) ?_
   refine Gm rfl ?_
   refine AQ (AB (.t4 3 7 8 9) ?_)
   refine Bt (k+1) _ _ ?_ ?_ (.t4 3 9 7 8) (.cons _ (.refl _))
   · exact⟨by omega,by omega,by rw [Words.X4 hI11 (by omega) c2,← hI13],(by(try dsimp only at *)<;>(try simp only [List.length_append,List.length_cons,List.length_nil])<;>omega),(by(try simp only [List.length_append,List.length_cons,List.length_nil]);omega)⟩
   · omega
  have c2p:=kz c2
  refine Aa ?_
  refine AB (.t4 3 7 8 9) ?_
  refine AW (AA (AJ ?_))
  refine Gt (Av rfl rfl (IntWalk.i64_in _ (by omega))) ?_
  refine Gm rfl ?_
  refine AQ (AB (.t4 3 7 8 9) ?_)
  refine Bt (k+1) _ _ ?_ ?_ (.t4 3 9 7 8) (.refl _)
  · exact⟨by omega,by omega,by rw [Words.YB hI11 (by omega) c2,← hI13],(by(try dsimp only at *)<;>(try simp only [List.length_append,List.length_cons,List.length_nil])<;>omega),(by(try simp only [List.length_append,List.length_cons,List.length_nil]);omega)⟩
  · omega
 have c1p:=kz c1
 obtain rfl:k=((Words.pieces 32 s).length:Int):=by omega
 refine Ba (AV (AV (Af ?_)))
 refine AB (.t1 3) ?_
 refine AA (Gs (Gm rfl (Ga rfl (Gn (.t1 2) (Ab ?_)))))
 refine AY rfl (.tmp rfl .n) ?_
 intro w1 hS
 have hS:=(hS.perm (Ay.perm (.c .h .n))).A1
 exact⟨_,⟨_,rfl,by rw [Words.Nl,← hI13];assumption,by rw [Words.Nl,← hI13]⟩,hS⟩
theorem Df (s p:Ao)(w:World):Ej Tryz.prog 180 #[BU s,BU p] w fun v w'=>v = .bool (decide ((p.length:Int)≤(s.length:Int)) && decide (s.take p.length=p))∧CB w w':=by
 refine Al [] [] Tryz.func180 rfl rfl rfl (St.start w []) ?_
 refine Gs (Ga rfl (Gn (.t2 0 1) (Gs (Gm rfl (Gt (BF rfl Tryz.underlying9 rfl) (Gm rfl (Gt (BF rfl Tryz.underlying9 rfl) ?_)))))))
 refine Gt (CV rfl rfl) (Gm rfl (Bo 10 rfl rfl (fun q=>AF rfl) (Bo 10 rfl rfl (fun q=>AF rfl) (Bo 10 rfl rfl (fun q=>BF rfl Tryz.underlying9 (Bj rfl q)) ?_))))
 refine Bo 10 rfl rfl (fun q=>by have q1:=q;(try simp at q1);exact Ix Tryz.underlying9 (Bj rfl q) (Bj rfl q) (by omega) (by omega)) ?_
 refine Bo 10 rfl rfl (fun q=>AF rfl) (Bo 10 rfl rfl (fun q=>Bi (Bj rfl q) (Bj rfl q)) (Gt (BK rfl rfl (fun h=>h)) (Ga rfl (Gn (.t1 4) (Ab ?_)))))
 refine AY rfl (.tmp rfl .n) ?_
 intro w1 hS;refine⟨?_,hS.Ak⟩;rfl
theorem I9 (s p:Ao)(w:World):Ej Tryz.prog 169 #[BU s,BU p] w fun v w'=>v = .bool (decide ((p.length:Int)≤(s.length:Int)) && decide (s.take p.length=p))∧CB w w':=by
 refine Al [] [] Tryz.func169 rfl rfl rfl (St.start w []) ?_
 refine Gs (Ga rfl (Gn (.t2 0 1) (Gs (Gm rfl (Gm rfl ?_)))))
 refine BA rfl aU (.c rfl (.c rfl .n)) (fun w hS=>Df _ _ w) ?_
 refine Ga rfl (Gn (.t1 4) (Ab ?_))
 refine AY rfl (.tmp rfl .n) ?_
 intro w1 hS;refine⟨?_,hS.Ak⟩;rfl
theorem JV (u:Ao)(w:World)(gl0:GV 0 AG.DE w):Ej Tryz.prog 152 #[BU u] w fun v w'=>v = .tuple #[.int .i64 (Words.verb u).1, .int .i64 (Words.verb u).2]∧CB w w':=by
 refine Al [] [] Tryz.func152 rfl rfl rfl (St.start w []) ?_
 refine Gs (Ga rfl (Ga rfl (Gn (.t1 0) (CD (Gm rfl (Gt (Dl rfl rfl) (Gn (.t2 0 7) ?_)))))))
 refine Gc (fun c1=>?_) (fun c1=>?_)
 ·
  have c1p:=kz c1
  refine Gs (Gt (Yc gl0 Words.Ty rfl bT rfl) (Gm rfl (Gn (.t3 0 8 9) (Ae ?_))))
  refine Bl (.t3 9 0 8) ?_
  refine Ce (fun(k:Int)=>0≤k∧k≤21∧Words.J4 u 21=Words.J4 u (21 - k).toNat) (fun(k:Int)=>(21 - k).toNat) (fun(k:Int)=> [(9, .int .i64 k)]) (fun(k:Int)=> []) (0) ?_ rfl rfl (fun k hI1=>?_)
  · exact⟨by omega,by omega,rfl⟩
  obtain⟨hI11,hI12,hI13⟩:=hI1
  refine Gs (Gt (A8 rfl rfl) (AQ (AA (Ap ?_))))
  refine Gc (fun c2=>?_) (fun c2=>?_)
  ·
   have c2p:=kz c2
   rw [Words.Tb hI11 (by omega)] at hI13
   refine Aa ?_
   refine AB (.t3 0 8 9) ?_
   refine AA (Ap (Ae (Gs (Gm rfl ?_))))
   refine Gt (KQ DO Tryz.underlying133 Em CO rfl rfl (by omega) (by omega) rfl) ?_
   refine Ga rfl (Ga rfl (Gn (.t5 0 4 5 8 9) (Gs (Gm rfl (Gm rfl ?_)))))
   refine BA rfl dK (.c rfl (.c rfl .n)) (fun w hS=>I9 _ _ w) ?_
   refine Gn (.t5 0 4 8 9 15) ?_
   refine Gc (fun c3=>?_) (fun c3=>?_)
   ·
    have cp:Words.pre (AG.Gj.getD k.toNat []) u=true:=c3
    refine Gs (Gm rfl (Ga rfl (Ga rfl (Gn (.t2 2 3) (Ab (AR (AD ?_)))))))
    refine AD (AR (AD ?_))
    refine AY rfl (.tmp rfl (.tmp rfl .n)) ?_
    intro w1 hS;refine⟨?_,hS.Ak⟩;rw [show Words.verb u=_ from BB c1,hI13,BB cp];rfl
   have c3p:=kz c3
   have cp:Words.pre (AG.Gj.getD k.toNat []) u=false:=c3
   refine Aa ?_
   refine AB (.t3 0 8 9) ?_
   refine AW (AA (AJ ?_))
   refine Gt (Av rfl rfl (IntWalk.i64_in _ (by omega))) ?_
   refine Gm rfl ?_
   refine AQ (AB (.t3 0 8 9) ?_)
   refine B6 (k+1) ?_ ?_ (.t3 9 0 8) (.refl _)
   · exact⟨by omega,by omega,by rw [hI13,AX cp]⟩
   · omega
  have c2p:=kz c2
  obtain rfl:k=21:=by omega
  refine Ba (AV (AV (Af ?_)))
  refine AB (.nil _) ?_
  refine AA (Gs (Ga rfl (Ga rfl (AQ (AA (Ab ?_))))))
  refine AY rfl (.tmp rfl (.tmp rfl .n)) ?_
  intro w1 hS;refine⟨?_,hS.Ak⟩;rw [show Words.verb u=_ from BB c1,hI13];rfl
 refine Aa ?_
 refine AB (.nil _) ?_
 refine AA (Gs (Ga rfl (Ga rfl (AQ (AA (Ab ?_))))))
 refine AY rfl (.tmp rfl (.tmp rfl .n)) ?_
 intro w1 hS;refine⟨?_,hS.Ak⟩;rw [show Words.verb u=_ from AX c1];rfl
theorem Jc (s:Ao)(hs:s.length≤10000000)(w:World):Ej Tryz.prog 153 #[BU s,BU [32]] w fun v w'=>v=BU (Words.QZ 32 s)∧CB w w':=by
 refine Al [] [] Tryz.func153 rfl rfl rfl (St.start w []) ?_
 refine Gs (Ga rfl (Gn (.t2 0 1) (CD (Gm rfl (Gt (Bi rfl rfl) (Gm rfl (Bc 9 rfl rfl (fun q=>AF rfl) ?_)))))))
 refine Bc 9 rfl rfl (fun q=>Bi (cF rfl q) rfl) ?_
 refine Gt (BR rfl rfl (fun h=>by rw [h];rfl)) ?_
 refine Gn (.t3 0 1 12) ?_
 refine Gc (fun c1=>?_) (fun c1=>?_)
 ·
  refine Gs (Gm rfl (Ga rfl (Gn (.t1 4) (Ab (AD ?_)))))
  refine AY rfl (.tmp rfl .n) ?_
  intro w1 hS;refine⟨?_,hS.Ak⟩;have e:s = []:=by simpa using c1
  subst e;rfl
 have c1p:=kz c1
 refine Aa ?_
 refine AB (.t2 0 1) ?_
 refine AA (CD (Gm rfl (Gt (BF rfl Tryz.underlying9 rfl) (Gt (Ag rfl rfl) (Gm rfl (Bo 17 rfl rfl (fun q=>AF rfl) ?_))))))
 refine Bo 17 rfl rfl (fun q=>by have q1:=q;(try simp at q1);exact Br Tryz.underlying9 (Bj rfl q) rfl (by decide) (by(try simp only [List.length_cons,List.length_nil]);omega)) ?_
 refine Bo 17 rfl rfl (fun q=>A8 (Bj rfl q) rfl) (Gt (BK rfl rfl (fun h=>h)) (Gn (.t3 0 1 21) ?_))
 refine HA rfl rfl ?_
 refine Gs (Gm rfl (Gm rfl ?_))
 refine Gt (Br Tryz.underlying9 rfl rfl (by decide) (by(try simp only [List.length_cons,List.length_nil]);omega)) ?_
 refine BA rfl aP (.c rfl (.c rfl .n)) (fun w hS=>E8 _ 32 hs w) ?_
 refine Ga rfl (Gn (.t1 4) (Ab (AD ?_)))
 refine AY rfl (.tmp rfl .n) ?_
 intro w1 hS;refine⟨?_,hS.Ak⟩;rfl
end Go.Proofs.YtoidpggbbfncpaaGreatDoor
